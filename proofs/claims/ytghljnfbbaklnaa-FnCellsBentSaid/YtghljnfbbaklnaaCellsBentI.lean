/- The cursor of a draw, in the machine: whatever its state is, its functions return and leave a cursor. -/
import Derived.StillTailTactics
import Derived.Test.YtghljnfbbaklnaaCellsBentH
namespace Go.Proofs.Ytghljnfbbaklnaa
open Go.RowKit
set_option maxRecDepth 100000
section
variable {ops : Array Oper} {Q : Exit → Act → World → Prop} {C : Ctx} {H : List (Nat × Oper × Inf)} {i : Nat} {r : List Nat} {dr : Bool}
variable {tm : Nat → AV} {hp : Nat → Option Row} {gn L : Nat} {us : List Nat}
theorem zh19 {ty : TypeId} {gd : Option (Nat × Bool)} {cas : Array Operand} {cts : Array TypeId} {ps : String} {af : Array Edge} {t : Nat} {fv : Operand} {f : FuncId} {caps : List AC} {args ins : List AV} {par : List AC} {rows : List (List AC)} {res : AV} {nv : AV} {nr : List (Nat × Row)} (lr : Nat) (Z : List Nat) (hctr : Ctr Try.prog f ins [par] res rows)
    (h : Walk Try.prog ops Q C dr (keepH dr (i, (⟨some t, .call ⟨.value fv, cas, cts⟩, ty, ps, af, gd⟩ : Oper), callInf ⟨tm, hp, gn, us, L⟩ (args.flatMap snV) [lr] Z (100 * (t + 1)) res rows) H) r ⟨upd tm t nv, updL hp (backU hp [lr] rows ++ (Z.map fun z => (z, none)) ++ nr.map (fun p => (p.1, some p.2))), gn, nr.map (·.1) ++ us, L⟩)
    (ht : Nat.blt t L = true := by exact rfl) (hg : gw ops tm (⟨some t, .call ⟨.value fv, cas, cts⟩, ty, ps, af, gd⟩ : Oper) = some true := by exact rfl) (hfv : AS.ev ⟨tm, hp, gn, us, L⟩ fv = .c (.fn f caps) := by exact rfl) (hargs : callArgs ⟨tm, hp, gn, us, L⟩ ⟨.value fv, cas, cts⟩ caps = args := by exact rfl) (hcv : args.map (cvV hp [lr]) = ins := by ((repeat' (first | rfl | exact ze4 | refine zr3 ?_ ?_ | refine zl7 ?_ | refine cv_c ?_ | refine zs3 ?_ ?_ | (refine zj5 ?_; (first | rfl | (simp [cloV, cloL, clo, zo, zk, zp, zj, zi]; done))) | (refine zk5 ?_; (first | rfl | (simp [cloV, cloL, clo, zo, zk, zp, zj, zi]; done))) | refine zl5 ?_ | (refine cvC_sl' (by rfl) (by rfl) (by rfl) (by rfl) ?_ ?_; (focus (first | rfl | (simp [cloV, cloL, clo, zo, zk, zp, zj, zi]; done))); (first | rfl | exact zy2 _)))) <;> exact rfl)) (hl : lend hp [lr] = some [par] := by exact zp1 (by rfl) (by first | rfl | (simp [cloV, cloL, clo, zo, zk, zp, zj, zi]; done)))
    (hRD : ((args.flatMap snV).all fun z => ![lr].contains z) = true := by exact rfl) (hZD : (Z.all fun z => ![lr].contains z) = true := by exact rfl) (hmm : ((args.flatMap snV).all fun z => Z.contains z) = true := by exact rfl) (hopn : opV (100 * (t + 1)) res = (nv, nr) := by exact rfl) (hf : (nr.all fun p => Nat.ble gn p.1 && !us.contains p.1) = true := by exact rfl)
    (hc : chk dr ops i (⟨some t, .call ⟨.value fv, cas, cts⟩, ty, ps, af, gd⟩ : Oper) (callInf ⟨tm, hp, gn, us, L⟩ (args.flatMap snV) [lr] Z (100 * (t + 1)) res rows) H = true := by first | (with_reducible exact zx) | kernel_rfl) : WalkO Try.prog ops Q C dr H i (⟨some t, .call ⟨.value fv, cas, cts⟩, ty, ps, af, gd⟩ : Oper) r ⟨tm, hp, gn, us, L⟩ :=
  ⟨fun hop => zc14 (100 * (t + 1)) [lr] Z hop rfl rfl rfl ht hg hfv hargs hl (by rw [hcv]; exact hctr) hRD hZD (.inr hmm) hopn hf hc h⟩
theorem ze7 {ty : TypeId} {gd : Option (Nat × Bool)} {cas : Array Operand} {cts : Array TypeId} {ps : String} {af : Array Edge} {t : Nat} {fv : Operand} {f : FuncId} {caps : List AC} {args ins : List AV} {par : List AC} {rows : List (List AC)} {res : AV} {nv : AV} {nr : List (Nat × Row)} (lr : Nat) (Z : List Nat) (hctr : Ctr Try.prog f ins [par] res rows)
    (h : Walk Try.prog ops Q C false [] r ⟨upd tm t nv, updL hp (backU hp [lr] rows ++ (Z.map fun z => (z, none)) ++ nr.map (fun p => (p.1, some p.2))), gn, nr.map (·.1) ++ us, L⟩)
    (ht : Nat.blt t L = true := by exact rfl) (hg : gw ops tm (⟨some t, .call ⟨.value fv, cas, cts⟩, ty, ps, af, gd⟩ : Oper) = some true := by exact rfl) (hfv : AS.ev ⟨tm, hp, gn, us, L⟩ fv = .c (.fn f caps) := by exact rfl) (hargs : callArgs ⟨tm, hp, gn, us, L⟩ ⟨.value fv, cas, cts⟩ caps = args := by exact rfl) (hcv : args.map (cvV hp [lr]) = ins := by ((repeat' (first | rfl | exact ze4 | refine zr3 ?_ ?_ | refine zl7 ?_ | refine cv_c ?_ | refine zs3 ?_ ?_ | (refine zj5 ?_; (first | rfl | (simp [cloV, cloL, clo, zo, zk, zp, zj, zi]; done))) | (refine zk5 ?_; (first | rfl | (simp [cloV, cloL, clo, zo, zk, zp, zj, zi]; done))) | refine zl5 ?_ | (refine cvC_sl' (by rfl) (by rfl) (by rfl) (by rfl) ?_ ?_; (focus (first | rfl | (simp [cloV, cloL, clo, zo, zk, zp, zj, zi]; done))); (first | rfl | exact zy2 _)))) <;> exact rfl)) (hl : lend hp [lr] = some [par] := by exact zp1 (by rfl) (by first | rfl | (simp [cloV, cloL, clo, zo, zk, zp, zj, zi]; done)))
    (hRD : ((args.flatMap snV).all fun z => ![lr].contains z) = true := by exact rfl) (hZD : (Z.all fun z => ![lr].contains z) = true := by exact rfl) (hmm : ((args.flatMap snV).all fun z => Z.contains z) = true := by exact rfl) (hopn : opV (100 * (t + 1)) res = (nv, nr) := by exact rfl) (hf : (nr.all fun p => Nat.ble gn p.1 && !us.contains p.1) = true := by exact rfl) : WalkO Try.prog ops Q C false [] i (⟨some t, .call ⟨.value fv, cas, cts⟩, ty, ps, af, gd⟩ : Oper) r ⟨tm, hp, gn, us, L⟩ :=
  zh19 (dr := false) (H := []) (lr := lr) (Z := Z) (hctr := hctr) (h := h) (ht := ht) (hg := hg) (hfv := hfv) (hargs := hargs) (hcv := hcv) (hl := hl) (hRD := hRD) (hZD := hZD) (hmm := hmm) (hopn := hopn) (hf := hf)
theorem zn1 {ty : TypeId} {gd : Option (Nat × Bool)} {ps : String} {af : Array Edge} {t : Nat} {y : Operand} (x : AV) (h : Walk Try.prog ops Q C dr (keepH dr (i, (⟨some t, .move y, ty, ps, af, gd⟩ : Oper), ⟨[], [], [], x⟩) H) r ⟨upd tm t x, hp, gn, us, L⟩)
    (ht : Nat.blt t L = true := by exact rfl) (hg : gw ops tm (⟨some t, .move y, ty, ps, af, gd⟩ : Oper) = some true := by exact rfl) (hx : AS.ev ⟨tm, hp, gn, us, L⟩ y = x := by exact rfl)
    (hc : chk dr ops i (⟨some t, .move y, ty, ps, af, gd⟩ : Oper) ⟨[], [], [], x⟩ H = true := by first | (with_reducible exact zx) | kernel_rfl) : WalkO Try.prog ops Q C dr H i (⟨some t, .move y, ty, ps, af, gd⟩ : Oper) r ⟨tm, hp, gn, us, L⟩ := ⟨fun hop => by
  refine ⟨_, ⟨[], [], [], x⟩, hop, ?_, fun n hn => absurd hn List.not_mem_nil, za4 hc, zs2 ?_⟩
  · intro τ a w ha hsim K hK
    obtain ⟨φ, F, St, hsim⟩ := hsim
    have e1 : τ.ev y = x := by rw [ha.ev y (by show y ∈ #[y]; simp)]; exact hx
    have v1 := hsim.ev y
    rw [e1] at v1
    unfold wpOp
    rw [hop]
    have hw := zi10 hsim (b := true) (by rw [ha.gw]; exact hg)
    simp only [hw, if_true]
    refine .inl ?_
    unfold Oper.wp
    have hrun : (execOp a.eval (⟨some t, .move y, ty, ps, af, gd⟩ : Oper)).run Try.prog w = .ok (.value (a.eval y)) w := by simp [execOp]
    rw [hrun]
    exact hK _ _ ⟨φ, F, St, hsim.put (some t) v1⟩
  · show Walk Try.prog ops Q C dr _ r (AS.put _ (some t) _)
    rw [zq4 (by exact zk4 ht)]; exact h⟩
theorem zo1 {ty : TypeId} {gd : Option (Nat × Bool)} {ps : String} {af : Array Edge} {t : Nat} {y : Operand} (v : AV) (h : Walk Try.prog ops Q C dr (keepH dr (i, (⟨some t, .assign y, ty, ps, af, gd⟩ : Oper), ⟨fpO (AS.ev ⟨tm, hp, gn, us, L⟩) (⟨some t, .assign y, ty, ps, af, gd⟩ : Oper), [], [], v⟩) H) r ⟨upd tm t v, hp, gn, us, L⟩)
    (ht : Nat.blt t L = true := by exact rfl) (hg : gw ops tm (⟨some t, .assign y, ty, ps, af, gd⟩ : Oper) = some true := by exact rfl) (hy : AS.ev ⟨tm, hp, gn, us, L⟩ y = v := by exact rfl)
    (hc : chk dr ops i (⟨some t, .assign y, ty, ps, af, gd⟩ : Oper) ⟨fpO (AS.ev ⟨tm, hp, gn, us, L⟩) (⟨some t, .assign y, ty, ps, af, gd⟩ : Oper), [], [], v⟩ H = true := by first | (with_reducible exact zx) | kernel_rfl) : WalkO Try.prog ops Q C dr H i (⟨some t, .assign y, ty, ps, af, gd⟩ : Oper) r ⟨tm, hp, gn, us, L⟩ := zh (x := v) h ht hg (congrArg (fun z => some (z, Dl.nop)) hy) hc
theorem zz2 {ty : TypeId} {gd : Option (Nat × Bool)} {ps : String} {af : Array Edge} {t : Nat} {c a b : Operand} (v : AV) (h : Walk Try.prog ops Q C dr (keepH dr (i, (⟨some t, .pick c a b, ty, ps, af, gd⟩ : Oper), ⟨fpO (AS.ev ⟨tm, hp, gn, us, L⟩) (⟨some t, .pick c a b, ty, ps, af, gd⟩ : Oper), [], [], v⟩) H) r ⟨upd tm t v, hp, gn, us, L⟩)
    (ht : Nat.blt t L = true := by exact rfl) (hg : gw ops tm (⟨some t, .pick c a b, ty, ps, af, gd⟩ : Oper) = some true := by exact rfl) (hy : aPick (AS.ev ⟨tm, hp, gn, us, L⟩ c) (AS.ev ⟨tm, hp, gn, us, L⟩ a) (AS.ev ⟨tm, hp, gn, us, L⟩ b) = some v := by exact rfl)
    (hc : chk dr ops i (⟨some t, .pick c a b, ty, ps, af, gd⟩ : Oper) ⟨fpO (AS.ev ⟨tm, hp, gn, us, L⟩) (⟨some t, .pick c a b, ty, ps, af, gd⟩ : Oper), [], [], v⟩ H = true := by first | (with_reducible exact zx) | kernel_rfl) : WalkO Try.prog ops Q C dr H i (⟨some t, .pick c a b, ty, ps, af, gd⟩ : Oper) r ⟨tm, hp, gn, us, L⟩ := zh (x := v) h ht hg (congrArg nop? hy) hc
end
def Byt (l : List E) : Prop := ∀ e ∈ l, ∃ x : Nat, x < 256 ∧ e = .int .u8 (x : Int)
theorem Byt.enc {l : List E} (h : Byt l) : ∀ e ∈ l, e.enc.length = 1 := fun e he => by obtain ⟨x, -, rfl⟩ := h e he; rfl
def Curs (cs : List AC) : Prop := ∃ (l : List E) (i : Nat) (h : Int), Byt l ∧ i ≤ l.length ∧ l.length ≤ 1048576 ∧ cs = [.ro l.length 1 (acL l), .v (.int .i64 (i : Int)), .v (.int .i64 h)]
theorem zh18 (n : Int) : bits .and .i64 n 255 = n % 256 := by
  have h1 : (BitVec.ofInt 64 n).toNat = (n % 18446744073709551616).toNat := by rw [BitVec.toNat_ofInt]; rfl
  have h2 : (BitVec.ofInt 64 255).toNat = 2 ^ 8 - 1 := by rfl
  show IntKind.i64.wrap ((BitVec.ofInt 64 n &&& BitVec.ofInt 64 255).toNat : Int) = _
  rw [BitVec.toNat_and, h1, h2, Nat.and_two_pow_sub_one_eq_mod, IntKind.wrap_i64]
  omega
theorem zn11 (n : Int) : 0 ≤ bits .and .i64 n 255 ∧ bits .and .i64 n 255 < 256 := by rw [zh18]; omega
theorem zp8 {cs : List AC} (hc : Curs cs) : ∃ (x : Int) (cs' : List AC), Curs cs' ∧ (0 ≤ x ∧ x < 256) ∧ Ctr Try.prog 115 [.c (.pt 0 0)] [cs] (.c (.v (.int .i64 x))) [cs'] := by
  obtain ⟨l, i, h, hl, hi, hlen, rfl⟩ := hc
  by_cases hlt : i < l.length
  · obtain ⟨e, he⟩ : ∃ e, l[i]? = some e := ⟨_, List.getElem?_eq_getElem hlt⟩
    obtain ⟨b, hb, rfl⟩ := hl e (List.mem_of_getElem? he)
    have hk := hl.enc
    refine ⟨?x, ?c, ?hC, ?hx, zm1 Try.func115 rfl rfl ?hw⟩
    case hw =>
      repeat' (first | ((apply f_wo); first | ((apply f_mv); first | refine zv (v := .c _) ?_ | refine za ?_) | ((apply f_as); first | refine zl1 (v := .c _) ?_ | refine za ?_) | ((apply f_fa); first | refine n_fa ?_ | refine zz1 ?_) | ((apply f_ld); first | refine zu3 ?_ | refine zt2 ?_ | refine n_ld ?_) | ((apply f_bi); first | refine zg2 ?_ | refine zf2 ?_ | refine zh2 ?_ | refine za ?_) | ((apply f_st); first | refine n_st ?_ | refine zk1 ?_) | ((apply f_ia); first | refine n_ix ?_ | refine zl2 ?_ | refine za ?_) | ((apply zm4); first | refine zt1 ?_ | refine za ?_) | ((apply zq2); first | refine zu ?_ | refine zp2 ?_ | refine za ?_) | ((apply f_bb); first | refine zd1 ?_ | refine ze1 ?_ | refine za ?_) | ((apply f_cv); first | refine zq6 ?_ | refine za ?_) | refine za ?_) | ((apply f_w); first | refine zt ?_ | refine zc ?_) | ((apply d_wo); first | ((apply d_mv); refine zh ?_) | ((apply d_as); refine zh ?_) | ((apply d_fa); first | refine o_fa ?_ | refine zl3 ?_) | ((apply d_ld); first | refine zm3 ?_ | refine za2 ?_ | refine zb2 ?_ | refine zn3 ?_ | refine zh ?_ | refine o_ld ?_) | ((apply d_bi); first | refine zc3 ?_ | refine zb3 ?_ | refine zd3 ?_ | refine zi2 ?_ | refine zi2 (hnu := zq _) ?_ | refine zs1 ?_ | refine zs1 (hnu := zq _) ?_ | refine zh ?_) | ((apply d_st); first | refine o_st ?_ | refine zi3 ?_) | ((apply d_ia); first | refine o_ix ?_ | refine zj3 ?_ | refine zh ?_) | ((apply d_bb); first | refine za1 ?_ | refine zb1 ?_ | refine zc1 ?_ | refine zk3 ?_ | refine zh ?_) | ((apply d_cv); first | refine zs5 ?_ | refine zk9 ?_ | refine zj14 ?_ | refine zk14 ?_ | refine zh ?_) | refine zh ?_) | ((apply d_w); first | refine zt ?_ | refine zc ?_) | refine zb fun C => ?_ | refine zl (by kernel_rfl) (by kernel_rfl) fun C => ?_ | refine zg ?_ | refine zd ?_ | refine ze ?_ | refine zf ?_)
      refine zq1 (by rfl) (fun hC => ?_) fun hC => absurd (of_decide_eq_false hC) (by omega)
      repeat' (first | ((apply f_wo); first | ((apply f_mv); first | refine zv (v := .c _) ?_ | refine za ?_) | ((apply f_as); first | refine zl1 (v := .c _) ?_ | refine za ?_) | ((apply f_fa); first | refine n_fa ?_ | refine zz1 ?_) | ((apply f_ld); first | refine zu3 ?_ | refine zt2 ?_ | refine n_ld ?_) | ((apply f_bi); first | refine zg2 ?_ | refine zf2 ?_ | refine zh2 ?_ | refine za ?_) | ((apply f_st); first | refine n_st ?_ | refine zk1 ?_) | ((apply f_ia); first | refine n_ix ?_ | refine zl2 ?_ | refine za ?_) | ((apply zm4); first | refine zt1 ?_ | refine za ?_) | ((apply zq2); first | refine zu ?_ | refine zp2 ?_ | refine za ?_) | ((apply f_bb); first | refine zd1 ?_ | refine ze1 ?_ | refine za ?_) | ((apply f_cv); first | refine zq6 ?_ | refine za ?_) | refine za ?_) | ((apply f_w); first | refine zt ?_ | refine zc ?_) | ((apply d_wo); first | ((apply d_mv); refine zh ?_) | ((apply d_as); refine zh ?_) | ((apply d_fa); first | refine o_fa ?_ | refine zl3 ?_) | ((apply d_ld); first | refine zm3 ?_ | refine za2 ?_ | refine zb2 ?_ | refine zn3 ?_ | refine zh ?_ | refine o_ld ?_) | ((apply d_bi); first | refine zc3 ?_ | refine zb3 ?_ | refine zd3 ?_ | refine zi2 ?_ | refine zi2 (hnu := zq _) ?_ | refine zs1 ?_ | refine zs1 (hnu := zq _) ?_ | refine zh ?_) | ((apply d_st); first | refine o_st ?_ | refine zi3 ?_) | ((apply d_ia); first | refine o_ix ?_ | refine zj3 ?_ | refine zh ?_) | ((apply d_bb); first | refine za1 ?_ | refine zb1 ?_ | refine zc1 ?_ | refine zk3 ?_ | refine zh ?_) | ((apply d_cv); first | refine zs5 ?_ | refine zk9 ?_ | refine zj14 ?_ | refine zk14 ?_ | refine zh ?_) | refine zh ?_) | ((apply d_w); first | refine zt ?_ | refine zc ?_) | refine zb fun C => ?_ | refine zl (by kernel_rfl) (by kernel_rfl) fun C => ?_ | refine zg ?_ | refine zd ?_ | refine ze ?_ | refine zf ?_)
      refine zh1 ?_; refine ret1 rfl zl4 rfl (by show cloL [AC.ro _ 1 (acL _), AC.v _, AC.v _] = true; simp [cloL, clo, zk]) rfl ⟨?_, ?_⟩
      · rfl
      · rfl
    case hC => exact (show Curs [.ro l.length 1 (acL l), .v (.int .i64 ((i + 1 : Nat) : Int)), .v (.int .i64 _)] from ⟨l, i + 1, _, hl, hlt, hlen, rfl⟩)
    case hx => exact zn11 _
  · refine ⟨?x2, ?c2, ?hC2, ?hx2, zm1 Try.func115 rfl rfl ?hw2⟩
    case hw2 =>
      repeat' (first | ((apply f_wo); first | ((apply f_mv); first | refine zv (v := .c _) ?_ | refine za ?_) | ((apply f_as); first | refine zl1 (v := .c _) ?_ | refine za ?_) | ((apply f_fa); first | refine n_fa ?_ | refine zz1 ?_) | ((apply f_ld); first | refine zu3 ?_ | refine zt2 ?_ | refine n_ld ?_) | ((apply f_bi); first | refine zg2 ?_ | refine zf2 ?_ | refine zh2 ?_ | refine za ?_) | ((apply f_st); first | refine n_st ?_ | refine zk1 ?_) | ((apply f_ia); first | refine n_ix ?_ | refine zl2 ?_ | refine za ?_) | ((apply zm4); first | refine zt1 ?_ | refine za ?_) | ((apply zq2); first | refine zu ?_ | refine zp2 ?_ | refine za ?_) | ((apply f_bb); first | refine zd1 ?_ | refine ze1 ?_ | refine za ?_) | ((apply f_cv); first | refine zq6 ?_ | refine za ?_) | refine za ?_) | ((apply f_w); first | refine zt ?_ | refine zc ?_) | ((apply d_wo); first | ((apply d_mv); refine zh ?_) | ((apply d_as); refine zh ?_) | ((apply d_fa); first | refine o_fa ?_ | refine zl3 ?_) | ((apply d_ld); first | refine zm3 ?_ | refine za2 ?_ | refine zb2 ?_ | refine zn3 ?_ | refine zh ?_ | refine o_ld ?_) | ((apply d_bi); first | refine zc3 ?_ | refine zb3 ?_ | refine zd3 ?_ | refine zi2 ?_ | refine zi2 (hnu := zq _) ?_ | refine zs1 ?_ | refine zs1 (hnu := zq _) ?_ | refine zh ?_) | ((apply d_st); first | refine o_st ?_ | refine zi3 ?_) | ((apply d_ia); first | refine o_ix ?_ | refine zj3 ?_ | refine zh ?_) | ((apply d_bb); first | refine za1 ?_ | refine zb1 ?_ | refine zc1 ?_ | refine zk3 ?_ | refine zh ?_) | ((apply d_cv); first | refine zs5 ?_ | refine zk9 ?_ | refine zj14 ?_ | refine zk14 ?_ | refine zh ?_) | refine zh ?_) | ((apply d_w); first | refine zt ?_ | refine zc ?_) | refine zb fun C => ?_ | refine zl (by kernel_rfl) (by kernel_rfl) fun C => ?_ | refine zg ?_ | refine zd ?_ | refine ze ?_ | refine zf ?_)
      refine zq1 (by rfl) (fun hC => absurd (of_decide_eq_true hC) (by omega)) fun hC => ?_
      repeat' (first | ((apply f_wo); first | ((apply f_mv); first | refine zv (v := .c _) ?_ | refine za ?_) | ((apply f_as); first | refine zl1 (v := .c _) ?_ | refine za ?_) | ((apply f_fa); first | refine n_fa ?_ | refine zz1 ?_) | ((apply f_ld); first | refine zu3 ?_ | refine zt2 ?_ | refine n_ld ?_) | ((apply f_bi); first | refine zg2 ?_ | refine zf2 ?_ | refine zh2 ?_ | refine za ?_) | ((apply f_st); first | refine n_st ?_ | refine zk1 ?_) | ((apply f_ia); first | refine n_ix ?_ | refine zl2 ?_ | refine za ?_) | ((apply zm4); first | refine zt1 ?_ | refine za ?_) | ((apply zq2); first | refine zu ?_ | refine zp2 ?_ | refine za ?_) | ((apply f_bb); first | refine zd1 ?_ | refine ze1 ?_ | refine za ?_) | ((apply f_cv); first | refine zq6 ?_ | refine za ?_) | refine za ?_) | ((apply f_w); first | refine zt ?_ | refine zc ?_) | ((apply d_wo); first | ((apply d_mv); refine zh ?_) | ((apply d_as); refine zh ?_) | ((apply d_fa); first | refine o_fa ?_ | refine zl3 ?_) | ((apply d_ld); first | refine zm3 ?_ | refine za2 ?_ | refine zb2 ?_ | refine zn3 ?_ | refine zh ?_ | refine o_ld ?_) | ((apply d_bi); first | refine zc3 ?_ | refine zb3 ?_ | refine zd3 ?_ | refine zi2 ?_ | refine zi2 (hnu := zq _) ?_ | refine zs1 ?_ | refine zs1 (hnu := zq _) ?_ | refine zh ?_) | ((apply d_st); first | refine o_st ?_ | refine zi3 ?_) | ((apply d_ia); first | refine o_ix ?_ | refine zj3 ?_ | refine zh ?_) | ((apply d_bb); first | refine za1 ?_ | refine zb1 ?_ | refine zc1 ?_ | refine zk3 ?_ | refine zh ?_) | ((apply d_cv); first | refine zs5 ?_ | refine zk9 ?_ | refine zj14 ?_ | refine zk14 ?_ | refine zh ?_) | refine zh ?_) | ((apply d_w); first | refine zt ?_ | refine zc ?_) | refine zb fun C => ?_ | refine zl (by kernel_rfl) (by kernel_rfl) fun C => ?_ | refine zg ?_ | refine zd ?_ | refine ze ?_ | refine zf ?_)
      refine zh1 ?_; refine ret1 rfl zl4 rfl (by show cloL [AC.ro _ 1 (acL _), AC.v _, AC.v _] = true; simp [cloL, clo, zk]) rfl ⟨?_, ?_⟩
      · rfl
      · rfl
    case hC2 => exact (show Curs [.ro l.length 1 (acL l), .v (.int .i64 (i : Int)), .v (.int .i64 _)] from ⟨l, i, _, hl, hi, hlen, rfl⟩)
    case hx2 => exact zn11 _
section
variable {ops : Array Oper} {Q : Exit → Act → World → Prop} {C : Ctx} {i : Nat} {r : List Nat}
variable {tm : Nat → AV} {hp : Nat → Option Row} {gn L : Nat} {us : List Nat}
theorem zb20 {ty : TypeId} {gd : Option (Nat × Bool)} {ps : String} {af : Array Edge} {t : Nat} {x y : Operand} {U : TypeId} {z1 z2 : Int} {ev : Operand → AV} (hx : ev x = .c (.v (.int .i64 z1))) (hy : ev y = .c (.v (.int .i64 z2))) (h0 : z2 ≠ 0) : EffD Try.prog (⟨some t, .binOp .rem 3 x y U, ty, ps, af, gd⟩ : Oper) ev hp 0 = some (.c (.v (.int .i64 (z1.tmod z2))), .nop) := by
  show nop? (aScal _ _ _) = _
  rw [zo4 rfl (by intro q hq; have hq' : q = x ∨ q = y := (by have h2 : q ∈ [x, y] := Array.mem_toList_iff.2 hq; simpa using h2); rcases hq' with rfl | rfl <;> first | (rw [hx]; rfl) | (rw [hy]; rfl))]
  unfold execOp
  dsimp only
  rw [hx, hy]
  have hd : Op.intDiv .rem .i64 z1 z2 = pure (.int .i64 (z1.tmod z2)) := by unfold Op.intDiv; rw [if_neg h0]
  simp only [AV.val?, AC.val?, Option.getD_some, binOp, ne_eq, not_true_eq_false, if_false, hd]
  rfl
theorem zi19 {ty : TypeId} {gd : Option (Nat × Bool)} {ps : String} {af : Array Edge} {t : Nat} {x y : Operand} {U : TypeId} {z1 z2 : Int} (h0 : z2 ≠ 0) (h : Walk Try.prog ops Q C false [] r ⟨upd tm t (.c (.v (.int .i64 (z1.tmod z2)))), hp, gn, us, L⟩) (ht : Nat.blt t L = true := by exact rfl) (hg : gw ops tm (⟨some t, .binOp .rem 3 x y U, ty, ps, af, gd⟩ : Oper) = some true := by exact rfl) (hx : AS.ev ⟨tm, hp, gn, us, L⟩ x = .c (.v (.int .i64 z1)) := by exact rfl) (hy : AS.ev ⟨tm, hp, gn, us, L⟩ y = .c (.v (.int .i64 z2)) := by exact rfl) : WalkO Try.prog ops Q C false [] i (⟨some t, .binOp .rem 3 x y U, ty, ps, af, gd⟩ : Oper) r ⟨tm, hp, gn, us, L⟩ := za h ht hg (zb20 hx hy h0)
end
theorem zo11 {x n : Int} (hx : 0 ≤ x) (hn : 0 < n) : ∃ k : Nat, (k : Int) < n ∧ x.tmod n = (k : Int) := by
  refine ⟨(x % n).toNat, ?_, ?_⟩
  · have := Int.emod_nonneg x (show n ≠ 0 by omega); have := Int.emod_lt_of_pos x hn; omega
  · rw [Int.tmod_eq_emod_of_nonneg hx]; have := Int.emod_nonneg x (show n ≠ 0 by omega); omega
theorem zw {cs : List AC} (h : Curs cs) : cloL cs = true := by
  obtain ⟨l, i, x, -, -, -, rfl⟩ := h
  simp [cloL, clo, zk]
theorem zx1 {cs cs' : List AC} (h : Curs cs) (h' : Curs cs') : cs.length = cs'.length := by
  obtain ⟨l, i, x, -, -, -, rfl⟩ := h
  obtain ⟨l', i', x', -, -, -, rfl⟩ := h'
  rfl
theorem zr2 {cs : List AC} (hc : Curs cs) (n : Int) (hn : 0 < n) : ∃ (k : Nat) (cs' : List AC), Curs cs' ∧ (k : Int) < n ∧ Ctr Try.prog 82 [.c (.pt 0 0), .c (.v (.int .i64 n))] [cs] (.c (.v (.int .i64 (k : Int)))) [cs'] := by
  have cc := zw hc
  obtain ⟨x, cs1, h1, hx, c1⟩ := zp8 hc
  have cc1 := zw h1
  by_cases hs : n ≤ 256
  · obtain ⟨k, hk, ek⟩ := zo11 hx.1 hn
    refine ⟨k, cs1, h1, hk, zm1 Try.func82 rfl rfl ?_⟩
    repeat' (first | ((apply f_wo); first | ((apply f_mv); first | refine zv (v := .c _) ?_ | refine za ?_) | ((apply f_as); first | refine zl1 (v := .c _) ?_ | refine za ?_) | ((apply zo9); first | refine zt3 ?_ | refine za ?_) | ((apply zq2); first | refine zu ?_ | refine zp2 ?_ | refine za ?_) | ((apply f_bb); first | refine zd1 ?_ | refine ze1 ?_ | refine za ?_) | refine za ?_) | ((apply f_w); first | refine zt ?_ | refine zc ?_) | refine zb fun C => ?_ | refine zg ?_ | refine zd ?_ | refine ze ?_ | refine zf ?_)
    refine zq1 (by rfl) (fun hC => absurd (of_decide_eq_true hC) (by omega)) fun hC => ?_
    repeat' (first | ((apply f_wo); first | ((apply f_mv); first | refine zv (v := .c _) ?_ | refine za ?_) | ((apply f_as); first | refine zl1 (v := .c _) ?_ | refine za ?_) | ((apply zo9); first | refine zt3 ?_ | refine za ?_) | ((apply zq2); first | refine zu ?_ | refine zp2 ?_ | refine za ?_) | ((apply f_bb); first | refine zd1 ?_ | refine ze1 ?_ | refine za ?_) | refine za ?_) | ((apply f_w); first | refine zt ?_ | refine zc ?_) | refine zb fun C => ?_ | refine zg ?_ | refine zd ?_ | refine ze ?_ | refine zf ?_)
    refine zq1 (by rfl) (fun hC => ?_) fun hC => absurd (of_decide_eq_false hC) (by omega)
    repeat' (first | ((apply f_wo); first | ((apply f_mv); first | refine zv (v := .c _) ?_ | refine za ?_) | ((apply f_as); first | refine zl1 (v := .c _) ?_ | refine za ?_) | ((apply f_ca); first | refine zy1 0 (c1) ?_ (hl := zp1 (by rfl) cc)) | ((apply zo9); first | refine zt3 ?_ | refine za ?_) | ((apply zq2); first | refine zu ?_ | refine zp2 ?_ | refine za ?_) | ((apply f_bb); first | refine zd1 ?_ | refine ze1 ?_ | refine za ?_) | refine za ?_) | ((apply f_w); first | refine zt ?_ | refine zc ?_) | refine zb fun C => ?_ | refine zg ?_ | refine zd ?_ | refine ze ?_ | refine zf ?_)
    refine zi19 (z2 := n) (by omega) ?_
    rw [ek]
    repeat' (first | ((apply f_wo); first | ((apply f_mv); first | refine zv (v := .c _) ?_ | refine za ?_) | ((apply f_as); first | refine zl1 (v := .c _) ?_ | refine za ?_) | ((apply zo9); first | refine zt3 ?_ | refine za ?_) | ((apply zq2); first | refine zu ?_ | refine zp2 ?_ | refine za ?_) | ((apply f_bb); first | refine zd1 ?_ | refine ze1 ?_ | refine za ?_) | refine za ?_) | ((apply f_w); first | refine zt ?_ | refine zc ?_) | refine zb fun C => ?_ | refine zg ?_ | refine zd ?_ | refine ze ?_ | refine zf ?_)
    refine zh1 ?_
    exact ret1 rfl zl4 rfl cc1 (zx1 h1 hc) ⟨rfl, rfl⟩
  · obtain ⟨y, cs2, h2, hy, c2⟩ := zp8 h1
    obtain ⟨z, cs3, h3, hz, c3⟩ := zp8 h2
    have cc2 := zw h2
    have cc3 := zw h3
    obtain ⟨k, hk, ek⟩ := zo11 (x := x * 65536 + y * 256 + z) (by omega) hn
    refine ⟨k, cs3, h3, hk, zm1 Try.func82 rfl rfl ?_⟩
    repeat' (first | ((apply f_wo); first | ((apply f_mv); first | refine zv (v := .c _) ?_ | refine za ?_) | ((apply f_as); first | refine zl1 (v := .c _) ?_ | refine za ?_) | ((apply zo9); first | refine zt3 ?_ | refine za ?_) | ((apply zq2); first | refine zu ?_ | refine zp2 ?_ | refine za ?_) | ((apply f_bb); first | refine zd1 ?_ | refine ze1 ?_ | refine za ?_) | refine za ?_) | ((apply f_w); first | refine zt ?_ | refine zc ?_) | refine zb fun C => ?_ | refine zg ?_ | refine zd ?_ | refine ze ?_ | refine zf ?_)
    refine zq1 (by rfl) (fun hC => absurd (of_decide_eq_true hC) (by omega)) fun hC => ?_
    repeat' (first | ((apply f_wo); first | ((apply f_mv); first | refine zv (v := .c _) ?_ | refine za ?_) | ((apply f_as); first | refine zl1 (v := .c _) ?_ | refine za ?_) | ((apply zo9); first | refine zt3 ?_ | refine za ?_) | ((apply zq2); first | refine zu ?_ | refine zp2 ?_ | refine za ?_) | ((apply f_bb); first | refine zd1 ?_ | refine ze1 ?_ | refine za ?_) | refine za ?_) | ((apply f_w); first | refine zt ?_ | refine zc ?_) | refine zb fun C => ?_ | refine zg ?_ | refine zd ?_ | refine ze ?_ | refine zf ?_)
    refine zq1 (by rfl) (fun hC => absurd (of_decide_eq_true hC) (by omega)) fun hC => ?_
    repeat' (first | ((apply f_wo); first | ((apply f_mv); first | refine zv (v := .c _) ?_ | refine za ?_) | ((apply f_as); first | refine zl1 (v := .c _) ?_ | refine za ?_) | ((apply f_ca); first | refine zy1 0 (c1) ?_ (hl := zp1 (by rfl) cc) | refine zy1 0 (c2) ?_ (hl := zp1 (by rfl) cc1) | refine zy1 0 (c3) ?_ (hl := zp1 (by rfl) cc2)) | ((apply zo9); first | refine zt3 ?_ | refine za ?_) | ((apply zq2); first | refine zu ?_ | refine zp2 ?_ | refine za ?_) | ((apply f_bb); first | refine zd1 ?_ | refine ze1 ?_ | refine za ?_) | refine za ?_) | ((apply f_w); first | refine zt ?_ | refine zc ?_) | refine zb fun C => ?_ | refine zg ?_ | refine zd ?_ | refine ze ?_ | refine zf ?_)
    refine zi19 (z2 := n) (by omega) ?_
    rw [ek]
    repeat' (first | ((apply f_wo); first | ((apply f_mv); first | refine zv (v := .c _) ?_ | refine za ?_) | ((apply f_as); first | refine zl1 (v := .c _) ?_ | refine za ?_) | ((apply zo9); first | refine zt3 ?_ | refine za ?_) | ((apply zq2); first | refine zu ?_ | refine zp2 ?_ | refine za ?_) | ((apply f_bb); first | refine zd1 ?_ | refine ze1 ?_ | refine za ?_) | refine za ?_) | ((apply f_w); first | refine zt ?_ | refine zc ?_) | refine zb fun C => ?_ | refine zg ?_ | refine zd ?_ | refine ze ?_ | refine zf ?_)
    refine zh1 ?_
    exact ret1 rfl zl4 rfl cc3 (zx1 h3 hc) ⟨rfl, rfl⟩
theorem zh16 {cs : List AC} (hc : Curs cs) (n : Int) (hn : 0 < n) : ∃ (b : Bool) (cs' : List AC), Curs cs' ∧ Ctr Try.prog 89 [.c (.pt 0 0), .c (.v (.int .i64 n))] [cs] (.c (.v (.bool b))) [cs'] := by
  have cc := zw hc
  obtain ⟨k, cs1, h1, hk, c1⟩ := zr2 hc n hn
  have cc1 := zw h1
  refine ⟨((k : Int) == 0), cs1, h1, zm1 Try.func89 rfl rfl ?_⟩
  repeat' (first | ((apply f_wo); first | ((apply f_mv); first | refine zv (v := .c _) ?_ | refine za ?_) | ((apply f_as); first | refine zl1 (v := .c _) ?_ | refine za ?_) | ((apply f_ca); first | refine zy1 0 (c1) ?_ (hl := zp1 (by rfl) cc)) | ((apply zk2); first | refine zg1 ?_ | refine za ?_) | refine za ?_) | ((apply f_w); first | refine zt ?_ | refine zc ?_) | refine zb fun C => ?_ | refine zg ?_ | refine zd ?_ | refine ze ?_ | refine zf ?_)
  refine zh1 ?_
  exact ret1 rfl zl4 rfl cc1 (zx1 h1 hc) ⟨rfl, rfl⟩
def intL (ns : List Int) : List E := ns.map fun n => .int .i64 n
def strL (ns : List ByteArray) : List E := ns.map fun n => .str n
theorem zi16 {ns : List Int} : ∀ e ∈ intL ns, e.enc.length = 1 := fun e he => by obtain ⟨x, -, rfl⟩ := List.mem_map.1 he; rfl
theorem zj16 {ns : List ByteArray} : ∀ e ∈ strL ns, e.enc.length = 1 := fun e he => by obtain ⟨x, -, rfl⟩ := List.mem_map.1 he; rfl
theorem zp11 {ns : List Int} : (intL ns).length = ns.length := by simp [intL]
theorem zq11 {ns : List ByteArray} : (strL ns).length = ns.length := by simp [strL]
theorem zq8 {cs : List AC} (hc : Curs cs) (ns : List Int) (hn : 0 < ns.length) : ∃ (z : Int) (cs' : List AC), Curs cs' ∧ z ∈ ns ∧ Ctr Try.prog 90 [.c (.pt 0 0), .c (.ro (intL ns).length 1 (acL (intL ns)))] [cs] (.c (.v (.int .i64 z))) [cs'] := by
  have cc := zw hc
  obtain ⟨k, cs1, h1, hk, c1⟩ := zr2 hc ((intL ns).length : Nat) (by rw [zp11]; omega)
  have cc1 := zw h1
  have hk' : k < ns.length := by rw [zp11] at hk; omega
  have henc := zi16 (ns := ns)
  obtain ⟨z, hz⟩ : ∃ z, ns[k]? = some z := ⟨_, List.getElem?_eq_getElem hk'⟩
  have he : (intL ns)[k]? = some (.int .i64 z) := by unfold intL; rw [List.getElem?_map, hz]; rfl
  refine ⟨z, cs1, h1, List.mem_of_getElem? hz, zm1 Try.func90 rfl rfl ?_⟩
  repeat' (first | ((apply f_wo); first | ((apply f_mv); first | refine zv (v := .c _) ?_ | refine za ?_) | ((apply f_as); first | refine zl1 (v := .c _) ?_ | refine za ?_) | ((apply f_ld); first | refine zu3 ?_ | refine zt2 ?_ | refine n_ld ?_) | ((apply f_ca); first | refine zy1 0 (c1) ?_ (hl := zp1 (by rfl) cc)) | ((apply f_bi); first | refine zg2 ?_ | refine zf2 ?_ | refine zh2 ?_ | refine za ?_) | ((apply f_ia); first | refine n_ix ?_ | refine zl2 ?_ | refine za ?_) | refine za ?_) | ((apply f_w); first | refine zt ?_ | refine zc ?_) | refine zb fun C => ?_ | refine zg ?_ | refine zd ?_ | refine ze ?_ | refine zf ?_)
  refine zh1 ?_
  exact ret1 rfl zl4 rfl cc1 (zx1 h1 hc) ⟨rfl, rfl⟩
theorem zi18 {cs : List AC} (hc : Curs cs) (ns : List ByteArray) (hn : 0 < ns.length) : ∃ (z : ByteArray) (cs' : List AC), Curs cs' ∧ z ∈ ns ∧ Ctr Try.prog 38 [.c (.pt 0 0), .c (.ro (strL ns).length 1 (acL (strL ns)))] [cs] (.c (.v (.string z))) [cs'] := by
  have cc := zw hc
  obtain ⟨k, cs1, h1, hk, c1⟩ := zr2 hc ((strL ns).length : Nat) (by rw [zq11]; omega)
  have cc1 := zw h1
  have hk' : k < ns.length := by rw [zq11] at hk; omega
  have henc := zj16 (ns := ns)
  obtain ⟨z, hz⟩ : ∃ z, ns[k]? = some z := ⟨_, List.getElem?_eq_getElem hk'⟩
  have he : (strL ns)[k]? = some (.str z) := by unfold strL; rw [List.getElem?_map, hz]; rfl
  refine ⟨z, cs1, h1, List.mem_of_getElem? hz, zm1 Try.func38 rfl rfl ?_⟩
  repeat' (first | ((apply f_wo); first | ((apply f_mv); first | refine zv (v := .c _) ?_ | refine za ?_) | ((apply f_as); first | refine zl1 (v := .c _) ?_ | refine za ?_) | ((apply f_ld); first | refine zu3 ?_ | refine zt2 ?_ | refine n_ld ?_) | ((apply f_ca); first | refine zy1 0 (c1) ?_ (hl := zp1 (by rfl) cc)) | ((apply f_bi); first | refine zg2 ?_ | refine zf2 ?_ | refine zh2 ?_ | refine za ?_) | ((apply f_ia); first | refine n_ix ?_ | refine zl2 ?_ | refine za ?_) | refine za ?_) | ((apply f_w); first | refine zt ?_ | refine zc ?_) | refine zb fun C => ?_ | refine zg ?_ | refine zd ?_ | refine ze ?_ | refine zf ?_)
  refine zh1 ?_
  exact ret1 rfl zl4 rfl cc1 (zx1 h1 hc) ⟨rfl, rfl⟩
theorem zr11 {w : World} {St : Nat → Prop} {φ : Nat → Lc} {K : Nat → Prop} : ∀ n : Nat, CRL w St φ K (bytC (List.replicate n 0)) (List.replicate n (.int .u8 0)) []
  | 0 => CRL.nil
  | n + 1 => by
    show CRL w St φ K (.v (.int .u8 ((0 : UInt8).toNat : Int)) :: bytC (List.replicate n 0)) (.int .u8 0 :: List.replicate n (.int .u8 0)) ([] ++ [])
    exact CRL.cons (by simp only [CR]; exact ⟨rfl, rfl, trivial⟩) (zr11 n)
theorem zt14 (n : Nat) : madeCells #[.int .u8 0] n = (List.replicate n (Value.int .u8 0)).toArray := by
  unfold madeCells
  apply Array.ext'
  refine List.ext_getElem? fun i => ?_
  simp only [Array.toList_map, Array.toList_range, List.getElem?_map, List.getElem?_range, List.getElem?_replicate]
  by_cases h : i < n
  · simp [h, Nat.mod_one]
  · simp [h]
theorem zc20 {ops : Array Oper} {Q : Exit → Act → World → Prop} {C : Ctx} {i : Nat} {r : List Nat} {tm : Nat → AV} {hp : Nat → Option Row} {gn L : Nat} {us : List Nat} {ty : TypeId} {gd : Option (Nat × Bool)} {ps : String} {af : Array Edge} {t n : Nat} {xo yo : Operand}
    (h : Walk Try.prog ops Q C false [] r ⟨upd tm t (.c (.sl t n)), upd hp t (some ⟨5, 1, n, false, bytC (List.replicate n 0)⟩), gn, t :: us, L⟩)
    (ht : Nat.blt t L = true := by exact rfl) (hg : gw ops tm (⟨some t, .makeSlice 22 xo yo, ty, ps, af, gd⟩ : Oper) = some true := by exact rfl) (hf : (Nat.ble gn t && !us.contains t) = true := by exact rfl)
    (hx : AS.ev ⟨tm, hp, gn, us, L⟩ xo = .c (.v (.int .i64 (n : Int))) := by exact rfl) (hy : AS.ev ⟨tm, hp, gn, us, L⟩ yo = .c (.v (.int .i64 (n : Int))) := by exact rfl) (hn : n ≤ 16777216 := by omega) :
    WalkO Try.prog ops Q C false [] i (⟨some t, .makeSlice 22 xo yo, ty, ps, af, gd⟩ : Oper) r ⟨tm, hp, gn, us, L⟩ := ⟨fun hop => by
  simp only [Bool.and_eq_true, Nat.ble_eq, Bool.not_eq_true'] at hf
  have hnu : t ∉ us := fun hm => by have := hf.2; simp at this; exact this hm
  refine ⟨_, ⟨[], [(t, some ⟨5, 1, n, false, bytC (List.replicate n 0)⟩)], [t], .c (.sl t n)⟩, hop, ?_, fun m hm => ?_, za4 (by exact zx), ?_⟩
  · intro τ a w ha hsim K hK
    obtain ⟨φ, F, St, hsim⟩ := hsim
    have e1 : τ.ev xo = .c (.v (.int .i64 (n : Int))) := by rw [ha.ev xo (by show xo ∈ #[xo, yo]; simp)]; exact hx
    have e2 : τ.ev yo = .c (.v (.int .i64 (n : Int))) := by rw [ha.ev yo (by show yo ∈ #[xo, yo]; simp)]; exact hy
    have v1 := hsim.ev xo
    have v2 := hsim.ev yo
    rw [e1] at v1
    rw [e2] at v2
    simp only [VR, CR] at v1 v2
    have hmk := zo19 (P := Try.prog) Try.underlying22 (show (Try.prog.info? 5).map (fun i => (i.zero, i.size, i.bytes)) = some (some (.int .u8 0), 1, 1) by kernel_rfl) n (by omega) (by omega) w
    unfold wpOp
    rw [hop]
    have hw := zi10 hsim (b := true) (by rw [ha.gw]; exact hg)
    simp only [hw, if_true]
    refine .inl ?_
    unfold Oper.wp
    have hrun : (execOp a.eval (⟨some t, .makeSlice 22 xo yo, ty, ps, af, gd⟩ : Oper)).run Try.prog w = .ok (.value (.slice (some ⟨w.heap.size, 0, none⟩) n n)) (w.alloc (.cells (List.replicate n (Value.int .u8 0)).toArray 5)) := by
      rw [Nat.mul_one, show (Value.int .u8 0).cells = #[.int .u8 0] from rfl, zt14] at hmk
      unfold execOp
      simp only [v1.1, v2.1]
      simp [Sem.run_bind, hmk]
    rw [hrun]
    have hown := World.ownsRow_lit (base := 0) (e := 5) (size := 1) w (List.replicate n (Value.int .u8 0)).toArray n (Nat.zero_le _) (by unfold maxLen; omega) (by simp)
    obtain ⟨φ', F', St', s1, s2⟩ := hsim.newSlice (id := t) (by rw [ha.gn]; exact hf.1) (ha.us t (by simp)) (b0 := none) (Stp.alloc w (.cells (List.replicate n (Value.int .u8 0)).toArray 5) none) (fun b hb => by cases hb) (zr11 (w := w) (St := St) (φ := φ) (K := τ.Kn) n) (fun b hb => absurd hb List.not_mem_nil) (by simpa using hown) (by simp [obl, Value.ownBlock]) (fun b hb => .inl (by simp [obl, Value.ownBlock] at hb; omega))
    exact hK _ _ ⟨φ', F', St', s1.put (some t) s2⟩
  · have : m = t := by simpa using hm
    subst this
    exact hnu
  · refine zs2 ?_
    show Walk Try.prog ops Q C false [] r (AS.put _ (some t) _)
    rw [zq4 (by exact zk4 ht)]; exact h⟩
end Go.Proofs.Ytghljnfbbaklnaa
namespace Go.Proofs.Ytghljnfbbaklnaa
open Go.RowKit
end Go.Proofs.Ytghljnfbbaklnaa
namespace Go.Proofs.Ytghljnfbbaklnaa
open Go.RowKit
structure GVal where
  k : Int
  n : Int
  s : ByteArray
structure GCell where
  refs : Int
  v : GVal
def encC (c : GCell) : List Value := [.int .i64 c.refs, .int .i64 c.v.k, .int .i64 c.v.n, .string c.v.s]
def inB (n lo hi : Int) : Bool := decide (lo ≤ n) && decide (n ≤ hi)
theorem zv3 (n lo hi : Int) (w : World) : Calls Try.prog 54 #[.int .i64 n, .int .i64 lo, .int .i64 hi] w fun e w' =>
    e = .returned (.bool (inB n lo hi)) ∧ w = w' := by
  go_enter Try.func54, Try.ntmps54
  go_wp2
  all_goals (go_ret; exact ⟨by simp [inB, *] <;> omega, rfl⟩)
def gzero : GVal := ⟨0, 0, ⟨#[]⟩⟩
def valAt (ds : List GCell) (at_ : Int) : GVal := if 0 ≤ at_ ∧ at_ < ds.length then (ds.getD at_.toNat ⟨0, gzero⟩).v else gzero
set_option maxHeartbeats 400000 in
theorem zr8 (A : Option Addr) (ln c : Nat) (ds : List GCell) (at_ : Int) (w : World) (hs : Rd w 4 encC (.slice A ln c) ds) :
    Calls Try.prog 23 #[.agg #[.slice A ln c], .int .i64 at_] w fun e w' => e = .returned (.agg #[.int .i64 (valAt ds at_).k, .int .i64 (valAt ds at_).n, .string (valAt ds at_).s]) ∧ Below w.heap.size w w' := by
  obtain rfl := hs.len_eq
  have hlen := hs.len_le
  have hs' : Rd ((w.alloc (.cells #[.slice A ds.length c] 39)).alloc (.cells #[.int .i64 0, .int .i64 0, .string ⟨#[]⟩] 29)) 4 encC (.slice A ds.length c) ds := (by repeat (first | (with_reducible assumption) | (with_reducible refine Rd.drew ?_) | (with_reducible refine Rd.drewN ?_ _) | (with_reducible refine Rd.alloc ?_ _) | (exact Own.rd (fun _ => rfl) (by with_reducible assumption)) | (exact Sl.rd (by with_reducible assumption) (by first | omega | (· simp) | (· (simp; omega)))) | (refine Rd.below ?_ (by with_reducible assumption) ?_) | omega | (· simp) | (· (simp; omega))))
  by_cases h1 : 0 ≤ at_ ∧ at_ < ds.length
  · obtain ⟨i, rfl⟩ : ∃ i : Nat, at_ = (i : Int) := ⟨at_.toNat, by omega⟩
    have hi : i < ds.length := by omega
    have e : valAt ds (i : Int) = ds[i].v := by
      unfold valAt
      rw [if_pos h1, Int.toNat_natCast, List.getD, List.getElem?_eq_getElem hi]; rfl
    rw [e]
    obtain ⟨b, o, rfl, _, hc⟩ := hs'.at_ hi
    have c0 := hc 0 _ rfl; have c1 := hc 1 _ rfl; have c2 := hc 2 _ rfl; have c3 := hc 3 _ rfl
    rw [Nat.add_zero] at c0
    clear hc h1 e
    have hin : inB (i : Int) 0 (ds.length - 1) = true := by simp [inB]; omega
    go_enter Try.func23, Try.ntmps23
    go_wp2_with (go_at_call 54; refine (zv3 _ _ _ _).mono ?_; rintro e w1 ⟨rfl, rfl⟩)
    refine bodyPost_ret (v := .agg #[.int .i64 ds[i].v.k, .int .i64 ds[i].v.n, .string ds[i].v.s]) (zc5 (t := 29) (fr := (0, 0)) rfl rfl Try.underlying29 (by kernel_rfl) ?_) rfl ⟨rfl, ?_⟩
    · skip
      simp only [za5, zb5]; simp [setAt]
    · exact (by repeat (first | (with_reducible refine Below.setCell ?_ (by first | omega | (· simp) | (· (simp; omega))) _) | (with_reducible refine Below.alloc ?_ (by first | omega | (· simp) | (· (simp; omega))) _) | (with_reducible refine Below.drew ?_) | (with_reducible refine zj1 ?_ _) | (with_reducible exact Below.refl _ _) | (with_reducible assumption) | (with_reducible refine Below.trans ?_ (Below.mono (by assumption) (by first | omega | (· simp) | (· (simp; omega))))) | (with_reducible refine Below.trans ?_ (Kp.below (by assumption) (by first | omega | (· simp) | (· (simp; omega))) (by first | omega | (· simp) | (· (simp; omega)))))))
  · have e : valAt ds at_ = gzero := if_neg h1
    rw [e]
    have hin : inB at_ 0 (ds.length - 1) = false := by simp [inB]; omega
    by_cases h2 : at_ < 0
    · clear h1 e
      go_enter Try.func23, Try.ntmps23
      go_wp2_with (go_at_call 54; refine (zv3 _ _ _ _).mono ?_; rintro e w1 ⟨rfl, rfl⟩)
      refine bodyPost_ret (v := .agg #[.int .i64 0, .int .i64 0, .string ⟨#[]⟩]) (zc5 (t := 29) (fr := (0, 0)) rfl rfl Try.underlying29 (by kernel_rfl) ?_) rfl ⟨rfl, ?_⟩
      · simp only [za5, zb5]; simp [setAt]
      · exact (by repeat (first | (with_reducible refine Below.setCell ?_ (by first | omega | (· simp) | (· (simp; omega))) _) | (with_reducible refine Below.alloc ?_ (by first | omega | (· simp) | (· (simp; omega))) _) | (with_reducible refine Below.drew ?_) | (with_reducible refine zj1 ?_ _) | (with_reducible exact Below.refl _ _) | (with_reducible assumption) | (with_reducible refine Below.trans ?_ (Below.mono (by assumption) (by first | omega | (· simp) | (· (simp; omega))))) | (with_reducible refine Below.trans ?_ (Kp.below (by assumption) (by first | omega | (· simp) | (· (simp; omega))) (by first | omega | (· simp) | (· (simp; omega)))))))
    · have h3 : (ds.length : Int) ≤ at_ := by omega
      clear h1 e
      go_enter Try.func23, Try.ntmps23
      go_wp2_with (go_at_call 54; refine (zv3 _ _ _ _).mono ?_; rintro e w1 ⟨rfl, rfl⟩)
      refine bodyPost_ret (v := .agg #[.int .i64 0, .int .i64 0, .string ⟨#[]⟩]) (zc5 (t := 29) (fr := (0, 0)) rfl rfl Try.underlying29 (by kernel_rfl) ?_) rfl ⟨rfl, ?_⟩
      · simp only [za5, zb5]; simp [setAt]
      · exact (by repeat (first | (with_reducible refine Below.setCell ?_ (by first | omega | (· simp) | (· (simp; omega))) _) | (with_reducible refine Below.alloc ?_ (by first | omega | (· simp) | (· (simp; omega))) _) | (with_reducible refine Below.drew ?_) | (with_reducible refine zj1 ?_ _) | (with_reducible exact Below.refl _ _) | (with_reducible assumption) | (with_reducible refine Below.trans ?_ (Below.mono (by assumption) (by first | omega | (· simp) | (· (simp; omega))))) | (with_reducible refine Below.trans ?_ (Kp.below (by assumption) (by first | omega | (· simp) | (· (simp; omega))) (by first | omega | (· simp) | (· (simp; omega)))))))
set_option maxHeartbeats 400000 in
theorem zs8 (A : Option Addr) (ln c : Nat) (ds : List GCell) (at_ : Int) (w : World) (hs : Rd w 4 encC (.slice A ln c) ds) :
    Calls Try.prog 22 #[.agg #[.slice A ln c], .int .i64 at_] w fun e w' => e = .returned (.agg #[.int .i64 (valAt ds at_).k, .int .i64 (valAt ds at_).n, .string (valAt ds at_).s]) ∧ Below w.heap.size w w' := by
  obtain rfl := hs.len_eq
  have hlen := hs.len_le
  have hs' : Rd ((w.alloc (.cells #[.slice A ds.length c] 39)).alloc (.cells #[.int .i64 0, .int .i64 0, .string ⟨#[]⟩] 29)) 4 encC (.slice A ds.length c) ds := (by repeat (first | (with_reducible assumption) | (with_reducible refine Rd.drew ?_) | (with_reducible refine Rd.drewN ?_ _) | (with_reducible refine Rd.alloc ?_ _) | (exact Own.rd (fun _ => rfl) (by with_reducible assumption)) | (exact Sl.rd (by with_reducible assumption) (by first | omega | (· simp) | (· (simp; omega)))) | (refine Rd.below ?_ (by with_reducible assumption) ?_) | omega | (· simp) | (· (simp; omega))))
  by_cases h1 : 0 ≤ at_ ∧ at_ < ds.length
  · obtain ⟨i, rfl⟩ : ∃ i : Nat, at_ = (i : Int) := ⟨at_.toNat, by omega⟩
    have hi : i < ds.length := by omega
    have e : valAt ds (i : Int) = ds[i].v := by
      unfold valAt
      rw [if_pos h1, Int.toNat_natCast, List.getD, List.getElem?_eq_getElem hi]; rfl
    rw [e]
    obtain ⟨b, o, rfl, _, hc⟩ := hs'.at_ hi
    have c0 := hc 0 _ rfl; have c1 := hc 1 _ rfl; have c2 := hc 2 _ rfl; have c3 := hc 3 _ rfl
    rw [Nat.add_zero] at c0
    clear hc h1 e
    have hin : inB (i : Int) 0 (ds.length - 1) = true := by simp [inB]; omega
    go_enter Try.func22, Try.ntmps22
    go_wp2_with (go_at_call 54; refine (zv3 _ _ _ _).mono ?_; rintro e w1 ⟨rfl, rfl⟩)
    refine bodyPost_ret (v := .agg #[.int .i64 ds[i].v.k, .int .i64 ds[i].v.n, .string ds[i].v.s]) (zc5 (t := 29) (fr := (0, 0)) rfl rfl Try.underlying29 (by kernel_rfl) ?_) rfl ⟨rfl, ?_⟩
    · skip
      simp only [za5, zb5]; simp [setAt]
    · exact (by repeat (first | (with_reducible refine Below.setCell ?_ (by first | omega | (· simp) | (· (simp; omega))) _) | (with_reducible refine Below.alloc ?_ (by first | omega | (· simp) | (· (simp; omega))) _) | (with_reducible refine Below.drew ?_) | (with_reducible refine zj1 ?_ _) | (with_reducible exact Below.refl _ _) | (with_reducible assumption) | (with_reducible refine Below.trans ?_ (Below.mono (by assumption) (by first | omega | (· simp) | (· (simp; omega))))) | (with_reducible refine Below.trans ?_ (Kp.below (by assumption) (by first | omega | (· simp) | (· (simp; omega))) (by first | omega | (· simp) | (· (simp; omega)))))))
  · have e : valAt ds at_ = gzero := if_neg h1
    rw [e]
    have hin : inB at_ 0 (ds.length - 1) = false := by simp [inB]; omega
    by_cases h2 : at_ < 0
    · clear h1 e
      go_enter Try.func22, Try.ntmps22
      go_wp2_with (go_at_call 54; refine (zv3 _ _ _ _).mono ?_; rintro e w1 ⟨rfl, rfl⟩)
      refine bodyPost_ret (v := .agg #[.int .i64 0, .int .i64 0, .string ⟨#[]⟩]) (zc5 (t := 29) (fr := (0, 0)) rfl rfl Try.underlying29 (by kernel_rfl) ?_) rfl ⟨rfl, ?_⟩
      · simp only [za5, zb5]; simp [setAt]
      · exact (by repeat (first | (with_reducible refine Below.setCell ?_ (by first | omega | (· simp) | (· (simp; omega))) _) | (with_reducible refine Below.alloc ?_ (by first | omega | (· simp) | (· (simp; omega))) _) | (with_reducible refine Below.drew ?_) | (with_reducible refine zj1 ?_ _) | (with_reducible exact Below.refl _ _) | (with_reducible assumption) | (with_reducible refine Below.trans ?_ (Below.mono (by assumption) (by first | omega | (· simp) | (· (simp; omega))))) | (with_reducible refine Below.trans ?_ (Kp.below (by assumption) (by first | omega | (· simp) | (· (simp; omega))) (by first | omega | (· simp) | (· (simp; omega)))))))
    · have h3 : (ds.length : Int) ≤ at_ := by omega
      clear h1 e
      go_enter Try.func22, Try.ntmps22
      go_wp2_with (go_at_call 54; refine (zv3 _ _ _ _).mono ?_; rintro e w1 ⟨rfl, rfl⟩)
      refine bodyPost_ret (v := .agg #[.int .i64 0, .int .i64 0, .string ⟨#[]⟩]) (zc5 (t := 29) (fr := (0, 0)) rfl rfl Try.underlying29 (by kernel_rfl) ?_) rfl ⟨rfl, ?_⟩
      · simp only [za5, zb5]; simp [setAt]
      · exact (by repeat (first | (with_reducible refine Below.setCell ?_ (by first | omega | (· simp) | (· (simp; omega))) _) | (with_reducible refine Below.alloc ?_ (by first | omega | (· simp) | (· (simp; omega))) _) | (with_reducible refine Below.drew ?_) | (with_reducible refine zj1 ?_ _) | (with_reducible exact Below.refl _ _) | (with_reducible assumption) | (with_reducible refine Below.trans ?_ (Below.mono (by assumption) (by first | omega | (· simp) | (· (simp; omega))))) | (with_reducible refine Below.trans ?_ (Kp.below (by assumption) (by first | omega | (· simp) | (· (simp; omega))) (by first | omega | (· simp) | (· (simp; omega)))))))
def heldOf (ds : List GCell) : Int := (ds.filter fun c => decide (0 < c.refs)).length
theorem zf7 (ds : List GCell) (k : Nat) (h : k < ds.length) : heldOf (ds.take (k + 1)) = heldOf (ds.take k) + if 0 < ds[k].refs then 1 else 0 := by
  unfold heldOf
  rw [List.take_succ_eq_append_getElem h, List.filter_append]
  by_cases hr : 0 < ds[k].refs <;> simp [hr]
theorem zp9 (ds : List GCell) (k : Nat) : 0 ≤ heldOf (ds.take k) ∧ heldOf (ds.take k) ≤ k := by
  unfold heldOf
  have := List.length_filter_le (fun c : GCell => decide (0 < c.refs)) (ds.take k)
  have := List.length_take_le k ds
  omega
end Go.Proofs.Ytghljnfbbaklnaa
