/- The machine: blocks given over to those that stand; the conversion of a literal's row of bytes, by which it stands from then on. -/
import Derived.Test.YtghljnfbbaklnaaEntriesJ
namespace Go.Proofs.Ytghljnfbbaklnaa
open Go.RowKit
set_option maxRecDepth 100000
section
variable {C : Ctx} {φ : Nat → Lc} {F : Nat → List Nat} {St : Nat → Prop} {σ : AS} {a : Act} {w w' : World}
end
section
variable {P : Program} {ops : Array Oper} {Q : Exit → Act → World → Prop} {C : Ctx} {i : Nat} {r : List Nat} {o : Oper}
variable {tm : Nat → AV} {hp : Nat → Option Row} {gn L : Nat} {us : List Nat} {x : AV}
end
section
variable {ops : Array Oper} {Q : Exit → Act → World → Prop} {C : Ctx} {H : List (Nat × Oper × Inf)} {i : Nat} {r : List Nat} {dr : Bool}
variable {tm : Nat → AV} {hp : Nat → Option Row} {gn L : Nat} {us : List Nat}
theorem zn11 {ty : TypeId} {gd : Option (Nat × Bool)} {cas : Array Operand} {cts : Array TypeId} {ps : String} {af : Array Edge} {t : Nat} {fv : Operand} {f : FuncId} {caps : List AC} {args ins : List AV} {par : List AC} {rows : List (List AC)} {res : AV} {nv : AV} {nr : List (Nat × Row)} (lr : Nat) (Z : List Nat) (hctr : Ctr Try.prog f ins [par] res rows)
    (h : Walk Try.prog ops Q C dr (keepH dr (i, (⟨some t, .call ⟨.value fv, cas, cts⟩, ty, ps, af, gd⟩ : Oper), callInf ⟨tm, hp, gn, us, L⟩ (args.flatMap snV) [lr] Z (100 * (t + 1)) res rows) H) r ⟨upd tm t nv, updL hp (backU hp [lr] rows ++ (Z.map fun z => (z, none)) ++ nr.map (fun p => (p.1, some p.2))), gn, nr.map (·.1) ++ us, L⟩)
    (ht : Nat.blt t L = true := by exact rfl) (hg : gw ops tm (⟨some t, .call ⟨.value fv, cas, cts⟩, ty, ps, af, gd⟩ : Oper) = some true := by exact rfl) (hfv : AS.ev ⟨tm, hp, gn, us, L⟩ fv = .c (.fn f caps) := by exact rfl) (hargs : callArgs ⟨tm, hp, gn, us, L⟩ ⟨.value fv, cas, cts⟩ caps = args := by exact rfl) (hcv : args.map (cvV hp [lr]) = ins := by ((repeat' (first | rfl | exact zu4 | refine zm4 ?_ ?_ | refine ze7 ?_ | refine cv_c ?_ | refine zn4 ?_ ?_ | (refine zt5 ?_; (first | rfl | (simp [cloV, cloL, clo, zo, zn, zp, zl, zk]; done))) | (refine zu5 ?_; (first | rfl | (simp [cloV, cloL, clo, zo, zn, zp, zl, zk]; done))) | refine zv5 ?_ | (refine cvC_sl' (by rfl) (by rfl) (by rfl) (by rfl) ?_ ?_; (focus (first | rfl | (simp [cloV, cloL, clo, zo, zn, zp, zl, zk]; done))); (first | rfl | exact za4 _)))) <;> exact rfl)) (hl : lend hp [lr] = some [par] := by exact zw1 (by rfl) (by first | rfl | (simp [cloV, cloL, clo, zo, zn, zp, zl, zk]; done)))
    (hRD : ((args.flatMap snV).all fun z => ![lr].contains z) = true := by exact rfl) (hZD : (Z.all fun z => ![lr].contains z) = true := by exact rfl) (hmm : ((args.flatMap snV).all fun z => Z.contains z) = true := by exact rfl) (hopn : opV (100 * (t + 1)) res = (nv, nr) := by exact rfl) (hf : (nr.all fun p => Nat.ble gn p.1 && !us.contains p.1) = true := by exact rfl)
    (hc : chk dr ops i (⟨some t, .call ⟨.value fv, cas, cts⟩, ty, ps, af, gd⟩ : Oper) (callInf ⟨tm, hp, gn, us, L⟩ (args.flatMap snV) [lr] Z (100 * (t + 1)) res rows) H = true := by first | (with_reducible exact zr1) | kernel_rfl) : WalkO Try.prog ops Q C dr H i (⟨some t, .call ⟨.value fv, cas, cts⟩, ty, ps, af, gd⟩ : Oper) r ⟨tm, hp, gn, us, L⟩ :=
  ⟨fun hop => zd12 (100 * (t + 1)) [lr] Z hop rfl rfl rfl ht hg hfv hargs hl (by rw [hcv]; exact hctr) hRD hZD (.inr hmm) hopn hf hc h⟩
theorem zg6 {ty : TypeId} {gd : Option (Nat × Bool)} {cas : Array Operand} {cts : Array TypeId} {ps : String} {af : Array Edge} {t : Nat} {fv : Operand} {f : FuncId} {caps : List AC} {args ins : List AV} {par : List AC} {rows : List (List AC)} {res : AV} {nv : AV} {nr : List (Nat × Row)} (lr : Nat) (Z : List Nat) (hctr : Ctr Try.prog f ins [par] res rows)
    (h : Walk Try.prog ops Q C false [] r ⟨upd tm t nv, updL hp (backU hp [lr] rows ++ (Z.map fun z => (z, none)) ++ nr.map (fun p => (p.1, some p.2))), gn, nr.map (·.1) ++ us, L⟩)
    (ht : Nat.blt t L = true := by exact rfl) (hg : gw ops tm (⟨some t, .call ⟨.value fv, cas, cts⟩, ty, ps, af, gd⟩ : Oper) = some true := by exact rfl) (hfv : AS.ev ⟨tm, hp, gn, us, L⟩ fv = .c (.fn f caps) := by exact rfl) (hargs : callArgs ⟨tm, hp, gn, us, L⟩ ⟨.value fv, cas, cts⟩ caps = args := by exact rfl) (hcv : args.map (cvV hp [lr]) = ins := by ((repeat' (first | rfl | exact zu4 | refine zm4 ?_ ?_ | refine ze7 ?_ | refine cv_c ?_ | refine zn4 ?_ ?_ | (refine zt5 ?_; (first | rfl | (simp [cloV, cloL, clo, zo, zn, zp, zl, zk]; done))) | (refine zu5 ?_; (first | rfl | (simp [cloV, cloL, clo, zo, zn, zp, zl, zk]; done))) | refine zv5 ?_ | (refine cvC_sl' (by rfl) (by rfl) (by rfl) (by rfl) ?_ ?_; (focus (first | rfl | (simp [cloV, cloL, clo, zo, zn, zp, zl, zk]; done))); (first | rfl | exact za4 _)))) <;> exact rfl)) (hl : lend hp [lr] = some [par] := by exact zw1 (by rfl) (by first | rfl | (simp [cloV, cloL, clo, zo, zn, zp, zl, zk]; done)))
    (hRD : ((args.flatMap snV).all fun z => ![lr].contains z) = true := by exact rfl) (hZD : (Z.all fun z => ![lr].contains z) = true := by exact rfl) (hmm : ((args.flatMap snV).all fun z => Z.contains z) = true := by exact rfl) (hopn : opV (100 * (t + 1)) res = (nv, nr) := by exact rfl) (hf : (nr.all fun p => Nat.ble gn p.1 && !us.contains p.1) = true := by exact rfl) : WalkO Try.prog ops Q C false [] i (⟨some t, .call ⟨.value fv, cas, cts⟩, ty, ps, af, gd⟩ : Oper) r ⟨tm, hp, gn, us, L⟩ :=
  zn11 (dr := false) (H := []) (lr := lr) (Z := Z) (hctr := hctr) (h := h) (ht := ht) (hg := hg) (hfv := hfv) (hargs := hargs) (hcv := hcv) (hl := hl) (hRD := hRD) (hZD := hZD) (hmm := hmm) (hopn := hopn) (hf := hf)
theorem zu {ty : TypeId} {gd : Option (Nat × Bool)} {ps : String} {af : Array Edge} {t : Nat} {y : Operand} (x : AV) (h : Walk Try.prog ops Q C dr (keepH dr (i, (⟨some t, .move y, ty, ps, af, gd⟩ : Oper), ⟨[], [], [], x⟩) H) r ⟨upd tm t x, hp, gn, us, L⟩)
    (ht : Nat.blt t L = true := by exact rfl) (hg : gw ops tm (⟨some t, .move y, ty, ps, af, gd⟩ : Oper) = some true := by exact rfl) (hx : AS.ev ⟨tm, hp, gn, us, L⟩ y = x := by exact rfl)
    (hc : chk dr ops i (⟨some t, .move y, ty, ps, af, gd⟩ : Oper) ⟨[], [], [], x⟩ H = true := by first | (with_reducible exact zr1) | kernel_rfl) : WalkO Try.prog ops Q C dr H i (⟨some t, .move y, ty, ps, af, gd⟩ : Oper) r ⟨tm, hp, gn, us, L⟩ := ⟨fun hop => by
  refine ⟨_, ⟨[], [], [], x⟩, hop, ?_, fun n hn => absurd hn List.not_mem_nil, zd5 hc, zg4 ?_⟩
  · intro τ a w ha hsim K hK
    obtain ⟨φ, F, St, hsim⟩ := hsim
    have e1 : τ.ev y = x := by rw [ha.ev y (by show y ∈ #[y]; simp)]; exact hx
    have v1 := hsim.ev y
    rw [e1] at v1
    unfold wpOp
    rw [hop]
    have hw := ze10 hsim (b := true) (by rw [ha.gw]; exact hg)
    simp only [hw, if_true]
    refine .inl ?_
    unfold Oper.wp
    have hrun : (execOp a.eval (⟨some t, .move y, ty, ps, af, gd⟩ : Oper)).run Try.prog w = .ok (.value (a.eval y)) w := by simp [execOp]
    rw [hrun]
    exact hK _ _ ⟨φ, F, St, hsim.put (some t) v1⟩
  · show Walk Try.prog ops Q C dr _ r (AS.put _ (some t) _)
    rw [zs5 (by exact zm5 ht)]; exact h⟩
theorem zv {ty : TypeId} {gd : Option (Nat × Bool)} {ps : String} {af : Array Edge} {t : Nat} {y : Operand} (v : AV) (h : Walk Try.prog ops Q C dr (keepH dr (i, (⟨some t, .assign y, ty, ps, af, gd⟩ : Oper), ⟨fpO (AS.ev ⟨tm, hp, gn, us, L⟩) (⟨some t, .assign y, ty, ps, af, gd⟩ : Oper), [], [], v⟩) H) r ⟨upd tm t v, hp, gn, us, L⟩)
    (ht : Nat.blt t L = true := by exact rfl) (hg : gw ops tm (⟨some t, .assign y, ty, ps, af, gd⟩ : Oper) = some true := by exact rfl) (hy : AS.ev ⟨tm, hp, gn, us, L⟩ y = v := by exact rfl)
    (hc : chk dr ops i (⟨some t, .assign y, ty, ps, af, gd⟩ : Oper) ⟨fpO (AS.ev ⟨tm, hp, gn, us, L⟩) (⟨some t, .assign y, ty, ps, af, gd⟩ : Oper), [], [], v⟩ H = true := by first | (with_reducible exact zr1) | kernel_rfl) : WalkO Try.prog ops Q C dr H i (⟨some t, .assign y, ty, ps, af, gd⟩ : Oper) r ⟨tm, hp, gn, us, L⟩ := zm (x := v) h ht hg (congrArg (fun z => some (z, Dl.nop)) hy) hc
theorem zy1 {ty : TypeId} {gd : Option (Nat × Bool)} {ps : String} {af : Array Edge} {t : Nat} {c a b : Operand} (v : AV) (h : Walk Try.prog ops Q C dr (keepH dr (i, (⟨some t, .pick c a b, ty, ps, af, gd⟩ : Oper), ⟨fpO (AS.ev ⟨tm, hp, gn, us, L⟩) (⟨some t, .pick c a b, ty, ps, af, gd⟩ : Oper), [], [], v⟩) H) r ⟨upd tm t v, hp, gn, us, L⟩)
    (ht : Nat.blt t L = true := by exact rfl) (hg : gw ops tm (⟨some t, .pick c a b, ty, ps, af, gd⟩ : Oper) = some true := by exact rfl) (hy : aPick (AS.ev ⟨tm, hp, gn, us, L⟩ c) (AS.ev ⟨tm, hp, gn, us, L⟩ a) (AS.ev ⟨tm, hp, gn, us, L⟩ b) = some v := by exact rfl)
    (hc : chk dr ops i (⟨some t, .pick c a b, ty, ps, af, gd⟩ : Oper) ⟨fpO (AS.ev ⟨tm, hp, gn, us, L⟩) (⟨some t, .pick c a b, ty, ps, af, gd⟩ : Oper), [], [], v⟩ H = true := by first | (with_reducible exact zr1) | kernel_rfl) : WalkO Try.prog ops Q C dr H i (⟨some t, .pick c a b, ty, ps, af, gd⟩ : Oper) r ⟨tm, hp, gn, us, L⟩ := zm (x := v) h ht hg (congrArg nop? hy) hc
end
def Byt (l : List E) : Prop := ∀ e ∈ l, ∃ x : Nat, x < 256 ∧ e = .int .u8 (x : Int)
theorem Byt.enc {l : List E} (h : Byt l) : ∀ e ∈ l, e.enc.length = 1 := fun e he => by obtain ⟨x, -, rfl⟩ := h e he; rfl
def Curs (cs : List AC) : Prop := ∃ (l : List E) (i : Nat) (h : Int), Byt l ∧ i ≤ l.length ∧ l.length ≤ 1048576 ∧ cs = [.ro l.length 1 (acL l), .v (.int .i64 (i : Int)), .v (.int .i64 h)]
theorem zg20 (n : Int) : bits .and .i64 n 255 = n % 256 := by
  have h1 : (BitVec.ofInt 64 n).toNat = (n % 18446744073709551616).toNat := by rw [BitVec.toNat_ofInt]; rfl
  have h2 : (BitVec.ofInt 64 255).toNat = 2 ^ 8 - 1 := by rfl
  show IntKind.i64.wrap ((BitVec.ofInt 64 n &&& BitVec.ofInt 64 255).toNat : Int) = _
  rw [BitVec.toNat_and, h1, h2, Nat.and_two_pow_sub_one_eq_mod, IntKind.wrap_i64]
  omega
theorem zn12 (n : Int) : 0 ≤ bits .and .i64 n 255 ∧ bits .and .i64 n 255 < 256 := by rw [zg20]; omega
theorem zr9 {cs : List AC} (hc : Curs cs) : ∃ (x : Int) (cs' : List AC), Curs cs' ∧ (0 ≤ x ∧ x < 256) ∧ Ctr Try.prog 115 [.c (.pt 0 0)] [cs] (.c (.v (.int .i64 x))) [cs'] := by
  obtain ⟨l, i, h, hl, hi, hlen, rfl⟩ := hc
  by_cases hlt : i < l.length
  · obtain ⟨e, he⟩ : ∃ e, l[i]? = some e := ⟨_, List.getElem?_eq_getElem hlt⟩
    obtain ⟨b, hb, rfl⟩ := hl e (List.mem_of_getElem? he)
    have hk := hl.enc
    refine ⟨?x, ?c, ?hC, ?hx, zt1 Try.func115 rfl rfl ?hw⟩
    case hw =>
      repeat' (first | ((apply f_wo); first | ((apply f_mv); first | refine zm1 (v := .c _) ?_ | refine zb ?_) | ((apply f_as); first | refine zo1 (v := .c _) ?_ | refine zb ?_) | ((apply f_fa); first | refine n_fa ?_ | refine zr2 ?_) | ((apply f_ld); first | refine zi4 ?_ | refine zw2 ?_ | refine n_ld ?_) | ((apply f_bi); first | refine zb3 ?_ | refine za3 ?_ | refine zc3 ?_ | refine zb ?_) | ((apply f_st); first | refine n_st ?_ | refine zo2 ?_) | ((apply f_ia); first | refine n_ix ?_ | refine zp2 ?_ | refine zb ?_) | ((apply zd3); first | refine zx ?_ | refine zb ?_) | ((apply zj2); first | refine zr ?_ | refine zi2 ?_ | refine zb ?_) | ((apply f_bb); first | refine zu2 ?_ | refine zv2 ?_ | refine zb ?_) | ((apply f_cv); first | refine zr7 ?_ | refine zb ?_) | refine zb ?_) | ((apply f_w); first | refine zy ?_ | refine zd ?_) | ((apply d_wo); first | ((apply d_mv); refine zm ?_) | ((apply d_as); refine zm ?_) | ((apply d_fa); first | refine o_fa ?_ | refine zd4 ?_) | ((apply d_ld); first | refine zn3 ?_ | refine zc2 ?_ | refine zd2 ?_ | refine zo3 ?_ | refine zm ?_ | refine o_ld ?_) | ((apply d_bi); first | refine zf2 ?_ | refine ze2 ?_ | refine zg2 ?_ | refine zv1 ?_ | refine zv1 (hnu := zj _) ?_ | refine ze1 ?_ | refine ze1 (hnu := zj _) ?_ | refine zm ?_) | ((apply d_st); first | refine o_st ?_ | refine zo4 ?_) | ((apply d_ia); first | refine o_ix ?_ | refine zj3 ?_ | refine zm ?_) | ((apply d_bb); first | refine zb1 ?_ | refine zc1 ?_ | refine zd1 ?_ | refine zm3 ?_ | refine zm ?_) | ((apply d_cv); first | refine zk2 ?_ | refine zf4 ?_ | refine zx4 ?_ | refine zy4 ?_ | refine zm ?_) | refine zm ?_) | ((apply d_w); first | refine zy ?_ | refine zd ?_) | refine za fun C => ?_ | refine zf (by kernel_rfl) (by kernel_rfl) fun C => ?_ | refine zi ?_ | refine ze ?_ | refine zg ?_ | refine zh ?_)
      refine zu1 (by rfl) (fun hC => ?_) fun hC => absurd (of_decide_eq_false hC) (by omega)
      repeat' (first | ((apply f_wo); first | ((apply f_mv); first | refine zm1 (v := .c _) ?_ | refine zb ?_) | ((apply f_as); first | refine zo1 (v := .c _) ?_ | refine zb ?_) | ((apply f_fa); first | refine n_fa ?_ | refine zr2 ?_) | ((apply f_ld); first | refine zi4 ?_ | refine zw2 ?_ | refine n_ld ?_) | ((apply f_bi); first | refine zb3 ?_ | refine za3 ?_ | refine zc3 ?_ | refine zb ?_) | ((apply f_st); first | refine n_st ?_ | refine zo2 ?_) | ((apply f_ia); first | refine n_ix ?_ | refine zp2 ?_ | refine zb ?_) | ((apply zd3); first | refine zx ?_ | refine zb ?_) | ((apply zj2); first | refine zr ?_ | refine zi2 ?_ | refine zb ?_) | ((apply f_bb); first | refine zu2 ?_ | refine zv2 ?_ | refine zb ?_) | ((apply f_cv); first | refine zr7 ?_ | refine zb ?_) | refine zb ?_) | ((apply f_w); first | refine zy ?_ | refine zd ?_) | ((apply d_wo); first | ((apply d_mv); refine zm ?_) | ((apply d_as); refine zm ?_) | ((apply d_fa); first | refine o_fa ?_ | refine zd4 ?_) | ((apply d_ld); first | refine zn3 ?_ | refine zc2 ?_ | refine zd2 ?_ | refine zo3 ?_ | refine zm ?_ | refine o_ld ?_) | ((apply d_bi); first | refine zf2 ?_ | refine ze2 ?_ | refine zg2 ?_ | refine zv1 ?_ | refine zv1 (hnu := zj _) ?_ | refine ze1 ?_ | refine ze1 (hnu := zj _) ?_ | refine zm ?_) | ((apply d_st); first | refine o_st ?_ | refine zo4 ?_) | ((apply d_ia); first | refine o_ix ?_ | refine zj3 ?_ | refine zm ?_) | ((apply d_bb); first | refine zb1 ?_ | refine zc1 ?_ | refine zd1 ?_ | refine zm3 ?_ | refine zm ?_) | ((apply d_cv); first | refine zk2 ?_ | refine zf4 ?_ | refine zx4 ?_ | refine zy4 ?_ | refine zm ?_) | refine zm ?_) | ((apply d_w); first | refine zy ?_ | refine zd ?_) | refine za fun C => ?_ | refine zf (by kernel_rfl) (by kernel_rfl) fun C => ?_ | refine zi ?_ | refine ze ?_ | refine zg ?_ | refine zh ?_)
      refine zq ?_; refine ret1 rfl zj4 rfl (by show cloL [AC.ro _ 1 (acL _), AC.v _, AC.v _] = true; simp [cloL, clo, zn]) rfl ⟨?_, ?_⟩
      · rfl
      · rfl
    case hC => exact (show Curs [.ro l.length 1 (acL l), .v (.int .i64 ((i + 1 : Nat) : Int)), .v (.int .i64 _)] from ⟨l, i + 1, _, hl, hlt, hlen, rfl⟩)
    case hx => exact zn12 _
  · refine ⟨?x2, ?c2, ?hC2, ?hx2, zt1 Try.func115 rfl rfl ?hw2⟩
    case hw2 =>
      repeat' (first | ((apply f_wo); first | ((apply f_mv); first | refine zm1 (v := .c _) ?_ | refine zb ?_) | ((apply f_as); first | refine zo1 (v := .c _) ?_ | refine zb ?_) | ((apply f_fa); first | refine n_fa ?_ | refine zr2 ?_) | ((apply f_ld); first | refine zi4 ?_ | refine zw2 ?_ | refine n_ld ?_) | ((apply f_bi); first | refine zb3 ?_ | refine za3 ?_ | refine zc3 ?_ | refine zb ?_) | ((apply f_st); first | refine n_st ?_ | refine zo2 ?_) | ((apply f_ia); first | refine n_ix ?_ | refine zp2 ?_ | refine zb ?_) | ((apply zd3); first | refine zx ?_ | refine zb ?_) | ((apply zj2); first | refine zr ?_ | refine zi2 ?_ | refine zb ?_) | ((apply f_bb); first | refine zu2 ?_ | refine zv2 ?_ | refine zb ?_) | ((apply f_cv); first | refine zr7 ?_ | refine zb ?_) | refine zb ?_) | ((apply f_w); first | refine zy ?_ | refine zd ?_) | ((apply d_wo); first | ((apply d_mv); refine zm ?_) | ((apply d_as); refine zm ?_) | ((apply d_fa); first | refine o_fa ?_ | refine zd4 ?_) | ((apply d_ld); first | refine zn3 ?_ | refine zc2 ?_ | refine zd2 ?_ | refine zo3 ?_ | refine zm ?_ | refine o_ld ?_) | ((apply d_bi); first | refine zf2 ?_ | refine ze2 ?_ | refine zg2 ?_ | refine zv1 ?_ | refine zv1 (hnu := zj _) ?_ | refine ze1 ?_ | refine ze1 (hnu := zj _) ?_ | refine zm ?_) | ((apply d_st); first | refine o_st ?_ | refine zo4 ?_) | ((apply d_ia); first | refine o_ix ?_ | refine zj3 ?_ | refine zm ?_) | ((apply d_bb); first | refine zb1 ?_ | refine zc1 ?_ | refine zd1 ?_ | refine zm3 ?_ | refine zm ?_) | ((apply d_cv); first | refine zk2 ?_ | refine zf4 ?_ | refine zx4 ?_ | refine zy4 ?_ | refine zm ?_) | refine zm ?_) | ((apply d_w); first | refine zy ?_ | refine zd ?_) | refine za fun C => ?_ | refine zf (by kernel_rfl) (by kernel_rfl) fun C => ?_ | refine zi ?_ | refine ze ?_ | refine zg ?_ | refine zh ?_)
      refine zu1 (by rfl) (fun hC => absurd (of_decide_eq_true hC) (by omega)) fun hC => ?_
      repeat' (first | ((apply f_wo); first | ((apply f_mv); first | refine zm1 (v := .c _) ?_ | refine zb ?_) | ((apply f_as); first | refine zo1 (v := .c _) ?_ | refine zb ?_) | ((apply f_fa); first | refine n_fa ?_ | refine zr2 ?_) | ((apply f_ld); first | refine zi4 ?_ | refine zw2 ?_ | refine n_ld ?_) | ((apply f_bi); first | refine zb3 ?_ | refine za3 ?_ | refine zc3 ?_ | refine zb ?_) | ((apply f_st); first | refine n_st ?_ | refine zo2 ?_) | ((apply f_ia); first | refine n_ix ?_ | refine zp2 ?_ | refine zb ?_) | ((apply zd3); first | refine zx ?_ | refine zb ?_) | ((apply zj2); first | refine zr ?_ | refine zi2 ?_ | refine zb ?_) | ((apply f_bb); first | refine zu2 ?_ | refine zv2 ?_ | refine zb ?_) | ((apply f_cv); first | refine zr7 ?_ | refine zb ?_) | refine zb ?_) | ((apply f_w); first | refine zy ?_ | refine zd ?_) | ((apply d_wo); first | ((apply d_mv); refine zm ?_) | ((apply d_as); refine zm ?_) | ((apply d_fa); first | refine o_fa ?_ | refine zd4 ?_) | ((apply d_ld); first | refine zn3 ?_ | refine zc2 ?_ | refine zd2 ?_ | refine zo3 ?_ | refine zm ?_ | refine o_ld ?_) | ((apply d_bi); first | refine zf2 ?_ | refine ze2 ?_ | refine zg2 ?_ | refine zv1 ?_ | refine zv1 (hnu := zj _) ?_ | refine ze1 ?_ | refine ze1 (hnu := zj _) ?_ | refine zm ?_) | ((apply d_st); first | refine o_st ?_ | refine zo4 ?_) | ((apply d_ia); first | refine o_ix ?_ | refine zj3 ?_ | refine zm ?_) | ((apply d_bb); first | refine zb1 ?_ | refine zc1 ?_ | refine zd1 ?_ | refine zm3 ?_ | refine zm ?_) | ((apply d_cv); first | refine zk2 ?_ | refine zf4 ?_ | refine zx4 ?_ | refine zy4 ?_ | refine zm ?_) | refine zm ?_) | ((apply d_w); first | refine zy ?_ | refine zd ?_) | refine za fun C => ?_ | refine zf (by kernel_rfl) (by kernel_rfl) fun C => ?_ | refine zi ?_ | refine ze ?_ | refine zg ?_ | refine zh ?_)
      refine zq ?_; refine ret1 rfl zj4 rfl (by show cloL [AC.ro _ 1 (acL _), AC.v _, AC.v _] = true; simp [cloL, clo, zn]) rfl ⟨?_, ?_⟩
      · rfl
      · rfl
    case hC2 => exact (show Curs [.ro l.length 1 (acL l), .v (.int .i64 (i : Int)), .v (.int .i64 _)] from ⟨l, i, _, hl, hi, hlen, rfl⟩)
    case hx2 => exact zn12 _
section
variable {ops : Array Oper} {Q : Exit → Act → World → Prop} {C : Ctx} {i : Nat} {r : List Nat}
variable {tm : Nat → AV} {hp : Nat → Option Row} {gn L : Nat} {us : List Nat}
theorem zj22 {ty : TypeId} {gd : Option (Nat × Bool)} {ps : String} {af : Array Edge} {t : Nat} {x y : Operand} {U : TypeId} {z1 z2 : Int} {ev : Operand → AV} (hx : ev x = .c (.v (.int .i64 z1))) (hy : ev y = .c (.v (.int .i64 z2))) (h0 : z2 ≠ 0) : EffD Try.prog (⟨some t, .binOp .rem 3 x y U, ty, ps, af, gd⟩ : Oper) ev hp 0 = some (.c (.v (.int .i64 (z1.tmod z2))), .nop) := by
  show nop? (aScal _ _ _) = _
  rw [za5 rfl (by intro q hq; have hq' : q = x ∨ q = y := (by have h2 : q ∈ [x, y] := Array.mem_toList_iff.2 hq; simpa using h2); rcases hq' with rfl | rfl <;> first | (rw [hx]; rfl) | (rw [hy]; rfl))]
  unfold execOp
  dsimp only
  rw [hx, hy]
  have hd : Op.intDiv .rem .i64 z1 z2 = pure (.int .i64 (z1.tmod z2)) := by unfold Op.intDiv; rw [if_neg h0]
  simp only [AV.val?, AC.val?, Option.getD_some, binOp, ne_eq, not_true_eq_false, if_false, hd]
  rfl
theorem zl21 {ty : TypeId} {gd : Option (Nat × Bool)} {ps : String} {af : Array Edge} {t : Nat} {x y : Operand} {U : TypeId} {z1 z2 : Int} (h0 : z2 ≠ 0) (h : Walk Try.prog ops Q C false [] r ⟨upd tm t (.c (.v (.int .i64 (z1.tmod z2)))), hp, gn, us, L⟩) (ht : Nat.blt t L = true := by exact rfl) (hg : gw ops tm (⟨some t, .binOp .rem 3 x y U, ty, ps, af, gd⟩ : Oper) = some true := by exact rfl) (hx : AS.ev ⟨tm, hp, gn, us, L⟩ x = .c (.v (.int .i64 z1)) := by exact rfl) (hy : AS.ev ⟨tm, hp, gn, us, L⟩ y = .c (.v (.int .i64 z2)) := by exact rfl) : WalkO Try.prog ops Q C false [] i (⟨some t, .binOp .rem 3 x y U, ty, ps, af, gd⟩ : Oper) r ⟨tm, hp, gn, us, L⟩ := zb h ht hg (zj22 hx hy h0)
end
theorem zo12 {x n : Int} (hx : 0 ≤ x) (hn : 0 < n) : ∃ k : Nat, (k : Int) < n ∧ x.tmod n = (k : Int) := by
  refine ⟨(x % n).toNat, ?_, ?_⟩
  · have := Int.emod_nonneg x (show n ≠ 0 by omega); have := Int.emod_lt_of_pos x hn; omega
  · rw [Int.tmod_eq_emod_of_nonneg hx]; have := Int.emod_nonneg x (show n ≠ 0 by omega); omega
theorem za1 {cs : List AC} (h : Curs cs) : cloL cs = true := by
  obtain ⟨l, i, x, -, -, -, rfl⟩ := h
  simp [cloL, clo, zn]
theorem zy2 {cs cs' : List AC} (h : Curs cs) (h' : Curs cs') : cs.length = cs'.length := by
  obtain ⟨l, i, x, -, -, -, rfl⟩ := h
  obtain ⟨l', i', x', -, -, -, rfl⟩ := h'
  rfl
theorem zt4 {cs : List AC} (hc : Curs cs) (n : Int) (hn : 0 < n) : ∃ (k : Nat) (cs' : List AC), Curs cs' ∧ (k : Int) < n ∧ Ctr Try.prog 82 [.c (.pt 0 0), .c (.v (.int .i64 n))] [cs] (.c (.v (.int .i64 (k : Int)))) [cs'] := by
  have cc := za1 hc
  obtain ⟨x, cs1, h1, hx, c1⟩ := zr9 hc
  have cc1 := za1 h1
  by_cases hs : n ≤ 256
  · obtain ⟨k, hk, ek⟩ := zo12 hx.1 hn
    refine ⟨k, cs1, h1, hk, zt1 Try.func82 rfl rfl ?_⟩
    repeat' (first | ((apply f_wo); first | ((apply f_mv); first | refine zm1 (v := .c _) ?_ | refine zb ?_) | ((apply f_as); first | refine zo1 (v := .c _) ?_ | refine zb ?_) | ((apply zp6); first | refine zk3 ?_ | refine zb ?_) | ((apply zj2); first | refine zr ?_ | refine zi2 ?_ | refine zb ?_) | ((apply f_bb); first | refine zu2 ?_ | refine zv2 ?_ | refine zb ?_) | refine zb ?_) | ((apply f_w); first | refine zy ?_ | refine zd ?_) | refine za fun C => ?_ | refine zi ?_ | refine ze ?_ | refine zg ?_ | refine zh ?_)
    refine zu1 (by rfl) (fun hC => absurd (of_decide_eq_true hC) (by omega)) fun hC => ?_
    repeat' (first | ((apply f_wo); first | ((apply f_mv); first | refine zm1 (v := .c _) ?_ | refine zb ?_) | ((apply f_as); first | refine zo1 (v := .c _) ?_ | refine zb ?_) | ((apply zp6); first | refine zk3 ?_ | refine zb ?_) | ((apply zj2); first | refine zr ?_ | refine zi2 ?_ | refine zb ?_) | ((apply f_bb); first | refine zu2 ?_ | refine zv2 ?_ | refine zb ?_) | refine zb ?_) | ((apply f_w); first | refine zy ?_ | refine zd ?_) | refine za fun C => ?_ | refine zi ?_ | refine ze ?_ | refine zg ?_ | refine zh ?_)
    refine zu1 (by rfl) (fun hC => ?_) fun hC => absurd (of_decide_eq_false hC) (by omega)
    repeat' (first | ((apply f_wo); first | ((apply f_mv); first | refine zm1 (v := .c _) ?_ | refine zb ?_) | ((apply f_as); first | refine zo1 (v := .c _) ?_ | refine zb ?_) | ((apply f_ca); first | refine zg3 0 (c1) ?_ (hl := zw1 (by rfl) cc)) | ((apply zp6); first | refine zk3 ?_ | refine zb ?_) | ((apply zj2); first | refine zr ?_ | refine zi2 ?_ | refine zb ?_) | ((apply f_bb); first | refine zu2 ?_ | refine zv2 ?_ | refine zb ?_) | refine zb ?_) | ((apply f_w); first | refine zy ?_ | refine zd ?_) | refine za fun C => ?_ | refine zi ?_ | refine ze ?_ | refine zg ?_ | refine zh ?_)
    refine zl21 (z2 := n) (by omega) ?_
    rw [ek]
    repeat' (first | ((apply f_wo); first | ((apply f_mv); first | refine zm1 (v := .c _) ?_ | refine zb ?_) | ((apply f_as); first | refine zo1 (v := .c _) ?_ | refine zb ?_) | ((apply zp6); first | refine zk3 ?_ | refine zb ?_) | ((apply zj2); first | refine zr ?_ | refine zi2 ?_ | refine zb ?_) | ((apply f_bb); first | refine zu2 ?_ | refine zv2 ?_ | refine zb ?_) | refine zb ?_) | ((apply f_w); first | refine zy ?_ | refine zd ?_) | refine za fun C => ?_ | refine zi ?_ | refine ze ?_ | refine zg ?_ | refine zh ?_)
    refine zq ?_
    exact ret1 rfl zj4 rfl cc1 (zy2 h1 hc) ⟨rfl, rfl⟩
  · obtain ⟨y, cs2, h2, hy, c2⟩ := zr9 h1
    obtain ⟨z, cs3, h3, hz, c3⟩ := zr9 h2
    have cc2 := za1 h2
    have cc3 := za1 h3
    obtain ⟨k, hk, ek⟩ := zo12 (x := x * 65536 + y * 256 + z) (by omega) hn
    refine ⟨k, cs3, h3, hk, zt1 Try.func82 rfl rfl ?_⟩
    repeat' (first | ((apply f_wo); first | ((apply f_mv); first | refine zm1 (v := .c _) ?_ | refine zb ?_) | ((apply f_as); first | refine zo1 (v := .c _) ?_ | refine zb ?_) | ((apply zp6); first | refine zk3 ?_ | refine zb ?_) | ((apply zj2); first | refine zr ?_ | refine zi2 ?_ | refine zb ?_) | ((apply f_bb); first | refine zu2 ?_ | refine zv2 ?_ | refine zb ?_) | refine zb ?_) | ((apply f_w); first | refine zy ?_ | refine zd ?_) | refine za fun C => ?_ | refine zi ?_ | refine ze ?_ | refine zg ?_ | refine zh ?_)
    refine zu1 (by rfl) (fun hC => absurd (of_decide_eq_true hC) (by omega)) fun hC => ?_
    repeat' (first | ((apply f_wo); first | ((apply f_mv); first | refine zm1 (v := .c _) ?_ | refine zb ?_) | ((apply f_as); first | refine zo1 (v := .c _) ?_ | refine zb ?_) | ((apply zp6); first | refine zk3 ?_ | refine zb ?_) | ((apply zj2); first | refine zr ?_ | refine zi2 ?_ | refine zb ?_) | ((apply f_bb); first | refine zu2 ?_ | refine zv2 ?_ | refine zb ?_) | refine zb ?_) | ((apply f_w); first | refine zy ?_ | refine zd ?_) | refine za fun C => ?_ | refine zi ?_ | refine ze ?_ | refine zg ?_ | refine zh ?_)
    refine zu1 (by rfl) (fun hC => absurd (of_decide_eq_true hC) (by omega)) fun hC => ?_
    repeat' (first | ((apply f_wo); first | ((apply f_mv); first | refine zm1 (v := .c _) ?_ | refine zb ?_) | ((apply f_as); first | refine zo1 (v := .c _) ?_ | refine zb ?_) | ((apply f_ca); first | refine zg3 0 (c1) ?_ (hl := zw1 (by rfl) cc) | refine zg3 0 (c2) ?_ (hl := zw1 (by rfl) cc1) | refine zg3 0 (c3) ?_ (hl := zw1 (by rfl) cc2)) | ((apply zp6); first | refine zk3 ?_ | refine zb ?_) | ((apply zj2); first | refine zr ?_ | refine zi2 ?_ | refine zb ?_) | ((apply f_bb); first | refine zu2 ?_ | refine zv2 ?_ | refine zb ?_) | refine zb ?_) | ((apply f_w); first | refine zy ?_ | refine zd ?_) | refine za fun C => ?_ | refine zi ?_ | refine ze ?_ | refine zg ?_ | refine zh ?_)
    refine zl21 (z2 := n) (by omega) ?_
    rw [ek]
    repeat' (first | ((apply f_wo); first | ((apply f_mv); first | refine zm1 (v := .c _) ?_ | refine zb ?_) | ((apply f_as); first | refine zo1 (v := .c _) ?_ | refine zb ?_) | ((apply zp6); first | refine zk3 ?_ | refine zb ?_) | ((apply zj2); first | refine zr ?_ | refine zi2 ?_ | refine zb ?_) | ((apply f_bb); first | refine zu2 ?_ | refine zv2 ?_ | refine zb ?_) | refine zb ?_) | ((apply f_w); first | refine zy ?_ | refine zd ?_) | refine za fun C => ?_ | refine zi ?_ | refine ze ?_ | refine zg ?_ | refine zh ?_)
    refine zq ?_
    exact ret1 rfl zj4 rfl cc3 (zy2 h3 hc) ⟨rfl, rfl⟩
def intL (ns : List Int) : List E := ns.map fun n => .int .i64 n
def strL (ns : List ByteArray) : List E := ns.map fun n => .str n
theorem zv17 {ns : List Int} : ∀ e ∈ intL ns, e.enc.length = 1 := fun e he => by obtain ⟨x, -, rfl⟩ := List.mem_map.1 he; rfl
theorem zw17 {ns : List ByteArray} : ∀ e ∈ strL ns, e.enc.length = 1 := fun e he => by obtain ⟨x, -, rfl⟩ := List.mem_map.1 he; rfl
theorem zp12 {ns : List Int} : (intL ns).length = ns.length := by simp [intL]
theorem zq12 {ns : List ByteArray} : (strL ns).length = ns.length := by simp [strL]
theorem zh16 {cs : List AC} (hc : Curs cs) (ns : List Int) (hn : 0 < ns.length) : ∃ (z : Int) (cs' : List AC), Curs cs' ∧ z ∈ ns ∧ Ctr Try.prog 90 [.c (.pt 0 0), .c (.ro (intL ns).length 1 (acL (intL ns)))] [cs] (.c (.v (.int .i64 z))) [cs'] := by
  have cc := za1 hc
  obtain ⟨k, cs1, h1, hk, c1⟩ := zt4 hc ((intL ns).length : Nat) (by rw [zp12]; omega)
  have cc1 := za1 h1
  have hk' : k < ns.length := by rw [zp12] at hk; omega
  have henc := zv17 (ns := ns)
  obtain ⟨z, hz⟩ : ∃ z, ns[k]? = some z := ⟨_, List.getElem?_eq_getElem hk'⟩
  have he : (intL ns)[k]? = some (.int .i64 z) := by unfold intL; rw [List.getElem?_map, hz]; rfl
  refine ⟨z, cs1, h1, List.mem_of_getElem? hz, zt1 Try.func90 rfl rfl ?_⟩
  repeat' (first | ((apply f_wo); first | ((apply f_mv); first | refine zm1 (v := .c _) ?_ | refine zb ?_) | ((apply f_as); first | refine zo1 (v := .c _) ?_ | refine zb ?_) | ((apply f_ld); first | refine zi4 ?_ | refine zw2 ?_ | refine n_ld ?_) | ((apply f_ca); first | refine zg3 0 (c1) ?_ (hl := zw1 (by rfl) cc)) | ((apply f_bi); first | refine zb3 ?_ | refine za3 ?_ | refine zc3 ?_ | refine zb ?_) | ((apply f_ia); first | refine n_ix ?_ | refine zp2 ?_ | refine zb ?_) | refine zb ?_) | ((apply f_w); first | refine zy ?_ | refine zd ?_) | refine za fun C => ?_ | refine zi ?_ | refine ze ?_ | refine zg ?_ | refine zh ?_)
  refine zq ?_
  exact ret1 rfl zj4 rfl cc1 (zy2 h1 hc) ⟨rfl, rfl⟩
theorem zg7 {cs : List AC} (hc : Curs cs) (ns : List ByteArray) (hn : 0 < ns.length) : ∃ (z : ByteArray) (cs' : List AC), Curs cs' ∧ z ∈ ns ∧ Ctr Try.prog 38 [.c (.pt 0 0), .c (.ro (strL ns).length 1 (acL (strL ns)))] [cs] (.c (.v (.string z))) [cs'] := by
  have cc := za1 hc
  obtain ⟨k, cs1, h1, hk, c1⟩ := zt4 hc ((strL ns).length : Nat) (by rw [zq12]; omega)
  have cc1 := za1 h1
  have hk' : k < ns.length := by rw [zq12] at hk; omega
  have henc := zw17 (ns := ns)
  obtain ⟨z, hz⟩ : ∃ z, ns[k]? = some z := ⟨_, List.getElem?_eq_getElem hk'⟩
  have he : (strL ns)[k]? = some (.str z) := by unfold strL; rw [List.getElem?_map, hz]; rfl
  refine ⟨z, cs1, h1, List.mem_of_getElem? hz, zt1 Try.func38 rfl rfl ?_⟩
  repeat' (first | ((apply f_wo); first | ((apply f_mv); first | refine zm1 (v := .c _) ?_ | refine zb ?_) | ((apply f_as); first | refine zo1 (v := .c _) ?_ | refine zb ?_) | ((apply f_ld); first | refine zi4 ?_ | refine zw2 ?_ | refine n_ld ?_) | ((apply f_ca); first | refine zg3 0 (c1) ?_ (hl := zw1 (by rfl) cc)) | ((apply f_bi); first | refine zb3 ?_ | refine za3 ?_ | refine zc3 ?_ | refine zb ?_) | ((apply f_ia); first | refine n_ix ?_ | refine zp2 ?_ | refine zb ?_) | refine zb ?_) | ((apply f_w); first | refine zy ?_ | refine zd ?_) | refine za fun C => ?_ | refine zi ?_ | refine ze ?_ | refine zg ?_ | refine zh ?_)
  refine zq ?_
  exact ret1 rfl zj4 rfl cc1 (zy2 h1 hc) ⟨rfl, rfl⟩
end Go.Proofs.Ytghljnfbbaklnaa
