/- The machine: blocks given over to those that stand; the conversion of a literal's row of bytes, by which it stands from then on. -/
import Derived.StillTailTactics
import Derived.Test.YtfemkmnkofgaaaaDoorInsJ
namespace Go.Proofs.YtfemkmnkofgaaaaDoor
open Go.RowKit
set_option maxRecDepth 100000
section
variable {C : Ctx} {φ : Nat → Lc} {F : Nat → List Nat} {St : Nat → Prop} {σ : AS} {a : Act} {w w' : World}
end
section
variable {P : Program} {ops : Array Oper} {Q : Exit → Act → World → Prop} {C : Ctx} {i : Nat} {r : List Nat} {o : Oper}
variable {tm : Nat → AV} {hp : Nat → Option Row} {gn L : Nat} {us : List Nat} {x : AV}
end
section
variable {ops : Array Oper} {Q : Exit → Act → World → Prop} {C : Ctx} {H : List (Nat × Oper × Inf)} {i : Nat} {r : List Nat} {dr : Bool}
variable {tm : Nat → AV} {hp : Nat → Option Row} {gn L : Nat} {us : List Nat}
theorem zb21 {ty : TypeId} {gd : Option (Nat × Bool)} {cas : Array Operand} {cts : Array TypeId} {ps : String} {af : Array Edge} {t : Nat} {fv : Operand} {f : FuncId} {caps : List AC} {args ins : List AV} {par : List AC} {rows : List (List AC)} {res : AV} {nv : AV} {nr : List (Nat × Row)} (lr : Nat) (Z : List Nat) (hctr : Ctr Tryd.prog f ins [par] res rows)
    (h : Walk Tryd.prog ops Q C dr (keepH dr (i, (⟨some t, .call ⟨.value fv, cas, cts⟩, ty, ps, af, gd⟩ : Oper), callInf ⟨tm, hp, gn, us, L⟩ (args.flatMap snV) [lr] Z (100 * (t + 1)) res rows) H) r ⟨upd tm t nv, updL hp (backU hp [lr] rows ++ (Z.map fun z => (z, none)) ++ nr.map (fun p => (p.1, some p.2))), gn, nr.map (·.1) ++ us, L⟩)
    (ht : Nat.blt t L = true := by exact rfl) (hg : gw ops tm (⟨some t, .call ⟨.value fv, cas, cts⟩, ty, ps, af, gd⟩ : Oper) = some true := by exact rfl) (hfv : AS.ev ⟨tm, hp, gn, us, L⟩ fv = .c (.fn f caps) := by exact rfl) (hargs : callArgs ⟨tm, hp, gn, us, L⟩ ⟨.value fv, cas, cts⟩ caps = args := by exact rfl) (hcv : args.map (cvV hp [lr]) = ins := by ((repeat' (first | rfl | exact zq3 | refine zu2 ?_ ?_ | refine ze6 ?_ | refine cv_c ?_ | refine zv2 ?_ ?_ | (refine zn4 ?_; (first | rfl | (simp [cloV, cloL, clo, zo, zl, zp, zn, zi]; done))) | (refine zo4 ?_; (first | rfl | (simp [cloV, cloL, clo, zo, zl, zp, zn, zi]; done))) | refine zp4 ?_ | (refine cvC_sl' (by rfl) (by rfl) (by rfl) (by rfl) ?_ ?_; (focus (first | rfl | (simp [cloV, cloL, clo, zo, zl, zp, zn, zi]; done))); (first | rfl | exact zb2 _)))) <;> exact rfl)) (hl : lend hp [lr] = some [par] := by exact zm1 (by rfl) (by first | rfl | (simp [cloV, cloL, clo, zo, zl, zp, zn, zi]; done)))
    (hRD : ((args.flatMap snV).all fun z => ![lr].contains z) = true := by exact rfl) (hZD : (Z.all fun z => ![lr].contains z) = true := by exact rfl) (hmm : ((args.flatMap snV).all fun z => Z.contains z) = true := by exact rfl) (hopn : opV (100 * (t + 1)) res = (nv, nr) := by exact rfl) (hf : (nr.all fun p => Nat.ble gn p.1 && !us.contains p.1) = true := by exact rfl)
    (hc : chk dr ops i (⟨some t, .call ⟨.value fv, cas, cts⟩, ty, ps, af, gd⟩ : Oper) (callInf ⟨tm, hp, gn, us, L⟩ (args.flatMap snV) [lr] Z (100 * (t + 1)) res rows) H = true := by first | (with_reducible exact zq) | kernel_rfl) : WalkO Tryd.prog ops Q C dr H i (⟨some t, .call ⟨.value fv, cas, cts⟩, ty, ps, af, gd⟩ : Oper) r ⟨tm, hp, gn, us, L⟩ :=
  ⟨fun hop => zj12 (100 * (t + 1)) [lr] Z hop rfl rfl rfl ht hg hfv hargs hl (by rw [hcv]; exact hctr) hRD hZD (.inr hmm) hopn hf hc h⟩
theorem zw17 {ty : TypeId} {gd : Option (Nat × Bool)} {cas : Array Operand} {cts : Array TypeId} {ps : String} {af : Array Edge} {t : Nat} {fv : Operand} {f : FuncId} {caps : List AC} {args ins : List AV} {par : List AC} {rows : List (List AC)} {res : AV} {nv : AV} {nr : List (Nat × Row)} (lr : Nat) (Z : List Nat) (hctr : Ctr Tryd.prog f ins [par] res rows)
    (h : Walk Tryd.prog ops Q C false [] r ⟨upd tm t nv, updL hp (backU hp [lr] rows ++ (Z.map fun z => (z, none)) ++ nr.map (fun p => (p.1, some p.2))), gn, nr.map (·.1) ++ us, L⟩)
    (ht : Nat.blt t L = true := by exact rfl) (hg : gw ops tm (⟨some t, .call ⟨.value fv, cas, cts⟩, ty, ps, af, gd⟩ : Oper) = some true := by exact rfl) (hfv : AS.ev ⟨tm, hp, gn, us, L⟩ fv = .c (.fn f caps) := by exact rfl) (hargs : callArgs ⟨tm, hp, gn, us, L⟩ ⟨.value fv, cas, cts⟩ caps = args := by exact rfl) (hcv : args.map (cvV hp [lr]) = ins := by ((repeat' (first | rfl | exact zq3 | refine zu2 ?_ ?_ | refine ze6 ?_ | refine cv_c ?_ | refine zv2 ?_ ?_ | (refine zn4 ?_; (first | rfl | (simp [cloV, cloL, clo, zo, zl, zp, zn, zi]; done))) | (refine zo4 ?_; (first | rfl | (simp [cloV, cloL, clo, zo, zl, zp, zn, zi]; done))) | refine zp4 ?_ | (refine cvC_sl' (by rfl) (by rfl) (by rfl) (by rfl) ?_ ?_; (focus (first | rfl | (simp [cloV, cloL, clo, zo, zl, zp, zn, zi]; done))); (first | rfl | exact zb2 _)))) <;> exact rfl)) (hl : lend hp [lr] = some [par] := by exact zm1 (by rfl) (by first | rfl | (simp [cloV, cloL, clo, zo, zl, zp, zn, zi]; done)))
    (hRD : ((args.flatMap snV).all fun z => ![lr].contains z) = true := by exact rfl) (hZD : (Z.all fun z => ![lr].contains z) = true := by exact rfl) (hmm : ((args.flatMap snV).all fun z => Z.contains z) = true := by exact rfl) (hopn : opV (100 * (t + 1)) res = (nv, nr) := by exact rfl) (hf : (nr.all fun p => Nat.ble gn p.1 && !us.contains p.1) = true := by exact rfl) : WalkO Tryd.prog ops Q C false [] i (⟨some t, .call ⟨.value fv, cas, cts⟩, ty, ps, af, gd⟩ : Oper) r ⟨tm, hp, gn, us, L⟩ :=
  zb21 (dr := false) (H := []) (lr := lr) (Z := Z) (hctr := hctr) (h := h) (ht := ht) (hg := hg) (hfv := hfv) (hargs := hargs) (hcv := hcv) (hl := hl) (hRD := hRD) (hZD := hZD) (hmm := hmm) (hopn := hopn) (hf := hf)
theorem ze2 {ty : TypeId} {gd : Option (Nat × Bool)} {ps : String} {af : Array Edge} {t : Nat} {y : Operand} (x : AV) (h : Walk Tryd.prog ops Q C dr (keepH dr (i, (⟨some t, .move y, ty, ps, af, gd⟩ : Oper), ⟨[], [], [], x⟩) H) r ⟨upd tm t x, hp, gn, us, L⟩)
    (ht : Nat.blt t L = true := by exact rfl) (hg : gw ops tm (⟨some t, .move y, ty, ps, af, gd⟩ : Oper) = some true := by exact rfl) (hx : AS.ev ⟨tm, hp, gn, us, L⟩ y = x := by exact rfl)
    (hc : chk dr ops i (⟨some t, .move y, ty, ps, af, gd⟩ : Oper) ⟨[], [], [], x⟩ H = true := by first | (with_reducible exact zq) | kernel_rfl) : WalkO Tryd.prog ops Q C dr H i (⟨some t, .move y, ty, ps, af, gd⟩ : Oper) r ⟨tm, hp, gn, us, L⟩ := ⟨fun hop => by
  refine ⟨_, ⟨[], [], [], x⟩, hop, ?_, fun n hn => absurd hn List.not_mem_nil, zv3 hc, za2 ?_⟩
  · intro τ a w ha hsim K hK
    obtain ⟨φ, F, St, hsim⟩ := hsim
    have e1 : τ.ev y = x := by rw [ha.ev y (by show y ∈ #[y]; simp)]; exact hx
    have v1 := hsim.ev y
    rw [e1] at v1
    unfold wpOp
    rw [hop]
    have hw := zt11 hsim (b := true) (by rw [ha.gw]; exact hg)
    simp only [hw, if_true]
    refine .inl ?_
    unfold Oper.wp
    have hrun : (execOp a.eval (⟨some t, .move y, ty, ps, af, gd⟩ : Oper)).run Tryd.prog w = .ok (.value (a.eval y)) w := by simp [execOp]
    rw [hrun]
    exact hK _ _ ⟨φ, F, St, hsim.put (some t) v1⟩
  · show Walk Tryd.prog ops Q C dr _ r (AS.put _ (some t) _)
    rw [ze4 (by exact za4 ht)]; exact h⟩
theorem zf2 {ty : TypeId} {gd : Option (Nat × Bool)} {ps : String} {af : Array Edge} {t : Nat} {y : Operand} (v : AV) (h : Walk Tryd.prog ops Q C dr (keepH dr (i, (⟨some t, .assign y, ty, ps, af, gd⟩ : Oper), ⟨fpO (AS.ev ⟨tm, hp, gn, us, L⟩) (⟨some t, .assign y, ty, ps, af, gd⟩ : Oper), [], [], v⟩) H) r ⟨upd tm t v, hp, gn, us, L⟩)
    (ht : Nat.blt t L = true := by exact rfl) (hg : gw ops tm (⟨some t, .assign y, ty, ps, af, gd⟩ : Oper) = some true := by exact rfl) (hy : AS.ev ⟨tm, hp, gn, us, L⟩ y = v := by exact rfl)
    (hc : chk dr ops i (⟨some t, .assign y, ty, ps, af, gd⟩ : Oper) ⟨fpO (AS.ev ⟨tm, hp, gn, us, L⟩) (⟨some t, .assign y, ty, ps, af, gd⟩ : Oper), [], [], v⟩ H = true := by first | (with_reducible exact zq) | kernel_rfl) : WalkO Tryd.prog ops Q C dr H i (⟨some t, .assign y, ty, ps, af, gd⟩ : Oper) r ⟨tm, hp, gn, us, L⟩ := zk (x := v) h ht hg (congrArg (fun z => some (z, Dl.nop)) hy) hc
theorem zk4 {ty : TypeId} {gd : Option (Nat × Bool)} {ps : String} {af : Array Edge} {t : Nat} {c a b : Operand} (v : AV) (h : Walk Tryd.prog ops Q C dr (keepH dr (i, (⟨some t, .pick c a b, ty, ps, af, gd⟩ : Oper), ⟨fpO (AS.ev ⟨tm, hp, gn, us, L⟩) (⟨some t, .pick c a b, ty, ps, af, gd⟩ : Oper), [], [], v⟩) H) r ⟨upd tm t v, hp, gn, us, L⟩)
    (ht : Nat.blt t L = true := by exact rfl) (hg : gw ops tm (⟨some t, .pick c a b, ty, ps, af, gd⟩ : Oper) = some true := by exact rfl) (hy : aPick (AS.ev ⟨tm, hp, gn, us, L⟩ c) (AS.ev ⟨tm, hp, gn, us, L⟩ a) (AS.ev ⟨tm, hp, gn, us, L⟩ b) = some v := by exact rfl)
    (hc : chk dr ops i (⟨some t, .pick c a b, ty, ps, af, gd⟩ : Oper) ⟨fpO (AS.ev ⟨tm, hp, gn, us, L⟩) (⟨some t, .pick c a b, ty, ps, af, gd⟩ : Oper), [], [], v⟩ H = true := by first | (with_reducible exact zq) | kernel_rfl) : WalkO Tryd.prog ops Q C dr H i (⟨some t, .pick c a b, ty, ps, af, gd⟩ : Oper) r ⟨tm, hp, gn, us, L⟩ := zk (x := v) h ht hg (congrArg nop? hy) hc
end
def Byt (l : List E) : Prop := ∀ e ∈ l, ∃ x : Nat, x < 256 ∧ e = .int .u8 (x : Int)
theorem Byt.enc {l : List E} (h : Byt l) : ∀ e ∈ l, e.enc.length = 1 := fun e he => by obtain ⟨x, -, rfl⟩ := h e he; rfl
def Curs (cs : List AC) : Prop := ∃ (l : List E) (i : Nat) (h : Int), Byt l ∧ i ≤ l.length ∧ l.length ≤ 1048576 ∧ cs = [.ro l.length 1 (acL l), .v (.int .i64 (i : Int)), .v (.int .i64 h)]
theorem ze20 (n : Int) : bits .and .i64 n 255 = n % 256 := by
  have h1 : (BitVec.ofInt 64 n).toNat = (n % 18446744073709551616).toNat := by rw [BitVec.toNat_ofInt]; rfl
  have h2 : (BitVec.ofInt 64 255).toNat = 2 ^ 8 - 1 := by rfl
  show IntKind.i64.wrap ((BitVec.ofInt 64 n &&& BitVec.ofInt 64 255).toNat : Int) = _
  rw [BitVec.toNat_and, h1, h2, Nat.and_two_pow_sub_one_eq_mod, IntKind.wrap_i64]
  omega
theorem zt12 (n : Int) : 0 ≤ bits .and .i64 n 255 ∧ bits .and .i64 n 255 < 256 := by rw [ze20]; omega
theorem zj7 {cs : List AC} (hc : Curs cs) : ∃ (x : Int) (cs' : List AC), Curs cs' ∧ (0 ≤ x ∧ x < 256) ∧ Ctr Tryd.prog 129 [.c (.pt 0 0)] [cs] (.c (.v (.int .i64 x))) [cs'] := by
  obtain ⟨l, i, h, hl, hi, hlen, rfl⟩ := hc
  by_cases hlt : i < l.length
  · obtain ⟨e, he⟩ : ∃ e, l[i]? = some e := ⟨_, List.getElem?_eq_getElem hlt⟩
    obtain ⟨b, hb, rfl⟩ := hl e (List.mem_of_getElem? he)
    have hk := hl.enc
    refine ⟨?x, ?c, ?hC, ?hx, zh1 Tryd.func129 rfl rfl ?hw⟩
    case hw =>
      repeat' (first | ((apply f_wo); first | ((apply f_mv); first | refine zx (v := .c _) ?_ | refine za ?_) | ((apply f_as); first | refine zg1 (v := .c _) ?_ | refine za ?_) | ((apply f_fa); first | refine n_fa ?_ | refine zo3 ?_) | ((apply f_ld); first | refine zj3 ?_ | refine zs1 ?_ | refine n_ld ?_) | ((apply f_bi); first | refine za3 ?_ | refine zz2 ?_ | refine zb3 ?_ | refine za ?_) | ((apply f_st); first | refine n_st ?_ | refine zs2 ?_) | ((apply f_ia); first | refine n_ix ?_ | refine zt5 ?_ | refine za ?_) | ((apply za5); first | refine zj1 ?_ | refine za ?_) | ((apply zd2); first | refine zm ?_ | refine zc2 ?_ | refine za ?_) | ((apply f_bb); first | refine zo1 ?_ | refine zp1 ?_ | refine za ?_) | ((apply f_cv); first | refine zf4 ?_ | refine za ?_) | refine za ?_) | ((apply f_w); first | refine zw ?_ | refine zc ?_) | ((apply d_wo); first | ((apply d_mv); refine zk ?_) | ((apply d_as); refine zk ?_) | ((apply d_fa); first | refine o_fa ?_ | refine zu8 ?_) | ((apply d_ld); first | refine zr4 ?_ | refine ze3 ?_ | refine zf3 ?_ | refine zs4 ?_ | refine zk ?_ | refine o_ld ?_) | ((apply d_bi); first | refine zh3 ?_ | refine zg3 ?_ | refine zi3 ?_ | refine zl2 ?_ | refine zl2 (hnu := ze _) ?_ | refine zi1 ?_ | refine zi1 (hnu := ze _) ?_ | refine zk ?_) | ((apply d_st); first | refine o_st ?_ | refine zx5 ?_) | ((apply d_ia); first | refine o_ix ?_ | refine zs5 ?_ | refine zk ?_) | ((apply d_bb); first | refine zc1 ?_ | refine zd1 ?_ | refine ze1 ?_ | refine zq4 ?_ | refine zk ?_) | ((apply d_cv); first | refine zz3 ?_ | refine zv5 ?_ | refine zs8 ?_ | refine zt8 ?_ | refine zk ?_) | refine zk ?_) | ((apply d_w); first | refine zw ?_ | refine zc ?_) | refine zb fun C => ?_ | refine zj (by kernel_rfl) (by kernel_rfl) fun C => ?_ | refine zh ?_ | refine zd ?_ | refine zf ?_ | refine zg ?_)
      refine zy (by rfl) (fun hC => ?_) fun hC => absurd (of_decide_eq_false hC) (by omega)
      repeat' (first | ((apply f_wo); first | ((apply f_mv); first | refine zx (v := .c _) ?_ | refine za ?_) | ((apply f_as); first | refine zg1 (v := .c _) ?_ | refine za ?_) | ((apply f_fa); first | refine n_fa ?_ | refine zo3 ?_) | ((apply f_ld); first | refine zj3 ?_ | refine zs1 ?_ | refine n_ld ?_) | ((apply f_bi); first | refine za3 ?_ | refine zz2 ?_ | refine zb3 ?_ | refine za ?_) | ((apply f_st); first | refine n_st ?_ | refine zs2 ?_) | ((apply f_ia); first | refine n_ix ?_ | refine zt5 ?_ | refine za ?_) | ((apply za5); first | refine zj1 ?_ | refine za ?_) | ((apply zd2); first | refine zm ?_ | refine zc2 ?_ | refine za ?_) | ((apply f_bb); first | refine zo1 ?_ | refine zp1 ?_ | refine za ?_) | ((apply f_cv); first | refine zf4 ?_ | refine za ?_) | refine za ?_) | ((apply f_w); first | refine zw ?_ | refine zc ?_) | ((apply d_wo); first | ((apply d_mv); refine zk ?_) | ((apply d_as); refine zk ?_) | ((apply d_fa); first | refine o_fa ?_ | refine zu8 ?_) | ((apply d_ld); first | refine zr4 ?_ | refine ze3 ?_ | refine zf3 ?_ | refine zs4 ?_ | refine zk ?_ | refine o_ld ?_) | ((apply d_bi); first | refine zh3 ?_ | refine zg3 ?_ | refine zi3 ?_ | refine zl2 ?_ | refine zl2 (hnu := ze _) ?_ | refine zi1 ?_ | refine zi1 (hnu := ze _) ?_ | refine zk ?_) | ((apply d_st); first | refine o_st ?_ | refine zx5 ?_) | ((apply d_ia); first | refine o_ix ?_ | refine zs5 ?_ | refine zk ?_) | ((apply d_bb); first | refine zc1 ?_ | refine zd1 ?_ | refine ze1 ?_ | refine zq4 ?_ | refine zk ?_) | ((apply d_cv); first | refine zz3 ?_ | refine zv5 ?_ | refine zs8 ?_ | refine zt8 ?_ | refine zk ?_) | refine zk ?_) | ((apply d_w); first | refine zw ?_ | refine zc ?_) | refine zb fun C => ?_ | refine zj (by kernel_rfl) (by kernel_rfl) fun C => ?_ | refine zh ?_ | refine zd ?_ | refine zf ?_ | refine zg ?_)
      refine zv ?_; refine ret1 rfl zs3 rfl (by show cloL [AC.ro _ 1 (acL _), AC.v _, AC.v _] = true; simp [cloL, clo, zl]) rfl ⟨?_, ?_⟩
      · rfl
      · rfl
    case hC => exact (show Curs [.ro l.length 1 (acL l), .v (.int .i64 ((i + 1 : Nat) : Int)), .v (.int .i64 _)] from ⟨l, i + 1, _, hl, hlt, hlen, rfl⟩)
    case hx => exact zt12 _
  · refine ⟨?x2, ?c2, ?hC2, ?hx2, zh1 Tryd.func129 rfl rfl ?hw2⟩
    case hw2 =>
      repeat' (first | ((apply f_wo); first | ((apply f_mv); first | refine zx (v := .c _) ?_ | refine za ?_) | ((apply f_as); first | refine zg1 (v := .c _) ?_ | refine za ?_) | ((apply f_fa); first | refine n_fa ?_ | refine zo3 ?_) | ((apply f_ld); first | refine zj3 ?_ | refine zs1 ?_ | refine n_ld ?_) | ((apply f_bi); first | refine za3 ?_ | refine zz2 ?_ | refine zb3 ?_ | refine za ?_) | ((apply f_st); first | refine n_st ?_ | refine zs2 ?_) | ((apply f_ia); first | refine n_ix ?_ | refine zt5 ?_ | refine za ?_) | ((apply za5); first | refine zj1 ?_ | refine za ?_) | ((apply zd2); first | refine zm ?_ | refine zc2 ?_ | refine za ?_) | ((apply f_bb); first | refine zo1 ?_ | refine zp1 ?_ | refine za ?_) | ((apply f_cv); first | refine zf4 ?_ | refine za ?_) | refine za ?_) | ((apply f_w); first | refine zw ?_ | refine zc ?_) | ((apply d_wo); first | ((apply d_mv); refine zk ?_) | ((apply d_as); refine zk ?_) | ((apply d_fa); first | refine o_fa ?_ | refine zu8 ?_) | ((apply d_ld); first | refine zr4 ?_ | refine ze3 ?_ | refine zf3 ?_ | refine zs4 ?_ | refine zk ?_ | refine o_ld ?_) | ((apply d_bi); first | refine zh3 ?_ | refine zg3 ?_ | refine zi3 ?_ | refine zl2 ?_ | refine zl2 (hnu := ze _) ?_ | refine zi1 ?_ | refine zi1 (hnu := ze _) ?_ | refine zk ?_) | ((apply d_st); first | refine o_st ?_ | refine zx5 ?_) | ((apply d_ia); first | refine o_ix ?_ | refine zs5 ?_ | refine zk ?_) | ((apply d_bb); first | refine zc1 ?_ | refine zd1 ?_ | refine ze1 ?_ | refine zq4 ?_ | refine zk ?_) | ((apply d_cv); first | refine zz3 ?_ | refine zv5 ?_ | refine zs8 ?_ | refine zt8 ?_ | refine zk ?_) | refine zk ?_) | ((apply d_w); first | refine zw ?_ | refine zc ?_) | refine zb fun C => ?_ | refine zj (by kernel_rfl) (by kernel_rfl) fun C => ?_ | refine zh ?_ | refine zd ?_ | refine zf ?_ | refine zg ?_)
      refine zy (by rfl) (fun hC => absurd (of_decide_eq_true hC) (by omega)) fun hC => ?_
      repeat' (first | ((apply f_wo); first | ((apply f_mv); first | refine zx (v := .c _) ?_ | refine za ?_) | ((apply f_as); first | refine zg1 (v := .c _) ?_ | refine za ?_) | ((apply f_fa); first | refine n_fa ?_ | refine zo3 ?_) | ((apply f_ld); first | refine zj3 ?_ | refine zs1 ?_ | refine n_ld ?_) | ((apply f_bi); first | refine za3 ?_ | refine zz2 ?_ | refine zb3 ?_ | refine za ?_) | ((apply f_st); first | refine n_st ?_ | refine zs2 ?_) | ((apply f_ia); first | refine n_ix ?_ | refine zt5 ?_ | refine za ?_) | ((apply za5); first | refine zj1 ?_ | refine za ?_) | ((apply zd2); first | refine zm ?_ | refine zc2 ?_ | refine za ?_) | ((apply f_bb); first | refine zo1 ?_ | refine zp1 ?_ | refine za ?_) | ((apply f_cv); first | refine zf4 ?_ | refine za ?_) | refine za ?_) | ((apply f_w); first | refine zw ?_ | refine zc ?_) | ((apply d_wo); first | ((apply d_mv); refine zk ?_) | ((apply d_as); refine zk ?_) | ((apply d_fa); first | refine o_fa ?_ | refine zu8 ?_) | ((apply d_ld); first | refine zr4 ?_ | refine ze3 ?_ | refine zf3 ?_ | refine zs4 ?_ | refine zk ?_ | refine o_ld ?_) | ((apply d_bi); first | refine zh3 ?_ | refine zg3 ?_ | refine zi3 ?_ | refine zl2 ?_ | refine zl2 (hnu := ze _) ?_ | refine zi1 ?_ | refine zi1 (hnu := ze _) ?_ | refine zk ?_) | ((apply d_st); first | refine o_st ?_ | refine zx5 ?_) | ((apply d_ia); first | refine o_ix ?_ | refine zs5 ?_ | refine zk ?_) | ((apply d_bb); first | refine zc1 ?_ | refine zd1 ?_ | refine ze1 ?_ | refine zq4 ?_ | refine zk ?_) | ((apply d_cv); first | refine zz3 ?_ | refine zv5 ?_ | refine zs8 ?_ | refine zt8 ?_ | refine zk ?_) | refine zk ?_) | ((apply d_w); first | refine zw ?_ | refine zc ?_) | refine zb fun C => ?_ | refine zj (by kernel_rfl) (by kernel_rfl) fun C => ?_ | refine zh ?_ | refine zd ?_ | refine zf ?_ | refine zg ?_)
      refine zv ?_; refine ret1 rfl zs3 rfl (by show cloL [AC.ro _ 1 (acL _), AC.v _, AC.v _] = true; simp [cloL, clo, zl]) rfl ⟨?_, ?_⟩
      · rfl
      · rfl
    case hC2 => exact (show Curs [.ro l.length 1 (acL l), .v (.int .i64 (i : Int)), .v (.int .i64 _)] from ⟨l, i, _, hl, hi, hlen, rfl⟩)
    case hx2 => exact zt12 _
section
variable {ops : Array Oper} {Q : Exit → Act → World → Prop} {C : Ctx} {i : Nat} {r : List Nat}
variable {tm : Nat → AV} {hp : Nat → Option Row} {gn L : Nat} {us : List Nat}
theorem za22 {ty : TypeId} {gd : Option (Nat × Bool)} {ps : String} {af : Array Edge} {t : Nat} {x y : Operand} {U : TypeId} {z1 z2 : Int} {ev : Operand → AV} (hx : ev x = .c (.v (.int .i64 z1))) (hy : ev y = .c (.v (.int .i64 z2))) (h0 : z2 ≠ 0) : EffD Tryd.prog (⟨some t, .binOp .rem 3 x y U, ty, ps, af, gd⟩ : Oper) ev hp 0 = some (.c (.v (.int .i64 (z1.tmod z2))), .nop) := by
  show nop? (aScal _ _ _) = _
  rw [zq2 rfl (by intro q hq; have hq' : q = x ∨ q = y := (by have h2 : q ∈ [x, y] := Array.mem_toList_iff.2 hq; simpa using h2); rcases hq' with rfl | rfl <;> first | (rw [hx]; rfl) | (rw [hy]; rfl))]
  unfold execOp
  dsimp only
  rw [hx, hy]
  have hd : Op.intDiv .rem .i64 z1 z2 = pure (.int .i64 (z1.tmod z2)) := by unfold Op.intDiv; rw [if_neg h0]
  simp only [AV.val?, AC.val?, Option.getD_some, binOp, ne_eq, not_true_eq_false, if_false, hd]
  rfl
theorem zc21 {ty : TypeId} {gd : Option (Nat × Bool)} {ps : String} {af : Array Edge} {t : Nat} {x y : Operand} {U : TypeId} {z1 z2 : Int} (h0 : z2 ≠ 0) (h : Walk Tryd.prog ops Q C false [] r ⟨upd tm t (.c (.v (.int .i64 (z1.tmod z2)))), hp, gn, us, L⟩) (ht : Nat.blt t L = true := by exact rfl) (hg : gw ops tm (⟨some t, .binOp .rem 3 x y U, ty, ps, af, gd⟩ : Oper) = some true := by exact rfl) (hx : AS.ev ⟨tm, hp, gn, us, L⟩ x = .c (.v (.int .i64 z1)) := by exact rfl) (hy : AS.ev ⟨tm, hp, gn, us, L⟩ y = .c (.v (.int .i64 z2)) := by exact rfl) : WalkO Tryd.prog ops Q C false [] i (⟨some t, .binOp .rem 3 x y U, ty, ps, af, gd⟩ : Oper) r ⟨tm, hp, gn, us, L⟩ := za h ht hg (za22 hx hy h0)
end
theorem zu12 {x n : Int} (hx : 0 ≤ x) (hn : 0 < n) : ∃ k : Nat, (k : Int) < n ∧ x.tmod n = (k : Int) := by
  refine ⟨(x % n).toNat, ?_, ?_⟩
  · have := Int.emod_nonneg x (show n ≠ 0 by omega); have := Int.emod_lt_of_pos x hn; omega
  · rw [Int.tmod_eq_emod_of_nonneg hx]; have := Int.emod_nonneg x (show n ≠ 0 by omega); omega
theorem zu {cs : List AC} (h : Curs cs) : cloL cs = true := by
  obtain ⟨l, i, x, -, -, -, rfl⟩ := h
  simp [cloL, clo, zl]
theorem zj2 {cs cs' : List AC} (h : Curs cs) (h' : Curs cs') : cs.length = cs'.length := by
  obtain ⟨l, i, x, -, -, -, rfl⟩ := h
  obtain ⟨l', i', x', -, -, -, rfl⟩ := h'
  rfl
theorem zk3 {cs : List AC} (hc : Curs cs) (n : Int) (hn : 0 < n) : ∃ (k : Nat) (cs' : List AC), Curs cs' ∧ (k : Int) < n ∧ Ctr Tryd.prog 88 [.c (.pt 0 0), .c (.v (.int .i64 n))] [cs] (.c (.v (.int .i64 (k : Int)))) [cs'] := by
  have cc := zu hc
  obtain ⟨x, cs1, h1, hx, c1⟩ := zj7 hc
  have cc1 := zu h1
  by_cases hs : n ≤ 256
  · obtain ⟨k, hk, ek⟩ := zu12 hx.1 hn
    refine ⟨k, cs1, h1, hk, zh1 Tryd.func88 rfl rfl ?_⟩
    repeat' (first | ((apply f_wo); first | ((apply f_mv); first | refine zx (v := .c _) ?_ | refine za ?_) | ((apply f_as); first | refine zg1 (v := .c _) ?_ | refine za ?_) | ((apply zt6); first | refine zm2 ?_ | refine za ?_) | ((apply zd2); first | refine zm ?_ | refine zc2 ?_ | refine za ?_) | ((apply f_bb); first | refine zo1 ?_ | refine zp1 ?_ | refine za ?_) | refine za ?_) | ((apply f_w); first | refine zw ?_ | refine zc ?_) | refine zb fun C => ?_ | refine zh ?_ | refine zd ?_ | refine zf ?_ | refine zg ?_)
    refine zy (by rfl) (fun hC => absurd (of_decide_eq_true hC) (by omega)) fun hC => ?_
    repeat' (first | ((apply f_wo); first | ((apply f_mv); first | refine zx (v := .c _) ?_ | refine za ?_) | ((apply f_as); first | refine zg1 (v := .c _) ?_ | refine za ?_) | ((apply zt6); first | refine zm2 ?_ | refine za ?_) | ((apply zd2); first | refine zm ?_ | refine zc2 ?_ | refine za ?_) | ((apply f_bb); first | refine zo1 ?_ | refine zp1 ?_ | refine za ?_) | refine za ?_) | ((apply f_w); first | refine zw ?_ | refine zc ?_) | refine zb fun C => ?_ | refine zh ?_ | refine zd ?_ | refine zf ?_ | refine zg ?_)
    refine zy (by rfl) (fun hC => ?_) fun hC => absurd (of_decide_eq_false hC) (by omega)
    repeat' (first | ((apply f_wo); first | ((apply f_mv); first | refine zx (v := .c _) ?_ | refine za ?_) | ((apply f_as); first | refine zg1 (v := .c _) ?_ | refine za ?_) | ((apply f_ca); first | refine zi2 0 (c1) ?_ (hl := zm1 (by rfl) cc)) | ((apply zt6); first | refine zm2 ?_ | refine za ?_) | ((apply zd2); first | refine zm ?_ | refine zc2 ?_ | refine za ?_) | ((apply f_bb); first | refine zo1 ?_ | refine zp1 ?_ | refine za ?_) | refine za ?_) | ((apply f_w); first | refine zw ?_ | refine zc ?_) | refine zb fun C => ?_ | refine zh ?_ | refine zd ?_ | refine zf ?_ | refine zg ?_)
    refine zc21 (z2 := n) (by omega) ?_
    rw [ek]
    repeat' (first | ((apply f_wo); first | ((apply f_mv); first | refine zx (v := .c _) ?_ | refine za ?_) | ((apply f_as); first | refine zg1 (v := .c _) ?_ | refine za ?_) | ((apply zt6); first | refine zm2 ?_ | refine za ?_) | ((apply zd2); first | refine zm ?_ | refine zc2 ?_ | refine za ?_) | ((apply f_bb); first | refine zo1 ?_ | refine zp1 ?_ | refine za ?_) | refine za ?_) | ((apply f_w); first | refine zw ?_ | refine zc ?_) | refine zb fun C => ?_ | refine zh ?_ | refine zd ?_ | refine zf ?_ | refine zg ?_)
    refine zv ?_
    exact ret1 rfl zs3 rfl cc1 (zj2 h1 hc) ⟨rfl, rfl⟩
  · obtain ⟨y, cs2, h2, hy, c2⟩ := zj7 h1
    obtain ⟨z, cs3, h3, hz, c3⟩ := zj7 h2
    have cc2 := zu h2
    have cc3 := zu h3
    obtain ⟨k, hk, ek⟩ := zu12 (x := x * 65536 + y * 256 + z) (by omega) hn
    refine ⟨k, cs3, h3, hk, zh1 Tryd.func88 rfl rfl ?_⟩
    repeat' (first | ((apply f_wo); first | ((apply f_mv); first | refine zx (v := .c _) ?_ | refine za ?_) | ((apply f_as); first | refine zg1 (v := .c _) ?_ | refine za ?_) | ((apply zt6); first | refine zm2 ?_ | refine za ?_) | ((apply zd2); first | refine zm ?_ | refine zc2 ?_ | refine za ?_) | ((apply f_bb); first | refine zo1 ?_ | refine zp1 ?_ | refine za ?_) | refine za ?_) | ((apply f_w); first | refine zw ?_ | refine zc ?_) | refine zb fun C => ?_ | refine zh ?_ | refine zd ?_ | refine zf ?_ | refine zg ?_)
    refine zy (by rfl) (fun hC => absurd (of_decide_eq_true hC) (by omega)) fun hC => ?_
    repeat' (first | ((apply f_wo); first | ((apply f_mv); first | refine zx (v := .c _) ?_ | refine za ?_) | ((apply f_as); first | refine zg1 (v := .c _) ?_ | refine za ?_) | ((apply zt6); first | refine zm2 ?_ | refine za ?_) | ((apply zd2); first | refine zm ?_ | refine zc2 ?_ | refine za ?_) | ((apply f_bb); first | refine zo1 ?_ | refine zp1 ?_ | refine za ?_) | refine za ?_) | ((apply f_w); first | refine zw ?_ | refine zc ?_) | refine zb fun C => ?_ | refine zh ?_ | refine zd ?_ | refine zf ?_ | refine zg ?_)
    refine zy (by rfl) (fun hC => absurd (of_decide_eq_true hC) (by omega)) fun hC => ?_
    repeat' (first | ((apply f_wo); first | ((apply f_mv); first | refine zx (v := .c _) ?_ | refine za ?_) | ((apply f_as); first | refine zg1 (v := .c _) ?_ | refine za ?_) | ((apply f_ca); first | refine zi2 0 (c1) ?_ (hl := zm1 (by rfl) cc) | refine zi2 0 (c2) ?_ (hl := zm1 (by rfl) cc1) | refine zi2 0 (c3) ?_ (hl := zm1 (by rfl) cc2)) | ((apply zt6); first | refine zm2 ?_ | refine za ?_) | ((apply zd2); first | refine zm ?_ | refine zc2 ?_ | refine za ?_) | ((apply f_bb); first | refine zo1 ?_ | refine zp1 ?_ | refine za ?_) | refine za ?_) | ((apply f_w); first | refine zw ?_ | refine zc ?_) | refine zb fun C => ?_ | refine zh ?_ | refine zd ?_ | refine zf ?_ | refine zg ?_)
    refine zc21 (z2 := n) (by omega) ?_
    rw [ek]
    repeat' (first | ((apply f_wo); first | ((apply f_mv); first | refine zx (v := .c _) ?_ | refine za ?_) | ((apply f_as); first | refine zg1 (v := .c _) ?_ | refine za ?_) | ((apply zt6); first | refine zm2 ?_ | refine za ?_) | ((apply zd2); first | refine zm ?_ | refine zc2 ?_ | refine za ?_) | ((apply f_bb); first | refine zo1 ?_ | refine zp1 ?_ | refine za ?_) | refine za ?_) | ((apply f_w); first | refine zw ?_ | refine zc ?_) | refine zb fun C => ?_ | refine zh ?_ | refine zd ?_ | refine zf ?_ | refine zg ?_)
    refine zv ?_
    exact ret1 rfl zs3 rfl cc3 (zj2 h3 hc) ⟨rfl, rfl⟩
def intL (ns : List Int) : List E := ns.map fun n => .int .i64 n
theorem zx17 {ns : List Int} : ∀ e ∈ intL ns, e.enc.length = 1 := fun e he => by obtain ⟨x, -, rfl⟩ := List.mem_map.1 he; rfl
theorem zv12 {ns : List Int} : (intL ns).length = ns.length := by simp [intL]
theorem zb10 {cs : List AC} (hc : Curs cs) (ns : List Int) (hn : 0 < ns.length) : ∃ (z : Int) (cs' : List AC), Curs cs' ∧ z ∈ ns ∧ Ctr Tryd.prog 87 [.c (.pt 0 0), .c (.ro (intL ns).length 1 (acL (intL ns)))] [cs] (.c (.v (.int .i64 z))) [cs'] := by
  have cc := zu hc
  obtain ⟨k, cs1, h1, hk, c1⟩ := zk3 hc ((intL ns).length : Nat) (by rw [zv12]; omega)
  have cc1 := zu h1
  have hk' : k < ns.length := by rw [zv12] at hk; omega
  have henc := zx17 (ns := ns)
  obtain ⟨z, hz⟩ : ∃ z, ns[k]? = some z := ⟨_, List.getElem?_eq_getElem hk'⟩
  have he : (intL ns)[k]? = some (.int .i64 z) := by unfold intL; rw [List.getElem?_map, hz]; rfl
  refine ⟨z, cs1, h1, List.mem_of_getElem? hz, zh1 Tryd.func87 rfl rfl ?_⟩
  repeat' (first | ((apply f_wo); first | ((apply f_mv); first | refine zx (v := .c _) ?_ | refine za ?_) | ((apply f_as); first | refine zg1 (v := .c _) ?_ | refine za ?_) | ((apply f_ld); first | refine zj3 ?_ | refine zs1 ?_ | refine n_ld ?_) | ((apply f_ca); first | refine zi2 0 (c1) ?_ (hl := zm1 (by rfl) cc)) | ((apply f_bi); first | refine za3 ?_ | refine zz2 ?_ | refine zb3 ?_ | refine za ?_) | ((apply f_ia); first | refine n_ix ?_ | refine zt5 ?_ | refine za ?_) | refine za ?_) | ((apply f_w); first | refine zw ?_ | refine zc ?_) | refine zb fun C => ?_ | refine zh ?_ | refine zd ?_ | refine zf ?_ | refine zg ?_)
  refine zv ?_
  exact ret1 rfl zs3 rfl cc1 (zj2 h1 hc) ⟨rfl, rfl⟩
set_option maxRecDepth 100000
end Go.Proofs.YtfemkmnkofgaaaaDoor
namespace Go.Proofs.YtfemkmnkofgaaaaDoor
open Go.RowKit
end Go.Proofs.YtfemkmnkofgaaaaDoor
namespace Go.Proofs.YtfemkmnkofgaaaaDoor
open Go.RowKit
structure GVal where
  k : Int
  n : Int
  s : ByteArray
structure GCell where
  refs : Int
  v : GVal
def inB (n lo hi : Int) : Bool := decide (lo ≤ n) && decide (n ≤ hi)
theorem zu6 (n lo hi : Int) (w : World) : Calls Tryd.prog 49 #[.int .i64 n, .int .i64 lo, .int .i64 hi] w fun e w' =>
    e = .returned (.bool (inB n lo hi)) ∧ w = w' := by
  go_enter Tryd.func49, Tryd.ntmps49
  go_wp2
  all_goals (go_ret; exact ⟨by simp [inB, *] <;> omega, rfl⟩)
theorem zy17 (n lo hi : Int) (w : World) : Calls Tryd.prog 48 #[.int .i64 n, .int .i64 lo, .int .i64 hi] w fun e w' =>
    e = .returned (.bool (inB n lo hi)) ∧ w = w' := by
  go_enter Tryd.func48, Tryd.ntmps48
  go_wp2
  all_goals (go_ret; exact ⟨by simp [inB, *] <;> omega, rfl⟩)
def hasN (n : Int) : Bool := n == 2 || n == 3 || n == 4 || n == 5 || n == 6 || n == 7 || n == 13 || n == 16 || n == 17 || n == 18 || n == 19 || n == 20 || n == 21 || n == 24 || n == 25 || n == 32 || n == 34 || n == 36
theorem zr2 (n : Int) (w : World) : Calls Tryd.prog 44 #[.int .i64 n] w fun e w' =>
    e = .returned (.bool (hasN n)) ∧ w = w' := by
  go_enter Tryd.func44, Tryd.ntmps44
  go_wp2
  all_goals (go_ret; exact ⟨by simp [hasN, *], rfl⟩)
theorem zg2 (n : Int) (w : World) : Calls Tryd.prog 42 #[.int .i64 n] w fun e w' =>
    e = .returned (.bool (hasN n)) ∧ w = w' := by
  go_enter Tryd.func42, Tryd.ntmps42
  go_wp2
  all_goals (go_ret; exact ⟨by simp [hasN, *], rfl⟩)
def insOk (o n : Int) : Bool :=
  inB o 1 41 && (inB n 0 10000 && (if o = 7 then decide (n ≤ 11) else if o = 13 then decide (n ≤ 1) else if o = 34 then inB n 1 5 else hasN o || n == 0))
theorem zg4 (o n : Int) (w : World) : Calls Tryd.prog 15 #[.agg #[.int .i64 o, .int .i64 n]] w fun e w' =>
    e = .returned (.bool (insOk o n)) ∧ Below w.heap.size w w' := by
  go_enter Tryd.func15, Tryd.ntmps15
  go_wp2_with (first | (go_at_call 48; refine (zy17 _ _ _ _).mono ?_; rintro e w' ⟨rfl, rfl⟩) | (go_at_call 44; refine (zr2 _ _).mono ?_; rintro e w' ⟨rfl, rfl⟩))
  all_goals (go_ret; exact ⟨rb (by simp_all [insOk]), (Below.refl _ _).alloc (by simp) _⟩)
def insOkI (o n : Int) : Bool :=
  if (!inB o 1 41 || !hasN o) = true then inB o 1 41 && n == 0
  else if (o == 7) = true then inB n 0 11 else if (o == 13) = true then inB n 0 1 else if (o == 34) = true then inB n 1 5 else inB n 0 10000
theorem zh16 (o n : Int) : insOkI o n = insOk o n := by
  rw [Bool.eq_iff_iff]
  unfold insOkI insOk
  by_cases h1 : inB o 1 41 = true
  · by_cases h2 : hasN o = true
    · by_cases h7 : o = 7
      · subst h7; simp [hasN, inB]; omega
      · by_cases h13 : o = 13
        · subst h13; simp [hasN, inB]; omega
        · by_cases h34 : o = 34
          · subst h34; simp [hasN, inB]; omega
          · simp [h1, h2, h7, h13, h34]
    · have h7 : o ≠ 7 := by rintro rfl; exact h2 rfl
      have h13 : o ≠ 13 := by rintro rfl; exact h2 rfl
      have h34 : o ≠ 34 := by rintro rfl; exact h2 rfl
      simp [h2, h7, h13, h34, inB]; omega
  · simp [h1]
theorem zh4 (o n : Int) (w : World) : Calls Tryd.prog 16 #[.agg #[.int .i64 o, .int .i64 n]] w fun e w' =>
    e = .returned (.bool (insOk o n)) ∧ Below w.heap.size w w' := by
  rw [← zh16]
  go_enter Tryd.func16, Tryd.ntmps16
  go_wp2_with (first | (go_at_call 49; refine (zu6 _ _ _ _).mono ?_; rintro e w' ⟨rfl, rfl⟩) | (go_at_call 42; refine (zg2 _ _).mono ?_; rintro e w' ⟨rfl, rfl⟩))
  all_goals (go_ret; exact ⟨rb (by simp_all [insOkI]), (Below.refl _ _).alloc (by simp) _⟩)
end Go.Proofs.YtfemkmnkofgaaaaDoor
namespace Go.Proofs.YtfemkmnkofgaaaaDoor
open Go.RowKit
end Go.Proofs.YtfemkmnkofgaaaaDoor
namespace Go.Proofs.YtfemkmnkofgaaaaDoor
open Go.RowKit
end Go.Proofs.YtfemkmnkofgaaaaDoor
namespace Go.Proofs.YtfemkmnkofgaaaaDoor
open Go.RowKit
set_option maxRecDepth 100000
def I64 (z : Int) : Prop := -9223372036854775808 ≤ z ∧ z ≤ 9223372036854775807
set_option maxRecDepth 100000
end Go.Proofs.YtfemkmnkofgaaaaDoor
