/- The cursor of a draw, in the machine: whatever its state is, its functions return and leave a cursor. -/
import Derived.Test.YtnlgmojciplnoaaDoorFlxPW
namespace Go.Proofs.YtnlgmojciplnoaaDoor
open Go.RowKit
set_option maxRecDepth 100000
section
variable {ops : Array Oper} {Q : Exit → Act → World → Prop} {C : Ctx} {H : List (Nat × Oper × Inf)} {i : Nat} {r : List Nat} {dr : Bool}
variable {tm : Nat → AV} {hp : Nat → Option Row} {gn L : Nat} {us : List Nat}
theorem o_cdz {ty : TypeId} {gd : Option (Nat × Bool)} {cas : Array Operand} {cts : Array TypeId} {ps : String} {af : Array Edge} {t : Nat} {fv : Operand} {f : FuncId} {caps : List AC} {args ins : List AV} {par : List AC} {rows : List (List AC)} {res : AV} {nv : AV} {nr : List (Nat × Row)} (lr : Nat) (Z : List Nat) (hctr : Ctr Tryd.prog f ins [par] res rows)
    (h : Walk Tryd.prog ops Q C dr (keepH dr (i, (⟨some t, .call ⟨.value fv, cas, cts⟩, ty, ps, af, gd⟩ : Oper), callInf ⟨tm, hp, gn, us, L⟩ (args.flatMap snV) [lr] Z (100 * (t + 1)) res rows) H) r ⟨upd tm t nv, updL hp (backU hp [lr] rows ++ (Z.map fun z => (z, none)) ++ nr.map (fun p => (p.1, some p.2))), gn, nr.map (·.1) ++ us, L⟩)
    (ht : Nat.blt t L = true := by exact rfl) (hg : gw ops tm (⟨some t, .call ⟨.value fv, cas, cts⟩, ty, ps, af, gd⟩ : Oper) = some true := by exact rfl) (hfv : AS.ev ⟨tm, hp, gn, us, L⟩ fv = .c (.fn f caps) := by exact rfl) (hargs : callArgs ⟨tm, hp, gn, us, L⟩ ⟨.value fv, cas, cts⟩ caps = args := by exact rfl) (hcv : args.map (cvV hp [lr]) = ins := by ((repeat' (first | rfl | exact zh5 | refine zn4 ?_ ?_ | refine zv8 ?_ | refine cv_c ?_ | refine zo4 ?_ ?_ | (refine zc6 ?_; (first | rfl | (simp [cloV, cloL, clo, zn, zm, zo, zk, zi]; done))) | (refine zd6 ?_; (first | rfl | (simp [cloV, cloL, clo, zn, zm, zo, zk, zi]; done))) | refine ze6 ?_ | (refine cvC_sl' (by rfl) (by rfl) (by rfl) (by rfl) ?_ ?_; (focus (first | rfl | (simp [cloV, cloL, clo, zn, zm, zo, zk, zi]; done))); (first | rfl | exact zd4 _)))) <;> exact rfl)) (hl : lend hp [lr] = some [par] := by exact zc3 (by rfl) (by first | rfl | (simp [cloV, cloL, clo, zn, zm, zo, zk, zi]; done)))
    (hRD : ((args.flatMap snV).all fun z => ![lr].contains z) = true := by exact rfl) (hZD : (Z.all fun z => ![lr].contains z) = true := by exact rfl) (hmm : ((args.flatMap snV).all fun z => Z.contains z) = true := by exact rfl) (hopn : opV (100 * (t + 1)) res = (nv, nr) := by exact rfl) (hf : (nr.all fun p => Nat.ble gn p.1 && !us.contains p.1) = true := by exact rfl)
    (hc : chk dr ops i (⟨some t, .call ⟨.value fv, cas, cts⟩, ty, ps, af, gd⟩ : Oper) (callInf ⟨tm, hp, gn, us, L⟩ (args.flatMap snV) [lr] Z (100 * (t + 1)) res rows) H = true := by first | (with_reducible exact zf2) | kernel_rfl) : WalkO Tryd.prog ops Q C dr H i (⟨some t, .call ⟨.value fv, cas, cts⟩, ty, ps, af, gd⟩ : Oper) r ⟨tm, hp, gn, us, L⟩ :=
  ⟨fun hop => zd13 (100 * (t + 1)) [lr] Z hop rfl rfl rfl ht hg hfv hargs hl (by rw [hcv]; exact hctr) hRD hZD (.inr hmm) hopn hf hc h⟩
theorem ze9 {ty : TypeId} {gd : Option (Nat × Bool)} {cas : Array Operand} {cts : Array TypeId} {ps : String} {af : Array Edge} {t : Nat} {fv : Operand} {f : FuncId} {caps : List AC} {args ins : List AV} {par : List AC} {rows : List (List AC)} {res : AV} {nv : AV} {nr : List (Nat × Row)} (lr : Nat) (Z : List Nat) (hctr : Ctr Tryd.prog f ins [par] res rows)
    (h : Walk Tryd.prog ops Q C false [] r ⟨upd tm t nv, updL hp (backU hp [lr] rows ++ (Z.map fun z => (z, none)) ++ nr.map (fun p => (p.1, some p.2))), gn, nr.map (·.1) ++ us, L⟩)
    (ht : Nat.blt t L = true := by exact rfl) (hg : gw ops tm (⟨some t, .call ⟨.value fv, cas, cts⟩, ty, ps, af, gd⟩ : Oper) = some true := by exact rfl) (hfv : AS.ev ⟨tm, hp, gn, us, L⟩ fv = .c (.fn f caps) := by exact rfl) (hargs : callArgs ⟨tm, hp, gn, us, L⟩ ⟨.value fv, cas, cts⟩ caps = args := by exact rfl) (hcv : args.map (cvV hp [lr]) = ins := by ((repeat' (first | rfl | exact zh5 | refine zn4 ?_ ?_ | refine zv8 ?_ | refine cv_c ?_ | refine zo4 ?_ ?_ | (refine zc6 ?_; (first | rfl | (simp [cloV, cloL, clo, zn, zm, zo, zk, zi]; done))) | (refine zd6 ?_; (first | rfl | (simp [cloV, cloL, clo, zn, zm, zo, zk, zi]; done))) | refine ze6 ?_ | (refine cvC_sl' (by rfl) (by rfl) (by rfl) (by rfl) ?_ ?_; (focus (first | rfl | (simp [cloV, cloL, clo, zn, zm, zo, zk, zi]; done))); (first | rfl | exact zd4 _)))) <;> exact rfl)) (hl : lend hp [lr] = some [par] := by exact zc3 (by rfl) (by first | rfl | (simp [cloV, cloL, clo, zn, zm, zo, zk, zi]; done)))
    (hRD : ((args.flatMap snV).all fun z => ![lr].contains z) = true := by exact rfl) (hZD : (Z.all fun z => ![lr].contains z) = true := by exact rfl) (hmm : ((args.flatMap snV).all fun z => Z.contains z) = true := by exact rfl) (hopn : opV (100 * (t + 1)) res = (nv, nr) := by exact rfl) (hf : (nr.all fun p => Nat.ble gn p.1 && !us.contains p.1) = true := by exact rfl) : WalkO Tryd.prog ops Q C false [] i (⟨some t, .call ⟨.value fv, cas, cts⟩, ty, ps, af, gd⟩ : Oper) r ⟨tm, hp, gn, us, L⟩ :=
  o_cdz (dr := false) (H := []) (lr := lr) (Z := Z) (hctr := hctr) (h := h) (ht := ht) (hg := hg) (hfv := hfv) (hargs := hargs) (hcv := hcv) (hl := hl) (hRD := hRD) (hZD := hZD) (hmm := hmm) (hopn := hopn) (hf := hf)
end
def Byt (l : List E) : Prop := ∀ e ∈ l, ∃ x : Nat, x < 256 ∧ e = .int .u8 (x : Int)
theorem Byt.enc {l : List E} (h : Byt l) : ∀ e ∈ l, e.enc.length = 1 := fun e he => by obtain ⟨x, -, rfl⟩ := h e he; rfl
def Curs (cs : List AC) : Prop := ∃ (l : List E) (i : Nat) (h : Int), Byt l ∧ i ≤ l.length ∧ l.length ≤ 1048576 ∧ cs = [.ro l.length 1 (acL l), .v (.int .i64 (i : Int)), .v (.int .i64 h)]
theorem zo22 (n : Int) : bits .and .i64 n 255 = n % 256 := by
  have h1 : (BitVec.ofInt 64 n).toNat = (n % 18446744073709551616).toNat := by rw [BitVec.toNat_ofInt]; rfl
  have h2 : (BitVec.ofInt 64 255).toNat = 2 ^ 8 - 1 := by rfl
  show IntKind.i64.wrap ((BitVec.ofInt 64 n &&& BitVec.ofInt 64 255).toNat : Int) = _
  rw [BitVec.toNat_and, h1, h2, Nat.and_two_pow_sub_one_eq_mod, IntKind.wrap_i64]
  omega
theorem zy13 (n : Int) : 0 ≤ bits .and .i64 n 255 ∧ bits .and .i64 n 255 < 256 := by rw [zo22]; omega
theorem zl10 {cs : List AC} (hc : Curs cs) : ∃ (x : Int) (cs' : List AC), Curs cs' ∧ (0 ≤ x ∧ x < 256) ∧ Ctr Tryd.prog 65 [.c (.pt 0 0)] [cs] (.c (.v (.int .i64 x))) [cs'] := by
  obtain ⟨l, i, h, hl, hi, hlen, rfl⟩ := hc
  by_cases hlt : i < l.length
  · obtain ⟨e, he⟩ : ∃ e, l[i]? = some e := ⟨_, List.getElem?_eq_getElem hlt⟩
    obtain ⟨b, hb, rfl⟩ := hl e (List.mem_of_getElem? he)
    have hk := hl.enc
    refine ⟨?x, ?c, ?hC, ?hx, za2 Tryd.func65 rfl rfl ?hw⟩
    case hw =>
      repeat' (first | ((apply f_wo); first | ((apply f_mv); first | refine zv (v := .c _) ?_ | refine za ?_) | ((apply f_as); first | refine zt (v := .c _) ?_ | refine za ?_) | ((apply f_fa); first | refine n_fa ?_ | refine zx3 ?_) | ((apply f_ld); first | refine zp3 ?_ | refine zs2 ?_ | refine n_ld ?_) | ((apply f_bi); first | refine zc1 ?_ | refine zb1 ?_ | refine zd1 ?_ | refine za ?_) | ((apply f_st); first | refine n_st ?_ | refine zr2 ?_) | ((apply f_ia); first | refine n_ix ?_ | refine zl3 ?_ | refine za ?_) | ((apply zm1); first | refine zh ?_ | refine za ?_) | ((apply zj1); first | refine zg ?_ | refine zi1 ?_ | refine za ?_) | ((apply f_bb); first | refine zw1 ?_ | refine zx1 ?_ | refine za ?_) | ((apply f_cv); first | refine zf3 ?_ | refine za ?_) | refine za ?_) | ((apply f_w); first | refine zx ?_ | refine zd ?_) | ((apply d_wo); first | ((apply d_mv); refine zy ?_) | ((apply d_as); refine zy ?_) | ((apply d_fa); first | refine o_fa ?_ | refine zy6 ?_) | ((apply d_ld); first | refine zb5 ?_ | refine zz3 ?_ | refine za4 ?_ | refine zc5 ?_ | refine zy ?_ | refine o_ld ?_) | ((apply d_bi); first | refine zj3 ?_ | refine zi3 ?_ | refine zk3 ?_ | refine zu2 ?_ | refine zu2 (hnu := zl _) ?_ | refine zc2 ?_ | refine zc2 (hnu := zl _) ?_ | refine zy ?_) | ((apply d_st); first | refine o_st ?_ | refine zg4 ?_) | ((apply d_ia); first | refine o_ix ?_ | refine zn6 ?_ | refine zy ?_) | ((apply d_bb); first | refine zr1 ?_ | refine zs1 ?_ | refine zt1 ?_ | refine zu3 ?_ | refine zy ?_) | ((apply d_cv); first | refine zx6 ?_ | refine zi13 ?_ | refine zu18 ?_ | refine zv18 ?_ | refine zy ?_) | refine zy ?_) | ((apply d_w); first | refine zx ?_ | refine zd ?_) | refine zb fun C => ?_ | refine za1 (by kernel_rfl) (by kernel_rfl) fun C => ?_ | refine zj ?_ | refine zc ?_ | refine ze ?_ | refine zf ?_)
      refine zr (by rfl) (fun hC => ?_) fun hC => absurd (of_decide_eq_false hC) (by omega)
      repeat' (first | ((apply f_wo); first | ((apply f_mv); first | refine zv (v := .c _) ?_ | refine za ?_) | ((apply f_as); first | refine zt (v := .c _) ?_ | refine za ?_) | ((apply f_fa); first | refine n_fa ?_ | refine zx3 ?_) | ((apply f_ld); first | refine zp3 ?_ | refine zs2 ?_ | refine n_ld ?_) | ((apply f_bi); first | refine zc1 ?_ | refine zb1 ?_ | refine zd1 ?_ | refine za ?_) | ((apply f_st); first | refine n_st ?_ | refine zr2 ?_) | ((apply f_ia); first | refine n_ix ?_ | refine zl3 ?_ | refine za ?_) | ((apply zm1); first | refine zh ?_ | refine za ?_) | ((apply zj1); first | refine zg ?_ | refine zi1 ?_ | refine za ?_) | ((apply f_bb); first | refine zw1 ?_ | refine zx1 ?_ | refine za ?_) | ((apply f_cv); first | refine zf3 ?_ | refine za ?_) | refine za ?_) | ((apply f_w); first | refine zx ?_ | refine zd ?_) | ((apply d_wo); first | ((apply d_mv); refine zy ?_) | ((apply d_as); refine zy ?_) | ((apply d_fa); first | refine o_fa ?_ | refine zy6 ?_) | ((apply d_ld); first | refine zb5 ?_ | refine zz3 ?_ | refine za4 ?_ | refine zc5 ?_ | refine zy ?_ | refine o_ld ?_) | ((apply d_bi); first | refine zj3 ?_ | refine zi3 ?_ | refine zk3 ?_ | refine zu2 ?_ | refine zu2 (hnu := zl _) ?_ | refine zc2 ?_ | refine zc2 (hnu := zl _) ?_ | refine zy ?_) | ((apply d_st); first | refine o_st ?_ | refine zg4 ?_) | ((apply d_ia); first | refine o_ix ?_ | refine zn6 ?_ | refine zy ?_) | ((apply d_bb); first | refine zr1 ?_ | refine zs1 ?_ | refine zt1 ?_ | refine zu3 ?_ | refine zy ?_) | ((apply d_cv); first | refine zx6 ?_ | refine zi13 ?_ | refine zu18 ?_ | refine zv18 ?_ | refine zy ?_) | refine zy ?_) | ((apply d_w); first | refine zx ?_ | refine zd ?_) | refine zb fun C => ?_ | refine za1 (by kernel_rfl) (by kernel_rfl) fun C => ?_ | refine zj ?_ | refine zc ?_ | refine ze ?_ | refine zf ?_)
      refine zw ?_; refine ret1 rfl zu1 rfl (by show cloL [AC.ro _ 1 (acL _), AC.v _, AC.v _] = true; simp [cloL, clo, zm]) rfl ⟨?_, ?_⟩
      · rfl
      · rfl
    case hC => exact (show Curs [.ro l.length 1 (acL l), .v (.int .i64 ((i + 1 : Nat) : Int)), .v (.int .i64 _)] from ⟨l, i + 1, _, hl, hlt, hlen, rfl⟩)
    case hx => exact zy13 _
  · refine ⟨?x2, ?c2, ?hC2, ?hx2, za2 Tryd.func65 rfl rfl ?hw2⟩
    case hw2 =>
      repeat' (first | ((apply f_wo); first | ((apply f_mv); first | refine zv (v := .c _) ?_ | refine za ?_) | ((apply f_as); first | refine zt (v := .c _) ?_ | refine za ?_) | ((apply f_fa); first | refine n_fa ?_ | refine zx3 ?_) | ((apply f_ld); first | refine zp3 ?_ | refine zs2 ?_ | refine n_ld ?_) | ((apply f_bi); first | refine zc1 ?_ | refine zb1 ?_ | refine zd1 ?_ | refine za ?_) | ((apply f_st); first | refine n_st ?_ | refine zr2 ?_) | ((apply f_ia); first | refine n_ix ?_ | refine zl3 ?_ | refine za ?_) | ((apply zm1); first | refine zh ?_ | refine za ?_) | ((apply zj1); first | refine zg ?_ | refine zi1 ?_ | refine za ?_) | ((apply f_bb); first | refine zw1 ?_ | refine zx1 ?_ | refine za ?_) | ((apply f_cv); first | refine zf3 ?_ | refine za ?_) | refine za ?_) | ((apply f_w); first | refine zx ?_ | refine zd ?_) | ((apply d_wo); first | ((apply d_mv); refine zy ?_) | ((apply d_as); refine zy ?_) | ((apply d_fa); first | refine o_fa ?_ | refine zy6 ?_) | ((apply d_ld); first | refine zb5 ?_ | refine zz3 ?_ | refine za4 ?_ | refine zc5 ?_ | refine zy ?_ | refine o_ld ?_) | ((apply d_bi); first | refine zj3 ?_ | refine zi3 ?_ | refine zk3 ?_ | refine zu2 ?_ | refine zu2 (hnu := zl _) ?_ | refine zc2 ?_ | refine zc2 (hnu := zl _) ?_ | refine zy ?_) | ((apply d_st); first | refine o_st ?_ | refine zg4 ?_) | ((apply d_ia); first | refine o_ix ?_ | refine zn6 ?_ | refine zy ?_) | ((apply d_bb); first | refine zr1 ?_ | refine zs1 ?_ | refine zt1 ?_ | refine zu3 ?_ | refine zy ?_) | ((apply d_cv); first | refine zx6 ?_ | refine zi13 ?_ | refine zu18 ?_ | refine zv18 ?_ | refine zy ?_) | refine zy ?_) | ((apply d_w); first | refine zx ?_ | refine zd ?_) | refine zb fun C => ?_ | refine za1 (by kernel_rfl) (by kernel_rfl) fun C => ?_ | refine zj ?_ | refine zc ?_ | refine ze ?_ | refine zf ?_)
      refine zr (by rfl) (fun hC => absurd (of_decide_eq_true hC) (by omega)) fun hC => ?_
      repeat' (first | ((apply f_wo); first | ((apply f_mv); first | refine zv (v := .c _) ?_ | refine za ?_) | ((apply f_as); first | refine zt (v := .c _) ?_ | refine za ?_) | ((apply f_fa); first | refine n_fa ?_ | refine zx3 ?_) | ((apply f_ld); first | refine zp3 ?_ | refine zs2 ?_ | refine n_ld ?_) | ((apply f_bi); first | refine zc1 ?_ | refine zb1 ?_ | refine zd1 ?_ | refine za ?_) | ((apply f_st); first | refine n_st ?_ | refine zr2 ?_) | ((apply f_ia); first | refine n_ix ?_ | refine zl3 ?_ | refine za ?_) | ((apply zm1); first | refine zh ?_ | refine za ?_) | ((apply zj1); first | refine zg ?_ | refine zi1 ?_ | refine za ?_) | ((apply f_bb); first | refine zw1 ?_ | refine zx1 ?_ | refine za ?_) | ((apply f_cv); first | refine zf3 ?_ | refine za ?_) | refine za ?_) | ((apply f_w); first | refine zx ?_ | refine zd ?_) | ((apply d_wo); first | ((apply d_mv); refine zy ?_) | ((apply d_as); refine zy ?_) | ((apply d_fa); first | refine o_fa ?_ | refine zy6 ?_) | ((apply d_ld); first | refine zb5 ?_ | refine zz3 ?_ | refine za4 ?_ | refine zc5 ?_ | refine zy ?_ | refine o_ld ?_) | ((apply d_bi); first | refine zj3 ?_ | refine zi3 ?_ | refine zk3 ?_ | refine zu2 ?_ | refine zu2 (hnu := zl _) ?_ | refine zc2 ?_ | refine zc2 (hnu := zl _) ?_ | refine zy ?_) | ((apply d_st); first | refine o_st ?_ | refine zg4 ?_) | ((apply d_ia); first | refine o_ix ?_ | refine zn6 ?_ | refine zy ?_) | ((apply d_bb); first | refine zr1 ?_ | refine zs1 ?_ | refine zt1 ?_ | refine zu3 ?_ | refine zy ?_) | ((apply d_cv); first | refine zx6 ?_ | refine zi13 ?_ | refine zu18 ?_ | refine zv18 ?_ | refine zy ?_) | refine zy ?_) | ((apply d_w); first | refine zx ?_ | refine zd ?_) | refine zb fun C => ?_ | refine za1 (by kernel_rfl) (by kernel_rfl) fun C => ?_ | refine zj ?_ | refine zc ?_ | refine ze ?_ | refine zf ?_)
      refine zw ?_; refine ret1 rfl zu1 rfl (by show cloL [AC.ro _ 1 (acL _), AC.v _, AC.v _] = true; simp [cloL, clo, zm]) rfl ⟨?_, ?_⟩
      · rfl
      · rfl
    case hC2 => exact (show Curs [.ro l.length 1 (acL l), .v (.int .i64 (i : Int)), .v (.int .i64 _)] from ⟨l, i, _, hl, hi, hlen, rfl⟩)
    case hx2 => exact zy13 _
section
variable {ops : Array Oper} {Q : Exit → Act → World → Prop} {C : Ctx} {i : Nat} {r : List Nat}
variable {tm : Nat → AV} {hp : Nat → Option Row} {gn L : Nat} {us : List Nat}
theorem e_rem {ty : TypeId} {gd : Option (Nat × Bool)} {ps : String} {af : Array Edge} {t : Nat} {x y : Operand} {U : TypeId} {z1 z2 : Int} {ev : Operand → AV} (hx : ev x = .c (.v (.int .i64 z1))) (hy : ev y = .c (.v (.int .i64 z2))) (h0 : z2 ≠ 0) : EffD Tryd.prog (⟨some t, .binOp .rem 3 x y U, ty, ps, af, gd⟩ : Oper) ev hp 0 = some (.c (.v (.int .i64 (z1.tmod z2))), .nop) := by
  show nop? (aScal _ _ _) = _
  rw [zd5 rfl (by intro q hq; have hq' : q = x ∨ q = y := (by have h2 : q ∈ [x, y] := Array.mem_toList_iff.2 hq; simpa using h2); rcases hq' with rfl | rfl <;> first | (rw [hx]; rfl) | (rw [hy]; rfl))]
  unfold execOp
  dsimp only
  rw [hx, hy]
  have hd : Op.intDiv .rem .i64 z1 z2 = pure (.int .i64 (z1.tmod z2)) := by unfold Op.intDiv; rw [if_neg h0]
  simp only [AV.val?, AC.val?, Option.getD_some, binOp, ne_eq, not_true_eq_false, if_false, hd]
  rfl
theorem n_rem {ty : TypeId} {gd : Option (Nat × Bool)} {ps : String} {af : Array Edge} {t : Nat} {x y : Operand} {U : TypeId} {z1 z2 : Int} (h0 : z2 ≠ 0) (h : Walk Tryd.prog ops Q C false [] r ⟨upd tm t (.c (.v (.int .i64 (z1.tmod z2)))), hp, gn, us, L⟩) (ht : Nat.blt t L = true := by exact rfl) (hg : gw ops tm (⟨some t, .binOp .rem 3 x y U, ty, ps, af, gd⟩ : Oper) = some true := by exact rfl) (hx : AS.ev ⟨tm, hp, gn, us, L⟩ x = .c (.v (.int .i64 z1)) := by exact rfl) (hy : AS.ev ⟨tm, hp, gn, us, L⟩ y = .c (.v (.int .i64 z2)) := by exact rfl) : WalkO Tryd.prog ops Q C false [] i (⟨some t, .binOp .rem 3 x y U, ty, ps, af, gd⟩ : Oper) r ⟨tm, hp, gn, us, L⟩ := za h ht hg (e_rem hx hy h0)
end
theorem zz13 {x n : Int} (hx : 0 ≤ x) (hn : 0 < n) : ∃ k : Nat, (k : Int) < n ∧ x.tmod n = (k : Int) := by
  refine ⟨(x % n).toNat, ?_, ?_⟩
  · have := Int.emod_nonneg x (show n ≠ 0 by omega); have := Int.emod_lt_of_pos x hn; omega
  · rw [Int.tmod_eq_emod_of_nonneg hx]; have := Int.emod_nonneg x (show n ≠ 0 by omega); omega
theorem zz1 {cs : List AC} (h : Curs cs) : cloL cs = true := by
  obtain ⟨l, i, x, -, -, -, rfl⟩ := h
  simp [cloL, clo, zm]
theorem zf4 {cs cs' : List AC} (h : Curs cs) (h' : Curs cs') : cs.length = cs'.length := by
  obtain ⟨l, i, x, -, -, -, rfl⟩ := h
  obtain ⟨l', i', x', -, -, -, rfl⟩ := h'
  rfl
theorem zb4 {cs : List AC} (hc : Curs cs) (n : Int) (hn : 0 < n) : ∃ (k : Nat) (cs' : List AC), Curs cs' ∧ (k : Int) < n ∧ Ctr Tryd.prog 37 [.c (.pt 0 0), .c (.v (.int .i64 n))] [cs] (.c (.v (.int .i64 (k : Int)))) [cs'] := by
  have cc := zz1 hc
  obtain ⟨x, cs1, h1, hx, c1⟩ := zl10 hc
  have cc1 := zz1 h1
  by_cases hs : n ≤ 256
  · obtain ⟨k, hk, ek⟩ := zz13 hx.1 hn
    refine ⟨k, cs1, h1, hk, za2 Tryd.func37 rfl rfl ?_⟩
    repeat' (first | ((apply f_wo); first | ((apply f_mv); first | refine zv (v := .c _) ?_ | refine za ?_) | ((apply f_as); first | refine zt (v := .c _) ?_ | refine za ?_) | ((apply zo6); first | refine zv3 ?_ | refine za ?_) | ((apply zj1); first | refine zg ?_ | refine zi1 ?_ | refine za ?_) | ((apply f_bb); first | refine zw1 ?_ | refine zx1 ?_ | refine za ?_) | refine za ?_) | ((apply f_w); first | refine zx ?_ | refine zd ?_) | refine zb fun C => ?_ | refine zj ?_ | refine zc ?_ | refine ze ?_ | refine zf ?_)
    refine zr (by rfl) (fun hC => absurd (of_decide_eq_true hC) (by omega)) fun hC => ?_
    repeat' (first | ((apply f_wo); first | ((apply f_mv); first | refine zv (v := .c _) ?_ | refine za ?_) | ((apply f_as); first | refine zt (v := .c _) ?_ | refine za ?_) | ((apply zo6); first | refine zv3 ?_ | refine za ?_) | ((apply zj1); first | refine zg ?_ | refine zi1 ?_ | refine za ?_) | ((apply f_bb); first | refine zw1 ?_ | refine zx1 ?_ | refine za ?_) | refine za ?_) | ((apply f_w); first | refine zx ?_ | refine zd ?_) | refine zb fun C => ?_ | refine zj ?_ | refine zc ?_ | refine ze ?_ | refine zf ?_)
    refine zr (by rfl) (fun hC => ?_) fun hC => absurd (of_decide_eq_false hC) (by omega)
    repeat' (first | ((apply f_wo); first | ((apply f_mv); first | refine zv (v := .c _) ?_ | refine za ?_) | ((apply f_as); first | refine zt (v := .c _) ?_ | refine za ?_) | ((apply f_ca); first | refine zt3 0 (c1) ?_ (hl := zc3 (by rfl) cc)) | ((apply zo6); first | refine zv3 ?_ | refine za ?_) | ((apply zj1); first | refine zg ?_ | refine zi1 ?_ | refine za ?_) | ((apply f_bb); first | refine zw1 ?_ | refine zx1 ?_ | refine za ?_) | refine za ?_) | ((apply f_w); first | refine zx ?_ | refine zd ?_) | refine zb fun C => ?_ | refine zj ?_ | refine zc ?_ | refine ze ?_ | refine zf ?_)
    refine n_rem (z2 := n) (by omega) ?_
    rw [ek]
    repeat' (first | ((apply f_wo); first | ((apply f_mv); first | refine zv (v := .c _) ?_ | refine za ?_) | ((apply f_as); first | refine zt (v := .c _) ?_ | refine za ?_) | ((apply zo6); first | refine zv3 ?_ | refine za ?_) | ((apply zj1); first | refine zg ?_ | refine zi1 ?_ | refine za ?_) | ((apply f_bb); first | refine zw1 ?_ | refine zx1 ?_ | refine za ?_) | refine za ?_) | ((apply f_w); first | refine zx ?_ | refine zd ?_) | refine zb fun C => ?_ | refine zj ?_ | refine zc ?_ | refine ze ?_ | refine zf ?_)
    refine zw ?_
    exact ret1 rfl zu1 rfl cc1 (zf4 h1 hc) ⟨rfl, rfl⟩
  · obtain ⟨y, cs2, h2, hy, c2⟩ := zl10 h1
    obtain ⟨z, cs3, h3, hz, c3⟩ := zl10 h2
    have cc2 := zz1 h2
    have cc3 := zz1 h3
    obtain ⟨k, hk, ek⟩ := zz13 (x := x * 65536 + y * 256 + z) (by omega) hn
    refine ⟨k, cs3, h3, hk, za2 Tryd.func37 rfl rfl ?_⟩
    repeat' (first | ((apply f_wo); first | ((apply f_mv); first | refine zv (v := .c _) ?_ | refine za ?_) | ((apply f_as); first | refine zt (v := .c _) ?_ | refine za ?_) | ((apply zo6); first | refine zv3 ?_ | refine za ?_) | ((apply zj1); first | refine zg ?_ | refine zi1 ?_ | refine za ?_) | ((apply f_bb); first | refine zw1 ?_ | refine zx1 ?_ | refine za ?_) | refine za ?_) | ((apply f_w); first | refine zx ?_ | refine zd ?_) | refine zb fun C => ?_ | refine zj ?_ | refine zc ?_ | refine ze ?_ | refine zf ?_)
    refine zr (by rfl) (fun hC => absurd (of_decide_eq_true hC) (by omega)) fun hC => ?_
    repeat' (first | ((apply f_wo); first | ((apply f_mv); first | refine zv (v := .c _) ?_ | refine za ?_) | ((apply f_as); first | refine zt (v := .c _) ?_ | refine za ?_) | ((apply zo6); first | refine zv3 ?_ | refine za ?_) | ((apply zj1); first | refine zg ?_ | refine zi1 ?_ | refine za ?_) | ((apply f_bb); first | refine zw1 ?_ | refine zx1 ?_ | refine za ?_) | refine za ?_) | ((apply f_w); first | refine zx ?_ | refine zd ?_) | refine zb fun C => ?_ | refine zj ?_ | refine zc ?_ | refine ze ?_ | refine zf ?_)
    refine zr (by rfl) (fun hC => absurd (of_decide_eq_true hC) (by omega)) fun hC => ?_
    repeat' (first | ((apply f_wo); first | ((apply f_mv); first | refine zv (v := .c _) ?_ | refine za ?_) | ((apply f_as); first | refine zt (v := .c _) ?_ | refine za ?_) | ((apply f_ca); first | refine zt3 0 (c1) ?_ (hl := zc3 (by rfl) cc) | refine zt3 0 (c2) ?_ (hl := zc3 (by rfl) cc1) | refine zt3 0 (c3) ?_ (hl := zc3 (by rfl) cc2)) | ((apply zo6); first | refine zv3 ?_ | refine za ?_) | ((apply zj1); first | refine zg ?_ | refine zi1 ?_ | refine za ?_) | ((apply f_bb); first | refine zw1 ?_ | refine zx1 ?_ | refine za ?_) | refine za ?_) | ((apply f_w); first | refine zx ?_ | refine zd ?_) | refine zb fun C => ?_ | refine zj ?_ | refine zc ?_ | refine ze ?_ | refine zf ?_)
    refine n_rem (z2 := n) (by omega) ?_
    rw [ek]
    repeat' (first | ((apply f_wo); first | ((apply f_mv); first | refine zv (v := .c _) ?_ | refine za ?_) | ((apply f_as); first | refine zt (v := .c _) ?_ | refine za ?_) | ((apply zo6); first | refine zv3 ?_ | refine za ?_) | ((apply zj1); first | refine zg ?_ | refine zi1 ?_ | refine za ?_) | ((apply f_bb); first | refine zw1 ?_ | refine zx1 ?_ | refine za ?_) | refine za ?_) | ((apply f_w); first | refine zx ?_ | refine zd ?_) | refine zb fun C => ?_ | refine zj ?_ | refine zc ?_ | refine ze ?_ | refine zf ?_)
    refine zw ?_
    exact ret1 rfl zu1 rfl cc3 (zf4 h3 hc) ⟨rfl, rfl⟩
theorem zh7 {cs : List AC} (hc : Curs cs) (n : Int) (hn : 0 < n) : ∃ (b : Bool) (cs' : List AC), Curs cs' ∧ Ctr Tryd.prog 39 [.c (.pt 0 0), .c (.v (.int .i64 n))] [cs] (.c (.v (.bool b))) [cs'] := by
  have cc := zz1 hc
  obtain ⟨k, cs1, h1, hk, c1⟩ := zb4 hc n hn
  have cc1 := zz1 h1
  refine ⟨((k : Int) == 0), cs1, h1, za2 Tryd.func39 rfl rfl ?_⟩
  repeat' (first | ((apply f_wo); first | ((apply f_mv); first | refine zv (v := .c _) ?_ | refine za ?_) | ((apply f_as); first | refine zt (v := .c _) ?_ | refine za ?_) | ((apply f_ca); first | refine zt3 0 (c1) ?_ (hl := zc3 (by rfl) cc)) | ((apply zn1); first | refine zu ?_ | refine za ?_) | refine za ?_) | ((apply f_w); first | refine zx ?_ | refine zd ?_) | refine zb fun C => ?_ | refine zj ?_ | refine zc ?_ | refine ze ?_ | refine zf ?_)
  refine zw ?_
  exact ret1 rfl zu1 rfl cc1 (zf4 h1 hc) ⟨rfl, rfl⟩
def intL (ns : List Int) : List E := ns.map fun n => .int .i64 n
def strL (ns : List ByteArray) : List E := ns.map fun n => .str n
theorem zl19 {ns : List Int} : ∀ e ∈ intL ns, e.enc.length = 1 := fun e he => by obtain ⟨x, -, rfl⟩ := List.mem_map.1 he; rfl
theorem zm19 {ns : List ByteArray} : ∀ e ∈ strL ns, e.enc.length = 1 := fun e he => by obtain ⟨x, -, rfl⟩ := List.mem_map.1 he; rfl
theorem za14 {ns : List Int} : (intL ns).length = ns.length := by simp [intL]
theorem zb14 {ns : List ByteArray} : (strL ns).length = ns.length := by simp [strL]
theorem zs17 {cs : List AC} (hc : Curs cs) (ns : List Int) (hn : 0 < ns.length) : ∃ (z : Int) (cs' : List AC), Curs cs' ∧ z ∈ ns ∧ Ctr Tryd.prog 66 [.c (.pt 0 0), .c (.ro (intL ns).length 1 (acL (intL ns)))] [cs] (.c (.v (.int .i64 z))) [cs'] := by
  have cc := zz1 hc
  obtain ⟨k, cs1, h1, hk, c1⟩ := zb4 hc ((intL ns).length : Nat) (by rw [za14]; omega)
  have cc1 := zz1 h1
  have hk' : k < ns.length := by rw [za14] at hk; omega
  have henc := zl19 (ns := ns)
  obtain ⟨z, hz⟩ : ∃ z, ns[k]? = some z := ⟨_, List.getElem?_eq_getElem hk'⟩
  have he : (intL ns)[k]? = some (.int .i64 z) := by unfold intL; rw [List.getElem?_map, hz]; rfl
  refine ⟨z, cs1, h1, List.mem_of_getElem? hz, za2 Tryd.func66 rfl rfl ?_⟩
  repeat' (first | ((apply f_wo); first | ((apply f_mv); first | refine zv (v := .c _) ?_ | refine za ?_) | ((apply f_as); first | refine zt (v := .c _) ?_ | refine za ?_) | ((apply f_ld); first | refine zp3 ?_ | refine zs2 ?_ | refine n_ld ?_) | ((apply f_ca); first | refine zt3 0 (c1) ?_ (hl := zc3 (by rfl) cc)) | ((apply f_bi); first | refine zc1 ?_ | refine zb1 ?_ | refine zd1 ?_ | refine za ?_) | ((apply f_ia); first | refine n_ix ?_ | refine zl3 ?_ | refine za ?_) | refine za ?_) | ((apply f_w); first | refine zx ?_ | refine zd ?_) | refine zb fun C => ?_ | refine zj ?_ | refine zc ?_ | refine ze ?_ | refine zf ?_)
  refine zw ?_
  exact ret1 rfl zu1 rfl cc1 (zf4 h1 hc) ⟨rfl, rfl⟩
theorem zu6 {cs : List AC} (hc : Curs cs) (ns : List ByteArray) (hn : 0 < ns.length) : ∃ (z : ByteArray) (cs' : List AC), Curs cs' ∧ z ∈ ns ∧ Ctr Tryd.prog 38 [.c (.pt 0 0), .c (.ro (strL ns).length 1 (acL (strL ns)))] [cs] (.c (.v (.string z))) [cs'] := by
  have cc := zz1 hc
  obtain ⟨k, cs1, h1, hk, c1⟩ := zb4 hc ((strL ns).length : Nat) (by rw [zb14]; omega)
  have cc1 := zz1 h1
  have hk' : k < ns.length := by rw [zb14] at hk; omega
  have henc := zm19 (ns := ns)
  obtain ⟨z, hz⟩ : ∃ z, ns[k]? = some z := ⟨_, List.getElem?_eq_getElem hk'⟩
  have he : (strL ns)[k]? = some (.str z) := by unfold strL; rw [List.getElem?_map, hz]; rfl
  refine ⟨z, cs1, h1, List.mem_of_getElem? hz, za2 Tryd.func38 rfl rfl ?_⟩
  repeat' (first | ((apply f_wo); first | ((apply f_mv); first | refine zv (v := .c _) ?_ | refine za ?_) | ((apply f_as); first | refine zt (v := .c _) ?_ | refine za ?_) | ((apply f_ld); first | refine zp3 ?_ | refine zs2 ?_ | refine n_ld ?_) | ((apply f_ca); first | refine zt3 0 (c1) ?_ (hl := zc3 (by rfl) cc)) | ((apply f_bi); first | refine zc1 ?_ | refine zb1 ?_ | refine zd1 ?_ | refine za ?_) | ((apply f_ia); first | refine n_ix ?_ | refine zl3 ?_ | refine za ?_) | refine za ?_) | ((apply f_w); first | refine zx ?_ | refine zd ?_) | refine zb fun C => ?_ | refine zj ?_ | refine zc ?_ | refine ze ?_ | refine zf ?_)
  refine zw ?_
  exact ret1 rfl zu1 rfl cc1 (zf4 h1 hc) ⟨rfl, rfl⟩
set_option maxRecDepth 100000
set_option maxRecDepth 100000
set_option maxRecDepth 100000
structure ExtM (M : Nat → Prop) (w w' : World) (St : Nat → Prop) (φ : Nat → Lc) (F : Nat → List Nat) (pars : List (List AC)) (res : AV) (u : Value) (rows : List (List AC)) (St' : Nat → Prop) (F' : Nat → List Nat) (G : List Nat) : Prop where
  frm : Fc M (lentR φ pars) w w'
  res : VRF w' St' φ0 K0 res u G
  nodG : G.Nodup
  len : rows.length = pars.length
  row : ∀ i cs, rows[i]? = some cs → ∃ b lo vs, φ i = .box b lo ∧ CRL w' St' φ0 K0 cs vs (F' i) ∧ BoxAt w' b lo vs ∧ ∃ cs0, pars[i]? = some cs0 ∧ cs.length = cs0.length
  nod : ∀ i, i < pars.length → (F' i).Nodup
  disG : ∀ i, i < pars.length → ∀ b ∈ F' i, b ∉ G
  dis : ∀ i j, i < pars.length → j < pars.length → i ≠ j → ∀ b ∈ F' i, b ∉ F' j
  bxF : ∀ i b lo, i < pars.length → φ i = .box b lo → b ∉ G ∧ ∀ j, j < pars.length → b ∉ F' j
  own : ∀ b, (b ∈ G ∨ ∃ i, i < pars.length ∧ b ∈ F' i) → (M b ∨ w.heap.size ≤ b)
  sta : ∀ b, St' b → (b < w.heap.size → St b ∨ M b) ∧ b ∉ G ∧ ∀ i, i < pars.length → b ∉ F' i ∧ ∀ lo, φ i ≠ .box b lo
structure EntU (w : World) (St : Nat → Prop) (φ : Nat → Lc) (F : Nat → List Nat) (ins : List AV) (us : List Value) (pars : List (List AC)) (p : Nat) (T : TypeId) (k n : Nat) (cs : List AC) (A : List Nat) : Prop where
  ent : Ent w St φ F ins us pars
  row : ∃ u vs fs, us[p]? = some u ∧ CRL w St φ0 K0 cs vs fs ∧ w.ownsRow 0 T k u n vs ∧ A = obl u ++ fs
  nod : A.Nodup
  st : ∀ b ∈ A, ¬ St b
  ap : ∀ b ∈ A, ∀ i, i < pars.length → b ∉ F i ∧ ∀ lo, φ i ≠ .box b lo
  gl : ∀ b, isG b → b ∉ A
def ctxU (w : World) (St : Nat → Prop) (φ : Nat → Lc) (F : Nat → List Nat) (pars : List (List AC)) (A : List Nat) : Ctx :=
  { w0 := w, N := pars.length, pl := plOf φ, M := fun b => lentM F pars.length b ∨ b ∈ A, R := lentR φ pars, S0 := St }
def σU (id : Nat) (ins : List AV) (pars : List (List AC)) (p : Nat) (T : TypeId) (k n : Nat) (cs : List AC) (nt : Nat) : AS :=
  { tm := upd (σ0 ins pars nt).tm p (.c (.sl id n)), hp := upd (σ0 ins pars nt).hp id (some ⟨T, k, n, false, cs⟩), gn := pars.length, us := [id], L := ins.length + (nt - ins.length) }
theorem EntU.sim {w : World} {St : Nat → Prop} {φ : Nat → Lc} {F : Nat → List Nat} {ins : List AV} {us : List Value} {pars : List (List AC)} {p : Nat} {T : TypeId} {k n : Nat} {cs : List AC} {A : List Nat} (h : EntU w St φ F ins us pars p T k n cs A) {id : Nat} (hid : pars.length ≤ id) (nt : Nat) :
    ∃ φ' F' St', SimF (ctxU w St φ F pars A) φ' F' St' (σU id ins pars p T k n cs nt) { tmps := us.toArray ++ Array.replicate (nt - us.toArray.size) undef, defers := [] } w := by
  have h0 := h.ent.sim nt
  have h1 : SimF (ctxU w St φ F pars A) φ F St (σ0 ins pars nt) { tmps := us.toArray ++ Array.replicate (nt - us.toArray.size) undef, defers := [] } w := by
    have hf := h0.frm
    refine ⟨h0.dfr, h0.len, h0.tms, h0.row, h0.nod, h0.dis, h0.bxF, h0.bxd, h0.stF, h0.stB, ⟨hf.os, hf.tape, hf.output, hf.size, fun b hb hM => hf.blk b hb fun hm => hM (.inl hm)⟩, fun i r b hr hb => (h0.own i r b hr hb).imp .inl (fun q => q), h0.par, h0.new, ⟨h0.gnN.1, h0.gnN.2.1, fun b hb => ⟨fun hm => hm.elim (h0.gnN.2.2 b hb).1 (h.gl b hb), (h0.gnN.2.2 b hb).2⟩⟩, fun b hs hl => (h0.stS b hs hl).imp (fun q => q) .inl⟩
  obtain ⟨u, vs, fs, e1, g1, g2, g3⟩ := h.row
  have hkn : ∀ i r, (σ0 ins pars nt).hp i = some r → i < pars.length := fun i r hr => by
    simp only [σ0, Option.map_eq_some_iff] at hr
    obtain ⟨cs, h1, h2⟩ := hr
    exact (List.getElem?_eq_some_iff.1 h1).1
  have hfree : ∀ b ∈ A, Free (ctxU w St φ F pars A) φ F St (σ0 ins pars nt) b := fun b hb => ⟨fun j s hj => h.ap b hb j (hkn j s hj), h.st b hb, .inl (.inr hb)⟩
  have h2 := h1.newRow (i := id) (L := .slc u) (fp := A) (r := ⟨T, k, n, false, cs⟩) (b0 := none) (w' := w) hid (by simp [σ0]) ⟨rfl, rfl, rfl, Nat.le_refl _, fun _ _ _ => rfl⟩ (fun b e => by cases e) (fun St' φ' hS hφ => ⟨rfl, vs, fs, g1.mono hS (Nat.le_refl _) (fun i hi => hi.elim) (fun _ _ => rfl), g2, g3⟩) h.nod (fun b hb => .inr (hfree b hb)) (fun b lo e => by cases e)
  refine ⟨_, _, _, h2.dfr, h2.len, fun t => ?_, h2.row, h2.nod, h2.dis, h2.bxF, h2.bxd, h2.stF, h2.stB, h2.frm, h2.own, h2.par, h2.new, h2.gnN, h2.stS⟩
  show VR w _ _ _ (upd (σ0 ins pars nt).tm p (.c (.sl id n)) t) _
  by_cases ht : t = p
  · subst ht
    rw [zg2]
    have ev : (us.toArray ++ Array.replicate (nt - us.toArray.size) undef).getD t undef = u := by
      have hlt := (List.getElem?_eq_some_iff.1 e1).1
      rw [Array.getD_eq_getD_getElem?, Array.getElem?_append_left (by simpa using hlt)]
      simp [e1]
    show VR w _ _ _ _ ((us.toArray ++ Array.replicate (nt - us.toArray.size) undef).getD t undef)
    rw [ev]
    simp only [VR, CR]
    refine ⟨trivial, .inr List.mem_cons_self, by rw [zg2], ?_⟩
    obtain ⟨_, ⟨rfl, rfl⟩ | ⟨g, cap, cur, rfl, _⟩⟩ := g2
    · exact ⟨none, 0, rfl⟩
    · exact ⟨_, cap, rfl⟩
  · rw [za3 _ _ ht]
    exact h2.tms t
section
variable {P : Program} {C : Ctx} {φ : Nat → Lc} {F : Nat → List Nat} {St : Nat → Prop} {σ : AS} {a : Act} {w w' : World} {D : List Nat} {pars : List (List AC)}
end
section
variable {P : Program} {ops : Array Oper} {Q : Exit → Act → World → Prop} {C : Ctx} {σ : AS} {o : Oper} {i : Nat}
end
section
variable {C : Ctx} {φ : Nat → Lc} {F : Nat → List Nat} {St St' : Nat → Prop} {K : Nat → Prop} {σ : AS} {a : Act} {w w' : World}
end
section
variable {tm : Nat → AV} {hp : Nat → Option Row} {gn L : Nat} {us : List Nat}
end
section
variable {ops : Array Oper} {Q : Exit → Act → World → Prop} {C : Ctx} {i : Nat} {r : List Nat}
variable {tm : Nat → AV} {hp : Nat → Option Row} {gn L : Nat} {us : List Nat}
end
end Go.Proofs.YtnlgmojciplnoaaDoor
namespace Go.Proofs.YtnlgmojciplnoaaDoor
open Go.RowKit
end Go.Proofs.YtnlgmojciplnoaaDoor
namespace Go.Proofs.YtnlgmojciplnoaaDoor
open Go.RowKit
end Go.Proofs.YtnlgmojciplnoaaDoor
namespace Go.Proofs.YtnlgmojciplnoaaDoor
open Go.RowKit
set_option maxRecDepth 100000
set_option maxRecDepth 100000
section
variable {ops : Array Oper} {Q : Exit → Act → World → Prop} {C : Ctx} {i : Nat} {r : List Nat}
variable {tm : Nat → AV} {hp : Nat → Option Row} {gn L : Nat} {us : List Nat}
class BitB (b : BinOp) : Prop where
  h : b = .and ∨ b = .or ∨ b = .xor
instance : BitB .and := ⟨.inl rfl⟩
instance : BitB .or := ⟨.inr (.inl rfl)⟩
instance : BitB .xor := ⟨.inr (.inr rfl)⟩
end
end Go.Proofs.YtnlgmojciplnoaaDoor
namespace Go.Proofs.YtnlgmojciplnoaaDoor
open Go.RowKit
end Go.Proofs.YtnlgmojciplnoaaDoor
namespace Go.Proofs.YtnlgmojciplnoaaDoor
open Go.RowKit
theorem r3 {a b a' b' : Int} {c : Bool} (h1 : a = a') (h2 : b = b') : Ending.returned (.tuple #[.int .i64 a, .int .i64 b, .bool c]) = .returned (.tuple #[.int .i64 a', .int .i64 b', .bool c]) := by rw [h1, h2]
structure GIns where
  o : Nat
  n : Nat
  p : Nat
  ok : Bool
set_option maxRecDepth 100000
end Go.Proofs.YtnlgmojciplnoaaDoor
-- BIT
namespace Go.Proofs.YtnlgmojciplnoaaDoor
open Go.RowKit
set_option maxRecDepth 100000
def b8 (n : Int) : UInt8 := UInt8.ofNat n.toNat
theorem zz2 : ∀ bs : List UInt8, cloL (bytC bs) = true
  | [] => rfl
  | b :: r => by
    show (true && cloL (bytC r)) = true
    rw [zz2 r]; rfl
end Go.Proofs.YtnlgmojciplnoaaDoor
namespace Go.Proofs.YtnlgmojciplnoaaDoor
open Go.RowKit
set_option maxRecDepth 100000
section
variable {C : Ctx} {φ : Nat → Lc} {F : Nat → List Nat} {St : Nat → Prop} {σ : AS} {a : Act} {w : World}
end
section
variable {ops : Array Oper} {Q : Exit → Act → World → Prop} {C : Ctx} {i : Nat} {r : List Nat}
variable {tm : Nat → AV} {hp : Nat → Option Row} {gn L : Nat} {us : List Nat}
theorem zp22 {ty : TypeId} {gd : Option (Nat × Bool)} {cas : Array Operand} {cts : Array TypeId} {ps : String} {af : Array Edge} {t : Nat} {fv : Operand} {f : FuncId} {caps : List AC} {args ins : List AV} {res nv : AV} {nr : List (Nat × Row)} (hctr : Ctr Tryd.prog f ins [] res []) (h : Walk Tryd.prog ops Q C false [] r ⟨upd tm t nv, updL hp (nr.map (fun p => (p.1, some p.2))), gn, nr.map (·.1) ++ us, L⟩) (ht : Nat.blt t L = true := by exact rfl) (hg : gw ops tm (⟨some t, .call ⟨.value fv, cas, cts⟩, ty, ps, af, gd⟩ : Oper) = some true := by exact rfl) (hfv : AS.ev ⟨tm, hp, gn, us, L⟩ fv = .c (.fn f caps) := by exact rfl) (hargs : callArgs ⟨tm, hp, gn, us, L⟩ ⟨.value fv, cas, cts⟩ caps = args := by exact rfl) (hcv : args.map (cvV hp []) = ins := by ((repeat' (first | rfl | exact zh5 | refine zn4 ?_ ?_ | refine zv8 ?_ | refine cv_c ?_ | refine zo4 ?_ ?_ | (refine zc6 ?_; (first | rfl | (simp [cloV, cloL, clo, zn, zm, zo, zk, zi]; done))) | (refine zd6 ?_; (first | rfl | (simp [cloV, cloL, clo, zn, zm, zo, zk, zi]; done))) | refine ze6 ?_ | (refine cvC_sl' (by rfl) (by rfl) (by rfl) (by rfl) ?_ ?_; (focus (first | rfl | (simp [cloV, cloL, clo, zn, zm, zo, zk, zi]; done))); (first | rfl | exact zd4 _)))) <;> exact rfl)) (hm : ((args.flatMap snV).all fun z => ([] : List Nat).contains z) = true := by exact rfl) (hopn : opV (100 * (t + 1)) res = (nv, nr) := by exact rfl) (hf : (nr.all fun p => Nat.ble gn p.1 && !us.contains p.1) = true := by exact rfl) : WalkO Tryd.prog ops Q C false [] i (⟨some t, .call ⟨.value fv, cas, cts⟩, ty, ps, af, gd⟩ : Oper) r ⟨tm, hp, gn, us, L⟩ := ⟨fun hop => by
  refine zd13 (100 * (t + 1)) [] [] hop rfl rfl rfl ht hg hfv hargs (pars := []) rfl (by rw [hcv]; exact hctr) (by simp) rfl (.inr hm) hopn hf (by exact zf2) ?_
  simpa [keepH, backU] using h⟩
end
theorem zv5 {α : Type} {P : List AC → Prop} {R : List AC → α → List AC → Prop} (step : ∀ cs, P cs → ∃ (x : α) (cs' : List AC), P cs' ∧ R cs x cs') {cs : List AC} (h : P cs) : ∃ (S : Nat → List AC) (X : Nat → α), S 0 = cs ∧ ∀ k, P (S k) ∧ R (S k) (X k) (S (k + 1)) := by
  let f : {c : List AC // P c} → {c : List AC // P c} := fun s => ⟨Classical.choose (Classical.choose_spec (step s.1 s.2)), (Classical.choose_spec (Classical.choose_spec (step s.1 s.2))).1⟩
  let S : Nat → {c : List AC // P c} := fun k => Nat.rec ⟨cs, h⟩ (fun _ s => f s) k
  exact ⟨fun k => (S k).1, fun k => Classical.choose (step (S k).1 (S k).2), rfl, fun k => ⟨(S k).2, (Classical.choose_spec (Classical.choose_spec (step (S k).1 (S k).2))).2⟩⟩
end Go.Proofs.YtnlgmojciplnoaaDoor
