/- All tokens of a text: the reference. -/
import Derived.Shelf.Lays
import Derived.Shelf.Strings.BuilderX
import Derived.Shelf.Small.Strs
import Derived.Shelf.Strings.OnBuilder
import Derived.Shelf.LaysC
import Derived.Shelf.Strconv.AtoiAll
import Derived.Shelf.Strings.Prefix
import Derived.Test.YtnlgmojciplnoaaDoorLexPO
namespace Go.Proofs.YtnlgmojciplnoaaDoor
open Go.RowKit
set_option maxRecDepth 100000
theorem zo11 {l : List E} {e : E} : owL (l ++ [e]) = owL l ++ owE e := by rw [zf10]; show owL l ++ (owE e ++ []) = _; rw [List.append_nil]
set_option maxHeartbeats 4000000 in
theorem zw14 {s : ByteArray} (hs : s.size ≤ 1048576) : Ctr Tryd.prog 13 [.c (.v (.string s))] [] (.tu [.c (.ow 31 (lexW s).1.length 3 (owL (lexW s).1)), .c (.v (.int .i64 (lexW s).2))]) [] := by
  have c0 := zn11 hs (a := 0) (Nat.zero_le _)
  have hp0 := zt14 (s := s) (a := 0) (Nat.zero_le _)
  unfold lexW
  obtain ⟨⟨L, P⟩, hL⟩ : ∃ r, lexT s (passT s 0) false [] = r := ⟨_, rfl⟩
  rw [hL]
  dsimp only
  generalize passT s 0 = a0 at c0 hp0 hL
  refine zr2 Tryd.func13 rfl rfl ?_
  repeat' (first | ((apply f_wo); first | ((apply f_gs); first | refine n_sk ?_) | ((apply f_mv); first | (refine zl1 ?_ ?_ <;> intro hG <;> (try cases hG)) | refine zu (v := .c _) ?_ | refine zu (v := .tu _) ?_ | refine za ?_) | ((apply f_as); first | refine zv (v := .c _) ?_ | refine zv (v := .tu _) ?_ | refine za ?_) | ((apply f_fa); first | refine n_fa ?_ | refine zg5 ?_) | ((apply f_ld); first | refine zq3 ?_ | refine zd3 ?_ | refine zn3 ?_ | refine zi4 ?_ | refine n_ld ?_) | ((apply f_ca); first | refine zh1 (c0) ?_ | refine zg1 (c0) ?_) | ((apply f_bi); first | refine za1 ?_ | refine zy ?_ | refine zb1 ?_ | refine zc3 ?_ | refine zc3 (hnu := zl _) ?_ | refine zj2 ?_ | refine zj2 (hnu := zl _) ?_ | refine za ?_) | ((apply f_st); first | refine n_st ?_ | refine zq2 ?_) | ((apply zq1); first | refine zm1 ?_ | refine zm2 ?_ | refine za ?_) | ((apply zi1); first | refine ze ?_ | refine za ?_) | ((apply f_no); first | refine zs2 ?_ | refine za ?_) | ((apply f_pk); first | refine zx (v := .c _) ?_ | refine zx (v := .tu _) ?_ | refine za ?_) | ((apply f_ex); first | refine zr1 (v := .c _) ?_ | refine zr1 (v := .tu _) ?_ | refine za ?_) | refine n_al ?_ | refine n_bs ?_ | refine za ?_) | ((apply f_w); first | refine zd1 ?_ | refine zd ?_) | refine zb fun C => ?_ | refine zj ?_ | refine zc ?_ | refine zf ?_ | refine zh ?_)
  refine zj3 (fun d : Nat × Bool × List E => ⟨tmsF [(0, .c (.v (.string s))), (4, .c (.sl 9 d.2.2.length)), (5, .c (.v (.bool d.2.1))), (6, .c (.v (.int .i64 (d.1 : Int))))], hpsF [(9, 9, ⟨31, 3, d.2.2.length, false, owL d.2.2⟩)], 0, [9], 49⟩)
    (fun N d => d.1 + N = s.size ∧ d.2.2.length ≤ 2000 ∧ lexT s d.1 d.2.1 d.2.2 = (L, P)) (s.size - a0) (a0, false, []) ⟨by dsimp only; omega, Nat.zero_le _, hL⟩ ?_ ?_
  · show Gh _ _
    (refine zf2 _ _ rfl rfl ?_ ?_ <;> (repeat' (first | exact TmOk.nil | exact RwOk.nil | refine TmOk.cons ?_ ?_ | refine RwOk.cons ?_ ?_ | rfl | exact ze1 rfl (by assumption) | exact ze1 rfl (bytC_cloB _) | (refine rnV_id' rfl ?_; (first | rfl | (simp [cloV, cloL, clo, zn, zm, zo, zk, zi]; done))) | (refine zo2 ?_; first | rfl | omega | (rw [zs1 (by omega) (by omega)]; omega)) | (refine ze1 rfl ?_; (first | rfl | (simp [cloV, cloL, clo, zn, zm, zo, zk, zi]; done))) | exact zg3 rfl rfl | (refine zp2 (by rfl) (by rfl) ?_ ?_ <;> (first | rfl | (simp [cloV, cloL, clo, zn, zm, zo, zk, zi]; done))) | (refine rw_rn' rfl rfl ?_; simp; done))))
  rintro N ⟨k, rex, out⟩ ⟨hN, hl, hI⟩
  dsimp only at hN hl hI ⊢
  by_cases hk : k < s.size
  · have c1 := zf19 hs hk rex
    have hlt := zh8 (rex := rex) hk
    have hy := zs14 (rex := rex) (out := out) hk
    have hn := zt17 (rex := rex) (out := out) hk
    have hz : (oneR s k rex).s.size ≤ 1048576 := zb19 hs hk
    unfold Tk.ok Tk.E at hy
    unfold Tk.ok at hn
    obtain ⟨⟨q1, q2, q3, e⟩, hq⟩ : ∃ q, oneR s k rex = q := ⟨_, rfl⟩
    rw [hq] at c1 hlt hy hn hz
    dsimp only at c1 hlt hy hn hz
    clear hq
    have c2 := zn8 hz q1 q2
    have c3 := zn11 hs hlt.2
    have hp := zt14 (s := s) hlt.2
    cases ho : tokOk q1 q2 q3 with
    | false =>
      rw [ho] at c2 hn
      rw [hn (by simp)] at hI
      obtain ⟨rfl, rfl⟩ := Prod.mk.injEq .. ▸ hI
      repeat' (first | ((apply f_wo); first | ((apply f_gs); first | refine n_sk ?_) | ((apply f_mv); first | (refine zl1 ?_ ?_ <;> intro hG <;> (try cases hG)) | refine zu (v := .c _) ?_ | refine zu (v := .tu _) ?_ | refine za ?_) | ((apply f_as); first | refine zv (v := .c _) ?_ | refine zv (v := .tu _) ?_ | refine za ?_) | ((apply f_fa); first | refine n_fa ?_ | refine zg5 ?_) | ((apply f_ld); first | refine zq3 ?_ | refine zd3 ?_ | refine zn3 ?_ | refine zi4 ?_ | refine n_ld ?_) | ((apply f_ca); first | refine zh1 (c1) ?_ | refine zg1 (c1) ?_ | refine zh1 (c2) ?_ | refine zg1 (c2) ?_) | ((apply f_bi); first | refine za1 ?_ | refine zy ?_ | refine zb1 ?_ | refine zc3 ?_ | refine zc3 (hnu := zl _) ?_ | refine zj2 ?_ | refine zj2 (hnu := zl _) ?_ | refine za ?_) | ((apply f_st); first | refine n_st ?_ | refine zq2 ?_) | ((apply zq1); first | refine zm1 ?_ | refine zm2 ?_ | refine za ?_) | ((apply zi1); first | refine ze ?_ | refine za ?_) | ((apply f_no); first | refine zs2 ?_ | refine za ?_) | ((apply f_pk); first | refine zx (v := .c _) ?_ | refine zx (v := .tu _) ?_ | refine za ?_) | ((apply f_ex); first | refine zr1 (v := .c _) ?_ | refine zr1 (v := .tu _) ?_ | refine za ?_) | refine n_al ?_ | refine n_bs ?_ | refine za ?_) | ((apply f_w); first | refine zd1 ?_ | refine zd ?_) | refine zb fun C => ?_ | refine zj ?_ | refine zc ?_ | refine zf ?_ | refine zh ?_ | (refine zp (by rfl) ?_ ?_ <;> intro hC <;> (try cases hC)))
      all_goals first
        | (exfalso; simp only [decide_eq_true_iff, decide_eq_false_iff_not] at *; omega)
        | (refine zc1 ?_
           exact ret0 rfl (zt2 (zt (zg10 (zz6 (rw := ⟨31, 3, 0, false, []⟩) rfl rfl rfl rfl zk2)) (zt zv1 zw1))) ⟨rfl, rfl⟩)
    | true =>
      rw [ho] at c2 hn hy
      by_cases hm : out.length = 2000
      · rw [hn (by simp [hm])] at hI
        obtain ⟨rfl, rfl⟩ := Prod.mk.injEq .. ▸ hI
        repeat' (first | ((apply f_wo); first | ((apply f_gs); first | refine n_sk ?_) | ((apply f_mv); first | (refine zl1 ?_ ?_ <;> intro hG <;> (try cases hG)) | refine zu (v := .c _) ?_ | refine zu (v := .tu _) ?_ | refine za ?_) | ((apply f_as); first | refine zv (v := .c _) ?_ | refine zv (v := .tu _) ?_ | refine za ?_) | ((apply f_fa); first | refine n_fa ?_ | refine zg5 ?_) | ((apply f_ld); first | refine zq3 ?_ | refine zd3 ?_ | refine zn3 ?_ | refine zi4 ?_ | refine n_ld ?_) | ((apply f_ca); first | refine zh1 (c1) ?_ | refine zg1 (c1) ?_ | refine zh1 (c2) ?_ | refine zg1 (c2) ?_) | ((apply f_bi); first | refine za1 ?_ | refine zy ?_ | refine zb1 ?_ | refine zc3 ?_ | refine zc3 (hnu := zl _) ?_ | refine zj2 ?_ | refine zj2 (hnu := zl _) ?_ | refine za ?_) | ((apply f_st); first | refine n_st ?_ | refine zq2 ?_) | ((apply zq1); first | refine zm1 ?_ | refine zm2 ?_ | refine za ?_) | ((apply zi1); first | refine ze ?_ | refine za ?_) | ((apply f_no); first | refine zs2 ?_ | refine za ?_) | ((apply f_pk); first | refine zx (v := .c _) ?_ | refine zx (v := .tu _) ?_ | refine za ?_) | ((apply f_ex); first | refine zr1 (v := .c _) ?_ | refine zr1 (v := .tu _) ?_ | refine za ?_) | refine n_al ?_ | refine n_bs ?_ | refine za ?_) | ((apply f_w); first | refine zd1 ?_ | refine zd ?_) | refine zb fun C => ?_ | refine zj ?_ | refine zc ?_ | refine zf ?_ | refine zh ?_ | (refine zp (by rfl) ?_ ?_ <;> intro hC <;> (try cases hC)))
        all_goals first
          | (exfalso; simp only [decide_eq_true_iff, decide_eq_false_iff_not, beq_iff_eq, beq_eq_false_iff_ne, ne_eq] at *; omega)
          | (refine zc1 ?_
             exact ret0 rfl (zt2 (zt (zg10 (zz6 (rw := ⟨31, 3, 0, false, []⟩) rfl rfl rfl rfl zk2)) (zt zv1 zw1))) ⟨rfl, rfl⟩)
      · rw [hy rfl hm] at hI
        clear hn hy ho c0
        generalize passT s e = b at c3 hp hI
        by_cases h5 : q1 = 5
        · subst h5
          rw [show tilB 5 q3 = (q3.toList == (⟨#[126]⟩ : ByteArray).toList) by rw [zo4]; simp [tilB]] at hI
          repeat' (first | ((apply f_wo); first | ((apply f_gs); first | refine n_sk ?_) | ((apply f_mv); first | (refine zl1 ?_ ?_ <;> intro hG <;> (try cases hG)) | refine zu (v := .c _) ?_ | refine zu (v := .tu _) ?_ | refine za ?_) | ((apply f_as); first | refine zv (v := .c _) ?_ | refine zv (v := .tu _) ?_ | refine za ?_) | ((apply f_fa); first | refine n_fa ?_ | refine zg5 ?_) | ((apply f_ld); first | refine zq3 ?_ | refine zd3 ?_ | refine zn3 ?_ | refine zi4 ?_ | refine n_ld ?_) | ((apply f_ca); first | refine zh1 (c1) ?_ | refine zg1 (c1) ?_ | refine zh1 (c2) ?_ | refine zg1 (c2) ?_ | refine zh1 (c3) ?_ | refine zg1 (c3) ?_) | ((apply f_bi); first | refine za1 ?_ | refine zy ?_ | refine zb1 ?_ | refine zc3 ?_ | refine zc3 (hnu := zl _) ?_ | refine zj2 ?_ | refine zj2 (hnu := zl _) ?_ | refine za ?_) | ((apply f_st); first | refine n_st ?_ | refine zq2 ?_) | ((apply zq1); first | refine zm1 ?_ | refine zm2 ?_ | refine za ?_) | ((apply zi1); first | refine ze ?_ | refine za ?_) | ((apply f_no); first | refine zs2 ?_ | refine za ?_) | ((apply f_pk); first | refine zx (v := .c _) ?_ | refine zx (v := .tu _) ?_ | refine za ?_) | ((apply f_ex); first | refine zr1 (v := .c _) ?_ | refine zr1 (v := .tu _) ?_ | refine za ?_) | refine n_al ?_ | refine n_bs ?_ | refine za ?_) | ((apply f_w); first | refine zd1 ?_ | refine zd ?_) | refine zb fun C => ?_ | refine zj ?_ | refine zc ?_ | refine zf ?_ | refine zh ?_ | (refine zp (by rfl) ?_ ?_ <;> intro hC <;> (try cases hC)))
          all_goals first
            | (exfalso; simp only [decide_eq_true_iff, decide_eq_false_iff_not, beq_iff_eq, beq_eq_false_iff_ne, ne_eq] at *; omega)
            | (refine ⟨s.size - b, (b, q3.toList == (⟨#[126]⟩ : ByteArray).toList, out ++ [tokE 5 q2 q3]), by omega, ⟨by dsimp only; omega, by dsimp only; rw [List.length_append, List.length_singleton]; omega, hI⟩, ?_⟩
               dsimp only
               rw [List.length_append, List.length_singleton]
               (refine zd11 (fun j => if j = 9 then 36 else j) _ _ rfl rfl ?_ ?_ <;> (repeat' (first | exact TmOk.nil | exact RwOk.nil | refine TmOk.cons ?_ ?_ | refine RwOk.cons ?_ ?_ | rfl | exact ze1 rfl (by assumption) | exact ze1 rfl (bytC_cloB _) | (refine rnV_id' rfl ?_; (first | rfl | (simp [cloV, cloL, clo, zn, zm, zo, zk, zi]; done))) | (refine zo2 ?_; first | rfl | omega | (rw [zs1 (by omega) (by omega)]; omega)) | (refine ze1 rfl ?_; (first | rfl | (simp [cloV, cloL, clo, zn, zm, zo, zk, zi]; done))) | exact zg3 rfl rfl | (refine zp2 (by rfl) (by rfl) ?_ ?_ <;> (first | rfl | (simp [cloV, cloL, clo, zn, zm, zo, zk, zi]; done))) | (refine rw_rn' rfl rfl ?_; simp; done))))
               exact ze16 (r := ⟨31, 3, out.length + 1, false, owL out ++ [.v (.int .i64 5), .v (.int .i64 q2), .v (.string q3)]⟩) rfl (by rw [zo11]; rfl) (zk _))
        · rw [show tilB q1 q3 = false by simp [tilB, h5]] at hI
          repeat' (first | ((apply f_wo); first | ((apply f_gs); first | refine n_sk ?_) | ((apply f_mv); first | (refine zl1 ?_ ?_ <;> intro hG <;> (try cases hG)) | refine zu (v := .c _) ?_ | refine zu (v := .tu _) ?_ | refine za ?_) | ((apply f_as); first | refine zv (v := .c _) ?_ | refine zv (v := .tu _) ?_ | refine za ?_) | ((apply f_fa); first | refine n_fa ?_ | refine zg5 ?_) | ((apply f_ld); first | refine zq3 ?_ | refine zd3 ?_ | refine zn3 ?_ | refine zi4 ?_ | refine n_ld ?_) | ((apply f_ca); first | refine zh1 (c1) ?_ | refine zg1 (c1) ?_ | refine zh1 (c2) ?_ | refine zg1 (c2) ?_ | refine zh1 (c3) ?_ | refine zg1 (c3) ?_) | ((apply f_bi); first | refine za1 ?_ | refine zy ?_ | refine zb1 ?_ | refine zc3 ?_ | refine zc3 (hnu := zl _) ?_ | refine zj2 ?_ | refine zj2 (hnu := zl _) ?_ | refine za ?_) | ((apply f_st); first | refine n_st ?_ | refine zq2 ?_) | ((apply zq1); first | refine zm1 ?_ | refine zm2 ?_ | refine za ?_) | ((apply zi1); first | refine ze ?_ | refine za ?_) | ((apply f_no); first | refine zs2 ?_ | refine za ?_) | ((apply f_pk); first | refine zx (v := .c _) ?_ | refine zx (v := .tu _) ?_ | refine za ?_) | ((apply f_ex); first | refine zr1 (v := .c _) ?_ | refine zr1 (v := .tu _) ?_ | refine za ?_) | refine n_al ?_ | refine n_bs ?_ | refine za ?_) | ((apply f_w); first | refine zd1 ?_ | refine zd ?_) | refine zb fun C => ?_ | refine zj ?_ | refine zc ?_ | refine zf ?_ | refine zh ?_ | (refine zp (by rfl) ?_ ?_ <;> intro hC <;> (try cases hC)))
          all_goals first
            | (exfalso; simp only [decide_eq_true_iff, decide_eq_false_iff_not, beq_iff_eq, beq_eq_false_iff_ne, ne_eq] at *; first | omega | contradiction)
            | (refine ⟨s.size - b, (b, false, out ++ [tokE q1 q2 q3]), by omega, ⟨by dsimp only; omega, by dsimp only; rw [List.length_append, List.length_singleton]; omega, hI⟩, ?_⟩
               dsimp only
               rw [List.length_append, List.length_singleton]
               (refine zd11 (fun j => if j = 9 then 36 else j) _ _ rfl rfl ?_ ?_ <;> (repeat' (first | exact TmOk.nil | exact RwOk.nil | refine TmOk.cons ?_ ?_ | refine RwOk.cons ?_ ?_ | rfl | exact ze1 rfl (by assumption) | exact ze1 rfl (bytC_cloB _) | (refine rnV_id' rfl ?_; (first | rfl | (simp [cloV, cloL, clo, zn, zm, zo, zk, zi]; done))) | (refine zo2 ?_; first | rfl | omega | (rw [zs1 (by omega) (by omega)]; omega)) | (refine ze1 rfl ?_; (first | rfl | (simp [cloV, cloL, clo, zn, zm, zo, zk, zi]; done))) | exact zg3 rfl rfl | (refine zp2 (by rfl) (by rfl) ?_ ?_ <;> (first | rfl | (simp [cloV, cloL, clo, zn, zm, zo, zk, zi]; done))) | (refine rw_rn' rfl rfl ?_; simp; done))))
               exact ze16 (r := ⟨31, 3, out.length + 1, false, owL out ++ [.v (.int .i64 q1), .v (.int .i64 q2), .v (.string q3)]⟩) rfl (by rw [zo11]; rfl) (zk _))
  · rw [zr14 hk] at hI
    obtain ⟨rfl, rfl⟩ := Prod.mk.injEq .. ▸ hI
    repeat' (first | ((apply f_wo); first | ((apply f_gs); first | refine n_sk ?_) | ((apply f_mv); first | (refine zl1 ?_ ?_ <;> intro hG <;> (try cases hG)) | refine zu (v := .c _) ?_ | refine zu (v := .tu _) ?_ | refine za ?_) | ((apply f_as); first | refine zv (v := .c _) ?_ | refine zv (v := .tu _) ?_ | refine za ?_) | ((apply f_fa); first | refine n_fa ?_ | refine zg5 ?_) | ((apply f_ld); first | refine zq3 ?_ | refine zd3 ?_ | refine zn3 ?_ | refine zi4 ?_ | refine n_ld ?_) | ((apply f_bi); first | refine za1 ?_ | refine zy ?_ | refine zb1 ?_ | refine zc3 ?_ | refine zc3 (hnu := zl _) ?_ | refine zj2 ?_ | refine zj2 (hnu := zl _) ?_ | refine za ?_) | ((apply f_st); first | refine n_st ?_ | refine zq2 ?_) | ((apply zq1); first | refine zm1 ?_ | refine zm2 ?_ | refine za ?_) | ((apply zi1); first | refine ze ?_ | refine za ?_) | ((apply f_no); first | refine zs2 ?_ | refine za ?_) | ((apply f_pk); first | refine zx (v := .c _) ?_ | refine zx (v := .tu _) ?_ | refine za ?_) | ((apply f_ex); first | refine zr1 (v := .c _) ?_ | refine zr1 (v := .tu _) ?_ | refine za ?_) | refine n_al ?_ | refine n_bs ?_ | refine za ?_) | ((apply f_w); first | refine zd1 ?_ | refine zd ?_) | refine zb fun C => ?_ | refine zj ?_ | refine zc ?_ | refine zf ?_ | refine zh ?_ | (refine zp (by rfl) ?_ ?_ <;> intro hC <;> (try cases hC)))
    all_goals first
      | (exfalso; simp only [decide_eq_true_iff, decide_eq_false_iff_not] at *; omega)
      | (refine zc1 ?_
         exact ret0 rfl (zt2 (zt (zg10 (zz6 (rw := ⟨31, 3, out.length, false, owL out⟩) rfl rfl rfl (zk _) zk2)) (zt zv1 zw1))) ⟨rfl, rfl⟩)
end Go.Proofs.YtnlgmojciplnoaaDoor
namespace Go.Proofs.YtnlgmojciplnoaaDoor
open Go.RowKit Go.Shelf
set_option maxRecDepth 100000
def lays137_ren : Go.Shelf.Ren := ⟨fun | 137 => 22 | 217 => 43 | 266 => 67 | n => n, fun | 9 => 9 | 5 => 5 | 3 => 3 | n => n, fun | n => n⟩
theorem zg19 : Go.Proofs.Lays.n137 Tryd.prog lays137_ren := {
  mixed := by kernel_rfl
  f137 := Tryd.func22.trans (congrArg some (by kernel_rfl))
  f217 := Tryd.func43.trans (congrArg some (by kernel_rfl))
  f266 := Tryd.func67.trans (congrArg some (by kernel_rfl))
  t3 := Tryd.underlying3
  a3 := Tryd.isAgg3
  z3 := Tryd.sizeOf3
  v3 := Tryd.zeroValue3
  t5 := Tryd.underlying5
  a5 := Tryd.isAgg5
  z5 := Tryd.sizeOf5
  v5 := Tryd.zeroValue5
  t9 := Tryd.underlying9
  a9 := Tryd.isAgg9
  z9 := Tryd.sizeOf9
  v9 := Tryd.zeroValue9 }
end Go.Proofs.YtnlgmojciplnoaaDoor
namespace Go.Proofs.YtnlgmojciplnoaaDoor
open Go.RowKit Go.Shelf
set_option maxRecDepth 100000
end Go.Proofs.YtnlgmojciplnoaaDoor
namespace Go.Proofs.YtnlgmojciplnoaaDoor
open Go.RowKit
set_option maxRecDepth 100000
theorem zo8 {P : Program} {f : FuncId} {ins : List AV} {v : Value} (he : entB P f = true) (hv : scal v = true)
    (hc : ∀ (w : World) (St : Nat → Prop) (φ : Nat → Lc) (K : Nat → Prop) (us : List Value), VRL w St φ K ins us → Calls P f us.toArray w fun e w' => e = .returned v ∧ Below w.heap.size w w') : Ctr P f ins [] (.c (.v v)) [] := by
  refine ⟨he, fun w St φ F us' hent => ?_⟩
  refine (hc w St φ _ us' hent.args).mono ?_
  rintro e w' ⟨rfl, hb⟩
  refine ⟨_, _, v, fun _ => False, fun _ => [], [], ⟨rfl, rfl⟩, rfl, ⟨⟨hb.os, hb.tape, hb.output, hb.size, fun b hlt _ => .inl (hb.block b hlt)⟩, ?_, by simp, rfl, fun i cs hi => by simp at hi, fun i hi => by simp at hi, fun i hi => by simp at hi, fun i j hi => by simp at hi, fun i b lo hi => by simp at hi, fun b hb => by simp at hb, fun b hb => hb.elim⟩⟩
  simp only [VRF, CR]
  exact ⟨trivial, hv, trivial⟩
theorem zr5 (s : ByteArray) {c : Nat} (_hc : c < 256) : Ctr Tryd.prog 22 [.c (.v (.string s)), .c (.v (.int .u8 (c : Int)))] [] (.c (.v (.int .i64 (Lib.indexByte s.data.toList (UInt8.ofNat c))))) [] := by
  refine zo8 (by kernel_rfl) rfl fun w St φ K us h => ?_
  simp only [VRL, VR, CR] at h
  obtain ⟨u, us1, rfl, ⟨rfl, -⟩, u2, us2, rfl, ⟨rfl, -⟩, rfl⟩ := h
  refine (Go.Proofs.Any.strings_IndexByte zg19 s (c : Int) w).mono ?_
  rintro e w' ⟨rfl, rfl⟩
  exact ⟨rfl, Below.refl _ _⟩
end Go.Proofs.YtnlgmojciplnoaaDoor
namespace Go.Proofs.YtnlgmojciplnoaaDoor
open Go.RowKit Go.Shelf
set_option maxRecDepth 100000
def laysC172_ren : Go.Shelf.Ren := ⟨fun | 172 => 46 | 244 => 68 | 245 => 69 | 247 => 74 | 279 => 75 | 280 => 76 | 281 => 77 | 282 => 78 | 287 => 82 | 316 => 83 | 171 => 47 | 205 => 84 | 321 => 89 | 322 => 90 | 243 => 70 | 246 => 79 | 283 => 85 | 284 => 86 | 285 => 87 | 286 => 88 | 129 => 92 | 317 => 91 | 318 => 93 | 319 => 94 | 320 => 95 | 337 => 96 | 338 => 97 | n => n, fun | 9 => 9 | 3 => 3 | 75 => 62 | 76 => 63 | 4 => 4 | 5 => 5 | 167 => 82 | 37 => 22 | 0 => 0 | 85 => 83 | 2 => 2 | 168 => 85 | 53 => 92 | 175 => 93 | 46 => 81 | 210 => 96 | 127 => 80 | 145 => 106 | 143 => 104 | 21 => 21 | 171 => 98 | 173 => 101 | 212 => 109 | 51 => 110 | 20 => 20 | 213 => 111 | 232 => 115 | 233 => 116 | 80 => 70 | n => n, fun | 15 => 1 | 16 => 2 | 17 => 3 | 18 => 4 | 19 => 5 | n => n⟩
theorem zp11 : Go.Proofs.LaysC.n172 Tryd.prog laysC172_ren := {
  mixed := by kernel_rfl
  f129 := Tryd.func92.trans (congrArg some (by kernel_rfl))
  f171 := Tryd.func47.trans (congrArg some (by kernel_rfl))
  f172 := Tryd.func46.trans (congrArg some (by kernel_rfl))
  f205 := Tryd.func84.trans (congrArg some (by kernel_rfl))
  f243 := Tryd.func70.trans (congrArg some (by kernel_rfl))
  f244 := Tryd.func68.trans (congrArg some (by kernel_rfl))
  f245 := Tryd.func69.trans (congrArg some (by kernel_rfl))
  f246 := Tryd.func79.trans (congrArg some (by kernel_rfl))
  f247 := Tryd.func74.trans (congrArg some (by kernel_rfl))
  f279 := Tryd.func75.trans (congrArg some (by kernel_rfl))
  f280 := Tryd.func76.trans (congrArg some (by kernel_rfl))
  f281 := Tryd.func77.trans (congrArg some (by kernel_rfl))
  f282 := Tryd.func78.trans (congrArg some (by kernel_rfl))
  f283 := Tryd.func85.trans (congrArg some (by kernel_rfl))
  f284 := Tryd.func86.trans (congrArg some (by kernel_rfl))
  f285 := Tryd.func87.trans (congrArg some (by kernel_rfl))
  f286 := Tryd.func88.trans (congrArg some (by kernel_rfl))
  f287 := Tryd.func82.trans (congrArg some (by kernel_rfl))
  f316 := Tryd.func83.trans (congrArg some (by kernel_rfl))
  f317 := Tryd.func91.trans (congrArg some (by kernel_rfl))
  f318 := Tryd.func93.trans (congrArg some (by kernel_rfl))
  f319 := Tryd.func94.trans (congrArg some (by kernel_rfl))
  f320 := Tryd.func95.trans (congrArg some (by kernel_rfl))
  f321 := Tryd.func89.trans (congrArg some (by kernel_rfl))
  f322 := Tryd.func90.trans (congrArg some (by kernel_rfl))
  f337 := Tryd.func96.trans (congrArg some (by kernel_rfl))
  f338 := Tryd.func97.trans (congrArg some (by kernel_rfl))
  t0 := Tryd.underlying0
  a0 := Tryd.isAgg0
  z0 := Tryd.sizeOf0
  v0 := Tryd.zeroValue0
  t2 := Tryd.underlying2
  a2 := Tryd.isAgg2
  z2 := Tryd.sizeOf2
  v2 := Tryd.zeroValue2
  t3 := Tryd.underlying3
  a3 := Tryd.isAgg3
  z3 := Tryd.sizeOf3
  v3 := Tryd.zeroValue3
  t4 := Tryd.underlying4
  a4 := Tryd.isAgg4
  z4 := Tryd.sizeOf4
  v4 := Tryd.zeroValue4
  t5 := Tryd.underlying5
  a5 := Tryd.isAgg5
  z5 := Tryd.sizeOf5
  v5 := Tryd.zeroValue5
  t9 := Tryd.underlying9
  a9 := Tryd.isAgg9
  z9 := Tryd.sizeOf9
  v9 := Tryd.zeroValue9
  t20 := Tryd.underlying20
  a20 := Tryd.isAgg20
  z20 := Tryd.sizeOf20
  v20 := Tryd.zeroValue20
  t21 := Tryd.underlying21
  a21 := Tryd.isAgg21
  z21 := Tryd.sizeOf21
  v21 := Tryd.zeroValue21
  t37 := Tryd.underlying22
  a37 := Tryd.isAgg22
  z37 := Tryd.sizeOf22
  v37 := Tryd.zeroValue22
  t46 := Tryd.underlying81
  a46 := Tryd.isAgg81
  z46 := Tryd.sizeOf81
  v46 := Tryd.zeroValue81
  t51 := Tryd.underlying110
  a51 := Tryd.isAgg110
  z51 := Tryd.sizeOf110
  v51 := Tryd.zeroValue110
  t53 := Tryd.underlying92
  a53 := Tryd.isAgg92
  z53 := Tryd.sizeOf92
  v53 := Tryd.zeroValue92
  t75 := Tryd.underlying62
  a75 := Tryd.isAgg62
  z75 := Tryd.sizeOf62
  v75 := Tryd.zeroValue62
  t76 := Tryd.underlying63
  a76 := Tryd.isAgg63
  z76 := Tryd.sizeOf63
  v76 := Tryd.zeroValue63
  t85 := Tryd.underlying83
  a85 := Tryd.isAgg83
  z85 := Tryd.sizeOf83
  v85 := Tryd.zeroValue83
  t127 := Tryd.underlying80
  a127 := Tryd.isAgg80
  z127 := Tryd.sizeOf80
  v127 := Tryd.zeroValue80
  t143 := Tryd.underlying104
  a143 := Tryd.isAgg104
  z143 := Tryd.sizeOf104
  v143 := Tryd.zeroValue104
  t145 := Tryd.underlying106
  a145 := Tryd.isAgg106
  z145 := Tryd.sizeOf106
  v145 := Tryd.zeroValue106
  t167 := Tryd.underlying82
  a167 := Tryd.isAgg82
  z167 := Tryd.sizeOf82
  v167 := Tryd.zeroValue82
  t168 := Tryd.underlying85
  a168 := Tryd.isAgg85
  z168 := Tryd.sizeOf85
  v168 := Tryd.zeroValue85
  t171 := Tryd.underlying98
  a171 := Tryd.isAgg98
  z171 := Tryd.sizeOf98
  v171 := Tryd.zeroValue98
  t173 := Tryd.underlying101
  a173 := Tryd.isAgg101
  z173 := Tryd.sizeOf101
  v173 := Tryd.zeroValue101
  t175 := Tryd.underlying93
  a175 := Tryd.isAgg93
  z175 := Tryd.sizeOf93
  v175 := Tryd.zeroValue93
  t210 := Tryd.underlying96
  a210 := Tryd.isAgg96
  z210 := Tryd.sizeOf96
  v210 := Tryd.zeroValue96
  t212 := Tryd.underlying109
  a212 := Tryd.isAgg109
  z212 := Tryd.sizeOf109
  v212 := Tryd.zeroValue109
  t213 := Tryd.underlying111
  a213 := Tryd.isAgg111
  z213 := Tryd.sizeOf111
  t232 := Tryd.underlying115
  a232 := Tryd.isAgg115
  z232 := Tryd.sizeOf115
  v232 := Tryd.zeroValue115
  t233 := Tryd.underlying116
  a233 := Tryd.isAgg116
  z233 := Tryd.sizeOf116
  v233 := Tryd.zeroValue116
  g15 := by kernel_rfl
  g16 := by kernel_rfl
  g17 := by kernel_rfl
  g18 := by kernel_rfl
  g19 := by kernel_rfl
  t80 := Tryd.underlying70
  a80 := Tryd.isAgg70
  z80 := Tryd.sizeOf70
  v80 := Tryd.zeroValue70
  i0 := by kernel_rfl
  i2 := by kernel_rfl
  i3 := by kernel_rfl
  i4 := by kernel_rfl
  i5 := by kernel_rfl
  i9 := by kernel_rfl
  i20 := by kernel_rfl
  i21 := by kernel_rfl
  i37 := by kernel_rfl
  i46 := by kernel_rfl
  i51 := by kernel_rfl
  i53 := by kernel_rfl
  i75 := by kernel_rfl
  i76 := by kernel_rfl
  i80 := by kernel_rfl
  i85 := by kernel_rfl
  i127 := by kernel_rfl
  i143 := by kernel_rfl
  i145 := by kernel_rfl
  i167 := by kernel_rfl
  i168 := by kernel_rfl
  i171 := by kernel_rfl
  i173 := by kernel_rfl
  i175 := by kernel_rfl
  i210 := by kernel_rfl
  i212 := by kernel_rfl
  i232 := by kernel_rfl
  i233 := by kernel_rfl
  m15 := by kernel_rfl
  m16 := by kernel_rfl
  m17 := by kernel_rfl
  m18 := by kernel_rfl
  m19 := by kernel_rfl
  c0 := by kernel_rfl
  c2 := by kernel_rfl
  c3 := by kernel_rfl
  c4 := by kernel_rfl
  c5 := by kernel_rfl
  c9 := by kernel_rfl
  c20 := by kernel_rfl
  c21 := by kernel_rfl
  c37 := by kernel_rfl
  c46 := by kernel_rfl
  c51 := by kernel_rfl
  c53 := by kernel_rfl
  c75 := by kernel_rfl
  c76 := by kernel_rfl
  c80 := by kernel_rfl
  c85 := by kernel_rfl
  c127 := by kernel_rfl
  c143 := by kernel_rfl
  c145 := by kernel_rfl
  c167 := by kernel_rfl
  c168 := by kernel_rfl
  c171 := by kernel_rfl
  c173 := by kernel_rfl
  c175 := by kernel_rfl
  c210 := by kernel_rfl
  c212 := by kernel_rfl
  c213 := by kernel_rfl
  c232 := by kernel_rfl
  c233 := by kernel_rfl }
end Go.Proofs.YtnlgmojciplnoaaDoor
namespace Go.Proofs.YtnlgmojciplnoaaDoor
open Go.RowKit Go.Shelf
set_option maxRecDepth 100000
def lays99_ren : Go.Shelf.Ren := ⟨fun | 99 => 54 | 206 => 73 | n => n, fun | 9 => 9 | 4 => 4 | 3 => 3 | n => n, fun | n => n⟩
theorem zq20 : Go.Proofs.Lays.n99 Tryd.prog lays99_ren := {
  mixed := by kernel_rfl
  f99 := Tryd.func54.trans (congrArg some (by kernel_rfl))
  f206 := Tryd.func73.trans (congrArg some (by kernel_rfl))
  t3 := Tryd.underlying3
  a3 := Tryd.isAgg3
  z3 := Tryd.sizeOf3
  v3 := Tryd.zeroValue3
  t4 := Tryd.underlying4
  a4 := Tryd.isAgg4
  z4 := Tryd.sizeOf4
  v4 := Tryd.zeroValue4
  t9 := Tryd.underlying9
  a9 := Tryd.isAgg9
  z9 := Tryd.sizeOf9
  v9 := Tryd.zeroValue9 }
end Go.Proofs.YtnlgmojciplnoaaDoor
namespace Go.Proofs.YtnlgmojciplnoaaDoor
open Go.RowKit
set_option maxRecDepth 100000
theorem zx14 : ∀ (l : List UInt8) (acc : Nat), acc ≤ valA acc l
  | [], acc => Nat.le_refl _
  | c :: r, acc => by
    have := zx14 r (acc * 10 + (c.toNat - 48))
    unfold valA
    omega
def digL (l : List UInt8) : Prop := ∀ c ∈ l, 48 ≤ c.toNat ∧ c.toNat ≤ 57
theorem zp9 : ∀ (l : List UInt8) (acc : Nat), digL l → acc < 18446744073709551616 → Lib.parseUint10 acc l = if valA acc l < 18446744073709551616 then .ok (valA acc l) else .range
  | [], acc, _, h => by
    unfold Lib.parseUint10 valA
    rw [if_pos h]
  | c :: r, acc, hd, h => by
    have h1 := hd c List.mem_cons_self
    have h2 : digL r := fun x hx => hd x (List.mem_cons_of_mem _ hx)
    have h3 := zx14 r (acc * 10 + (c.toNat - 48))
    unfold Lib.parseUint10 valA
    rw [if_pos h1]
    by_cases h4 : 1844674407370955162 ≤ acc
    · rw [if_pos h4, if_neg (by omega)]
    · rw [if_neg h4]
      by_cases h5 : 18446744073709551616 ≤ acc * 10 + (c.toNat - 48)
      · rw [if_pos h5, if_neg (by omega)]
      · rw [if_neg h5]
        exact zp9 r _ h2 (by omega)
theorem zq11 {l : List UInt8} (hne : l ≠ []) (hd : digL l) : Lib.atoiAll l = if valA 0 l < 9223372036854775808 then .ok (valA 0 l : Int) else .range := by
  cases l with
  | nil => exact absurd rfl hne
  | cons c r =>
    have h1 := hd c List.mem_cons_self
    unfold Lib.atoiAll
    dsimp only
    rw [if_neg (show ¬ (c.toNat = 43 ∨ c.toNat = 45) by omega)]
    unfold Lib.parseMag
    rw [if_neg (by simp), zp9 _ 0 hd (by omega)]
    generalize valA 0 (c :: r) = v
    by_cases h2 : v < 18446744073709551616
    · rw [if_pos h2]
      dsimp only
      by_cases h3 : v < 9223372036854775808
      · rw [if_neg (by omega), if_neg (by omega), if_pos h3, if_neg (by omega)]
      · rw [if_pos (by omega), if_neg h3]
    · rw [if_neg h2, if_neg (by omega)]
theorem zy14 : ∀ (n : Nat) (l : List UInt8), l.length ≤ n → l ≠ [] → digL l → (l.length = 1 ∨ ∀ c r, l = c :: r → c.toNat ≠ 48) → Lib.decDigits (valA 0 l) = l ∧ (l.length ≠ 1 → 10 ≤ valA 0 l) ∧ ((∀ c r, l = c :: r → c.toNat ≠ 48) → 1 ≤ valA 0 l)
  | 0, l, h, hne, _, _ => absurd (List.eq_nil_of_length_eq_zero (by omega)) hne
  | n + 1, l, h, hne, hd, hz => by
    obtain ⟨m, x, rfl⟩ : ∃ m x, l = m ++ [x] := ⟨l.dropLast, l.getLast hne, (List.dropLast_concat_getLast hne).symm⟩
    have hx := hd x (by simp)
    have hv : valA 0 (m ++ [x]) = valA 0 m * 10 + (x.toNat - 48) := by rw [zi8, zk11]
    have hx2 : UInt8.ofNat (48 + (x.toNat - 48)) = x := by rw [show 48 + (x.toNat - 48) = x.toNat by omega, UInt8.ofNat_toNat]
    rw [hv]
    cases m with
    | nil =>
      have e : valA 0 ([] : List UInt8) = 0 := rfl
      rw [e]
      refine ⟨by rw [zh5 (by omega), Nat.zero_mul, Nat.zero_add, hx2]; rfl, fun h => absurd rfl h, fun h => ?_⟩
      have := h x [] rfl
      omega
    | cons c r =>
      have hz2 : c.toNat ≠ 48 := by
        rcases hz with h | h
        · simp at h
        · exact h c (r ++ [x]) rfl
      obtain ⟨e1, e2, e3⟩ := zy14 n (c :: r) (by simp at h ⊢; omega) (by simp) (fun y hy => hd y (List.mem_append_left _ hy)) (.inr fun c' r' e => by injection e with e _; rw [← e]; exact hz2)
      have e4 := e3 fun c' r' e => by injection e with e _; rw [← e]; exact hz2
      refine ⟨?_, fun _ => by omega, fun _ => by omega⟩
      rw [zg8 (by omega), show (valA 0 (c :: r) * 10 + (x.toNat - 48)) / 10 = valA 0 (c :: r) by omega, show (valA 0 (c :: r) * 10 + (x.toNat - 48)) % 10 = x.toNat - 48 by omega, hx2, e1]
theorem zr20 : ∀ (n k : Nat), k ≤ n → Lib.decDigits k ≠ []
  | n, k, _ => by
    by_cases h : k < 10
    · rw [zh5 h]; simp
    · rw [zg8 h]; simp
theorem zr11 : ∀ (n k : Nat) (r : List UInt8), k ≤ n → Lib.decDigits k = 48 :: r → r = [] ∧ k = 0
  | n, k, r, hk, h => by
    by_cases h1 : k < 10
    · rw [zh5 h1] at h
      injection h with h2 h3
      have h4 := congrArg UInt8.toNat h2
      rw [UInt8.toNat_ofNat'] at h4
      have h5 : (48 : UInt8).toNat = 48 := rfl
      exact ⟨h3.symm, by omega⟩
    · cases n with
      | zero => omega
      | succ n =>
        rw [zg8 h1] at h
        cases hd : Lib.decDigits (k / 10) with
        | nil => exact absurd hd (zr20 _ _ (Nat.le_refl _))
        | cons y t =>
          rw [hd] at h
          injection h with h2 h3
          subst h2
          have := (zr11 n (k / 10) t (by omega) hd).2
          omega
theorem zz14 : ∀ (n k : Nat), k < 10 ^ (n + 1) → (Lib.decDigits k).length ≤ n + 1
  | 0, k, h => by rw [zh5 (by omega)]; simp
  | n + 1, k, h => by
    by_cases h1 : k < 10
    · rw [zh5 h1]; simp
    · rw [zg8 h1, List.length_append, List.length_singleton]
      have := zz14 n (k / 10) (by rw [Nat.pow_succ] at h; omega)
      omega
theorem zm10 {s : ByteArray} (hd : allB digB s = true) : digL s.data.toList := fun c hc => by
  obtain ⟨j, hj, rfl⟩ := List.getElem_of_mem hc
  have hj2 : j < s.size := by rw [Array.length_toList] at hj; exact hj
  have h1 : digB (bAt s j) = true := by simp only [allB, decide_eq_true_iff] at hd; exact hd j hj2
  have h2 := zj8 hj2
  rw [List.getElem?_eq_getElem hj] at h2
  injection h2 with h2
  rw [h2, UInt8.toNat_ofNat', Nat.mod_eq_of_lt (zo3 s j)]
  simpa [digB] using h1
theorem zs20 {s : ByteArray} (hd : allB digB s = true) (h1 : 1 ≤ s.size) : (valS s ≤ 2147483647 ∧ numT (valS s : Int) = s) ↔ tokOk 1 (intV s) ByteArray.empty = true := by
  have hne : s.data.toList ≠ [] := fun h => by have := congrArg List.length h; rw [Array.length_toList] at this; have : s.size = 0 := this; omega
  have hdL := zm10 hd
  have hlen : s.data.toList.length = s.size := Array.length_toList
  have hh : s.data.toList[0]? = some (UInt8.ofNat (bAt s 0)) := zj8 (by omega)
  have hmod : (UInt8.ofNat (bAt s 0)).toNat = bAt s 0 := by rw [UInt8.toNat_ofNat', Nat.mod_eq_of_lt (zo3 s 0)]
  have hnum : numT (valS s : Int) = s ↔ Lib.decDigits (valS s) = s.data.toList := by
    rw [zr16]
    constructor
    · intro h
      have := congrArg (fun x : ByteArray => x.data.toList) h
      simpa using this
    · intro h
      rw [h]
  rw [hnum]
  have htk : tokOk 1 (intV s) ByteArray.empty = true ↔ 0 ≤ intV s ∧ intV s ≤ 2147483647 := by
    unfold tokOk
    rw [if_pos rfl]
    simp
  rw [htk]
  have hhead : ∀ c r, s.data.toList = c :: r → c.toNat = bAt s 0 := fun c r e => by
    rw [e] at hh
    have : c = UInt8.ofNat (bAt s 0) := by simpa using hh
    rw [this, hmod]
  constructor
  · rintro ⟨a1, a2⟩
    have b1 : s.size ≤ 10 := by
      rw [← hlen, ← a2]
      exact zz14 9 _ (Nat.lt_of_le_of_lt a1 (by decide))
    have b2 : ¬ (1 < s.size ∧ bAt s 0 = 48) := fun ⟨c1, c2⟩ => by
      cases hl : s.data.toList with
      | nil => exact hne hl
      | cons c r =>
        have h4 := hhead c r hl
        have h5 : c = 48 := UInt8.toNat_inj.1 (by rw [h4, c2]; rfl)
        subst h5
        rw [hl] at a2
        have := (zr11 _ _ r (Nat.le_refl _) a2).1
        subst this
        rw [hl] at hlen
        simp at hlen
        omega
    rw [zn6 ⟨h1, b1, b2⟩]
    omega
  · rintro ⟨a1, a2⟩
    by_cases hb : 1 ≤ s.size ∧ s.size ≤ 10 ∧ ¬ (1 < s.size ∧ bAt s 0 = 48)
    · rw [zn6 hb] at a2
      refine ⟨by omega, ?_⟩
      refine (zy14 _ _ (Nat.le_refl _) hne hdL ?_).1
      by_cases h2 : s.size = 1
      · left; omega
      · right
        intro c r e
        rw [hhead c r e]
        exact fun h => hb.2.2 ⟨by omega, h⟩
    · rw [zk8 hb] at a1
      omega
theorem zc6 {P : Program} {f : FuncId} {ins : List AV} {res : AV} (he : entB P f = true)
    (hc : ∀ (w : World) (St : Nat → Prop) (φ : Nat → Lc) (K : Nat → Prop) (us : List Value), Gl w → VRL w St φ K ins us → Calls P f us.toArray w fun e w' => ∃ v, e = .returned v ∧ VRF w' (fun _ => False) φ0 K0 res v [] ∧ Below w.heap.size w w') : Ctr P f ins [] res [] := by
  refine ⟨he, fun w St φ F us' hent => ?_⟩
  refine (hc w St φ _ us' hent.gl.1 hent.args).mono ?_
  rintro e w' ⟨v, rfl, hv, hb⟩
  exact ⟨_, _, v, fun _ => False, fun _ => [], [], ⟨rfl, rfl⟩, rfl, ⟨⟨hb.os, hb.tape, hb.output, hb.size, fun b hlt _ => .inl (hb.block b hlt)⟩, hv, by simp, rfl, fun i cs hi => by simp at hi, fun i hi => by simp at hi, fun i hi => by simp at hi, fun i j hi => by simp at hi, fun i b lo hi => by simp at hi, fun b hb => by simp at hb, fun b hb => hb.elim⟩⟩
theorem zt20 {w : World} {St : Nat → Prop} {φ : Nat → Lc} {K : Nat → Prop} {a b : Value} {x y : AC} (ha : CR w St φ K x a []) (hb : CR w St φ K y b []) : VRF w St φ K (.tu [.c x, .c y]) (.tuple #[a, b]) [] := by
  simp only [VRF]
  refine ⟨[a, b], rfl, ?_⟩
  simp only [VRFL]
  refine ⟨a, [b], [], [], rfl, rfl, ?_, b, [], [], [], rfl, rfl, ?_, rfl, rfl⟩
  · simp only [VRF]; exact ha
  · simp only [VRF]; exact hb
theorem zh19 {s : ByteArray} (hd : allB digB s = true) (h1 : 1 ≤ s.size) (hs : s.size ≤ 1048576) (hv : valS s < 9223372036854775808) : Ctr Tryd.prog 46 [.c (.v (.string s))] [] (.tu [.c (.v (.int .i64 (valS s : Int))), .c (.v .nilIface)]) [] := by
  have hne : s.data.toList ≠ [] := fun h => by have := congrArg List.length h; rw [Array.length_toList] at this; have : s.size = 0 := this; omega
  refine zc6 (by kernel_rfl) fun w St φ K us gw h => ?_
  simp only [VRL, VR, CR] at h
  obtain ⟨u, us1, rfl, ⟨rfl, -⟩, rfl⟩ := h
  refine (Go.Proofs.Any.strconv_Atoi_ok zp11 s (by omega) (valS s : Int) (by rw [zq11 hne (zm10 hd)]; exact if_pos hv) w).mono ?_
  rintro e w' ⟨rfl, hw⟩
  refine ⟨_, rfl, zt20 (by simp only [CR]; exact ⟨trivial, rfl, trivial⟩) (by simp only [CR]; exact ⟨trivial, rfl, trivial⟩), ?_⟩
  rcases hw with rfl | ⟨t, rfl⟩
  · exact Below.refl _ _
  · exact Lib.bytesWorld_below w _ t
theorem zi19 {s : ByteArray} (hd : allB digB s = true) (h1 : 1 ≤ s.size) (hs : s.size ≤ 1048576) (hv : ¬ valS s < 9223372036854775808) : Ctr Tryd.prog 46 [.c (.v (.string s))] [] (.tu [.c (.v (.int .i64 (Lib.atoiSat s.data.toList))), .c .nn]) [] := by
  have hne : s.data.toList ≠ [] := fun h => by have := congrArg List.length h; rw [Array.length_toList] at this; have : s.size = 0 := this; omega
  refine zc6 (by kernel_rfl) fun w St φ K us gw h => ?_
  simp only [VRL, VR, CR] at h
  obtain ⟨u, us1, rfl, ⟨rfl, -⟩, rfl⟩ := h
  obtain ⟨te, pe, hev⟩ := zw11 gw
  refine (Go.Proofs.Any.strconv_Atoi_range zp11 s (by omega) (by rw [zq11 hne (zm10 hd)]; exact if_neg hv) _ w hev (.inr ⟨_, _, rfl⟩)).mono ?_
  rintro e w' ⟨N, rfl, -, -, hb⟩
  exact ⟨_, rfl, zt20 (by simp only [CR]; exact ⟨trivial, rfl, trivial⟩) (by simp only [CR]; exact ⟨trivial, _, _, rfl⟩), hb⟩
def hpS (s m : ByteArray) : Bool := Lib.hasPrefix s.data.toList m.data.toList
theorem zn10 (s m : ByteArray) : Ctr Tryd.prog 54 [.c (.v (.string s)), .c (.v (.string m))] [] (.c (.v (.bool (hpS s m)))) [] := by
  refine zc6 (by kernel_rfl) fun w St φ K us gw h => ?_
  simp only [VRL, VR, CR] at h
  obtain ⟨u, us1, rfl, ⟨rfl, -⟩, u2, us2, rfl, ⟨rfl, -⟩, rfl⟩ := h
  refine (Go.Proofs.Any.strings_HasPrefix zq20 s m w).mono ?_
  rintro e w' ⟨rfl, rfl⟩
  exact ⟨_, rfl, by unfold hpS; simp only [VRF, CR]; exact ⟨trivial, rfl, trivial⟩, Below.refl _ _⟩
end Go.Proofs.YtnlgmojciplnoaaDoor
