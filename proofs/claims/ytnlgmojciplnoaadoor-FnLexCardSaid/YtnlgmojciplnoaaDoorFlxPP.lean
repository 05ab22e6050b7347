/- All tokens of a text: the reference. -/
import Derived.Shelf.Lays
import Derived.Shelf.Strings.BuilderX
import Derived.Shelf.Small.Strs
import Derived.Shelf.Strings.OnBuilder
import Derived.Shelf.LaysC
import Derived.Shelf.Strconv.AtoiAll
import Derived.Test.YtnlgmojciplnoaaDoorFlxPO
namespace Go.Proofs.YtnlgmojciplnoaaDoor
open Go.RowKit
set_option maxRecDepth 100000
theorem zr13 {l : List E} {e : E} : owL (l ++ [e]) = owL l ++ owE e := by rw [zk7]; show owL l ++ (owE e ++ []) = _; rw [List.append_nil]
set_option maxHeartbeats 4000000 in
theorem zz16 {s : ByteArray} (hs : s.size ≤ 1048576) : Ctr Tryd.prog 13 [.c (.v (.string s))] [] (.tu [.c (.ow 31 (lexW s).1.length 3 (owL (lexW s).1)), .c (.v (.int .i64 (lexW s).2))]) [] := by
  have c0 := zq13 hs (a := 0) (Nat.zero_le _)
  have hp0 := zw16 (s := s) (a := 0) (Nat.zero_le _)
  unfold lexW
  obtain ⟨⟨L, P⟩, hL⟩ : ∃ r, lexT s (passT s 0) false [] = r := ⟨_, rfl⟩
  rw [hL]
  dsimp only
  generalize passT s 0 = a0 at c0 hp0 hL
  refine za2 Tryd.func13 rfl rfl ?_
  repeat' (first | ((apply f_wo); first | ((apply f_gs); first | refine n_sk ?_) | ((apply f_mv); first | (refine zq1 ?_ ?_ <;> intro hG <;> (try cases hG)) | refine zv (v := .c _) ?_ | refine zv (v := .tu _) ?_ | refine za ?_) | ((apply f_as); first | refine zt (v := .c _) ?_ | refine zt (v := .tu _) ?_ | refine za ?_) | ((apply f_fa); first | refine n_fa ?_ | refine zx3 ?_) | ((apply f_ld); first | refine zp3 ?_ | refine zs2 ?_ | refine zq2 ?_ | refine zo3 ?_ | refine n_ld ?_) | ((apply f_ca); first | refine zk1 (c0) ?_ | refine zh1 (c0) ?_) | ((apply f_bi); first | refine zc1 ?_ | refine zb1 ?_ | refine zd1 ?_ | refine zd3 ?_ | refine zd3 (hnu := zl _) ?_ | refine zh2 ?_ | refine zh2 (hnu := zl _) ?_ | refine za ?_) | ((apply f_st); first | refine n_st ?_ | refine zr2 ?_) | ((apply zn1); first | refine zu ?_ | refine zi2 ?_ | refine za ?_) | ((apply zm1); first | refine zh ?_ | refine za ?_) | ((apply f_no); first | refine zw2 ?_ | refine za ?_) | ((apply f_pk); first | refine zg1 (v := .c _) ?_ | refine zg1 (v := .tu _) ?_ | refine za ?_) | ((apply f_ex); first | refine zv1 (v := .c _) ?_ | refine zv1 (v := .tu _) ?_ | refine za ?_) | refine n_al ?_ | refine n_bs ?_ | refine za ?_) | ((apply f_w); first | refine zx ?_ | refine zd ?_) | refine zb fun C => ?_ | refine zj ?_ | refine zc ?_ | refine ze ?_ | refine zf ?_)
  refine zb3 (fun d : Nat × Bool × List E => ⟨tmsF [(0, .c (.v (.string s))), (4, .c (.sl 9 d.2.2.length)), (5, .c (.v (.bool d.2.1))), (6, .c (.v (.int .i64 (d.1 : Int))))], hpsF [(9, 9, ⟨31, 3, d.2.2.length, false, owL d.2.2⟩)], 0, [9], 49⟩)
    (fun N d => d.1 + N = s.size ∧ d.2.2.length ≤ 2000 ∧ lexT s d.1 d.2.1 d.2.2 = (L, P)) (s.size - a0) (a0, false, []) ⟨by dsimp only; omega, Nat.zero_le _, hL⟩ ?_ ?_
  · show Gh _ _
    (refine ze2 _ _ rfl rfl ?_ ?_ <;> (repeat' (first | exact TmOk.nil | exact RwOk.nil | refine TmOk.cons ?_ ?_ | refine RwOk.cons ?_ ?_ | rfl | exact ze1 rfl (by assumption) | exact ze1 rfl (zz2 _) | (refine rnV_id' rfl ?_; (first | rfl | (simp [cloV, cloL, clo, zn, zm, zo, zk, zi]; done))) | (refine zk2 ?_; first | rfl | omega | (rw [zp1 (by omega) (by omega)]; omega)) | (refine ze1 rfl ?_; (first | rfl | (simp [cloV, cloL, clo, zn, zm, zo, zk, zi]; done))) | exact zg3 rfl rfl | (refine zl2 (by rfl) (by rfl) ?_ ?_ <;> (first | rfl | (simp [cloV, cloL, clo, zn, zm, zo, zk, zi]; done))) | (refine rw_rn' rfl rfl ?_; simp; done))))
  rintro N ⟨k, rex, out⟩ ⟨hN, hl, hI⟩
  dsimp only at hN hl hI ⊢
  by_cases hk : k < s.size
  · have c1 := zf22 hs hk rex
    have hlt := zf10 (rex := rex) hk
    have hy := zl12 (rex := rex) (out := out) hk
    have hn := zk20 (rex := rex) (out := out) hk
    have hz : (oneR s k rex).s.size ≤ 1048576 := zb22 hs hk
    unfold Tk.ok Tk.E at hy
    unfold Tk.ok at hn
    obtain ⟨⟨q1, q2, q3, e⟩, hq⟩ : ∃ q, oneR s k rex = q := ⟨_, rfl⟩
    rw [hq] at c1 hlt hy hn hz
    dsimp only at c1 hlt hy hn hz
    clear hq
    have c2 := zd7 hz q1 q2
    have c3 := zq13 hs hlt.2
    have hp := zw16 (s := s) hlt.2
    cases ho : tokOk q1 q2 q3 with
    | false =>
      rw [ho] at c2 hn
      rw [hn (by simp)] at hI
      obtain ⟨rfl, rfl⟩ := Prod.mk.injEq .. ▸ hI
      repeat' (first | ((apply f_wo); first | ((apply f_gs); first | refine n_sk ?_) | ((apply f_mv); first | (refine zq1 ?_ ?_ <;> intro hG <;> (try cases hG)) | refine zv (v := .c _) ?_ | refine zv (v := .tu _) ?_ | refine za ?_) | ((apply f_as); first | refine zt (v := .c _) ?_ | refine zt (v := .tu _) ?_ | refine za ?_) | ((apply f_fa); first | refine n_fa ?_ | refine zx3 ?_) | ((apply f_ld); first | refine zp3 ?_ | refine zs2 ?_ | refine zq2 ?_ | refine zo3 ?_ | refine n_ld ?_) | ((apply f_ca); first | refine zk1 (c1) ?_ | refine zh1 (c1) ?_ | refine zk1 (c2) ?_ | refine zh1 (c2) ?_) | ((apply f_bi); first | refine zc1 ?_ | refine zb1 ?_ | refine zd1 ?_ | refine zd3 ?_ | refine zd3 (hnu := zl _) ?_ | refine zh2 ?_ | refine zh2 (hnu := zl _) ?_ | refine za ?_) | ((apply f_st); first | refine n_st ?_ | refine zr2 ?_) | ((apply zn1); first | refine zu ?_ | refine zi2 ?_ | refine za ?_) | ((apply zm1); first | refine zh ?_ | refine za ?_) | ((apply f_no); first | refine zw2 ?_ | refine za ?_) | ((apply f_pk); first | refine zg1 (v := .c _) ?_ | refine zg1 (v := .tu _) ?_ | refine za ?_) | ((apply f_ex); first | refine zv1 (v := .c _) ?_ | refine zv1 (v := .tu _) ?_ | refine za ?_) | refine n_al ?_ | refine n_bs ?_ | refine za ?_) | ((apply f_w); first | refine zx ?_ | refine zd ?_) | refine zb fun C => ?_ | refine zj ?_ | refine zc ?_ | refine ze ?_ | refine zf ?_ | (refine zr (by rfl) ?_ ?_ <;> intro hC <;> (try cases hC)))
      all_goals first
        | (exfalso; simp only [decide_eq_true_iff, decide_eq_false_iff_not] at *; omega)
        | (refine zw ?_
           exact ret0 rfl (zn3 (zf1 (zc11 (zs7 (rw := ⟨31, 3, 0, false, []⟩) rfl rfl rfl rfl zm2)) (zf1 zu1 zj2))) ⟨rfl, rfl⟩)
    | true =>
      rw [ho] at c2 hn hy
      by_cases hm : out.length = 2000
      · rw [hn (by simp [hm])] at hI
        obtain ⟨rfl, rfl⟩ := Prod.mk.injEq .. ▸ hI
        repeat' (first | ((apply f_wo); first | ((apply f_gs); first | refine n_sk ?_) | ((apply f_mv); first | (refine zq1 ?_ ?_ <;> intro hG <;> (try cases hG)) | refine zv (v := .c _) ?_ | refine zv (v := .tu _) ?_ | refine za ?_) | ((apply f_as); first | refine zt (v := .c _) ?_ | refine zt (v := .tu _) ?_ | refine za ?_) | ((apply f_fa); first | refine n_fa ?_ | refine zx3 ?_) | ((apply f_ld); first | refine zp3 ?_ | refine zs2 ?_ | refine zq2 ?_ | refine zo3 ?_ | refine n_ld ?_) | ((apply f_ca); first | refine zk1 (c1) ?_ | refine zh1 (c1) ?_ | refine zk1 (c2) ?_ | refine zh1 (c2) ?_) | ((apply f_bi); first | refine zc1 ?_ | refine zb1 ?_ | refine zd1 ?_ | refine zd3 ?_ | refine zd3 (hnu := zl _) ?_ | refine zh2 ?_ | refine zh2 (hnu := zl _) ?_ | refine za ?_) | ((apply f_st); first | refine n_st ?_ | refine zr2 ?_) | ((apply zn1); first | refine zu ?_ | refine zi2 ?_ | refine za ?_) | ((apply zm1); first | refine zh ?_ | refine za ?_) | ((apply f_no); first | refine zw2 ?_ | refine za ?_) | ((apply f_pk); first | refine zg1 (v := .c _) ?_ | refine zg1 (v := .tu _) ?_ | refine za ?_) | ((apply f_ex); first | refine zv1 (v := .c _) ?_ | refine zv1 (v := .tu _) ?_ | refine za ?_) | refine n_al ?_ | refine n_bs ?_ | refine za ?_) | ((apply f_w); first | refine zx ?_ | refine zd ?_) | refine zb fun C => ?_ | refine zj ?_ | refine zc ?_ | refine ze ?_ | refine zf ?_ | (refine zr (by rfl) ?_ ?_ <;> intro hC <;> (try cases hC)))
        all_goals first
          | (exfalso; simp only [decide_eq_true_iff, decide_eq_false_iff_not, beq_iff_eq, beq_eq_false_iff_ne, ne_eq] at *; omega)
          | (refine zw ?_
             exact ret0 rfl (zn3 (zf1 (zc11 (zs7 (rw := ⟨31, 3, 0, false, []⟩) rfl rfl rfl rfl zm2)) (zf1 zu1 zj2))) ⟨rfl, rfl⟩)
      · rw [hy rfl hm] at hI
        clear hn hy ho c0
        generalize passT s e = b at c3 hp hI
        by_cases h5 : q1 = 5
        · subst h5
          rw [show tilB 5 q3 = (q3.toList == (⟨#[126]⟩ : ByteArray).toList) by rw [zz4]; simp [tilB]] at hI
          repeat' (first | ((apply f_wo); first | ((apply f_gs); first | refine n_sk ?_) | ((apply f_mv); first | (refine zq1 ?_ ?_ <;> intro hG <;> (try cases hG)) | refine zv (v := .c _) ?_ | refine zv (v := .tu _) ?_ | refine za ?_) | ((apply f_as); first | refine zt (v := .c _) ?_ | refine zt (v := .tu _) ?_ | refine za ?_) | ((apply f_fa); first | refine n_fa ?_ | refine zx3 ?_) | ((apply f_ld); first | refine zp3 ?_ | refine zs2 ?_ | refine zq2 ?_ | refine zo3 ?_ | refine n_ld ?_) | ((apply f_ca); first | refine zk1 (c1) ?_ | refine zh1 (c1) ?_ | refine zk1 (c2) ?_ | refine zh1 (c2) ?_ | refine zk1 (c3) ?_ | refine zh1 (c3) ?_) | ((apply f_bi); first | refine zc1 ?_ | refine zb1 ?_ | refine zd1 ?_ | refine zd3 ?_ | refine zd3 (hnu := zl _) ?_ | refine zh2 ?_ | refine zh2 (hnu := zl _) ?_ | refine za ?_) | ((apply f_st); first | refine n_st ?_ | refine zr2 ?_) | ((apply zn1); first | refine zu ?_ | refine zi2 ?_ | refine za ?_) | ((apply zm1); first | refine zh ?_ | refine za ?_) | ((apply f_no); first | refine zw2 ?_ | refine za ?_) | ((apply f_pk); first | refine zg1 (v := .c _) ?_ | refine zg1 (v := .tu _) ?_ | refine za ?_) | ((apply f_ex); first | refine zv1 (v := .c _) ?_ | refine zv1 (v := .tu _) ?_ | refine za ?_) | refine n_al ?_ | refine n_bs ?_ | refine za ?_) | ((apply f_w); first | refine zx ?_ | refine zd ?_) | refine zb fun C => ?_ | refine zj ?_ | refine zc ?_ | refine ze ?_ | refine zf ?_ | (refine zr (by rfl) ?_ ?_ <;> intro hC <;> (try cases hC)))
          all_goals first
            | (exfalso; simp only [decide_eq_true_iff, decide_eq_false_iff_not, beq_iff_eq, beq_eq_false_iff_ne, ne_eq] at *; omega)
            | (refine ⟨s.size - b, (b, q3.toList == (⟨#[126]⟩ : ByteArray).toList, out ++ [tokE 5 q2 q3]), by omega, ⟨by dsimp only; omega, by dsimp only; rw [List.length_append, List.length_singleton]; omega, hI⟩, ?_⟩
               dsimp only
               rw [List.length_append, List.length_singleton]
               (refine zb6 (fun j => if j = 9 then 36 else j) _ _ rfl rfl ?_ ?_ <;> (repeat' (first | exact TmOk.nil | exact RwOk.nil | refine TmOk.cons ?_ ?_ | refine RwOk.cons ?_ ?_ | rfl | exact ze1 rfl (by assumption) | exact ze1 rfl (zz2 _) | (refine rnV_id' rfl ?_; (first | rfl | (simp [cloV, cloL, clo, zn, zm, zo, zk, zi]; done))) | (refine zk2 ?_; first | rfl | omega | (rw [zp1 (by omega) (by omega)]; omega)) | (refine ze1 rfl ?_; (first | rfl | (simp [cloV, cloL, clo, zn, zm, zo, zk, zi]; done))) | exact zg3 rfl rfl | (refine zl2 (by rfl) (by rfl) ?_ ?_ <;> (first | rfl | (simp [cloV, cloL, clo, zn, zm, zo, zk, zi]; done))) | (refine rw_rn' rfl rfl ?_; simp; done))))
               exact zg12 (r := ⟨31, 3, out.length + 1, false, owL out ++ [.v (.int .i64 5), .v (.int .i64 q2), .v (.string q3)]⟩) rfl (by rw [zr13]; rfl) (zk _))
        · rw [show tilB q1 q3 = false by simp [tilB, h5]] at hI
          repeat' (first | ((apply f_wo); first | ((apply f_gs); first | refine n_sk ?_) | ((apply f_mv); first | (refine zq1 ?_ ?_ <;> intro hG <;> (try cases hG)) | refine zv (v := .c _) ?_ | refine zv (v := .tu _) ?_ | refine za ?_) | ((apply f_as); first | refine zt (v := .c _) ?_ | refine zt (v := .tu _) ?_ | refine za ?_) | ((apply f_fa); first | refine n_fa ?_ | refine zx3 ?_) | ((apply f_ld); first | refine zp3 ?_ | refine zs2 ?_ | refine zq2 ?_ | refine zo3 ?_ | refine n_ld ?_) | ((apply f_ca); first | refine zk1 (c1) ?_ | refine zh1 (c1) ?_ | refine zk1 (c2) ?_ | refine zh1 (c2) ?_ | refine zk1 (c3) ?_ | refine zh1 (c3) ?_) | ((apply f_bi); first | refine zc1 ?_ | refine zb1 ?_ | refine zd1 ?_ | refine zd3 ?_ | refine zd3 (hnu := zl _) ?_ | refine zh2 ?_ | refine zh2 (hnu := zl _) ?_ | refine za ?_) | ((apply f_st); first | refine n_st ?_ | refine zr2 ?_) | ((apply zn1); first | refine zu ?_ | refine zi2 ?_ | refine za ?_) | ((apply zm1); first | refine zh ?_ | refine za ?_) | ((apply f_no); first | refine zw2 ?_ | refine za ?_) | ((apply f_pk); first | refine zg1 (v := .c _) ?_ | refine zg1 (v := .tu _) ?_ | refine za ?_) | ((apply f_ex); first | refine zv1 (v := .c _) ?_ | refine zv1 (v := .tu _) ?_ | refine za ?_) | refine n_al ?_ | refine n_bs ?_ | refine za ?_) | ((apply f_w); first | refine zx ?_ | refine zd ?_) | refine zb fun C => ?_ | refine zj ?_ | refine zc ?_ | refine ze ?_ | refine zf ?_ | (refine zr (by rfl) ?_ ?_ <;> intro hC <;> (try cases hC)))
          all_goals first
            | (exfalso; simp only [decide_eq_true_iff, decide_eq_false_iff_not, beq_iff_eq, beq_eq_false_iff_ne, ne_eq] at *; first | omega | contradiction)
            | (refine ⟨s.size - b, (b, false, out ++ [tokE q1 q2 q3]), by omega, ⟨by dsimp only; omega, by dsimp only; rw [List.length_append, List.length_singleton]; omega, hI⟩, ?_⟩
               dsimp only
               rw [List.length_append, List.length_singleton]
               (refine zb6 (fun j => if j = 9 then 36 else j) _ _ rfl rfl ?_ ?_ <;> (repeat' (first | exact TmOk.nil | exact RwOk.nil | refine TmOk.cons ?_ ?_ | refine RwOk.cons ?_ ?_ | rfl | exact ze1 rfl (by assumption) | exact ze1 rfl (zz2 _) | (refine rnV_id' rfl ?_; (first | rfl | (simp [cloV, cloL, clo, zn, zm, zo, zk, zi]; done))) | (refine zk2 ?_; first | rfl | omega | (rw [zp1 (by omega) (by omega)]; omega)) | (refine ze1 rfl ?_; (first | rfl | (simp [cloV, cloL, clo, zn, zm, zo, zk, zi]; done))) | exact zg3 rfl rfl | (refine zl2 (by rfl) (by rfl) ?_ ?_ <;> (first | rfl | (simp [cloV, cloL, clo, zn, zm, zo, zk, zi]; done))) | (refine rw_rn' rfl rfl ?_; simp; done))))
               exact zg12 (r := ⟨31, 3, out.length + 1, false, owL out ++ [.v (.int .i64 q1), .v (.int .i64 q2), .v (.string q3)]⟩) rfl (by rw [zr13]; rfl) (zk _))
  · rw [zk12 hk] at hI
    obtain ⟨rfl, rfl⟩ := Prod.mk.injEq .. ▸ hI
    repeat' (first | ((apply f_wo); first | ((apply f_gs); first | refine n_sk ?_) | ((apply f_mv); first | (refine zq1 ?_ ?_ <;> intro hG <;> (try cases hG)) | refine zv (v := .c _) ?_ | refine zv (v := .tu _) ?_ | refine za ?_) | ((apply f_as); first | refine zt (v := .c _) ?_ | refine zt (v := .tu _) ?_ | refine za ?_) | ((apply f_fa); first | refine n_fa ?_ | refine zx3 ?_) | ((apply f_ld); first | refine zp3 ?_ | refine zs2 ?_ | refine zq2 ?_ | refine zo3 ?_ | refine n_ld ?_) | ((apply f_bi); first | refine zc1 ?_ | refine zb1 ?_ | refine zd1 ?_ | refine zd3 ?_ | refine zd3 (hnu := zl _) ?_ | refine zh2 ?_ | refine zh2 (hnu := zl _) ?_ | refine za ?_) | ((apply f_st); first | refine n_st ?_ | refine zr2 ?_) | ((apply zn1); first | refine zu ?_ | refine zi2 ?_ | refine za ?_) | ((apply zm1); first | refine zh ?_ | refine za ?_) | ((apply f_no); first | refine zw2 ?_ | refine za ?_) | ((apply f_pk); first | refine zg1 (v := .c _) ?_ | refine zg1 (v := .tu _) ?_ | refine za ?_) | ((apply f_ex); first | refine zv1 (v := .c _) ?_ | refine zv1 (v := .tu _) ?_ | refine za ?_) | refine n_al ?_ | refine n_bs ?_ | refine za ?_) | ((apply f_w); first | refine zx ?_ | refine zd ?_) | refine zb fun C => ?_ | refine zj ?_ | refine zc ?_ | refine ze ?_ | refine zf ?_ | (refine zr (by rfl) ?_ ?_ <;> intro hC <;> (try cases hC)))
    all_goals first
      | (exfalso; simp only [decide_eq_true_iff, decide_eq_false_iff_not] at *; omega)
      | (refine zw ?_
         exact ret0 rfl (zn3 (zf1 (zc11 (zs7 (rw := ⟨31, 3, out.length, false, owL out⟩) rfl rfl rfl (zk _) zm2)) (zf1 zu1 zj2))) ⟨rfl, rfl⟩)
end Go.Proofs.YtnlgmojciplnoaaDoor
namespace Go.Proofs.YtnlgmojciplnoaaDoor
open Go.RowKit Go.Shelf
set_option maxRecDepth 100000
def lays137_ren : Go.Shelf.Ren := ⟨fun | 137 => 22 | 217 => 43 | 266 => 67 | n => n, fun | 9 => 9 | 5 => 5 | 3 => 3 | n => n, fun | n => n⟩
theorem zg22 : Go.Proofs.Lays.n137 Tryd.prog lays137_ren := {
  mixed := by kernel_rfl
  f137 := Tryd.func22.trans (congrArg some (by kernel_rfl))
  f217 := Tryd.func43.trans (congrArg some (by kernel_rfl))
  f266 := Tryd.func67.trans (congrArg some (by kernel_rfl))
  t3 := Tryd.underlying3
  a3 := Tryd.isAgg3
  z3 := Tryd.sizeOf3
  v3 := Tryd.zeroValue3
  t5 := Tryd.underlying5
  a5 := Tryd.isAgg5
  z5 := Tryd.sizeOf5
  v5 := Tryd.zeroValue5
  t9 := Tryd.underlying9
  a9 := Tryd.isAgg9
  z9 := Tryd.sizeOf9
  v9 := Tryd.zeroValue9 }
end Go.Proofs.YtnlgmojciplnoaaDoor
namespace Go.Proofs.YtnlgmojciplnoaaDoor
open Go.RowKit Go.Shelf
set_option maxRecDepth 100000
def lays156_ren : Go.Shelf.Ren := ⟨fun | 156 => 24 | 165 => 50 | 166 => 51 | 169 => 52 | 240 => 71 | 241 => 72 | 276 => 80 | 277 => 81 | n => n, fun | 31 => 44 | 9 => 9 | 3 => 3 | 4 => 4 | 0 => 0 | 20 => 20 | 72 => 68 | 76 => 63 | 70 => 66 | 37 => 22 | 75 => 62 | 127 => 80 | 164 => 89 | 5 => 5 | 80 => 70 | n => n, fun | n => n⟩
theorem za17 : Go.Proofs.Lays.n156 Tryd.prog lays156_ren := {
  mixed := by kernel_rfl
  f156 := Tryd.func24.trans (congrArg some (by kernel_rfl))
  f165 := Tryd.func50.trans (congrArg some (by kernel_rfl))
  f166 := Tryd.func51.trans (congrArg some (by kernel_rfl))
  f169 := Tryd.func52.trans (congrArg some (by kernel_rfl))
  f240 := Tryd.func71.trans (congrArg some (by kernel_rfl))
  f241 := Tryd.func72.trans (congrArg some (by kernel_rfl))
  f276 := Tryd.func80.trans (congrArg some (by kernel_rfl))
  f277 := Tryd.func81.trans (congrArg some (by kernel_rfl))
  t0 := Tryd.underlying0
  a0 := Tryd.isAgg0
  z0 := Tryd.sizeOf0
  v0 := Tryd.zeroValue0
  t3 := Tryd.underlying3
  a3 := Tryd.isAgg3
  z3 := Tryd.sizeOf3
  v3 := Tryd.zeroValue3
  t4 := Tryd.underlying4
  a4 := Tryd.isAgg4
  z4 := Tryd.sizeOf4
  v4 := Tryd.zeroValue4
  t9 := Tryd.underlying9
  a9 := Tryd.isAgg9
  z9 := Tryd.sizeOf9
  v9 := Tryd.zeroValue9
  t20 := Tryd.underlying20
  a20 := Tryd.isAgg20
  z20 := Tryd.sizeOf20
  v20 := Tryd.zeroValue20
  t31 := Tryd.underlying44
  a31 := Tryd.isAgg44
  z31 := Tryd.sizeOf44
  v31 := Tryd.zeroValue44
  t37 := Tryd.underlying22
  a37 := Tryd.isAgg22
  z37 := Tryd.sizeOf22
  v37 := Tryd.zeroValue22
  t70 := Tryd.underlying66
  a70 := Tryd.isAgg66
  z70 := Tryd.sizeOf66
  v70 := Tryd.zeroValue66
  t72 := Tryd.underlying68
  a72 := Tryd.isAgg68
  z72 := Tryd.sizeOf68
  v72 := Tryd.zeroValue68
  t75 := Tryd.underlying62
  a75 := Tryd.isAgg62
  z75 := Tryd.sizeOf62
  v75 := Tryd.zeroValue62
  t76 := Tryd.underlying63
  a76 := Tryd.isAgg63
  z76 := Tryd.sizeOf63
  v76 := Tryd.zeroValue63
  t127 := Tryd.underlying80
  a127 := Tryd.isAgg80
  z127 := Tryd.sizeOf80
  v127 := Tryd.zeroValue80
  t164 := Tryd.underlying89
  a164 := Tryd.isAgg89
  z164 := Tryd.sizeOf89
  v164 := Tryd.zeroValue89 }
theorem Builder_Extra_156 : Builder.Extra Tryd.prog lays156_ren := {
  sizeBuilder := by kernel_rfl
  liesBuilder := by kernel_rfl
  t5 := Tryd.underlying5
  a5 := Tryd.isAgg5
  z5 := Tryd.sizeOf5
  v5 := Tryd.zeroValue5
  infoByte := by kernel_rfl
  cellsByte := by kernel_rfl
  sizeByte := by kernel_rfl
  neB5 := by decide }
end Go.Proofs.YtnlgmojciplnoaaDoor
namespace Go.Proofs.YtnlgmojciplnoaaDoor
open Go.RowKit
set_option maxRecDepth 100000
theorem ze7 {P : Program} {f : FuncId} {ins : List AV} {v : Value} (he : entB P f = true) (hv : scal v = true)
    (hc : ∀ (w : World) (St : Nat → Prop) (φ : Nat → Lc) (K : Nat → Prop) (us : List Value), VRL w St φ K ins us → Calls P f us.toArray w fun e w' => e = .returned v ∧ Below w.heap.size w w') : Ctr P f ins [] (.c (.v v)) [] := by
  refine ⟨he, fun w St φ F us' hent => ?_⟩
  refine (hc w St φ _ us' hent.args).mono ?_
  rintro e w' ⟨rfl, hb⟩
  refine ⟨_, _, v, fun _ => False, fun _ => [], [], ⟨rfl, rfl⟩, rfl, ⟨⟨hb.os, hb.tape, hb.output, hb.size, fun b hlt _ => .inl (hb.block b hlt)⟩, ?_, by simp, rfl, fun i cs hi => by simp at hi, fun i hi => by simp at hi, fun i hi => by simp at hi, fun i j hi => by simp at hi, fun i b lo hi => by simp at hi, fun b hb => by simp at hb, fun b hb => hb.elim⟩⟩
  simp only [VRF, CR]
  exact ⟨trivial, hv, trivial⟩
theorem zt6 (s : ByteArray) {c : Nat} (_hc : c < 256) : Ctr Tryd.prog 22 [.c (.v (.string s)), .c (.v (.int .u8 (c : Int)))] [] (.c (.v (.int .i64 (Lib.indexByte s.data.toList (UInt8.ofNat c))))) [] := by
  refine ze7 (by kernel_rfl) rfl fun w St φ K us h => ?_
  simp only [VRL, VR, CR] at h
  obtain ⟨u, us1, rfl, ⟨rfl, -⟩, u2, us2, rfl, ⟨rfl, -⟩, rfl⟩ := h
  refine (Go.Proofs.Any.strings_IndexByte zg22 s (c : Int) w).mono ?_
  rintro e w' ⟨rfl, rfl⟩
  exact ⟨rfl, Below.refl _ _⟩
def strB : E → ByteArray
  | .str s => s
  | _ => ByteArray.empty
theorem zb17 {w : World} {St : Nat → Prop} {φ : Nat → Lc} {K : Nat → Prop} : ∀ {l : List E} {us : List Value} {fp : List Nat}, (∀ e ∈ l, ∃ s, e = .str s) → CRL w St φ K (acL l) us fp → us = l.map fun e => .string (strB e)
  | [], us, fp, _, h => by
    simp only [acL, CRL] at h
    exact h.1
  | e :: r, us, fp, he, h => by
    obtain ⟨s, rfl⟩ := he e List.mem_cons_self
    have h' : CRL w St φ K (.v (.string s) :: acL r) us fp := h
    simp only [CRL] at h'
    obtain ⟨u, us', f1, f2, rfl, rfl, h1, h2⟩ := h'
    simp only [CR] at h1
    obtain ⟨rfl, -⟩ := h1
    rw [zb17 (fun e he' => he e (List.mem_cons_of_mem _ he')) h2]
    rfl
def joinB (l : List E) (sep : ByteArray) : ByteArray := ⟨(Lib.join (l.map fun e => (strB e).data.toList) sep.data.toList).toArray⟩
theorem join_c {l : List E} (hl : ∀ e ∈ l, ∃ s, e = .str s) (sep : ByteArray) (hn : l.length ≤ 1073741824) (hsz : (joinB l sep).size ≤ 140737488355328) : Ctr Tryd.prog 24 [.c (.ro l.length 1 (acL l)), .c (.v (.string sep))] [] (.c (.v (.string (joinB l sep)))) [] := by
  refine ze7 (by kernel_rfl) rfl fun w St φ K us h => ?_
  simp only [VRL, VR, CR] at h
  obtain ⟨u, us1, rfl, ⟨-, A, c, rfl, ⟨h1, h2, h3⟩, h4, h5⟩, u2, us2, rfl, ⟨rfl, -⟩, rfl⟩ := h
  cases l with
  | nil => exact (Go.Proofs.Any.strings_Join_none za17 Builder_Extra_156 A c sep w).mono fun e w' ⟨he, hw⟩ => ⟨he, hw ▸ Below.refl _ _⟩
  | cons x r =>
    obtain ⟨b, o, us, rfl, -, hb, hc, hcr⟩ := h5 (by simp)
    have hus := zb17 hl hcr
    have e1 : (x :: r).length = ((x :: r).map strB).length := by simp
    have e2 : joinB (x :: r) sep = ⟨(Lib.join (((x :: r).map strB).map (·.data.toList)) sep.data.toList).toArray⟩ := by unfold joinB; rw [List.map_map]; rfl
    rw [e2] at hsz ⊢
    rw [e1] at hn h1 ⊢
    refine Go.Proofs.Any.strings_Join za17 Builder_Extra_156 b o c ((x :: r).map strB) sep w (fun j y hy => hc j _ ?_) hb (by omega) h1 ?_
    · rw [hus, List.getElem?_map]
      rw [List.getElem?_map] at hy
      cases hq : (x :: r)[j]? with
      | none => rw [hq] at hy; cases hy
      | some e => rw [hq] at hy; simp at hy; simp [hy]
    · have : (ByteArray.mk (Lib.join (((x :: r).map strB).map (·.data.toList)) sep.data.toList).toArray).size = (Lib.join (((x :: r).map strB).map (·.data.toList)) sep.data.toList).length := by show (List.toArray _).size = _; rw [List.size_toArray]
      rw [this] at hsz
      exact hsz
end Go.Proofs.YtnlgmojciplnoaaDoor
namespace Go.Proofs.YtnlgmojciplnoaaDoor
open Go.RowKit Go.Shelf
set_option maxRecDepth 100000
def laysC172_ren : Go.Shelf.Ren := ⟨fun | 172 => 46 | 244 => 68 | 245 => 69 | 247 => 74 | 279 => 75 | 280 => 76 | 281 => 77 | 282 => 78 | 287 => 82 | 316 => 83 | 171 => 47 | 205 => 84 | 321 => 89 | 322 => 90 | 243 => 70 | 246 => 79 | 283 => 85 | 284 => 86 | 285 => 87 | 286 => 88 | 129 => 92 | 317 => 91 | 318 => 93 | 319 => 94 | 320 => 95 | 337 => 96 | 338 => 97 | n => n, fun | 9 => 9 | 3 => 3 | 75 => 62 | 76 => 63 | 4 => 4 | 5 => 5 | 167 => 82 | 37 => 22 | 0 => 0 | 85 => 83 | 2 => 2 | 168 => 85 | 53 => 92 | 175 => 93 | 46 => 81 | 210 => 96 | 127 => 80 | 145 => 106 | 143 => 104 | 21 => 21 | 171 => 98 | 173 => 101 | 212 => 109 | 51 => 110 | 20 => 20 | 213 => 111 | 232 => 115 | 233 => 116 | 80 => 70 | n => n, fun | 15 => 1 | 16 => 2 | 17 => 3 | 18 => 4 | 19 => 5 | n => n⟩
theorem zs13 : Go.Proofs.LaysC.n172 Tryd.prog laysC172_ren := {
  mixed := by kernel_rfl
  f129 := Tryd.func92.trans (congrArg some (by kernel_rfl))
  f171 := Tryd.func47.trans (congrArg some (by kernel_rfl))
  f172 := Tryd.func46.trans (congrArg some (by kernel_rfl))
  f205 := Tryd.func84.trans (congrArg some (by kernel_rfl))
  f243 := Tryd.func70.trans (congrArg some (by kernel_rfl))
  f244 := Tryd.func68.trans (congrArg some (by kernel_rfl))
  f245 := Tryd.func69.trans (congrArg some (by kernel_rfl))
  f246 := Tryd.func79.trans (congrArg some (by kernel_rfl))
  f247 := Tryd.func74.trans (congrArg some (by kernel_rfl))
  f279 := Tryd.func75.trans (congrArg some (by kernel_rfl))
  f280 := Tryd.func76.trans (congrArg some (by kernel_rfl))
  f281 := Tryd.func77.trans (congrArg some (by kernel_rfl))
  f282 := Tryd.func78.trans (congrArg some (by kernel_rfl))
  f283 := Tryd.func85.trans (congrArg some (by kernel_rfl))
  f284 := Tryd.func86.trans (congrArg some (by kernel_rfl))
  f285 := Tryd.func87.trans (congrArg some (by kernel_rfl))
  f286 := Tryd.func88.trans (congrArg some (by kernel_rfl))
  f287 := Tryd.func82.trans (congrArg some (by kernel_rfl))
  f316 := Tryd.func83.trans (congrArg some (by kernel_rfl))
  f317 := Tryd.func91.trans (congrArg some (by kernel_rfl))
  f318 := Tryd.func93.trans (congrArg some (by kernel_rfl))
  f319 := Tryd.func94.trans (congrArg some (by kernel_rfl))
  f320 := Tryd.func95.trans (congrArg some (by kernel_rfl))
  f321 := Tryd.func89.trans (congrArg some (by kernel_rfl))
  f322 := Tryd.func90.trans (congrArg some (by kernel_rfl))
  f337 := Tryd.func96.trans (congrArg some (by kernel_rfl))
  f338 := Tryd.func97.trans (congrArg some (by kernel_rfl))
  t0 := Tryd.underlying0
  a0 := Tryd.isAgg0
  z0 := Tryd.sizeOf0
  v0 := Tryd.zeroValue0
  t2 := Tryd.underlying2
  a2 := Tryd.isAgg2
  z2 := Tryd.sizeOf2
  v2 := Tryd.zeroValue2
  t3 := Tryd.underlying3
  a3 := Tryd.isAgg3
  z3 := Tryd.sizeOf3
  v3 := Tryd.zeroValue3
  t4 := Tryd.underlying4
  a4 := Tryd.isAgg4
  z4 := Tryd.sizeOf4
  v4 := Tryd.zeroValue4
  t5 := Tryd.underlying5
  a5 := Tryd.isAgg5
  z5 := Tryd.sizeOf5
  v5 := Tryd.zeroValue5
  t9 := Tryd.underlying9
  a9 := Tryd.isAgg9
  z9 := Tryd.sizeOf9
  v9 := Tryd.zeroValue9
  t20 := Tryd.underlying20
  a20 := Tryd.isAgg20
  z20 := Tryd.sizeOf20
  v20 := Tryd.zeroValue20
  t21 := Tryd.underlying21
  a21 := Tryd.isAgg21
  z21 := Tryd.sizeOf21
  v21 := Tryd.zeroValue21
  t37 := Tryd.underlying22
  a37 := Tryd.isAgg22
  z37 := Tryd.sizeOf22
  v37 := Tryd.zeroValue22
  t46 := Tryd.underlying81
  a46 := Tryd.isAgg81
  z46 := Tryd.sizeOf81
  v46 := Tryd.zeroValue81
  t51 := Tryd.underlying110
  a51 := Tryd.isAgg110
  z51 := Tryd.sizeOf110
  v51 := Tryd.zeroValue110
  t53 := Tryd.underlying92
  a53 := Tryd.isAgg92
  z53 := Tryd.sizeOf92
  v53 := Tryd.zeroValue92
  t75 := Tryd.underlying62
  a75 := Tryd.isAgg62
  z75 := Tryd.sizeOf62
  v75 := Tryd.zeroValue62
  t76 := Tryd.underlying63
  a76 := Tryd.isAgg63
  z76 := Tryd.sizeOf63
  v76 := Tryd.zeroValue63
  t85 := Tryd.underlying83
  a85 := Tryd.isAgg83
  z85 := Tryd.sizeOf83
  v85 := Tryd.zeroValue83
  t127 := Tryd.underlying80
  a127 := Tryd.isAgg80
  z127 := Tryd.sizeOf80
  v127 := Tryd.zeroValue80
  t143 := Tryd.underlying104
  a143 := Tryd.isAgg104
  z143 := Tryd.sizeOf104
  v143 := Tryd.zeroValue104
  t145 := Tryd.underlying106
  a145 := Tryd.isAgg106
  z145 := Tryd.sizeOf106
  v145 := Tryd.zeroValue106
  t167 := Tryd.underlying82
  a167 := Tryd.isAgg82
  z167 := Tryd.sizeOf82
  v167 := Tryd.zeroValue82
  t168 := Tryd.underlying85
  a168 := Tryd.isAgg85
  z168 := Tryd.sizeOf85
  v168 := Tryd.zeroValue85
  t171 := Tryd.underlying98
  a171 := Tryd.isAgg98
  z171 := Tryd.sizeOf98
  v171 := Tryd.zeroValue98
  t173 := Tryd.underlying101
  a173 := Tryd.isAgg101
  z173 := Tryd.sizeOf101
  v173 := Tryd.zeroValue101
  t175 := Tryd.underlying93
  a175 := Tryd.isAgg93
  z175 := Tryd.sizeOf93
  v175 := Tryd.zeroValue93
  t210 := Tryd.underlying96
  a210 := Tryd.isAgg96
  z210 := Tryd.sizeOf96
  v210 := Tryd.zeroValue96
  t212 := Tryd.underlying109
  a212 := Tryd.isAgg109
  z212 := Tryd.sizeOf109
  v212 := Tryd.zeroValue109
  t213 := Tryd.underlying111
  a213 := Tryd.isAgg111
  z213 := Tryd.sizeOf111
  t232 := Tryd.underlying115
  a232 := Tryd.isAgg115
  z232 := Tryd.sizeOf115
  v232 := Tryd.zeroValue115
  t233 := Tryd.underlying116
  a233 := Tryd.isAgg116
  z233 := Tryd.sizeOf116
  v233 := Tryd.zeroValue116
  g15 := by kernel_rfl
  g16 := by kernel_rfl
  g17 := by kernel_rfl
  g18 := by kernel_rfl
  g19 := by kernel_rfl
  t80 := Tryd.underlying70
  a80 := Tryd.isAgg70
  z80 := Tryd.sizeOf70
  v80 := Tryd.zeroValue70
  i0 := by kernel_rfl
  i2 := by kernel_rfl
  i3 := by kernel_rfl
  i4 := by kernel_rfl
  i5 := by kernel_rfl
  i9 := by kernel_rfl
  i20 := by kernel_rfl
  i21 := by kernel_rfl
  i37 := by kernel_rfl
  i46 := by kernel_rfl
  i51 := by kernel_rfl
  i53 := by kernel_rfl
  i75 := by kernel_rfl
  i76 := by kernel_rfl
  i80 := by kernel_rfl
  i85 := by kernel_rfl
  i127 := by kernel_rfl
  i143 := by kernel_rfl
  i145 := by kernel_rfl
  i167 := by kernel_rfl
  i168 := by kernel_rfl
  i171 := by kernel_rfl
  i173 := by kernel_rfl
  i175 := by kernel_rfl
  i210 := by kernel_rfl
  i212 := by kernel_rfl
  i232 := by kernel_rfl
  i233 := by kernel_rfl
  m15 := by kernel_rfl
  m16 := by kernel_rfl
  m17 := by kernel_rfl
  m18 := by kernel_rfl
  m19 := by kernel_rfl
  c0 := by kernel_rfl
  c2 := by kernel_rfl
  c3 := by kernel_rfl
  c4 := by kernel_rfl
  c5 := by kernel_rfl
  c9 := by kernel_rfl
  c20 := by kernel_rfl
  c21 := by kernel_rfl
  c37 := by kernel_rfl
  c46 := by kernel_rfl
  c51 := by kernel_rfl
  c53 := by kernel_rfl
  c75 := by kernel_rfl
  c76 := by kernel_rfl
  c80 := by kernel_rfl
  c85 := by kernel_rfl
  c127 := by kernel_rfl
  c143 := by kernel_rfl
  c145 := by kernel_rfl
  c167 := by kernel_rfl
  c168 := by kernel_rfl
  c171 := by kernel_rfl
  c173 := by kernel_rfl
  c175 := by kernel_rfl
  c210 := by kernel_rfl
  c212 := by kernel_rfl
  c213 := by kernel_rfl
  c232 := by kernel_rfl
  c233 := by kernel_rfl }
end Go.Proofs.YtnlgmojciplnoaaDoor
namespace Go.Proofs.YtnlgmojciplnoaaDoor
open Go.RowKit Go.Shelf
set_option maxRecDepth 100000
def lays99_ren : Go.Shelf.Ren := ⟨fun | 99 => 54 | 206 => 73 | n => n, fun | 9 => 9 | 4 => 4 | 3 => 3 | n => n, fun | n => n⟩
theorem lays99 : Go.Proofs.Lays.n99 Tryd.prog lays99_ren := {
  mixed := by kernel_rfl
  f99 := Tryd.func54.trans (congrArg some (by kernel_rfl))
  f206 := Tryd.func73.trans (congrArg some (by kernel_rfl))
  t3 := Tryd.underlying3
  a3 := Tryd.isAgg3
  z3 := Tryd.sizeOf3
  v3 := Tryd.zeroValue3
  t4 := Tryd.underlying4
  a4 := Tryd.isAgg4
  z4 := Tryd.sizeOf4
  v4 := Tryd.zeroValue4
  t9 := Tryd.underlying9
  a9 := Tryd.isAgg9
  z9 := Tryd.sizeOf9
  v9 := Tryd.zeroValue9 }
end Go.Proofs.YtnlgmojciplnoaaDoor
