/- Reading tokens: the reference's steps (places, numbers, what is quoted). -/
import Derived.StillTailTactics
import Derived.Test.YtnlgmojciplnoaaDoorLexPL
namespace Go.Proofs.YtnlgmojciplnoaaDoor
open Go.RowKit
set_option maxRecDepth 100000
theorem zo9 {s : ByteArray} (hs : s.size ≤ 1048576) {a c : Nat} (ha : a ≤ s.size) (hc : c < 256) : Ctr Tryd.prog 55 [.c (.v (.string s)), .c (.v (.int .i64 (a : Int))), .c (.v (.int .u8 (c : Int)))] [] (.c (.v (.int .i64 (runF (neB c) s s.size a : Nat)))) [] := by
  refine zr2 Tryd.func55 rfl rfl ?_
  repeat' (first | ((apply f_wo); first | ((apply f_gs); first | refine n_sk ?_) | ((apply f_mv); first | (refine zl1 ?_ ?_ <;> intro hG <;> (try cases hG)) | refine zu (v := .c _) ?_ | refine za ?_) | ((apply f_as); first | refine zv (v := .c _) ?_ | refine za ?_) | ((apply f_bi); first | refine za1 ?_ | refine zy ?_ | refine zb1 ?_ | refine za ?_) | ((apply zz2); first | refine zl6 ?_ | refine za ?_) | ((apply zi1); first | refine ze ?_ | refine za ?_) | ((apply zk1); first | refine zg ?_ | refine zj1 ?_ | refine za ?_) | ((apply f_pk); first | refine zx (v := .c _) ?_ | refine za ?_) | refine zp1 ?_ | refine za ?_) | ((apply f_w); first | refine zd1 ?_ | refine zd ?_) | refine zb fun C => ?_ | refine zj ?_ | refine zc ?_ | refine zf ?_ | refine zh ?_)
  refine zj3 (fun k : Nat => ⟨tmsF [(0, .c (.v (.string s))), (1, .c (.v (.int .i64 (k : Int)))), (2, .c (.v (.int .u8 (c : Int))))], hpsF [], 0, [], 21⟩)
    (fun N k => k + N = s.size ∧ runF (neB c) s s.size a = runF (neB c) s N k) (s.size - a) a ⟨by omega, (zm6 (s.size - a) a ha (by omega)).symm⟩ ?_ ?_
  · (refine zf2 _ _ rfl rfl ?_ ?_ <;> (repeat' (first | exact TmOk.nil | exact RwOk.nil | refine TmOk.cons ?_ ?_ | refine RwOk.cons ?_ ?_ | rfl | (refine rnV_id' rfl ?_; (first | rfl | (simp [cloV, cloL, clo, zn, zm, zo, zk, zi]; done))) | (refine zo2 ?_; first | rfl | omega | (rw [zs1 (by omega) (by omega)]; omega)) | (refine ze1 rfl ?_; (first | rfl | (simp [cloV, cloL, clo, zn, zm, zo, zk, zi]; done))) | exact zg3 rfl rfl | (refine zp2 (by rfl) (by rfl) ?_ ?_ <;> (first | rfl | (simp [cloV, cloL, clo, zn, zm, zo, zk, zi]; done))) | (refine rw_rn' rfl rfl ?_; simp; done))))
  rintro N k ⟨hN, hr⟩
  try dsimp only
  have hlt := zo3 s k
  by_cases hk : k < s.size
  · obtain ⟨M, rfl⟩ : ∃ M, N = M + 1 := ⟨N - 1, by omega⟩
    by_cases hq : bAt s k = c
    · rw [hr, zj4 fun h => by simp [neB, hq] at h]
      repeat' (first | ((apply f_wo); first | ((apply f_gs); first | refine n_sk ?_) | ((apply f_mv); first | (refine zl1 ?_ ?_ <;> intro hG <;> (try cases hG)) | refine zu (v := .c _) ?_ | refine za ?_) | ((apply f_as); first | refine zv (v := .c _) ?_ | refine za ?_) | ((apply f_bi); first | refine za1 ?_ | refine zy ?_ | refine zb1 ?_ | refine za ?_) | ((apply zz2); first | refine zl6 ?_ | refine za ?_) | ((apply zi1); first | refine ze ?_ | refine za ?_) | ((apply zk1); first | refine zg ?_ | refine zj1 ?_ | refine za ?_) | ((apply f_pk); first | refine zx (v := .c _) ?_ | refine za ?_) | refine zp1 ?_ | refine za ?_) | ((apply f_w); first | refine zd1 ?_ | refine zd ?_) | refine zb fun C => ?_ | refine zj ?_ | refine zc ?_ | refine zf ?_ | refine zh ?_ | (refine zp (by rfl) ?_ ?_ <;> intro hC <;> (try cases hC)))
      all_goals first
        | (exfalso; simp_all; done)
        | (exfalso; simp_all; omega)
        | (refine zc1 ?_; refine ret0 rfl zv1 ⟨?_, rfl⟩; rfl)
    · have hr2 : runF (neB c) s s.size a = runF (neB c) s M (k + 1) := by rw [hr, zt4 hk (by simp [neB, hq])]
      repeat' (first | ((apply f_wo); first | ((apply f_gs); first | refine n_sk ?_) | ((apply f_mv); first | (refine zl1 ?_ ?_ <;> intro hG <;> (try cases hG)) | refine zu (v := .c _) ?_ | refine za ?_) | ((apply f_as); first | refine zv (v := .c _) ?_ | refine za ?_) | ((apply f_bi); first | refine za1 ?_ | refine zy ?_ | refine zb1 ?_ | refine za ?_) | ((apply zz2); first | refine zl6 ?_ | refine za ?_) | ((apply zi1); first | refine ze ?_ | refine za ?_) | ((apply zk1); first | refine zg ?_ | refine zj1 ?_ | refine za ?_) | ((apply f_pk); first | refine zx (v := .c _) ?_ | refine za ?_) | refine zp1 ?_ | refine za ?_) | ((apply f_w); first | refine zd1 ?_ | refine zd ?_) | refine zb fun C => ?_ | refine zj ?_ | refine zc ?_ | refine zf ?_ | refine zh ?_ | (refine zp (by rfl) ?_ ?_ <;> intro hC <;> (try cases hC)))
      all_goals first
        | (refine ⟨M, k + 1, by omega, ⟨by omega, hr2⟩, ?_⟩; (refine zf2 _ _ rfl rfl ?_ ?_ <;> (repeat' (first | exact TmOk.nil | exact RwOk.nil | refine TmOk.cons ?_ ?_ | refine RwOk.cons ?_ ?_ | rfl | (refine rnV_id' rfl ?_; (first | rfl | (simp [cloV, cloL, clo, zn, zm, zo, zk, zi]; done))) | (refine zo2 ?_; first | rfl | omega | (rw [zs1 (by omega) (by omega)]; omega)) | (refine ze1 rfl ?_; (first | rfl | (simp [cloV, cloL, clo, zn, zm, zo, zk, zi]; done))) | exact zg3 rfl rfl | (refine zp2 (by rfl) (by rfl) ?_ ?_ <;> (first | rfl | (simp [cloV, cloL, clo, zn, zm, zo, zk, zi]; done))) | (refine rw_rn' rfl rfl ?_; simp; done)))))
        | (exfalso; simp_all; done)
        | (exfalso; simp_all; omega)
  · rw [hr, zj4 fun h => hk h.1]
    repeat' (first | ((apply f_wo); first | ((apply f_gs); first | refine n_sk ?_) | ((apply f_mv); first | (refine zl1 ?_ ?_ <;> intro hG <;> (try cases hG)) | refine zu (v := .c _) ?_ | refine za ?_) | ((apply f_as); first | refine zv (v := .c _) ?_ | refine za ?_) | ((apply f_bi); first | refine za1 ?_ | refine zy ?_ | refine zb1 ?_ | refine za ?_) | ((apply zz2); first | refine zl6 ?_ | refine za ?_) | ((apply zi1); first | refine ze ?_ | refine za ?_) | ((apply zk1); first | refine zg ?_ | refine zj1 ?_ | refine za ?_) | ((apply f_pk); first | refine zx (v := .c _) ?_ | refine za ?_) | refine zp1 ?_ | refine za ?_) | ((apply f_w); first | refine zd1 ?_ | refine zd ?_) | refine zb fun C => ?_ | refine zj ?_ | refine zc ?_ | refine zf ?_ | refine zh ?_ | (refine zp (by rfl) ?_ ?_ <;> intro hC <;> (try cases hC)))
    all_goals first
      | (exfalso; simp_all; done)
      | (exfalso; simp_all; omega)
      | (refine zc1 ?_; refine ret0 rfl zv1 ⟨?_, rfl⟩; rfl)
theorem zt16 {s : ByteArray} (hs : s.size ≤ 1048576) {a : Nat} (ha : a ≤ s.size) : Ctr Tryd.prog 57 [.c (.v (.string s)), .c (.v (.int .i64 (a : Int))), .c (.v (.bool false))] [] (.c (.v (.int .i64 (runF digB s s.size a : Nat)))) [] := by
  refine zr2 Tryd.func57 rfl rfl ?_
  repeat' (first | ((apply f_wo); first | ((apply f_gs); first | refine n_sk ?_) | ((apply f_mv); first | (refine zl1 ?_ ?_ <;> intro hG <;> (try cases hG)) | refine zu (v := .c _) ?_ | refine za ?_) | ((apply f_as); first | refine zv (v := .c _) ?_ | refine za ?_) | ((apply f_bi); first | refine za1 ?_ | refine zy ?_ | refine zb1 ?_ | refine za ?_) | ((apply zi1); first | refine ze ?_ | refine za ?_) | ((apply zk1); first | refine zg ?_ | refine zj1 ?_ | refine za ?_) | ((apply f_pk); first | refine zx (v := .c _) ?_ | refine za ?_) | refine zp1 ?_ | refine za ?_) | ((apply f_w); first | refine zd1 ?_ | refine zd ?_) | refine zb fun C => ?_ | refine zj ?_ | refine zc ?_ | refine zf ?_ | refine zh ?_)
  refine zj3 (fun k : Nat => ⟨tmsF [(0, .c (.v (.string s))), (1, .c (.v (.int .i64 (k : Int)))), (2, .c (.v (.bool false)))], hpsF [], 0, [], 29⟩)
    (fun N k => k + N = s.size ∧ runF digB s s.size a = runF digB s N k) (s.size - a) a ⟨by omega, (zm6 (s.size - a) a ha (by omega)).symm⟩ ?_ ?_
  · (refine zf2 _ _ rfl rfl ?_ ?_ <;> (repeat' (first | exact TmOk.nil | exact RwOk.nil | refine TmOk.cons ?_ ?_ | refine RwOk.cons ?_ ?_ | rfl | (refine rnV_id' rfl ?_; (first | rfl | (simp [cloV, cloL, clo, zn, zm, zo, zk, zi]; done))) | (refine zo2 ?_; first | rfl | omega | (rw [zs1 (by omega) (by omega)]; omega)) | (refine ze1 rfl ?_; (first | rfl | (simp [cloV, cloL, clo, zn, zm, zo, zk, zi]; done))) | exact zg3 rfl rfl | (refine zp2 (by rfl) (by rfl) ?_ ?_ <;> (first | rfl | (simp [cloV, cloL, clo, zn, zm, zo, zk, zi]; done))) | (refine rw_rn' rfl rfl ?_; simp; done))))
  rintro N k ⟨hN, hr⟩
  try dsimp only
  have c1 := zx5 (zo3 s k)
  by_cases hk : k < s.size
  · obtain ⟨M, rfl⟩ : ∃ M, N = M + 1 := ⟨N - 1, by omega⟩
    cases h1 : digB (bAt s k) with
    | true =>
      rw [h1] at c1
      have hr2 : runF digB s s.size a = runF digB s M (k + 1) := by rw [hr, zt4 hk h1]
      repeat' (first | ((apply f_wo); first | ((apply f_gs); first | refine n_sk ?_) | ((apply f_mv); first | (refine zl1 ?_ ?_ <;> intro hG <;> (try cases hG)) | refine zu (v := .c _) ?_ | refine za ?_) | ((apply f_as); first | refine zv (v := .c _) ?_ | refine za ?_) | ((apply f_ca); first | refine zh1 (c1) ?_ | refine zg1 (c1) ?_) | ((apply f_bi); first | refine za1 ?_ | refine zy ?_ | refine zb1 ?_ | refine za ?_) | ((apply zi1); first | refine ze ?_ | refine za ?_) | ((apply zk1); first | refine zg ?_ | refine zj1 ?_ | refine za ?_) | ((apply f_pk); first | refine zx (v := .c _) ?_ | refine za ?_) | refine zp1 ?_ | refine za ?_) | ((apply f_w); first | refine zd1 ?_ | refine zd ?_) | refine zb fun C => ?_ | refine zj ?_ | refine zc ?_ | refine zf ?_ | refine zh ?_ | (refine zp (by rfl) ?_ ?_ <;> intro hC <;> (try cases hC)))
      all_goals first
        | (refine ⟨M, k + 1, by omega, ⟨by omega, hr2⟩, ?_⟩; (refine zf2 _ _ rfl rfl ?_ ?_ <;> (repeat' (first | exact TmOk.nil | exact RwOk.nil | refine TmOk.cons ?_ ?_ | refine RwOk.cons ?_ ?_ | rfl | (refine rnV_id' rfl ?_; (first | rfl | (simp [cloV, cloL, clo, zn, zm, zo, zk, zi]; done))) | (refine zo2 ?_; first | rfl | omega | (rw [zs1 (by omega) (by omega)]; omega)) | (refine ze1 rfl ?_; (first | rfl | (simp [cloV, cloL, clo, zn, zm, zo, zk, zi]; done))) | exact zg3 rfl rfl | (refine zp2 (by rfl) (by rfl) ?_ ?_ <;> (first | rfl | (simp [cloV, cloL, clo, zn, zm, zo, zk, zi]; done))) | (refine rw_rn' rfl rfl ?_; simp; done)))))
        | (exfalso; simp only [decide_eq_true_iff, decide_eq_false_iff_not] at *; omega)
    | false =>
      rw [h1] at c1
      rw [hr, zj4 fun h => by simp [h1] at h]
      repeat' (first | ((apply f_wo); first | ((apply f_gs); first | refine n_sk ?_) | ((apply f_mv); first | (refine zl1 ?_ ?_ <;> intro hG <;> (try cases hG)) | refine zu (v := .c _) ?_ | refine za ?_) | ((apply f_as); first | refine zv (v := .c _) ?_ | refine za ?_) | ((apply f_ca); first | refine zh1 (c1) ?_ | refine zg1 (c1) ?_) | ((apply f_bi); first | refine za1 ?_ | refine zy ?_ | refine zb1 ?_ | refine za ?_) | ((apply zi1); first | refine ze ?_ | refine za ?_) | ((apply zk1); first | refine zg ?_ | refine zj1 ?_ | refine za ?_) | ((apply f_pk); first | refine zx (v := .c _) ?_ | refine za ?_) | refine zp1 ?_ | refine za ?_) | ((apply f_w); first | refine zd1 ?_ | refine zd ?_) | refine zb fun C => ?_ | refine zj ?_ | refine zc ?_ | refine zf ?_ | refine zh ?_ | (refine zp (by rfl) ?_ ?_ <;> intro hC <;> (try cases hC)))
      all_goals first
        | (exfalso; simp only [decide_eq_true_iff, decide_eq_false_iff_not] at *; omega)
        | (refine zc1 ?_; refine ret0 rfl zv1 ⟨?_, rfl⟩; rfl)
  · rw [hr, zj4 fun h => hk h.1]
    repeat' (first | ((apply f_wo); first | ((apply f_gs); first | refine n_sk ?_) | ((apply f_mv); first | (refine zl1 ?_ ?_ <;> intro hG <;> (try cases hG)) | refine zu (v := .c _) ?_ | refine za ?_) | ((apply f_as); first | refine zv (v := .c _) ?_ | refine za ?_) | ((apply f_ca); first | refine zh1 (c1) ?_ | refine zg1 (c1) ?_) | ((apply f_bi); first | refine za1 ?_ | refine zy ?_ | refine zb1 ?_ | refine za ?_) | ((apply zi1); first | refine ze ?_ | refine za ?_) | ((apply zk1); first | refine zg ?_ | refine zj1 ?_ | refine za ?_) | ((apply f_pk); first | refine zx (v := .c _) ?_ | refine za ?_) | refine zp1 ?_ | refine za ?_) | ((apply f_w); first | refine zd1 ?_ | refine zd ?_) | refine zb fun C => ?_ | refine zj ?_ | refine zc ?_ | refine zf ?_ | refine zh ?_ | (refine zp (by rfl) ?_ ?_ <;> intro hC <;> (try cases hC)))
    all_goals first
      | (exfalso; simp only [decide_eq_true_iff, decide_eq_false_iff_not] at *; omega)
      | (refine zc1 ?_; refine ret0 rfl zv1 ⟨?_, rfl⟩; rfl)
theorem zu16 {s : ByteArray} (hs : s.size ≤ 1048576) {a : Nat} (ha : a ≤ s.size) : Ctr Tryd.prog 57 [.c (.v (.string s)), .c (.v (.int .i64 (a : Int))), .c (.v (.bool true))] [] (.c (.v (.int .i64 (runF ldB s s.size a : Nat)))) [] := by
  refine zr2 Tryd.func57 rfl rfl ?_
  repeat' (first | ((apply f_wo); first | ((apply f_gs); first | refine n_sk ?_) | ((apply f_mv); first | (refine zl1 ?_ ?_ <;> intro hG <;> (try cases hG)) | refine zu (v := .c _) ?_ | refine za ?_) | ((apply f_as); first | refine zv (v := .c _) ?_ | refine za ?_) | ((apply f_bi); first | refine za1 ?_ | refine zy ?_ | refine zb1 ?_ | refine za ?_) | ((apply zi1); first | refine ze ?_ | refine za ?_) | ((apply zk1); first | refine zg ?_ | refine zj1 ?_ | refine za ?_) | ((apply f_pk); first | refine zx (v := .c _) ?_ | refine za ?_) | refine zp1 ?_ | refine za ?_) | ((apply f_w); first | refine zd1 ?_ | refine zd ?_) | refine zb fun C => ?_ | refine zj ?_ | refine zc ?_ | refine zf ?_ | refine zh ?_)
  refine zj3 (fun k : Nat => ⟨tmsF [(0, .c (.v (.string s))), (1, .c (.v (.int .i64 (k : Int)))), (2, .c (.v (.bool true)))], hpsF [], 0, [], 29⟩)
    (fun N k => k + N = s.size ∧ runF ldB s s.size a = runF ldB s N k) (s.size - a) a ⟨by omega, (zm6 (s.size - a) a ha (by omega)).symm⟩ ?_ ?_
  · (refine zf2 _ _ rfl rfl ?_ ?_ <;> (repeat' (first | exact TmOk.nil | exact RwOk.nil | refine TmOk.cons ?_ ?_ | refine RwOk.cons ?_ ?_ | rfl | (refine rnV_id' rfl ?_; (first | rfl | (simp [cloV, cloL, clo, zn, zm, zo, zk, zi]; done))) | (refine zo2 ?_; first | rfl | omega | (rw [zs1 (by omega) (by omega)]; omega)) | (refine ze1 rfl ?_; (first | rfl | (simp [cloV, cloL, clo, zn, zm, zo, zk, zi]; done))) | exact zg3 rfl rfl | (refine zp2 (by rfl) (by rfl) ?_ ?_ <;> (first | rfl | (simp [cloV, cloL, clo, zn, zm, zo, zk, zi]; done))) | (refine rw_rn' rfl rfl ?_; simp; done))))
  rintro N k ⟨hN, hr⟩
  try dsimp only
  have c1 := zx5 (zo3 s k)
  have c2 := zd7 (zo3 s k)
  by_cases hk : k < s.size
  · obtain ⟨M, rfl⟩ : ∃ M, N = M + 1 := ⟨N - 1, by omega⟩
    cases h1 : ldB (bAt s k) with
    | true =>
      have hr2 : runF ldB s s.size a = runF ldB s M (k + 1) := by rw [hr, zt4 hk h1]
      cases h2 : digB (bAt s k) with
      | true =>
        rw [h2] at c1
        repeat' (first | ((apply f_wo); first | ((apply f_gs); first | refine n_sk ?_) | ((apply f_mv); first | (refine zl1 ?_ ?_ <;> intro hG <;> (try cases hG)) | refine zu (v := .c _) ?_ | refine za ?_) | ((apply f_as); first | refine zv (v := .c _) ?_ | refine za ?_) | ((apply f_ca); first | refine zh1 (c1) ?_ | refine zg1 (c1) ?_ | refine zh1 (c2) ?_ | refine zg1 (c2) ?_) | ((apply f_bi); first | refine za1 ?_ | refine zy ?_ | refine zb1 ?_ | refine za ?_) | ((apply zi1); first | refine ze ?_ | refine za ?_) | ((apply zk1); first | refine zg ?_ | refine zj1 ?_ | refine za ?_) | ((apply f_pk); first | refine zx (v := .c _) ?_ | refine za ?_) | refine zp1 ?_ | refine za ?_) | ((apply f_w); first | refine zd1 ?_ | refine zd ?_) | refine zb fun C => ?_ | refine zj ?_ | refine zc ?_ | refine zf ?_ | refine zh ?_ | (refine zp (by rfl) ?_ ?_ <;> intro hC <;> (try cases hC)))
        all_goals first
          | (refine ⟨M, k + 1, by omega, ⟨by omega, hr2⟩, ?_⟩; (refine zf2 _ _ rfl rfl ?_ ?_ <;> (repeat' (first | exact TmOk.nil | exact RwOk.nil | refine TmOk.cons ?_ ?_ | refine RwOk.cons ?_ ?_ | rfl | (refine rnV_id' rfl ?_; (first | rfl | (simp [cloV, cloL, clo, zn, zm, zo, zk, zi]; done))) | (refine zo2 ?_; first | rfl | omega | (rw [zs1 (by omega) (by omega)]; omega)) | (refine ze1 rfl ?_; (first | rfl | (simp [cloV, cloL, clo, zn, zm, zo, zk, zi]; done))) | exact zg3 rfl rfl | (refine zp2 (by rfl) (by rfl) ?_ ?_ <;> (first | rfl | (simp [cloV, cloL, clo, zn, zm, zo, zk, zi]; done))) | (refine rw_rn' rfl rfl ?_; simp; done)))))
          | (exfalso; simp only [decide_eq_true_iff, decide_eq_false_iff_not] at *; omega)
      | false =>
        rw [h2] at c1
        rw [show letB (bAt s k) = true by simpa [ldB, h2] using h1] at c2
        repeat' (first | ((apply f_wo); first | ((apply f_gs); first | refine n_sk ?_) | ((apply f_mv); first | (refine zl1 ?_ ?_ <;> intro hG <;> (try cases hG)) | refine zu (v := .c _) ?_ | refine za ?_) | ((apply f_as); first | refine zv (v := .c _) ?_ | refine za ?_) | ((apply f_ca); first | refine zh1 (c1) ?_ | refine zg1 (c1) ?_ | refine zh1 (c2) ?_ | refine zg1 (c2) ?_) | ((apply f_bi); first | refine za1 ?_ | refine zy ?_ | refine zb1 ?_ | refine za ?_) | ((apply zi1); first | refine ze ?_ | refine za ?_) | ((apply zk1); first | refine zg ?_ | refine zj1 ?_ | refine za ?_) | ((apply f_pk); first | refine zx (v := .c _) ?_ | refine za ?_) | refine zp1 ?_ | refine za ?_) | ((apply f_w); first | refine zd1 ?_ | refine zd ?_) | refine zb fun C => ?_ | refine zj ?_ | refine zc ?_ | refine zf ?_ | refine zh ?_ | (refine zp (by rfl) ?_ ?_ <;> intro hC <;> (try cases hC)))
        all_goals first
          | (refine ⟨M, k + 1, by omega, ⟨by omega, hr2⟩, ?_⟩; (refine zf2 _ _ rfl rfl ?_ ?_ <;> (repeat' (first | exact TmOk.nil | exact RwOk.nil | refine TmOk.cons ?_ ?_ | refine RwOk.cons ?_ ?_ | rfl | (refine rnV_id' rfl ?_; (first | rfl | (simp [cloV, cloL, clo, zn, zm, zo, zk, zi]; done))) | (refine zo2 ?_; first | rfl | omega | (rw [zs1 (by omega) (by omega)]; omega)) | (refine ze1 rfl ?_; (first | rfl | (simp [cloV, cloL, clo, zn, zm, zo, zk, zi]; done))) | exact zg3 rfl rfl | (refine zp2 (by rfl) (by rfl) ?_ ?_ <;> (first | rfl | (simp [cloV, cloL, clo, zn, zm, zo, zk, zi]; done))) | (refine rw_rn' rfl rfl ?_; simp; done)))))
          | (exfalso; simp only [decide_eq_true_iff, decide_eq_false_iff_not] at *; omega)
    | false =>
      have h3 : letB (bAt s k) = false ∧ digB (bAt s k) = false := by simpa [ldB] using h1
      rw [h3.2] at c1
      rw [h3.1] at c2
      rw [hr, zj4 fun h => by simp [h1] at h]
      repeat' (first | ((apply f_wo); first | ((apply f_gs); first | refine n_sk ?_) | ((apply f_mv); first | (refine zl1 ?_ ?_ <;> intro hG <;> (try cases hG)) | refine zu (v := .c _) ?_ | refine za ?_) | ((apply f_as); first | refine zv (v := .c _) ?_ | refine za ?_) | ((apply f_ca); first | refine zh1 (c1) ?_ | refine zg1 (c1) ?_ | refine zh1 (c2) ?_ | refine zg1 (c2) ?_) | ((apply f_bi); first | refine za1 ?_ | refine zy ?_ | refine zb1 ?_ | refine za ?_) | ((apply zi1); first | refine ze ?_ | refine za ?_) | ((apply zk1); first | refine zg ?_ | refine zj1 ?_ | refine za ?_) | ((apply f_pk); first | refine zx (v := .c _) ?_ | refine za ?_) | refine zp1 ?_ | refine za ?_) | ((apply f_w); first | refine zd1 ?_ | refine zd ?_) | refine zb fun C => ?_ | refine zj ?_ | refine zc ?_ | refine zf ?_ | refine zh ?_ | (refine zp (by rfl) ?_ ?_ <;> intro hC <;> (try cases hC)))
      all_goals first
        | (exfalso; simp only [decide_eq_true_iff, decide_eq_false_iff_not] at *; omega)
        | (refine zc1 ?_; refine ret0 rfl zv1 ⟨?_, rfl⟩; rfl)
  · rw [hr, zj4 fun h => hk h.1]
    repeat' (first | ((apply f_wo); first | ((apply f_gs); first | refine n_sk ?_) | ((apply f_mv); first | (refine zl1 ?_ ?_ <;> intro hG <;> (try cases hG)) | refine zu (v := .c _) ?_ | refine za ?_) | ((apply f_as); first | refine zv (v := .c _) ?_ | refine za ?_) | ((apply f_ca); first | refine zh1 (c1) ?_ | refine zg1 (c1) ?_ | refine zh1 (c2) ?_ | refine zg1 (c2) ?_) | ((apply f_bi); first | refine za1 ?_ | refine zy ?_ | refine zb1 ?_ | refine za ?_) | ((apply zi1); first | refine ze ?_ | refine za ?_) | ((apply zk1); first | refine zg ?_ | refine zj1 ?_ | refine za ?_) | ((apply f_pk); first | refine zx (v := .c _) ?_ | refine za ?_) | refine zp1 ?_ | refine za ?_) | ((apply f_w); first | refine zd1 ?_ | refine zd ?_) | refine zb fun C => ?_ | refine zj ?_ | refine zc ?_ | refine zf ?_ | refine zh ?_ | (refine zp (by rfl) ?_ ?_ <;> intro hC <;> (try cases hC)))
    all_goals first
      | (exfalso; simp only [decide_eq_true_iff, decide_eq_false_iff_not] at *; omega)
      | (refine zc1 ?_; refine ret0 rfl zv1 ⟨?_, rfl⟩; rfl)
def pvS (s : ByteArray) (k : Nat) : Nat := valA 0 (s.data.toList.take k)
theorem zi8 : ∀ (l m : List UInt8) (acc : Nat), valA acc (l ++ m) = valA (valA acc l) m
  | [], m, acc => rfl
  | c :: l, m, acc => zi8 l m _
theorem zk11 (acc : Nat) (c : UInt8) : valA acc [c] = acc * 10 + (c.toNat - 48) := rfl
theorem zj8 {s : ByteArray} {k : Nat} (h : k < s.size) : s.data.toList[k]? = some (UInt8.ofNat (bAt s k)) := by
  unfold bAt
  rw [Array.getElem?_toList, Array.getElem?_eq_getElem h, Option.getD_some, UInt8.ofNat_toNat]
theorem zc19 {l : List UInt8} {k : Nat} {c : UInt8} (h : l[k]? = some c) : valA 0 (l.take (k + 1)) = valA 0 (l.take k) * 10 + (c.toNat - 48) := by
  rw [List.take_add_one, zi8, h, Option.toList_some, zk11]
theorem zu14 {s : ByteArray} {k : Nat} (h : k < s.size) : pvS s (k + 1) = pvS s k * 10 + (bAt s k - 48) := by
  have h1 := zc19 (zj8 h)
  rw [UInt8.toNat_ofNat', Nat.mod_eq_of_lt (zo3 s k)] at h1
  exact h1
theorem zm20 {s : ByteArray} : pvS s s.size = valS s := by
  unfold pvS valS
  rw [List.take_of_length_le (by simp)]
theorem zn20 {s : ByteArray} (hd : allB digB s = true) : ∀ k, k ≤ s.size → pvS s k < 10 ^ k
  | 0, _ => by unfold pvS; rw [List.take_zero]; exact Nat.zero_lt_one
  | k + 1, h => by
    have h1 := zn20 hd k (by omega)
    have h2 : digB (bAt s k) = true := by simp only [allB, decide_eq_true_iff] at hd; exact hd k (by omega)
    simp only [digB, Bool.and_eq_true, decide_eq_true_iff] at h2
    have h3 := zu14 (s := s) (k := k) (by omega)
    rw [h3, Nat.pow_succ]
    omega
theorem u8w {b : Nat} (h : 48 ≤ b) (h2 : b ≤ 57) : IntKind.u8.wrap ((b : Int) - 48) = ((b - 48 : Nat) : Int) := by
  rw [show ((b : Int) - 48) = ((b - 48 : Nat) : Int) by omega]
  rw [IntKind.wrap_u8]
  omega
theorem zk8 {s : ByteArray} (h : ¬ (1 ≤ s.size ∧ s.size ≤ 10 ∧ ¬ (1 < s.size ∧ bAt s 0 = 48))) : intV s = -1 := if_neg h
theorem zn6 {s : ByteArray} (h : 1 ≤ s.size ∧ s.size ≤ 10 ∧ ¬ (1 < s.size ∧ bAt s 0 = 48)) : intV s = (valS s : Int) := if_pos h
theorem zd19 {s : ByteArray} (hd : allB digB s = true) : Ctr Tryd.prog 58 [.c (.v (.string s))] [] (.c (.v (.int .i64 (intV s)))) [] := by
  have cw := zt7 (s.size : Int) 1 10
  by_cases hb : 1 ≤ s.size ∧ s.size ≤ 10
  · rw [show inR (s.size : Int) 1 10 = true by simp [inR]; omega] at cw
    by_cases h0 : 1 < s.size ∧ bAt s 0 = 48
    · rw [zk8 fun h => h.2.2 h0]
      refine zr2 Tryd.func58 rfl rfl ?_
      repeat' (first | ((apply f_wo); first | ((apply f_gs); first | refine n_sk ?_) | ((apply f_mv); first | (refine zl1 ?_ ?_ <;> intro hG <;> (try cases hG)) | refine zu (v := .c _) ?_ | refine za ?_) | ((apply f_as); first | refine zv (v := .c _) ?_ | refine za ?_) | ((apply f_ca); first | refine zh1 (cw) ?_ | refine zg1 (cw) ?_) | ((apply f_bi); first | refine za1 ?_ | refine zy ?_ | refine zb1 ?_ | refine za ?_) | ((apply zq1); first | refine zw ?_ | refine za ?_) | ((apply zi1); first | refine ze ?_ | refine za ?_) | ((apply za3); first | refine zf1 ?_ | refine za ?_) | ((apply zk1); first | refine zg ?_ | refine zj1 ?_ | refine za ?_) | ((apply f_no); first | refine zs2 ?_ | refine za ?_) | ((apply f_pk); first | refine zx (v := .c _) ?_ | refine za ?_) | ((apply f_bb); first | refine zg2 ?_ | refine zh2 ?_ | refine za ?_) | ((apply f_cv); first | refine zv2 ?_ | refine za ?_) | refine zp1 ?_ | refine za ?_) | ((apply f_w); first | refine zd1 ?_ | refine zd ?_) | refine zb fun C => ?_ | refine zj ?_ | refine zc ?_ | refine zf ?_ | refine zh ?_)
      all_goals first
        | (exfalso; simp_all; done)
        | (refine zp (by rfl) (fun hC => ?_) fun hC => ?_
           · repeat' (first | ((apply f_wo); first | ((apply f_gs); first | refine n_sk ?_) | ((apply f_mv); first | (refine zl1 ?_ ?_ <;> intro hG <;> (try cases hG)) | refine zu (v := .c _) ?_ | refine za ?_) | ((apply f_as); first | refine zv (v := .c _) ?_ | refine za ?_) | ((apply f_bi); first | refine za1 ?_ | refine zy ?_ | refine zb1 ?_ | refine za ?_) | ((apply zq1); first | refine zw ?_ | refine za ?_) | ((apply zi1); first | refine ze ?_ | refine za ?_) | ((apply za3); first | refine zf1 ?_ | refine za ?_) | ((apply zk1); first | refine zg ?_ | refine zj1 ?_ | refine za ?_) | ((apply f_no); first | refine zs2 ?_ | refine za ?_) | ((apply f_pk); first | refine zx (v := .c _) ?_ | refine za ?_) | ((apply f_bb); first | refine zg2 ?_ | refine zh2 ?_ | refine za ?_) | ((apply f_cv); first | refine zv2 ?_ | refine za ?_) | refine zp1 ?_ | refine za ?_) | ((apply f_w); first | refine zd1 ?_ | refine zd ?_) | refine zb fun C => ?_ | refine zj ?_ | refine zc ?_ | refine zf ?_ | refine zh ?_ | refine zq rfl ?_ | refine zr rfl ?_)
             refine zc1 ?_; refine ret0 rfl zv1 ⟨?_, rfl⟩; rfl
           · exfalso; simp only [h0, decide_eq_false_iff_not] at hC hG; first | omega | (simp at hC))
    · rw [zn6 ⟨hb.1, hb.2, h0⟩]
      have hz : ∀ k, k ≤ s.size → pvS s k < 10000000000 := fun k hk => Nat.lt_of_lt_of_le (zn20 hd k hk) (Nat.le_trans (Nat.pow_le_pow_right (show 0 < 10 by omega) (show k ≤ 10 by omega)) (show 10 ^ 10 ≤ 10000000000 by decide))
      refine zr2 Tryd.func58 rfl rfl ?_
      repeat' (first | ((apply f_wo); first | ((apply f_gs); first | refine n_sk ?_) | ((apply f_mv); first | (refine zl1 ?_ ?_ <;> intro hG <;> (try cases hG)) | refine zu (v := .c _) ?_ | refine za ?_) | ((apply f_as); first | refine zv (v := .c _) ?_ | refine za ?_) | ((apply f_ca); first | refine zh1 (cw) ?_ | refine zg1 (cw) ?_) | ((apply f_bi); first | refine za1 ?_ | refine zy ?_ | refine zb1 ?_ | refine za ?_) | ((apply zq1); first | refine zw ?_ | refine za ?_) | ((apply zi1); first | refine ze ?_ | refine za ?_) | ((apply za3); first | refine zf1 ?_ | refine za ?_) | ((apply zk1); first | refine zg ?_ | refine zj1 ?_ | refine za ?_) | ((apply f_no); first | refine zs2 ?_ | refine za ?_) | ((apply f_pk); first | refine zx (v := .c _) ?_ | refine za ?_) | ((apply f_bb); first | refine zg2 ?_ | refine zh2 ?_ | refine za ?_) | ((apply f_cv); first | refine zv2 ?_ | refine za ?_) | refine zp1 ?_ | refine za ?_) | ((apply f_w); first | refine zd1 ?_ | refine zd ?_) | refine zb fun C => ?_ | refine zj ?_ | refine zc ?_ | refine zf ?_ | refine zh ?_)
      all_goals first
        | (exfalso; simp_all; done)
        | (refine zp (by rfl) (fun hC => ?_) fun hC => ?_
           · exfalso; first | (simp at hC; done) | (simp at hC hG; omega) | (simp at hC; omega)
           · repeat' (first | ((apply f_wo); first | ((apply f_gs); first | refine n_sk ?_) | ((apply f_mv); first | (refine zl1 ?_ ?_ <;> intro hG <;> (try cases hG)) | refine zu (v := .c _) ?_ | refine za ?_) | ((apply f_as); first | refine zv (v := .c _) ?_ | refine za ?_) | ((apply f_bi); first | refine za1 ?_ | refine zy ?_ | refine zb1 ?_ | refine za ?_) | ((apply zq1); first | refine zw ?_ | refine za ?_) | ((apply zi1); first | refine ze ?_ | refine za ?_) | ((apply za3); first | refine zf1 ?_ | refine za ?_) | ((apply zk1); first | refine zg ?_ | refine zj1 ?_ | refine za ?_) | ((apply f_no); first | refine zs2 ?_ | refine za ?_) | ((apply f_pk); first | refine zx (v := .c _) ?_ | refine za ?_) | ((apply f_bb); first | refine zg2 ?_ | refine zh2 ?_ | refine za ?_) | ((apply f_cv); first | refine zv2 ?_ | refine za ?_) | refine zp1 ?_ | refine za ?_) | ((apply f_w); first | refine zd1 ?_ | refine zd ?_) | refine zb fun C => ?_ | refine zj ?_ | refine zc ?_ | refine zf ?_ | refine zh ?_)
             refine zj3 (fun k : Nat => ⟨tmsF [(0, .c (.v (.string s))), (3, .c (.v (.int .i64 (pvS s k : Int)))), (4, .c (.v (.int .i64 (k : Int))))], hpsF [], 0, [], 34⟩) (fun N k => k + N = s.size) s.size 0 (by omega) ?_ ?_
             · (refine zf2 _ _ rfl rfl ?_ ?_ <;> (repeat' (first | exact TmOk.nil | exact RwOk.nil | refine TmOk.cons ?_ ?_ | refine RwOk.cons ?_ ?_ | rfl | (refine rnV_id' rfl ?_; (first | rfl | (simp [cloV, cloL, clo, zn, zm, zo, zk, zi]; done))) | (refine zo2 ?_; first | rfl | omega | (rw [zs1 (by omega) (by omega)]; omega)) | (refine ze1 rfl ?_; (first | rfl | (simp [cloV, cloL, clo, zn, zm, zo, zk, zi]; done))) | exact zg3 rfl rfl | (refine zp2 (by rfl) (by rfl) ?_ ?_ <;> (first | rfl | (simp [cloV, cloL, clo, zn, zm, zo, zk, zi]; done))) | (refine rw_rn' rfl rfl ?_; simp; done))))
             rintro N k hN
             try dsimp only
             repeat' (first | ((apply f_wo); first | ((apply f_gs); first | refine n_sk ?_) | ((apply f_mv); first | (refine zl1 ?_ ?_ <;> intro hG <;> (try cases hG)) | refine zu (v := .c _) ?_ | refine za ?_) | ((apply f_as); first | refine zv (v := .c _) ?_ | refine za ?_) | ((apply f_bi); first | refine za1 ?_ | refine zy ?_ | refine zb1 ?_ | refine za ?_) | ((apply zq1); first | refine zw ?_ | refine za ?_) | ((apply zi1); first | refine ze ?_ | refine za ?_) | ((apply za3); first | refine zf1 ?_ | refine za ?_) | ((apply zk1); first | refine zg ?_ | refine zj1 ?_ | refine za ?_) | ((apply f_no); first | refine zs2 ?_ | refine za ?_) | ((apply f_pk); first | refine zx (v := .c _) ?_ | refine za ?_) | ((apply f_bb); first | refine zg2 ?_ | refine zh2 ?_ | refine za ?_) | ((apply f_cv); first | refine zv2 ?_ | refine za ?_) | refine zp1 ?_ | refine za ?_) | ((apply f_w); first | refine zd1 ?_ | refine zd ?_) | refine zb fun C => ?_ | refine zj ?_ | refine zc ?_ | refine zf ?_ | refine zh ?_)
             refine zp (by rfl) (fun hk => ?_) fun hk => ?_
             · have hk' : k < s.size := by simpa using hk
               have hd' : digB (bAt s k) = true := by simp only [allB, decide_eq_true_iff] at hd; exact hd k hk'
               simp only [digB, Bool.and_eq_true, decide_eq_true_iff] at hd'
               have hw := u8w hd'.1 hd'.2
               have hp := zu14 hk'
               have hz1 := hz k (by omega)
               have hz2 := hz (k + 1) (by omega)
               repeat' (first | ((apply f_wo); first | ((apply f_gs); first | refine n_sk ?_) | ((apply f_mv); first | (refine zl1 ?_ ?_ <;> intro hG <;> (try cases hG)) | refine zu (v := .c _) ?_ | refine za ?_) | ((apply f_as); first | refine zv (v := .c _) ?_ | refine za ?_) | ((apply f_bi); first | refine za1 ?_ | refine zy ?_ | refine zb1 ?_ | refine za ?_) | ((apply zq1); first | refine zw ?_ | refine za ?_) | ((apply zi1); first | refine ze ?_ | refine za ?_) | ((apply za3); first | refine zf1 ?_ | refine za ?_) | ((apply zk1); first | refine zg ?_ | refine zj1 ?_ | refine za ?_) | ((apply f_no); first | refine zs2 ?_ | refine za ?_) | ((apply f_pk); first | refine zx (v := .c _) ?_ | refine za ?_) | ((apply f_bb); first | refine zg2 ?_ | refine zh2 ?_ | refine za ?_) | ((apply f_cv); first | refine zv2 ?_ | refine za ?_) | refine zp1 ?_ | refine za ?_) | ((apply f_w); first | refine zd1 ?_ | refine zd ?_) | refine zb fun C => ?_ | refine zj ?_ | refine zc ?_ | refine zf ?_ | refine zh ?_ | refine zq rfl ?_ | refine zr rfl ?_)
               refine ⟨N - 1, k + 1, by omega, by omega, ?_⟩
               (refine zf2 _ _ rfl rfl ?_ ?_ <;> (repeat' (first | exact TmOk.nil | exact RwOk.nil | refine TmOk.cons ?_ ?_ | refine RwOk.cons ?_ ?_ | rfl | (refine rnV_id' rfl ?_; (first | rfl | (simp [cloV, cloL, clo, zn, zm, zo, zk, zi]; done))) | (refine zo2 ?_; first | rfl | omega | (rw [zs1 (by omega) (by omega)]; omega)) | (refine ze1 rfl ?_; (first | rfl | (simp [cloV, cloL, clo, zn, zm, zo, zk, zi]; done))) | exact zg3 rfl rfl | (refine zp2 (by rfl) (by rfl) ?_ ?_ <;> (first | rfl | (simp [cloV, cloL, clo, zn, zm, zo, zk, zi]; done))) | (refine rw_rn' rfl rfl ?_; simp; done))))
             · have hk' : k = s.size := by have : ¬ k < s.size := by simpa using hk
                                           omega
               rw [← zm20, ← hk']
               repeat' (first | ((apply f_wo); first | ((apply f_gs); first | refine n_sk ?_) | ((apply f_mv); first | (refine zl1 ?_ ?_ <;> intro hG <;> (try cases hG)) | refine zu (v := .c _) ?_ | refine za ?_) | ((apply f_as); first | refine zv (v := .c _) ?_ | refine za ?_) | ((apply f_bi); first | refine za1 ?_ | refine zy ?_ | refine zb1 ?_ | refine za ?_) | ((apply zq1); first | refine zw ?_ | refine za ?_) | ((apply zi1); first | refine ze ?_ | refine za ?_) | ((apply za3); first | refine zf1 ?_ | refine za ?_) | ((apply zk1); first | refine zg ?_ | refine zj1 ?_ | refine za ?_) | ((apply f_no); first | refine zs2 ?_ | refine za ?_) | ((apply f_pk); first | refine zx (v := .c _) ?_ | refine za ?_) | ((apply f_bb); first | refine zg2 ?_ | refine zh2 ?_ | refine za ?_) | ((apply f_cv); first | refine zv2 ?_ | refine za ?_) | refine zp1 ?_ | refine za ?_) | ((apply f_w); first | refine zd1 ?_ | refine zd ?_) | refine zb fun C => ?_ | refine zj ?_ | refine zc ?_ | refine zf ?_ | refine zh ?_ | refine zq rfl ?_ | refine zr rfl ?_)
               refine zc1 ?_; refine ret0 rfl zv1 ⟨?_, rfl⟩; rfl)
  · rw [zk8 fun h => hb ⟨h.1, h.2.1⟩]
    rw [show inR (s.size : Int) 1 10 = false by simp [inR]; omega] at cw
    refine zr2 Tryd.func58 rfl rfl ?_
    repeat' (first | ((apply f_wo); first | ((apply f_gs); first | refine n_sk ?_) | ((apply f_mv); first | (refine zl1 ?_ ?_ <;> intro hG <;> (try cases hG)) | refine zu (v := .c _) ?_ | refine za ?_) | ((apply f_as); first | refine zv (v := .c _) ?_ | refine za ?_) | ((apply f_ca); first | refine zh1 (cw) ?_ | refine zg1 (cw) ?_) | ((apply f_bi); first | refine za1 ?_ | refine zy ?_ | refine zb1 ?_ | refine za ?_) | ((apply zq1); first | refine zw ?_ | refine za ?_) | ((apply zi1); first | refine ze ?_ | refine za ?_) | ((apply za3); first | refine zf1 ?_ | refine za ?_) | ((apply zk1); first | refine zg ?_ | refine zj1 ?_ | refine za ?_) | ((apply f_no); first | refine zs2 ?_ | refine za ?_) | ((apply f_pk); first | refine zx (v := .c _) ?_ | refine za ?_) | ((apply f_bb); first | refine zg2 ?_ | refine zh2 ?_ | refine za ?_) | ((apply f_cv); first | refine zv2 ?_ | refine za ?_) | refine zp1 ?_ | refine za ?_) | ((apply f_w); first | refine zd1 ?_ | refine zd ?_) | refine zb fun C => ?_ | refine zj ?_ | refine zc ?_ | refine zf ?_ | refine zh ?_ | refine zq rfl ?_ | refine zr rfl ?_)
    refine zc1 ?_; refine ret0 rfl zv1 ⟨?_, rfl⟩; rfl
theorem zi12 {s : ByteArray} (hs : s.size ≤ 1048576) {a : Nat} (ha : a < s.size) (k : Int) : Ctr Tryd.prog 60 [.c (.v (.string s)), .c (.v (.int .i64 (a : Int))), .c (.v (.int .i64 k))] [] (.tu [.ag [.v (.int .i64 (quoR s a k).k), .v (.int .i64 (quoR s a k).n), .v (.string (quoR s a k).s)], .c (.v (.int .i64 ((quoR s a k).e : Int)))]) [] := by
  have c1 := zo9 hs (a := a + 1) (by omega) (zo3 s a)
  have hr := zl2 (p := neB (bAt s a)) (s := s) s.size (a + 1) (by omega) (by omega)
  unfold quoR
  generalize runF (neB (bAt s a)) s s.size (a + 1) = e at c1 hr ⊢
  have ha1 : (a : Int) + 1 = ((a + 1 : Nat) : Int) := by omega
  have he1 := hr.1
  have he2 := hr.2.1
  clear hr
  by_cases h : e = s.size
  · rw [if_pos h]
    refine zr2 Tryd.func60 rfl rfl ?_
    repeat' (first | ((apply f_wo); first | ((apply f_mv); first | refine zu (v := .c _) ?_ | refine za ?_) | ((apply f_as); first | refine zv (v := .c _) ?_ | refine za ?_) | ((apply f_ca); first | refine zh1 (c1) ?_ | refine zg1 (c1) ?_) | ((apply f_bi); first | refine za1 ?_ | refine zy ?_ | refine zb1 ?_ | refine za ?_) | ((apply f_st); first | refine n_st ?_ | refine zq2 ?_) | ((apply zq1); first | refine zm1 ?_ | refine za ?_) | ((apply zk1); first | refine zg ?_ | refine zj1 ?_ | refine za ?_) | refine n_al ?_ | refine zp1 ?_ | refine zy1 ?_ | refine zz1 ?_ | refine za2 ?_ | refine za ?_ | refine n_mv ?_) | ((apply f_w); first | refine zd1 ?_ | refine zd ?_) | refine zb fun C => ?_ | refine zj ?_ | refine zc ?_ | refine zf ?_ | refine zh ?_ | (refine zp (by rfl) ?_ ?_ <;> intro hC <;> (try cases hC)))
    all_goals first
      | (exfalso; simp at hC; omega)
      | (subst h; refine zc1 ?_; refine ret0 rfl (zt2 (zt (zf3 (zb2 rfl (zb2 rfl (zb2 rfl zk2)))) (zt zv1 zw1))) ⟨?_, rfl⟩; rfl)
  · rw [if_neg h]
    refine zr2 Tryd.func60 rfl rfl ?_
    repeat' (first | ((apply f_wo); first | ((apply f_mv); first | refine zu (v := .c _) ?_ | refine za ?_) | ((apply f_as); first | refine zv (v := .c _) ?_ | refine za ?_) | ((apply f_ca); first | refine zh1 (c1) ?_ | refine zg1 (c1) ?_) | ((apply f_bi); first | refine za1 ?_ | refine zy ?_ | refine zb1 ?_ | refine za ?_) | ((apply f_st); first | refine n_st ?_ | refine zq2 ?_) | ((apply zq1); first | refine zm1 ?_ | refine za ?_) | ((apply zk1); first | refine zg ?_ | refine zj1 ?_ | refine za ?_) | refine n_al ?_ | refine zp1 ?_ | refine zy1 ?_ | refine zz1 ?_ | refine za2 ?_ | refine za ?_ | refine n_mv ?_) | ((apply f_w); first | refine zd1 ?_ | refine zd ?_) | refine zb fun C => ?_ | refine zj ?_ | refine zc ?_ | refine zf ?_ | refine zh ?_ | (refine zp (by rfl) ?_ ?_ <;> intro hC <;> (try cases hC)))
    all_goals first
      | (exfalso; simp at hC; omega)
      | (refine zc1 ?_; refine ret0 rfl (zt2 (zt (zf3 (zb2 rfl (zb2 rfl (zb2 rfl zk2)))) (zt zv1 zw1))) ⟨?_, rfl⟩; rfl)
end Go.Proofs.YtnlgmojciplnoaaDoor
namespace Go.Proofs.YtnlgmojciplnoaaDoor
open Go.RowKit
end Go.Proofs.YtnlgmojciplnoaaDoor
namespace Go.Proofs.YtnlgmojciplnoaaDoor
open Go.RowKit
structure GVal where
  k : Int
  n : Int
  s : ByteArray
structure GCell where
  refs : Int
  v : GVal
end Go.Proofs.YtnlgmojciplnoaaDoor
namespace Go.Proofs.YtnlgmojciplnoaaDoor
open Go.RowKit
end Go.Proofs.YtnlgmojciplnoaaDoor
namespace Go.Proofs.YtnlgmojciplnoaaDoor
open Go.RowKit
end Go.Proofs.YtnlgmojciplnoaaDoor
namespace Go.Proofs.YtnlgmojciplnoaaDoor
open Go.RowKit
end Go.Proofs.YtnlgmojciplnoaaDoor
namespace Go.Proofs.YtnlgmojciplnoaaDoor
open Go.RowKit
end Go.Proofs.YtnlgmojciplnoaaDoor
namespace Go.Proofs.YtnlgmojciplnoaaDoor
open Go.RowKit
end Go.Proofs.YtnlgmojciplnoaaDoor
namespace Go.Proofs.YtnlgmojciplnoaaDoor
open Go.RowKit
structure GNamed where
  name : ByteArray
  v : GVal
structure GEntry where
  key : ByteArray
  v : GVal
def encEntry (d : GEntry) : List Value := [.string d.key, .int .i64 d.v.k, .int .i64 d.v.n, .string d.v.s]
end Go.Proofs.YtnlgmojciplnoaaDoor
