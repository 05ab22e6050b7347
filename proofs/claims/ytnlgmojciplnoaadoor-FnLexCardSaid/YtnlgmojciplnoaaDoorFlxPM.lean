/- Reading tokens: the reference's steps (places, numbers, what is quoted). -/
import Derived.StillTailTactics
import Derived.Test.YtnlgmojciplnoaaDoorFlxPL
namespace Go.Proofs.YtnlgmojciplnoaaDoor
open Go.RowKit
set_option maxRecDepth 100000
theorem zj11 {s : ByteArray} (hs : s.size ≤ 1048576) {a c : Nat} (ha : a ≤ s.size) (hc : c < 256) : Ctr Tryd.prog 55 [.c (.v (.string s)), .c (.v (.int .i64 (a : Int))), .c (.v (.int .u8 (c : Int)))] [] (.c (.v (.int .i64 (runF (neB c) s s.size a : Nat)))) [] := by
  refine za2 Tryd.func55 rfl rfl ?_
  repeat' (first | ((apply f_wo); first | ((apply f_gs); first | refine n_sk ?_) | ((apply f_mv); first | (refine zq1 ?_ ?_ <;> intro hG <;> (try cases hG)) | refine zv (v := .c _) ?_ | refine za ?_) | ((apply f_as); first | refine zt (v := .c _) ?_ | refine za ?_) | ((apply f_bi); first | refine zc1 ?_ | refine zb1 ?_ | refine zd1 ?_ | refine za ?_) | ((apply zx2); first | refine ze8 ?_ | refine za ?_) | ((apply zm1); first | refine zh ?_ | refine za ?_) | ((apply zj1); first | refine zg ?_ | refine zi1 ?_ | refine za ?_) | ((apply f_pk); first | refine zg1 (v := .c _) ?_ | refine za ?_) | refine zy1 ?_ | refine za ?_) | ((apply f_w); first | refine zx ?_ | refine zd ?_) | refine zb fun C => ?_ | refine zj ?_ | refine zc ?_ | refine ze ?_ | refine zf ?_)
  refine zb3 (fun k : Nat => ⟨tmsF [(0, .c (.v (.string s))), (1, .c (.v (.int .i64 (k : Int)))), (2, .c (.v (.int .u8 (c : Int))))], hpsF [], 0, [], 21⟩)
    (fun N k => k + N = s.size ∧ runF (neB c) s s.size a = runF (neB c) s N k) (s.size - a) a ⟨by omega, (zf8 (s.size - a) a ha (by omega)).symm⟩ ?_ ?_
  · (refine ze2 _ _ rfl rfl ?_ ?_ <;> (repeat' (first | exact TmOk.nil | exact RwOk.nil | refine TmOk.cons ?_ ?_ | refine RwOk.cons ?_ ?_ | rfl | (refine rnV_id' rfl ?_; (first | rfl | (simp [cloV, cloL, clo, zn, zm, zo, zk, zi]; done))) | (refine zk2 ?_; first | rfl | omega | (rw [zp1 (by omega) (by omega)]; omega)) | (refine ze1 rfl ?_; (first | rfl | (simp [cloV, cloL, clo, zn, zm, zo, zk, zi]; done))) | exact zg3 rfl rfl | (refine zl2 (by rfl) (by rfl) ?_ ?_ <;> (first | rfl | (simp [cloV, cloL, clo, zn, zm, zo, zk, zi]; done))) | (refine rw_rn' rfl rfl ?_; simp; done))))
  rintro N k ⟨hN, hr⟩
  try dsimp only
  have hlt := ze4 s k
  by_cases hk : k < s.size
  · obtain ⟨M, rfl⟩ : ∃ M, N = M + 1 := ⟨N - 1, by omega⟩
    by_cases hq : bAt s k = c
    · rw [hr, ze5 fun h => by simp [neB, hq] at h]
      repeat' (first | ((apply f_wo); first | ((apply f_gs); first | refine n_sk ?_) | ((apply f_mv); first | (refine zq1 ?_ ?_ <;> intro hG <;> (try cases hG)) | refine zv (v := .c _) ?_ | refine za ?_) | ((apply f_as); first | refine zt (v := .c _) ?_ | refine za ?_) | ((apply f_bi); first | refine zc1 ?_ | refine zb1 ?_ | refine zd1 ?_ | refine za ?_) | ((apply zx2); first | refine ze8 ?_ | refine za ?_) | ((apply zm1); first | refine zh ?_ | refine za ?_) | ((apply zj1); first | refine zg ?_ | refine zi1 ?_ | refine za ?_) | ((apply f_pk); first | refine zg1 (v := .c _) ?_ | refine za ?_) | refine zy1 ?_ | refine za ?_) | ((apply f_w); first | refine zx ?_ | refine zd ?_) | refine zb fun C => ?_ | refine zj ?_ | refine zc ?_ | refine ze ?_ | refine zf ?_ | (refine zr (by rfl) ?_ ?_ <;> intro hC <;> (try cases hC)))
      all_goals first
        | (exfalso; simp_all; done)
        | (exfalso; simp_all; omega)
        | (refine zw ?_; refine ret0 rfl zu1 ⟨?_, rfl⟩; rfl)
    · have hr2 : runF (neB c) s s.size a = runF (neB c) s M (k + 1) := by rw [hr, zp5 hk (by simp [neB, hq])]
      repeat' (first | ((apply f_wo); first | ((apply f_gs); first | refine n_sk ?_) | ((apply f_mv); first | (refine zq1 ?_ ?_ <;> intro hG <;> (try cases hG)) | refine zv (v := .c _) ?_ | refine za ?_) | ((apply f_as); first | refine zt (v := .c _) ?_ | refine za ?_) | ((apply f_bi); first | refine zc1 ?_ | refine zb1 ?_ | refine zd1 ?_ | refine za ?_) | ((apply zx2); first | refine ze8 ?_ | refine za ?_) | ((apply zm1); first | refine zh ?_ | refine za ?_) | ((apply zj1); first | refine zg ?_ | refine zi1 ?_ | refine za ?_) | ((apply f_pk); first | refine zg1 (v := .c _) ?_ | refine za ?_) | refine zy1 ?_ | refine za ?_) | ((apply f_w); first | refine zx ?_ | refine zd ?_) | refine zb fun C => ?_ | refine zj ?_ | refine zc ?_ | refine ze ?_ | refine zf ?_ | (refine zr (by rfl) ?_ ?_ <;> intro hC <;> (try cases hC)))
      all_goals first
        | (refine ⟨M, k + 1, by omega, ⟨by omega, hr2⟩, ?_⟩; (refine ze2 _ _ rfl rfl ?_ ?_ <;> (repeat' (first | exact TmOk.nil | exact RwOk.nil | refine TmOk.cons ?_ ?_ | refine RwOk.cons ?_ ?_ | rfl | (refine rnV_id' rfl ?_; (first | rfl | (simp [cloV, cloL, clo, zn, zm, zo, zk, zi]; done))) | (refine zk2 ?_; first | rfl | omega | (rw [zp1 (by omega) (by omega)]; omega)) | (refine ze1 rfl ?_; (first | rfl | (simp [cloV, cloL, clo, zn, zm, zo, zk, zi]; done))) | exact zg3 rfl rfl | (refine zl2 (by rfl) (by rfl) ?_ ?_ <;> (first | rfl | (simp [cloV, cloL, clo, zn, zm, zo, zk, zi]; done))) | (refine rw_rn' rfl rfl ?_; simp; done)))))
        | (exfalso; simp_all; done)
        | (exfalso; simp_all; omega)
  · rw [hr, ze5 fun h => hk h.1]
    repeat' (first | ((apply f_wo); first | ((apply f_gs); first | refine n_sk ?_) | ((apply f_mv); first | (refine zq1 ?_ ?_ <;> intro hG <;> (try cases hG)) | refine zv (v := .c _) ?_ | refine za ?_) | ((apply f_as); first | refine zt (v := .c _) ?_ | refine za ?_) | ((apply f_bi); first | refine zc1 ?_ | refine zb1 ?_ | refine zd1 ?_ | refine za ?_) | ((apply zx2); first | refine ze8 ?_ | refine za ?_) | ((apply zm1); first | refine zh ?_ | refine za ?_) | ((apply zj1); first | refine zg ?_ | refine zi1 ?_ | refine za ?_) | ((apply f_pk); first | refine zg1 (v := .c _) ?_ | refine za ?_) | refine zy1 ?_ | refine za ?_) | ((apply f_w); first | refine zx ?_ | refine zd ?_) | refine zb fun C => ?_ | refine zj ?_ | refine zc ?_ | refine ze ?_ | refine zf ?_ | (refine zr (by rfl) ?_ ?_ <;> intro hC <;> (try cases hC)))
    all_goals first
      | (exfalso; simp_all; done)
      | (exfalso; simp_all; omega)
      | (refine zw ?_; refine ret0 rfl zu1 ⟨?_, rfl⟩; rfl)
theorem zg19 {s : ByteArray} (hs : s.size ≤ 1048576) {a : Nat} (ha : a ≤ s.size) : Ctr Tryd.prog 57 [.c (.v (.string s)), .c (.v (.int .i64 (a : Int))), .c (.v (.bool false))] [] (.c (.v (.int .i64 (runF digB s s.size a : Nat)))) [] := by
  refine za2 Tryd.func57 rfl rfl ?_
  repeat' (first | ((apply f_wo); first | ((apply f_gs); first | refine n_sk ?_) | ((apply f_mv); first | (refine zq1 ?_ ?_ <;> intro hG <;> (try cases hG)) | refine zv (v := .c _) ?_ | refine za ?_) | ((apply f_as); first | refine zt (v := .c _) ?_ | refine za ?_) | ((apply f_bi); first | refine zc1 ?_ | refine zb1 ?_ | refine zd1 ?_ | refine za ?_) | ((apply zm1); first | refine zh ?_ | refine za ?_) | ((apply zj1); first | refine zg ?_ | refine zi1 ?_ | refine za ?_) | ((apply f_pk); first | refine zg1 (v := .c _) ?_ | refine za ?_) | refine zy1 ?_ | refine za ?_) | ((apply f_w); first | refine zx ?_ | refine zd ?_) | refine zb fun C => ?_ | refine zj ?_ | refine zc ?_ | refine ze ?_ | refine zf ?_)
  refine zb3 (fun k : Nat => ⟨tmsF [(0, .c (.v (.string s))), (1, .c (.v (.int .i64 (k : Int)))), (2, .c (.v (.bool false)))], hpsF [], 0, [], 29⟩)
    (fun N k => k + N = s.size ∧ runF digB s s.size a = runF digB s N k) (s.size - a) a ⟨by omega, (zf8 (s.size - a) a ha (by omega)).symm⟩ ?_ ?_
  · (refine ze2 _ _ rfl rfl ?_ ?_ <;> (repeat' (first | exact TmOk.nil | exact RwOk.nil | refine TmOk.cons ?_ ?_ | refine RwOk.cons ?_ ?_ | rfl | (refine rnV_id' rfl ?_; (first | rfl | (simp [cloV, cloL, clo, zn, zm, zo, zk, zi]; done))) | (refine zk2 ?_; first | rfl | omega | (rw [zp1 (by omega) (by omega)]; omega)) | (refine ze1 rfl ?_; (first | rfl | (simp [cloV, cloL, clo, zn, zm, zo, zk, zi]; done))) | exact zg3 rfl rfl | (refine zl2 (by rfl) (by rfl) ?_ ?_ <;> (first | rfl | (simp [cloV, cloL, clo, zn, zm, zo, zk, zi]; done))) | (refine rw_rn' rfl rfl ?_; simp; done))))
  rintro N k ⟨hN, hr⟩
  try dsimp only
  have c1 := zz6 (ze4 s k)
  by_cases hk : k < s.size
  · obtain ⟨M, rfl⟩ : ∃ M, N = M + 1 := ⟨N - 1, by omega⟩
    cases h1 : digB (bAt s k) with
    | true =>
      rw [h1] at c1
      have hr2 : runF digB s s.size a = runF digB s M (k + 1) := by rw [hr, zp5 hk h1]
      repeat' (first | ((apply f_wo); first | ((apply f_gs); first | refine n_sk ?_) | ((apply f_mv); first | (refine zq1 ?_ ?_ <;> intro hG <;> (try cases hG)) | refine zv (v := .c _) ?_ | refine za ?_) | ((apply f_as); first | refine zt (v := .c _) ?_ | refine za ?_) | ((apply f_ca); first | refine zk1 (c1) ?_ | refine zh1 (c1) ?_) | ((apply f_bi); first | refine zc1 ?_ | refine zb1 ?_ | refine zd1 ?_ | refine za ?_) | ((apply zm1); first | refine zh ?_ | refine za ?_) | ((apply zj1); first | refine zg ?_ | refine zi1 ?_ | refine za ?_) | ((apply f_pk); first | refine zg1 (v := .c _) ?_ | refine za ?_) | refine zy1 ?_ | refine za ?_) | ((apply f_w); first | refine zx ?_ | refine zd ?_) | refine zb fun C => ?_ | refine zj ?_ | refine zc ?_ | refine ze ?_ | refine zf ?_ | (refine zr (by rfl) ?_ ?_ <;> intro hC <;> (try cases hC)))
      all_goals first
        | (refine ⟨M, k + 1, by omega, ⟨by omega, hr2⟩, ?_⟩; (refine ze2 _ _ rfl rfl ?_ ?_ <;> (repeat' (first | exact TmOk.nil | exact RwOk.nil | refine TmOk.cons ?_ ?_ | refine RwOk.cons ?_ ?_ | rfl | (refine rnV_id' rfl ?_; (first | rfl | (simp [cloV, cloL, clo, zn, zm, zo, zk, zi]; done))) | (refine zk2 ?_; first | rfl | omega | (rw [zp1 (by omega) (by omega)]; omega)) | (refine ze1 rfl ?_; (first | rfl | (simp [cloV, cloL, clo, zn, zm, zo, zk, zi]; done))) | exact zg3 rfl rfl | (refine zl2 (by rfl) (by rfl) ?_ ?_ <;> (first | rfl | (simp [cloV, cloL, clo, zn, zm, zo, zk, zi]; done))) | (refine rw_rn' rfl rfl ?_; simp; done)))))
        | (exfalso; simp only [decide_eq_true_iff, decide_eq_false_iff_not] at *; omega)
    | false =>
      rw [h1] at c1
      rw [hr, ze5 fun h => by simp [h1] at h]
      repeat' (first | ((apply f_wo); first | ((apply f_gs); first | refine n_sk ?_) | ((apply f_mv); first | (refine zq1 ?_ ?_ <;> intro hG <;> (try cases hG)) | refine zv (v := .c _) ?_ | refine za ?_) | ((apply f_as); first | refine zt (v := .c _) ?_ | refine za ?_) | ((apply f_ca); first | refine zk1 (c1) ?_ | refine zh1 (c1) ?_) | ((apply f_bi); first | refine zc1 ?_ | refine zb1 ?_ | refine zd1 ?_ | refine za ?_) | ((apply zm1); first | refine zh ?_ | refine za ?_) | ((apply zj1); first | refine zg ?_ | refine zi1 ?_ | refine za ?_) | ((apply f_pk); first | refine zg1 (v := .c _) ?_ | refine za ?_) | refine zy1 ?_ | refine za ?_) | ((apply f_w); first | refine zx ?_ | refine zd ?_) | refine zb fun C => ?_ | refine zj ?_ | refine zc ?_ | refine ze ?_ | refine zf ?_ | (refine zr (by rfl) ?_ ?_ <;> intro hC <;> (try cases hC)))
      all_goals first
        | (exfalso; simp only [decide_eq_true_iff, decide_eq_false_iff_not] at *; omega)
        | (refine zw ?_; refine ret0 rfl zu1 ⟨?_, rfl⟩; rfl)
  · rw [hr, ze5 fun h => hk h.1]
    repeat' (first | ((apply f_wo); first | ((apply f_gs); first | refine n_sk ?_) | ((apply f_mv); first | (refine zq1 ?_ ?_ <;> intro hG <;> (try cases hG)) | refine zv (v := .c _) ?_ | refine za ?_) | ((apply f_as); first | refine zt (v := .c _) ?_ | refine za ?_) | ((apply f_ca); first | refine zk1 (c1) ?_ | refine zh1 (c1) ?_) | ((apply f_bi); first | refine zc1 ?_ | refine zb1 ?_ | refine zd1 ?_ | refine za ?_) | ((apply zm1); first | refine zh ?_ | refine za ?_) | ((apply zj1); first | refine zg ?_ | refine zi1 ?_ | refine za ?_) | ((apply f_pk); first | refine zg1 (v := .c _) ?_ | refine za ?_) | refine zy1 ?_ | refine za ?_) | ((apply f_w); first | refine zx ?_ | refine zd ?_) | refine zb fun C => ?_ | refine zj ?_ | refine zc ?_ | refine ze ?_ | refine zf ?_ | (refine zr (by rfl) ?_ ?_ <;> intro hC <;> (try cases hC)))
    all_goals first
      | (exfalso; simp only [decide_eq_true_iff, decide_eq_false_iff_not] at *; omega)
      | (refine zw ?_; refine ret0 rfl zu1 ⟨?_, rfl⟩; rfl)
theorem zh19 {s : ByteArray} (hs : s.size ≤ 1048576) {a : Nat} (ha : a ≤ s.size) : Ctr Tryd.prog 57 [.c (.v (.string s)), .c (.v (.int .i64 (a : Int))), .c (.v (.bool true))] [] (.c (.v (.int .i64 (runF ldB s s.size a : Nat)))) [] := by
  refine za2 Tryd.func57 rfl rfl ?_
  repeat' (first | ((apply f_wo); first | ((apply f_gs); first | refine n_sk ?_) | ((apply f_mv); first | (refine zq1 ?_ ?_ <;> intro hG <;> (try cases hG)) | refine zv (v := .c _) ?_ | refine za ?_) | ((apply f_as); first | refine zt (v := .c _) ?_ | refine za ?_) | ((apply f_bi); first | refine zc1 ?_ | refine zb1 ?_ | refine zd1 ?_ | refine za ?_) | ((apply zm1); first | refine zh ?_ | refine za ?_) | ((apply zj1); first | refine zg ?_ | refine zi1 ?_ | refine za ?_) | ((apply f_pk); first | refine zg1 (v := .c _) ?_ | refine za ?_) | refine zy1 ?_ | refine za ?_) | ((apply f_w); first | refine zx ?_ | refine zd ?_) | refine zb fun C => ?_ | refine zj ?_ | refine zc ?_ | refine ze ?_ | refine zf ?_)
  refine zb3 (fun k : Nat => ⟨tmsF [(0, .c (.v (.string s))), (1, .c (.v (.int .i64 (k : Int)))), (2, .c (.v (.bool true)))], hpsF [], 0, [], 29⟩)
    (fun N k => k + N = s.size ∧ runF ldB s s.size a = runF ldB s N k) (s.size - a) a ⟨by omega, (zf8 (s.size - a) a ha (by omega)).symm⟩ ?_ ?_
  · (refine ze2 _ _ rfl rfl ?_ ?_ <;> (repeat' (first | exact TmOk.nil | exact RwOk.nil | refine TmOk.cons ?_ ?_ | refine RwOk.cons ?_ ?_ | rfl | (refine rnV_id' rfl ?_; (first | rfl | (simp [cloV, cloL, clo, zn, zm, zo, zk, zi]; done))) | (refine zk2 ?_; first | rfl | omega | (rw [zp1 (by omega) (by omega)]; omega)) | (refine ze1 rfl ?_; (first | rfl | (simp [cloV, cloL, clo, zn, zm, zo, zk, zi]; done))) | exact zg3 rfl rfl | (refine zl2 (by rfl) (by rfl) ?_ ?_ <;> (first | rfl | (simp [cloV, cloL, clo, zn, zm, zo, zk, zi]; done))) | (refine rw_rn' rfl rfl ?_; simp; done))))
  rintro N k ⟨hN, hr⟩
  try dsimp only
  have c1 := zz6 (ze4 s k)
  have c2 := zx8 (ze4 s k)
  by_cases hk : k < s.size
  · obtain ⟨M, rfl⟩ : ∃ M, N = M + 1 := ⟨N - 1, by omega⟩
    cases h1 : ldB (bAt s k) with
    | true =>
      have hr2 : runF ldB s s.size a = runF ldB s M (k + 1) := by rw [hr, zp5 hk h1]
      cases h2 : digB (bAt s k) with
      | true =>
        rw [h2] at c1
        repeat' (first | ((apply f_wo); first | ((apply f_gs); first | refine n_sk ?_) | ((apply f_mv); first | (refine zq1 ?_ ?_ <;> intro hG <;> (try cases hG)) | refine zv (v := .c _) ?_ | refine za ?_) | ((apply f_as); first | refine zt (v := .c _) ?_ | refine za ?_) | ((apply f_ca); first | refine zk1 (c1) ?_ | refine zh1 (c1) ?_ | refine zk1 (c2) ?_ | refine zh1 (c2) ?_) | ((apply f_bi); first | refine zc1 ?_ | refine zb1 ?_ | refine zd1 ?_ | refine za ?_) | ((apply zm1); first | refine zh ?_ | refine za ?_) | ((apply zj1); first | refine zg ?_ | refine zi1 ?_ | refine za ?_) | ((apply f_pk); first | refine zg1 (v := .c _) ?_ | refine za ?_) | refine zy1 ?_ | refine za ?_) | ((apply f_w); first | refine zx ?_ | refine zd ?_) | refine zb fun C => ?_ | refine zj ?_ | refine zc ?_ | refine ze ?_ | refine zf ?_ | (refine zr (by rfl) ?_ ?_ <;> intro hC <;> (try cases hC)))
        all_goals first
          | (refine ⟨M, k + 1, by omega, ⟨by omega, hr2⟩, ?_⟩; (refine ze2 _ _ rfl rfl ?_ ?_ <;> (repeat' (first | exact TmOk.nil | exact RwOk.nil | refine TmOk.cons ?_ ?_ | refine RwOk.cons ?_ ?_ | rfl | (refine rnV_id' rfl ?_; (first | rfl | (simp [cloV, cloL, clo, zn, zm, zo, zk, zi]; done))) | (refine zk2 ?_; first | rfl | omega | (rw [zp1 (by omega) (by omega)]; omega)) | (refine ze1 rfl ?_; (first | rfl | (simp [cloV, cloL, clo, zn, zm, zo, zk, zi]; done))) | exact zg3 rfl rfl | (refine zl2 (by rfl) (by rfl) ?_ ?_ <;> (first | rfl | (simp [cloV, cloL, clo, zn, zm, zo, zk, zi]; done))) | (refine rw_rn' rfl rfl ?_; simp; done)))))
          | (exfalso; simp only [decide_eq_true_iff, decide_eq_false_iff_not] at *; omega)
      | false =>
        rw [h2] at c1
        rw [show letB (bAt s k) = true by simpa [ldB, h2] using h1] at c2
        repeat' (first | ((apply f_wo); first | ((apply f_gs); first | refine n_sk ?_) | ((apply f_mv); first | (refine zq1 ?_ ?_ <;> intro hG <;> (try cases hG)) | refine zv (v := .c _) ?_ | refine za ?_) | ((apply f_as); first | refine zt (v := .c _) ?_ | refine za ?_) | ((apply f_ca); first | refine zk1 (c1) ?_ | refine zh1 (c1) ?_ | refine zk1 (c2) ?_ | refine zh1 (c2) ?_) | ((apply f_bi); first | refine zc1 ?_ | refine zb1 ?_ | refine zd1 ?_ | refine za ?_) | ((apply zm1); first | refine zh ?_ | refine za ?_) | ((apply zj1); first | refine zg ?_ | refine zi1 ?_ | refine za ?_) | ((apply f_pk); first | refine zg1 (v := .c _) ?_ | refine za ?_) | refine zy1 ?_ | refine za ?_) | ((apply f_w); first | refine zx ?_ | refine zd ?_) | refine zb fun C => ?_ | refine zj ?_ | refine zc ?_ | refine ze ?_ | refine zf ?_ | (refine zr (by rfl) ?_ ?_ <;> intro hC <;> (try cases hC)))
        all_goals first
          | (refine ⟨M, k + 1, by omega, ⟨by omega, hr2⟩, ?_⟩; (refine ze2 _ _ rfl rfl ?_ ?_ <;> (repeat' (first | exact TmOk.nil | exact RwOk.nil | refine TmOk.cons ?_ ?_ | refine RwOk.cons ?_ ?_ | rfl | (refine rnV_id' rfl ?_; (first | rfl | (simp [cloV, cloL, clo, zn, zm, zo, zk, zi]; done))) | (refine zk2 ?_; first | rfl | omega | (rw [zp1 (by omega) (by omega)]; omega)) | (refine ze1 rfl ?_; (first | rfl | (simp [cloV, cloL, clo, zn, zm, zo, zk, zi]; done))) | exact zg3 rfl rfl | (refine zl2 (by rfl) (by rfl) ?_ ?_ <;> (first | rfl | (simp [cloV, cloL, clo, zn, zm, zo, zk, zi]; done))) | (refine rw_rn' rfl rfl ?_; simp; done)))))
          | (exfalso; simp only [decide_eq_true_iff, decide_eq_false_iff_not] at *; omega)
    | false =>
      have h3 : letB (bAt s k) = false ∧ digB (bAt s k) = false := by simpa [ldB] using h1
      rw [h3.2] at c1
      rw [h3.1] at c2
      rw [hr, ze5 fun h => by simp [h1] at h]
      repeat' (first | ((apply f_wo); first | ((apply f_gs); first | refine n_sk ?_) | ((apply f_mv); first | (refine zq1 ?_ ?_ <;> intro hG <;> (try cases hG)) | refine zv (v := .c _) ?_ | refine za ?_) | ((apply f_as); first | refine zt (v := .c _) ?_ | refine za ?_) | ((apply f_ca); first | refine zk1 (c1) ?_ | refine zh1 (c1) ?_ | refine zk1 (c2) ?_ | refine zh1 (c2) ?_) | ((apply f_bi); first | refine zc1 ?_ | refine zb1 ?_ | refine zd1 ?_ | refine za ?_) | ((apply zm1); first | refine zh ?_ | refine za ?_) | ((apply zj1); first | refine zg ?_ | refine zi1 ?_ | refine za ?_) | ((apply f_pk); first | refine zg1 (v := .c _) ?_ | refine za ?_) | refine zy1 ?_ | refine za ?_) | ((apply f_w); first | refine zx ?_ | refine zd ?_) | refine zb fun C => ?_ | refine zj ?_ | refine zc ?_ | refine ze ?_ | refine zf ?_ | (refine zr (by rfl) ?_ ?_ <;> intro hC <;> (try cases hC)))
      all_goals first
        | (exfalso; simp only [decide_eq_true_iff, decide_eq_false_iff_not] at *; omega)
        | (refine zw ?_; refine ret0 rfl zu1 ⟨?_, rfl⟩; rfl)
  · rw [hr, ze5 fun h => hk h.1]
    repeat' (first | ((apply f_wo); first | ((apply f_gs); first | refine n_sk ?_) | ((apply f_mv); first | (refine zq1 ?_ ?_ <;> intro hG <;> (try cases hG)) | refine zv (v := .c _) ?_ | refine za ?_) | ((apply f_as); first | refine zt (v := .c _) ?_ | refine za ?_) | ((apply f_ca); first | refine zk1 (c1) ?_ | refine zh1 (c1) ?_ | refine zk1 (c2) ?_ | refine zh1 (c2) ?_) | ((apply f_bi); first | refine zc1 ?_ | refine zb1 ?_ | refine zd1 ?_ | refine za ?_) | ((apply zm1); first | refine zh ?_ | refine za ?_) | ((apply zj1); first | refine zg ?_ | refine zi1 ?_ | refine za ?_) | ((apply f_pk); first | refine zg1 (v := .c _) ?_ | refine za ?_) | refine zy1 ?_ | refine za ?_) | ((apply f_w); first | refine zx ?_ | refine zd ?_) | refine zb fun C => ?_ | refine zj ?_ | refine zc ?_ | refine ze ?_ | refine zf ?_ | (refine zr (by rfl) ?_ ?_ <;> intro hC <;> (try cases hC)))
    all_goals first
      | (exfalso; simp only [decide_eq_true_iff, decide_eq_false_iff_not] at *; omega)
      | (refine zw ?_; refine ret0 rfl zu1 ⟨?_, rfl⟩; rfl)
def pvS (s : ByteArray) (k : Nat) : Nat := valA 0 (s.data.toList.take k)
theorem zg8 : ∀ (l m : List UInt8) (acc : Nat), valA acc (l ++ m) = valA (valA acc l) m
  | [], m, acc => rfl
  | c :: l, m, acc => zg8 l m _
theorem zg10 (acc : Nat) (c : UInt8) : valA acc [c] = acc * 10 + (c.toNat - 48) := rfl
theorem zh8 {s : ByteArray} {k : Nat} (h : k < s.size) : s.data.toList[k]? = some (UInt8.ofNat (bAt s k)) := by
  unfold bAt
  rw [Array.getElem?_toList, Array.getElem?_eq_getElem h, Option.getD_some, UInt8.ofNat_toNat]
theorem zc22 {l : List UInt8} {k : Nat} {c : UInt8} (h : l[k]? = some c) : valA 0 (l.take (k + 1)) = valA 0 (l.take k) * 10 + (c.toNat - 48) := by
  rw [List.take_add_one, zg8, h, Option.toList_some, zg10]
theorem zx16 {s : ByteArray} {k : Nat} (h : k < s.size) : pvS s (k + 1) = pvS s k * 10 + (bAt s k - 48) := by
  have h1 := zc22 (zh8 h)
  rw [UInt8.toNat_ofNat', Nat.mod_eq_of_lt (ze4 s k)] at h1
  exact h1
theorem pv_all {s : ByteArray} : pvS s s.size = valS s := by
  unfold pvS valS
  rw [List.take_of_length_le (by simp)]
theorem pv_lt {s : ByteArray} (hd : allB digB s = true) : ∀ k, k ≤ s.size → pvS s k < 10 ^ k
  | 0, _ => by unfold pvS; rw [List.take_zero]; exact Nat.zero_lt_one
  | k + 1, h => by
    have h1 := pv_lt hd k (by omega)
    have h2 : digB (bAt s k) = true := by simp only [allB, decide_eq_true_iff] at hd; exact hd k (by omega)
    simp only [digB, Bool.and_eq_true, decide_eq_true_iff] at h2
    have h3 := zx16 (s := s) (k := k) (by omega)
    rw [h3, Nat.pow_succ]
    omega
theorem u8w {b : Nat} (h : 48 ≤ b) (h2 : b ≤ 57) : IntKind.u8.wrap ((b : Int) - 48) = ((b - 48 : Nat) : Int) := by
  rw [show ((b : Int) - 48) = ((b - 48 : Nat) : Int) by omega]
  rw [IntKind.wrap_u8]
  omega
theorem zb9 {s : ByteArray} (h : ¬ (1 ≤ s.size ∧ s.size ≤ 10 ∧ ¬ (1 < s.size ∧ bAt s 0 = 48))) : intV s = -1 := if_neg h
theorem zb7 {s : ByteArray} (h : 1 ≤ s.size ∧ s.size ≤ 10 ∧ ¬ (1 < s.size ∧ bAt s 0 = 48)) : intV s = (valS s : Int) := if_pos h
theorem zd22 {s : ByteArray} (hd : allB digB s = true) : Ctr Tryd.prog 58 [.c (.v (.string s))] [] (.c (.v (.int .i64 (intV s)))) [] := by
  have cw := zp9 (s.size : Int) 1 10
  by_cases hb : 1 ≤ s.size ∧ s.size ≤ 10
  · rw [show inR (s.size : Int) 1 10 = true by simp [inR]; omega] at cw
    by_cases h0 : 1 < s.size ∧ bAt s 0 = 48
    · rw [zb9 fun h => h.2.2 h0]
      refine za2 Tryd.func58 rfl rfl ?_
      repeat' (first | ((apply f_wo); first | ((apply f_gs); first | refine n_sk ?_) | ((apply f_mv); first | (refine zq1 ?_ ?_ <;> intro hG <;> (try cases hG)) | refine zv (v := .c _) ?_ | refine za ?_) | ((apply f_as); first | refine zt (v := .c _) ?_ | refine za ?_) | ((apply f_ca); first | refine zk1 (cw) ?_ | refine zh1 (cw) ?_) | ((apply f_bi); first | refine zc1 ?_ | refine zb1 ?_ | refine zd1 ?_ | refine za ?_) | ((apply zn1); first | refine zl1 ?_ | refine za ?_) | ((apply zm1); first | refine zh ?_ | refine za ?_) | ((apply zh3); first | refine zo1 ?_ | refine za ?_) | ((apply zj1); first | refine zg ?_ | refine zi1 ?_ | refine za ?_) | ((apply f_no); first | refine zw2 ?_ | refine za ?_) | ((apply f_pk); first | refine zg1 (v := .c _) ?_ | refine za ?_) | ((apply f_bb); first | refine zw1 ?_ | refine zx1 ?_ | refine za ?_) | ((apply f_cv); first | refine zf3 ?_ | refine za ?_) | refine zy1 ?_ | refine za ?_) | ((apply f_w); first | refine zx ?_ | refine zd ?_) | refine zb fun C => ?_ | refine zj ?_ | refine zc ?_ | refine ze ?_ | refine zf ?_)
      all_goals first
        | (exfalso; simp_all; done)
        | (refine zr (by rfl) (fun hC => ?_) fun hC => ?_
           · repeat' (first | ((apply f_wo); first | ((apply f_gs); first | refine n_sk ?_) | ((apply f_mv); first | (refine zq1 ?_ ?_ <;> intro hG <;> (try cases hG)) | refine zv (v := .c _) ?_ | refine za ?_) | ((apply f_as); first | refine zt (v := .c _) ?_ | refine za ?_) | ((apply f_bi); first | refine zc1 ?_ | refine zb1 ?_ | refine zd1 ?_ | refine za ?_) | ((apply zn1); first | refine zl1 ?_ | refine za ?_) | ((apply zm1); first | refine zh ?_ | refine za ?_) | ((apply zh3); first | refine zo1 ?_ | refine za ?_) | ((apply zj1); first | refine zg ?_ | refine zi1 ?_ | refine za ?_) | ((apply f_no); first | refine zw2 ?_ | refine za ?_) | ((apply f_pk); first | refine zg1 (v := .c _) ?_ | refine za ?_) | ((apply f_bb); first | refine zw1 ?_ | refine zx1 ?_ | refine za ?_) | ((apply f_cv); first | refine zf3 ?_ | refine za ?_) | refine zy1 ?_ | refine za ?_) | ((apply f_w); first | refine zx ?_ | refine zd ?_) | refine zb fun C => ?_ | refine zj ?_ | refine zc ?_ | refine ze ?_ | refine zf ?_ | refine zp rfl ?_ | refine zq rfl ?_)
             refine zw ?_; refine ret0 rfl zu1 ⟨?_, rfl⟩; rfl
           · exfalso; simp only [h0, decide_eq_false_iff_not] at hC hG; first | omega | (simp at hC))
    · rw [zb7 ⟨hb.1, hb.2, h0⟩]
      have hz : ∀ k, k ≤ s.size → pvS s k < 10000000000 := fun k hk => Nat.lt_of_lt_of_le (pv_lt hd k hk) (Nat.le_trans (Nat.pow_le_pow_right (show 0 < 10 by omega) (show k ≤ 10 by omega)) (show 10 ^ 10 ≤ 10000000000 by decide))
      refine za2 Tryd.func58 rfl rfl ?_
      repeat' (first | ((apply f_wo); first | ((apply f_gs); first | refine n_sk ?_) | ((apply f_mv); first | (refine zq1 ?_ ?_ <;> intro hG <;> (try cases hG)) | refine zv (v := .c _) ?_ | refine za ?_) | ((apply f_as); first | refine zt (v := .c _) ?_ | refine za ?_) | ((apply f_ca); first | refine zk1 (cw) ?_ | refine zh1 (cw) ?_) | ((apply f_bi); first | refine zc1 ?_ | refine zb1 ?_ | refine zd1 ?_ | refine za ?_) | ((apply zn1); first | refine zl1 ?_ | refine za ?_) | ((apply zm1); first | refine zh ?_ | refine za ?_) | ((apply zh3); first | refine zo1 ?_ | refine za ?_) | ((apply zj1); first | refine zg ?_ | refine zi1 ?_ | refine za ?_) | ((apply f_no); first | refine zw2 ?_ | refine za ?_) | ((apply f_pk); first | refine zg1 (v := .c _) ?_ | refine za ?_) | ((apply f_bb); first | refine zw1 ?_ | refine zx1 ?_ | refine za ?_) | ((apply f_cv); first | refine zf3 ?_ | refine za ?_) | refine zy1 ?_ | refine za ?_) | ((apply f_w); first | refine zx ?_ | refine zd ?_) | refine zb fun C => ?_ | refine zj ?_ | refine zc ?_ | refine ze ?_ | refine zf ?_)
      all_goals first
        | (exfalso; simp_all; done)
        | (refine zr (by rfl) (fun hC => ?_) fun hC => ?_
           · exfalso; first | (simp at hC; done) | (simp at hC hG; omega) | (simp at hC; omega)
           · repeat' (first | ((apply f_wo); first | ((apply f_gs); first | refine n_sk ?_) | ((apply f_mv); first | (refine zq1 ?_ ?_ <;> intro hG <;> (try cases hG)) | refine zv (v := .c _) ?_ | refine za ?_) | ((apply f_as); first | refine zt (v := .c _) ?_ | refine za ?_) | ((apply f_bi); first | refine zc1 ?_ | refine zb1 ?_ | refine zd1 ?_ | refine za ?_) | ((apply zn1); first | refine zl1 ?_ | refine za ?_) | ((apply zm1); first | refine zh ?_ | refine za ?_) | ((apply zh3); first | refine zo1 ?_ | refine za ?_) | ((apply zj1); first | refine zg ?_ | refine zi1 ?_ | refine za ?_) | ((apply f_no); first | refine zw2 ?_ | refine za ?_) | ((apply f_pk); first | refine zg1 (v := .c _) ?_ | refine za ?_) | ((apply f_bb); first | refine zw1 ?_ | refine zx1 ?_ | refine za ?_) | ((apply f_cv); first | refine zf3 ?_ | refine za ?_) | refine zy1 ?_ | refine za ?_) | ((apply f_w); first | refine zx ?_ | refine zd ?_) | refine zb fun C => ?_ | refine zj ?_ | refine zc ?_ | refine ze ?_ | refine zf ?_)
             refine zb3 (fun k : Nat => ⟨tmsF [(0, .c (.v (.string s))), (3, .c (.v (.int .i64 (pvS s k : Int)))), (4, .c (.v (.int .i64 (k : Int))))], hpsF [], 0, [], 34⟩) (fun N k => k + N = s.size) s.size 0 (by omega) ?_ ?_
             · (refine ze2 _ _ rfl rfl ?_ ?_ <;> (repeat' (first | exact TmOk.nil | exact RwOk.nil | refine TmOk.cons ?_ ?_ | refine RwOk.cons ?_ ?_ | rfl | (refine rnV_id' rfl ?_; (first | rfl | (simp [cloV, cloL, clo, zn, zm, zo, zk, zi]; done))) | (refine zk2 ?_; first | rfl | omega | (rw [zp1 (by omega) (by omega)]; omega)) | (refine ze1 rfl ?_; (first | rfl | (simp [cloV, cloL, clo, zn, zm, zo, zk, zi]; done))) | exact zg3 rfl rfl | (refine zl2 (by rfl) (by rfl) ?_ ?_ <;> (first | rfl | (simp [cloV, cloL, clo, zn, zm, zo, zk, zi]; done))) | (refine rw_rn' rfl rfl ?_; simp; done))))
             rintro N k hN
             try dsimp only
             repeat' (first | ((apply f_wo); first | ((apply f_gs); first | refine n_sk ?_) | ((apply f_mv); first | (refine zq1 ?_ ?_ <;> intro hG <;> (try cases hG)) | refine zv (v := .c _) ?_ | refine za ?_) | ((apply f_as); first | refine zt (v := .c _) ?_ | refine za ?_) | ((apply f_bi); first | refine zc1 ?_ | refine zb1 ?_ | refine zd1 ?_ | refine za ?_) | ((apply zn1); first | refine zl1 ?_ | refine za ?_) | ((apply zm1); first | refine zh ?_ | refine za ?_) | ((apply zh3); first | refine zo1 ?_ | refine za ?_) | ((apply zj1); first | refine zg ?_ | refine zi1 ?_ | refine za ?_) | ((apply f_no); first | refine zw2 ?_ | refine za ?_) | ((apply f_pk); first | refine zg1 (v := .c _) ?_ | refine za ?_) | ((apply f_bb); first | refine zw1 ?_ | refine zx1 ?_ | refine za ?_) | ((apply f_cv); first | refine zf3 ?_ | refine za ?_) | refine zy1 ?_ | refine za ?_) | ((apply f_w); first | refine zx ?_ | refine zd ?_) | refine zb fun C => ?_ | refine zj ?_ | refine zc ?_ | refine ze ?_ | refine zf ?_)
             refine zr (by rfl) (fun hk => ?_) fun hk => ?_
             · have hk' : k < s.size := by simpa using hk
               have hd' : digB (bAt s k) = true := by simp only [allB, decide_eq_true_iff] at hd; exact hd k hk'
               simp only [digB, Bool.and_eq_true, decide_eq_true_iff] at hd'
               have hw := u8w hd'.1 hd'.2
               have hp := zx16 hk'
               have hz1 := hz k (by omega)
               have hz2 := hz (k + 1) (by omega)
               repeat' (first | ((apply f_wo); first | ((apply f_gs); first | refine n_sk ?_) | ((apply f_mv); first | (refine zq1 ?_ ?_ <;> intro hG <;> (try cases hG)) | refine zv (v := .c _) ?_ | refine za ?_) | ((apply f_as); first | refine zt (v := .c _) ?_ | refine za ?_) | ((apply f_bi); first | refine zc1 ?_ | refine zb1 ?_ | refine zd1 ?_ | refine za ?_) | ((apply zn1); first | refine zl1 ?_ | refine za ?_) | ((apply zm1); first | refine zh ?_ | refine za ?_) | ((apply zh3); first | refine zo1 ?_ | refine za ?_) | ((apply zj1); first | refine zg ?_ | refine zi1 ?_ | refine za ?_) | ((apply f_no); first | refine zw2 ?_ | refine za ?_) | ((apply f_pk); first | refine zg1 (v := .c _) ?_ | refine za ?_) | ((apply f_bb); first | refine zw1 ?_ | refine zx1 ?_ | refine za ?_) | ((apply f_cv); first | refine zf3 ?_ | refine za ?_) | refine zy1 ?_ | refine za ?_) | ((apply f_w); first | refine zx ?_ | refine zd ?_) | refine zb fun C => ?_ | refine zj ?_ | refine zc ?_ | refine ze ?_ | refine zf ?_ | refine zp rfl ?_ | refine zq rfl ?_)
               refine ⟨N - 1, k + 1, by omega, by omega, ?_⟩
               (refine ze2 _ _ rfl rfl ?_ ?_ <;> (repeat' (first | exact TmOk.nil | exact RwOk.nil | refine TmOk.cons ?_ ?_ | refine RwOk.cons ?_ ?_ | rfl | (refine rnV_id' rfl ?_; (first | rfl | (simp [cloV, cloL, clo, zn, zm, zo, zk, zi]; done))) | (refine zk2 ?_; first | rfl | omega | (rw [zp1 (by omega) (by omega)]; omega)) | (refine ze1 rfl ?_; (first | rfl | (simp [cloV, cloL, clo, zn, zm, zo, zk, zi]; done))) | exact zg3 rfl rfl | (refine zl2 (by rfl) (by rfl) ?_ ?_ <;> (first | rfl | (simp [cloV, cloL, clo, zn, zm, zo, zk, zi]; done))) | (refine rw_rn' rfl rfl ?_; simp; done))))
             · have hk' : k = s.size := by have : ¬ k < s.size := by simpa using hk
                                           omega
               rw [← pv_all, ← hk']
               repeat' (first | ((apply f_wo); first | ((apply f_gs); first | refine n_sk ?_) | ((apply f_mv); first | (refine zq1 ?_ ?_ <;> intro hG <;> (try cases hG)) | refine zv (v := .c _) ?_ | refine za ?_) | ((apply f_as); first | refine zt (v := .c _) ?_ | refine za ?_) | ((apply f_bi); first | refine zc1 ?_ | refine zb1 ?_ | refine zd1 ?_ | refine za ?_) | ((apply zn1); first | refine zl1 ?_ | refine za ?_) | ((apply zm1); first | refine zh ?_ | refine za ?_) | ((apply zh3); first | refine zo1 ?_ | refine za ?_) | ((apply zj1); first | refine zg ?_ | refine zi1 ?_ | refine za ?_) | ((apply f_no); first | refine zw2 ?_ | refine za ?_) | ((apply f_pk); first | refine zg1 (v := .c _) ?_ | refine za ?_) | ((apply f_bb); first | refine zw1 ?_ | refine zx1 ?_ | refine za ?_) | ((apply f_cv); first | refine zf3 ?_ | refine za ?_) | refine zy1 ?_ | refine za ?_) | ((apply f_w); first | refine zx ?_ | refine zd ?_) | refine zb fun C => ?_ | refine zj ?_ | refine zc ?_ | refine ze ?_ | refine zf ?_ | refine zp rfl ?_ | refine zq rfl ?_)
               refine zw ?_; refine ret0 rfl zu1 ⟨?_, rfl⟩; rfl)
  · rw [zb9 fun h => hb ⟨h.1, h.2.1⟩]
    rw [show inR (s.size : Int) 1 10 = false by simp [inR]; omega] at cw
    refine za2 Tryd.func58 rfl rfl ?_
    repeat' (first | ((apply f_wo); first | ((apply f_gs); first | refine n_sk ?_) | ((apply f_mv); first | (refine zq1 ?_ ?_ <;> intro hG <;> (try cases hG)) | refine zv (v := .c _) ?_ | refine za ?_) | ((apply f_as); first | refine zt (v := .c _) ?_ | refine za ?_) | ((apply f_ca); first | refine zk1 (cw) ?_ | refine zh1 (cw) ?_) | ((apply f_bi); first | refine zc1 ?_ | refine zb1 ?_ | refine zd1 ?_ | refine za ?_) | ((apply zn1); first | refine zl1 ?_ | refine za ?_) | ((apply zm1); first | refine zh ?_ | refine za ?_) | ((apply zh3); first | refine zo1 ?_ | refine za ?_) | ((apply zj1); first | refine zg ?_ | refine zi1 ?_ | refine za ?_) | ((apply f_no); first | refine zw2 ?_ | refine za ?_) | ((apply f_pk); first | refine zg1 (v := .c _) ?_ | refine za ?_) | ((apply f_bb); first | refine zw1 ?_ | refine zx1 ?_ | refine za ?_) | ((apply f_cv); first | refine zf3 ?_ | refine za ?_) | refine zy1 ?_ | refine za ?_) | ((apply f_w); first | refine zx ?_ | refine zd ?_) | refine zb fun C => ?_ | refine zj ?_ | refine zc ?_ | refine ze ?_ | refine zf ?_ | refine zp rfl ?_ | refine zq rfl ?_)
    refine zw ?_; refine ret0 rfl zu1 ⟨?_, rfl⟩; rfl
theorem zs14 {s : ByteArray} (hs : s.size ≤ 1048576) {a : Nat} (ha : a < s.size) (k : Int) : Ctr Tryd.prog 60 [.c (.v (.string s)), .c (.v (.int .i64 (a : Int))), .c (.v (.int .i64 k))] [] (.tu [.ag [.v (.int .i64 (quoR s a k).k), .v (.int .i64 (quoR s a k).n), .v (.string (quoR s a k).s)], .c (.v (.int .i64 ((quoR s a k).e : Int)))]) [] := by
  have c1 := zj11 hs (a := a + 1) (by omega) (ze4 s a)
  have hr := zv2 (p := neB (bAt s a)) (s := s) s.size (a + 1) (by omega) (by omega)
  unfold quoR
  generalize runF (neB (bAt s a)) s s.size (a + 1) = e at c1 hr ⊢
  have ha1 : (a : Int) + 1 = ((a + 1 : Nat) : Int) := by omega
  have he1 := hr.1
  have he2 := hr.2.1
  clear hr
  by_cases h : e = s.size
  · rw [if_pos h]
    refine za2 Tryd.func60 rfl rfl ?_
    repeat' (first | ((apply f_wo); first | ((apply f_mv); first | refine zv (v := .c _) ?_ | refine za ?_) | ((apply f_as); first | refine zt (v := .c _) ?_ | refine za ?_) | ((apply f_ca); first | refine zk1 (c1) ?_ | refine zh1 (c1) ?_) | ((apply f_bi); first | refine zc1 ?_ | refine zb1 ?_ | refine zd1 ?_ | refine za ?_) | ((apply f_st); first | refine n_st ?_ | refine zr2 ?_) | ((apply zn1); first | refine zu ?_ | refine za ?_) | ((apply zj1); first | refine zg ?_ | refine zi1 ?_ | refine za ?_) | refine n_al ?_ | refine zy1 ?_ | refine zn2 ?_ | refine zo2 ?_ | refine zp2 ?_ | refine za ?_ | refine n_mv ?_) | ((apply f_w); first | refine zx ?_ | refine zd ?_) | refine zb fun C => ?_ | refine zj ?_ | refine zc ?_ | refine ze ?_ | refine zf ?_ | (refine zr (by rfl) ?_ ?_ <;> intro hC <;> (try cases hC)))
    all_goals first
      | (exfalso; simp at hC; omega)
      | (subst h; refine zw ?_; refine ret0 rfl (zn3 (zf1 (zm3 (zd2 rfl (zd2 rfl (zd2 rfl zm2)))) (zf1 zu1 zj2))) ⟨?_, rfl⟩; rfl)
  · rw [if_neg h]
    refine za2 Tryd.func60 rfl rfl ?_
    repeat' (first | ((apply f_wo); first | ((apply f_mv); first | refine zv (v := .c _) ?_ | refine za ?_) | ((apply f_as); first | refine zt (v := .c _) ?_ | refine za ?_) | ((apply f_ca); first | refine zk1 (c1) ?_ | refine zh1 (c1) ?_) | ((apply f_bi); first | refine zc1 ?_ | refine zb1 ?_ | refine zd1 ?_ | refine za ?_) | ((apply f_st); first | refine n_st ?_ | refine zr2 ?_) | ((apply zn1); first | refine zu ?_ | refine za ?_) | ((apply zj1); first | refine zg ?_ | refine zi1 ?_ | refine za ?_) | refine n_al ?_ | refine zy1 ?_ | refine zn2 ?_ | refine zo2 ?_ | refine zp2 ?_ | refine za ?_ | refine n_mv ?_) | ((apply f_w); first | refine zx ?_ | refine zd ?_) | refine zb fun C => ?_ | refine zj ?_ | refine zc ?_ | refine ze ?_ | refine zf ?_ | (refine zr (by rfl) ?_ ?_ <;> intro hC <;> (try cases hC)))
    all_goals first
      | (exfalso; simp at hC; omega)
      | (refine zw ?_; refine ret0 rfl (zn3 (zf1 (zm3 (zd2 rfl (zd2 rfl (zd2 rfl zm2)))) (zf1 zu1 zj2))) ⟨?_, rfl⟩; rfl)
end Go.Proofs.YtnlgmojciplnoaaDoor
namespace Go.Proofs.YtnlgmojciplnoaaDoor
open Go.RowKit
end Go.Proofs.YtnlgmojciplnoaaDoor
namespace Go.Proofs.YtnlgmojciplnoaaDoor
open Go.RowKit
structure GVal where
  k : Int
  n : Int
  s : ByteArray
structure GCell where
  refs : Int
  v : GVal
end Go.Proofs.YtnlgmojciplnoaaDoor
namespace Go.Proofs.YtnlgmojciplnoaaDoor
open Go.RowKit
end Go.Proofs.YtnlgmojciplnoaaDoor
namespace Go.Proofs.YtnlgmojciplnoaaDoor
open Go.RowKit
end Go.Proofs.YtnlgmojciplnoaaDoor
namespace Go.Proofs.YtnlgmojciplnoaaDoor
open Go.RowKit
end Go.Proofs.YtnlgmojciplnoaaDoor
namespace Go.Proofs.YtnlgmojciplnoaaDoor
open Go.RowKit
end Go.Proofs.YtnlgmojciplnoaaDoor
namespace Go.Proofs.YtnlgmojciplnoaaDoor
open Go.RowKit
end Go.Proofs.YtnlgmojciplnoaaDoor
namespace Go.Proofs.YtnlgmojciplnoaaDoor
open Go.RowKit
structure GNamed where
  name : ByteArray
  v : GVal
structure GEntry where
  key : ByteArray
  v : GVal
def encEntry (d : GEntry) : List Value := [.string d.key, .int .i64 d.v.k, .int .i64 d.v.n, .string d.v.s]
end Go.Proofs.YtnlgmojciplnoaaDoor
