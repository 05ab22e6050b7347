/- Blanks and one token: the reference. -/
import Derived.Test.YtnlgmojciplnoaaDoorFlxPN
namespace Go.Proofs.YtnlgmojciplnoaaDoor
open Go.RowKit
set_option maxRecDepth 100000
theorem zq13 {s : ByteArray} (hs : s.size ≤ 1048576) {a : Nat} (ha : a ≤ s.size) : Ctr Tryd.prog 31 [.c (.v (.string s)), .c (.v (.int .i64 (a : Int)))] [] (.c (.v (.int .i64 (passT s a : Nat)))) [] := by
  refine za2 Tryd.func31 rfl rfl ?_
  repeat' (first | ((apply f_wo); first | ((apply f_gs); first | refine n_sk ?_) | ((apply f_mv); first | (refine zq1 ?_ ?_ <;> intro hG <;> (try cases hG)) | refine zv (v := .c _) ?_ | refine za ?_) | ((apply f_as); first | refine zt (v := .c _) ?_ | refine za ?_) | ((apply f_bi); first | refine zc1 ?_ | refine zb1 ?_ | refine zd1 ?_ | refine za ?_) | ((apply zn1); first | refine zl1 ?_ | refine za ?_) | ((apply zm1); first | refine zh ?_ | refine za ?_) | ((apply zj1); first | refine zg ?_ | refine zi1 ?_ | refine za ?_) | ((apply f_pk); first | refine zg1 (v := .c _) ?_ | refine za ?_) | refine zy1 ?_ | refine za ?_) | ((apply f_w); first | refine zx ?_ | refine zd ?_) | refine zb fun C => ?_ | refine zj ?_ | refine zc ?_ | refine ze ?_ | refine zf ?_)
  refine zb3 (fun k : Nat => ⟨tmsF [(0, .c (.v (.string s))), (1, .c (.v (.int .i64 (k : Int))))], hpsF [], 0, [], 44⟩)
    (fun N k => k + N = s.size ∧ passT s a = passT s k) (s.size - a) a ⟨by omega, rfl⟩ ?_ ?_
  · (refine ze2 _ _ rfl rfl ?_ ?_ <;> (repeat' (first | exact TmOk.nil | exact RwOk.nil | refine TmOk.cons ?_ ?_ | refine RwOk.cons ?_ ?_ | rfl | (refine rnV_id' rfl ?_; (first | rfl | (simp [cloV, cloL, clo, zn, zm, zo, zk, zi]; done))) | (refine zk2 ?_; first | rfl | omega | (rw [zp1 (by omega) (by omega)]; omega)) | (refine ze1 rfl ?_; (first | rfl | (simp [cloV, cloL, clo, zn, zm, zo, zk, zi]; done))) | exact zg3 rfl rfl | (refine zl2 (by rfl) (by rfl) ?_ ?_ <;> (first | rfl | (simp [cloV, cloL, clo, zn, zm, zo, zk, zi]; done))) | (refine rw_rn' rfl rfl ?_; simp; done))))
  rintro N k ⟨hN, hr⟩
  try dsimp only
  repeat' (first | ((apply f_wo); first | ((apply f_gs); first | refine n_sk ?_) | ((apply f_mv); first | (refine zq1 ?_ ?_ <;> intro hG <;> (try cases hG)) | refine zv (v := .c _) ?_ | refine za ?_) | ((apply f_as); first | refine zt (v := .c _) ?_ | refine za ?_) | ((apply f_bi); first | refine zc1 ?_ | refine zb1 ?_ | refine zd1 ?_ | refine za ?_) | ((apply zn1); first | refine zl1 ?_ | refine za ?_) | ((apply zm1); first | refine zh ?_ | refine za ?_) | ((apply zj1); first | refine zg ?_ | refine zi1 ?_ | refine za ?_) | ((apply f_pk); first | refine zg1 (v := .c _) ?_ | refine za ?_) | refine zy1 ?_ | refine za ?_) | ((apply f_w); first | refine zx ?_ | refine zd ?_) | refine zb fun C => ?_ | refine zj ?_ | refine zc ?_ | refine ze ?_ | refine zf ?_)
  refine zr (by rfl) (fun hk => ?_) fun hk => ?_
  · have hk' : k < s.size := by simpa using hk
    clear hk
    by_cases hb : blB (bAt s k) = true
    · have hp : passT s a = passT s (k + 1) := by rw [hr, zr6 hk' hb]
      simp only [blB, Bool.or_eq_true, decide_eq_true_iff] at hb
      repeat' (first | ((apply f_wo); first | ((apply f_gs); first | refine n_sk ?_) | ((apply f_mv); first | (refine zq1 ?_ ?_ <;> intro hG <;> (try cases hG)) | refine zv (v := .c _) ?_ | refine za ?_) | ((apply f_as); first | refine zt (v := .c _) ?_ | refine za ?_) | ((apply f_bi); first | refine zc1 ?_ | refine zb1 ?_ | refine zd1 ?_ | refine za ?_) | ((apply zn1); first | refine zl1 ?_ | refine za ?_) | ((apply zm1); first | refine zh ?_ | refine za ?_) | ((apply zj1); first | refine zg ?_ | refine zi1 ?_ | refine za ?_) | ((apply f_pk); first | refine zg1 (v := .c _) ?_ | refine za ?_) | refine zy1 ?_ | refine za ?_) | ((apply f_w); first | refine zx ?_ | refine zd ?_) | refine zb fun C => ?_ | refine zj ?_ | refine zc ?_ | refine ze ?_ | refine zf ?_ | (refine zr (by rfl) ?_ ?_ <;> intro hC <;> (try cases hC)))
      all_goals first
        | (exfalso; simp only [beq_iff_eq, beq_eq_false_iff_ne, ne_eq, Bool.false_eq_true, Bool.true_eq_false] at *; first | omega | assumption)
        | (refine ⟨N - 1, k + 1, by omega, ⟨by omega, hp⟩, ?_⟩; (refine ze2 _ _ rfl rfl ?_ ?_ <;> (repeat' (first | exact TmOk.nil | exact RwOk.nil | refine TmOk.cons ?_ ?_ | refine RwOk.cons ?_ ?_ | rfl | (refine rnV_id' rfl ?_; (first | rfl | (simp [cloV, cloL, clo, zn, zm, zo, zk, zi]; done))) | (refine zk2 ?_; first | rfl | omega | (rw [zp1 (by omega) (by omega)]; omega)) | (refine ze1 rfl ?_; (first | rfl | (simp [cloV, cloL, clo, zn, zm, zo, zk, zi]; done))) | exact zg3 rfl rfl | (refine zl2 (by rfl) (by rfl) ?_ ?_ <;> (first | rfl | (simp [cloV, cloL, clo, zn, zm, zo, zk, zi]; done))) | (refine rw_rn' rfl rfl ?_; simp; done)))))
    · have hb' : ¬ (bAt s k = 32 ∨ bAt s k = 9 ∨ bAt s k = 10 ∨ bAt s k = 13) := by simpa [blB] using hb
      by_cases h35 : bAt s k = 35
      · have hp : passT s a = passT s (runF (neB 10) s s.size k) := by rw [hr, za9 hk' h35]
        have c1 := zj11 hs (a := k) (c := 10) (by omega) (by omega)
        have h1 := (zx4 hk' (show neB 10 (bAt s k) = true by simp [neB, h35])).2
        have h2 := (zv2 (p := neB 10) (s := s) s.size k (by omega) (by omega)).2.1
        generalize runF (neB 10) s s.size k = e at c1 h1 h2 hp
        repeat' (first | ((apply f_wo); first | ((apply f_gs); first | refine n_sk ?_) | ((apply f_mv); first | (refine zq1 ?_ ?_ <;> intro hG <;> (try cases hG)) | refine zv (v := .c _) ?_ | refine za ?_) | ((apply f_as); first | refine zt (v := .c _) ?_ | refine za ?_) | ((apply f_ca); first | refine zk1 (c1) ?_ | refine zh1 (c1) ?_) | ((apply f_bi); first | refine zc1 ?_ | refine zb1 ?_ | refine zd1 ?_ | refine za ?_) | ((apply zn1); first | refine zl1 ?_ | refine za ?_) | ((apply zm1); first | refine zh ?_ | refine za ?_) | ((apply zj1); first | refine zg ?_ | refine zi1 ?_ | refine za ?_) | ((apply f_pk); first | refine zg1 (v := .c _) ?_ | refine za ?_) | refine zy1 ?_ | refine za ?_) | ((apply f_w); first | refine zx ?_ | refine zd ?_) | refine zb fun C => ?_ | refine zj ?_ | refine zc ?_ | refine ze ?_ | refine zf ?_ | (refine zr (by rfl) ?_ ?_ <;> intro hC <;> (try cases hC)))
        all_goals first
          | (exfalso; simp only [beq_iff_eq, beq_eq_false_iff_ne, ne_eq, Bool.false_eq_true, Bool.true_eq_false] at *; first | omega | assumption)
          | (refine ⟨s.size - e, e, by omega, ⟨by omega, hp⟩, ?_⟩; (refine ze2 _ _ rfl rfl ?_ ?_ <;> (repeat' (first | exact TmOk.nil | exact RwOk.nil | refine TmOk.cons ?_ ?_ | refine RwOk.cons ?_ ?_ | rfl | (refine rnV_id' rfl ?_; (first | rfl | (simp [cloV, cloL, clo, zn, zm, zo, zk, zi]; done))) | (refine zk2 ?_; first | rfl | omega | (rw [zp1 (by omega) (by omega)]; omega)) | (refine ze1 rfl ?_; (first | rfl | (simp [cloV, cloL, clo, zn, zm, zo, zk, zi]; done))) | exact zg3 rfl rfl | (refine zl2 (by rfl) (by rfl) ?_ ?_ <;> (first | rfl | (simp [cloV, cloL, clo, zn, zm, zo, zk, zi]; done))) | (refine rw_rn' rfl rfl ?_; simp; done)))))
      · rw [hr, zj5 fun h => h.2.elim hb h35]
        repeat' (first | ((apply f_wo); first | ((apply f_gs); first | refine n_sk ?_) | ((apply f_mv); first | (refine zq1 ?_ ?_ <;> intro hG <;> (try cases hG)) | refine zv (v := .c _) ?_ | refine za ?_) | ((apply f_as); first | refine zt (v := .c _) ?_ | refine za ?_) | ((apply f_bi); first | refine zc1 ?_ | refine zb1 ?_ | refine zd1 ?_ | refine za ?_) | ((apply zn1); first | refine zl1 ?_ | refine za ?_) | ((apply zm1); first | refine zh ?_ | refine za ?_) | ((apply zj1); first | refine zg ?_ | refine zi1 ?_ | refine za ?_) | ((apply f_pk); first | refine zg1 (v := .c _) ?_ | refine za ?_) | refine zy1 ?_ | refine za ?_) | ((apply f_w); first | refine zx ?_ | refine zd ?_) | refine zb fun C => ?_ | refine zj ?_ | refine zc ?_ | refine ze ?_ | refine zf ?_ | (refine zr (by rfl) ?_ ?_ <;> intro hC <;> (try cases hC)))
        all_goals first
          | (exfalso; simp only [beq_iff_eq, beq_eq_false_iff_ne, ne_eq, Bool.false_eq_true, Bool.true_eq_false] at *; first | omega | assumption)
          | (refine zw ?_; refine ret0 rfl zu1 ⟨?_, rfl⟩; rfl)
  · have hk' : ¬ k < s.size := by simpa using hk
    rw [hr, zj5 fun h => hk' h.1]
    repeat' (first | ((apply f_wo); first | ((apply f_gs); first | refine n_sk ?_) | ((apply f_mv); first | (refine zq1 ?_ ?_ <;> intro hG <;> (try cases hG)) | refine zv (v := .c _) ?_ | refine za ?_) | ((apply f_as); first | refine zt (v := .c _) ?_ | refine za ?_) | ((apply f_bi); first | refine zc1 ?_ | refine zb1 ?_ | refine zd1 ?_ | refine za ?_) | ((apply zn1); first | refine zl1 ?_ | refine za ?_) | ((apply zm1); first | refine zh ?_ | refine za ?_) | ((apply zj1); first | refine zg ?_ | refine zi1 ?_ | refine za ?_) | ((apply f_pk); first | refine zg1 (v := .c _) ?_ | refine za ?_) | refine zy1 ?_ | refine za ?_) | ((apply f_w); first | refine zx ?_ | refine zd ?_) | refine zb fun C => ?_ | refine zj ?_ | refine zc ?_ | refine ze ?_ | refine zf ?_ | refine zp rfl ?_ | refine zq rfl ?_)
    refine zw ?_; refine ret0 rfl zu1 ⟨?_, rfl⟩; rfl
set_option maxHeartbeats 4000000 in
theorem zf22 {s : ByteArray} (hs : s.size ≤ 1048576) {a : Nat} (ha : a < s.size) (rex : Bool) : Ctr Tryd.prog 32 [.c (.v (.string s)), .c (.v (.int .i64 (a : Int))), .c (.v (.bool rex))] [] (.tu [.ag [.v (.int .i64 (oneR s a rex).k), .v (.int .i64 (oneR s a rex).n), .v (.string (oneR s a rex).s)], .c (.v (.int .i64 ((oneR s a rex).e : Int)))]) [] := by
  have cd := zz6 (ze4 s a)
  have cl := zx8 (ze4 s a)
  have cq := zs14 hs ha
  have hlt := ze4 s a
  refine za2 Tryd.func32 rfl rfl ?_
  unfold oneR
  cases h1 : digB (bAt s a) with
  | true =>
    rw [h1] at cd
    rw [if_pos rfl]
    have c1 := zg19 hs (a := a) (by omega)
    have hr := zv2 (p := digB) (s := s) s.size a (by omega) (by omega)
    have hd : allB digB (cutB s a (runF digB s s.size a)) = true := zo5 fun j hj => by
      rw [zy2 hr.1 hr.2.1] at hj
      rw [zk4 hr.2.1 hj]
      exact hr.2.2.1 _ (by omega) (by omega)
    have g1 := hr.1
    have g2 := hr.2.1
    clear hr
    generalize runF digB s s.size a = e at c1 hd g1 g2 ⊢
    have c2 := zd22 hd
    repeat' (first | ((apply f_wo); first | ((apply f_gs); first | refine n_sk ?_) | ((apply f_mv); first | (refine zq1 ?_ ?_ <;> intro hG <;> (try cases hG)) | refine zv (v := .c _) ?_ | refine zv (v := .tu _) ?_ | refine za ?_) | ((apply f_as); first | refine zt (v := .c _) ?_ | refine zt (v := .tu _) ?_ | refine za ?_) | ((apply f_ca); first | refine zk1 (cd) ?_ | refine zh1 (cd) ?_ | refine zk1 (c1) ?_ | refine zh1 (c1) ?_ | refine zk1 (c2) ?_ | refine zh1 (c2) ?_) | ((apply f_bi); first | refine zc1 ?_ | refine zb1 ?_ | refine zd1 ?_ | refine za ?_) | ((apply f_st); first | refine n_st ?_ | refine zr2 ?_) | ((apply zn1); first | refine zl1 ?_ | refine za ?_) | ((apply zm1); first | refine zh ?_ | refine za ?_) | ((apply zj1); first | refine zg ?_ | refine zi1 ?_ | refine za ?_) | ((apply f_pk); first | refine zg1 (v := .c _) ?_ | refine zg1 (v := .tu _) ?_ | refine za ?_) | ((apply f_ex); first | refine zv1 (v := .c _) ?_ | refine zv1 (v := .tu _) ?_ | refine za ?_) | refine n_al ?_ | refine zy1 ?_ | refine zn2 ?_ | refine zo2 ?_ | refine zp2 ?_ | refine za ?_ | refine n_mv ?_) | ((apply f_w); first | refine zx ?_ | refine zd ?_) | refine zb fun C => ?_ | refine zj ?_ | refine zc ?_ | refine ze ?_ | refine zf ?_ | refine zp rfl ?_ | refine zq rfl ?_)
    refine zw ?_; refine ret0 rfl (zn3 (zf1 (zm3 (zd2 rfl (zd2 rfl (zd2 rfl zm2)))) (zf1 zu1 zj2))) ⟨?_, rfl⟩; rfl
  | false =>
    rw [h1] at cd
    rw [if_neg (by simp)]
    cases h2 : letB (bAt s a) with
    | true =>
      rw [h2] at cl
      rw [if_pos rfl]
      have c1 := zh19 hs (a := a) (by omega)
      have hr := zv2 (p := ldB) (s := s) s.size a (by omega) (by omega)
      have g1 := hr.1
      have g2 := hr.2.1
      clear hr
      generalize runF ldB s s.size a = e at c1 g1 g2 ⊢
      repeat' (first | ((apply f_wo); first | ((apply f_gs); first | refine n_sk ?_) | ((apply f_mv); first | (refine zq1 ?_ ?_ <;> intro hG <;> (try cases hG)) | refine zv (v := .c _) ?_ | refine zv (v := .tu _) ?_ | refine za ?_) | ((apply f_as); first | refine zt (v := .c _) ?_ | refine zt (v := .tu _) ?_ | refine za ?_) | ((apply f_ca); first | refine zk1 (cd) ?_ | refine zh1 (cd) ?_ | refine zk1 (cl) ?_ | refine zh1 (cl) ?_ | refine zk1 (c1) ?_ | refine zh1 (c1) ?_) | ((apply f_bi); first | refine zc1 ?_ | refine zb1 ?_ | refine zd1 ?_ | refine za ?_) | ((apply f_st); first | refine n_st ?_ | refine zr2 ?_) | ((apply zn1); first | refine zl1 ?_ | refine za ?_) | ((apply zm1); first | refine zh ?_ | refine za ?_) | ((apply zj1); first | refine zg ?_ | refine zi1 ?_ | refine za ?_) | ((apply f_pk); first | refine zg1 (v := .c _) ?_ | refine zg1 (v := .tu _) ?_ | refine za ?_) | ((apply f_ex); first | refine zv1 (v := .c _) ?_ | refine zv1 (v := .tu _) ?_ | refine za ?_) | refine n_al ?_ | refine zy1 ?_ | refine zn2 ?_ | refine zo2 ?_ | refine zp2 ?_ | refine za ?_ | refine n_mv ?_) | ((apply f_w); first | refine zx ?_ | refine zd ?_) | refine zb fun C => ?_ | refine zj ?_ | refine zc ?_ | refine ze ?_ | refine zf ?_ | refine zp rfl ?_ | refine zq rfl ?_)
      refine zw ?_; refine ret0 rfl (zn3 (zf1 (zm3 (zd2 rfl (zd2 rfl (zd2 rfl zm2)))) (zf1 zu1 zj2))) ⟨?_, rfl⟩; rfl
    | false =>
      rw [h2] at cl
      rw [if_neg (by simp)]
      by_cases h39 : bAt s a = 39
      · rw [if_pos h39]
        have c3 := cq 3
        generalize quoR s a 3 = q at c3 ⊢
        obtain ⟨q1, q2, q3, q4⟩ := q
        repeat' (first | ((apply f_wo); first | ((apply f_gs); first | refine n_sk ?_) | ((apply f_mv); first | (refine zq1 ?_ ?_ <;> intro hG <;> (try cases hG)) | refine zv (v := .c _) ?_ | refine zv (v := .tu _) ?_ | refine za ?_) | ((apply f_as); first | refine zt (v := .c _) ?_ | refine zt (v := .tu _) ?_ | refine za ?_) | ((apply f_ca); first | refine zk1 (cd) ?_ | refine zh1 (cd) ?_ | refine zk1 (cl) ?_ | refine zh1 (cl) ?_) | ((apply f_bi); first | refine zc1 ?_ | refine zb1 ?_ | refine zd1 ?_ | refine za ?_) | ((apply f_st); first | refine n_st ?_ | refine zr2 ?_) | ((apply zn1); first | refine zl1 ?_ | refine za ?_) | ((apply zm1); first | refine zh ?_ | refine za ?_) | ((apply zj1); first | refine zg ?_ | refine zi1 ?_ | refine za ?_) | ((apply f_pk); first | refine zg1 (v := .c _) ?_ | refine zg1 (v := .tu _) ?_ | refine za ?_) | ((apply f_ex); first | refine zv1 (v := .c _) ?_ | refine zv1 (v := .tu _) ?_ | refine za ?_) | refine n_al ?_ | refine zy1 ?_ | refine zn2 ?_ | refine zo2 ?_ | refine zp2 ?_ | refine za ?_ | refine n_mv ?_) | ((apply f_w); first | refine zx ?_ | refine zd ?_) | refine zb fun C => ?_ | refine zj ?_ | refine zc ?_ | refine ze ?_ | refine zf ?_ | refine zp rfl ?_ | refine zq rfl ?_)
        refine zr (by rfl) (fun hC => ?_) fun hC => ?_
        · repeat' (first | ((apply f_wo); first | ((apply f_gs); first | refine n_sk ?_) | ((apply f_mv); first | (refine zq1 ?_ ?_ <;> intro hG <;> (try cases hG)) | refine zv (v := .c _) ?_ | refine zv (v := .tu _) ?_ | refine za ?_) | ((apply f_as); first | refine zt (v := .c _) ?_ | refine zt (v := .tu _) ?_ | refine za ?_) | ((apply f_ca); first | refine zk1 (c3) ?_ | refine zh1 (c3) ?_) | ((apply f_bi); first | refine zc1 ?_ | refine zb1 ?_ | refine zd1 ?_ | refine za ?_) | ((apply f_st); first | refine n_st ?_ | refine zr2 ?_) | ((apply zn1); first | refine zl1 ?_ | refine za ?_) | ((apply zm1); first | refine zh ?_ | refine za ?_) | ((apply zj1); first | refine zg ?_ | refine zi1 ?_ | refine za ?_) | ((apply f_pk); first | refine zg1 (v := .c _) ?_ | refine zg1 (v := .tu _) ?_ | refine za ?_) | ((apply f_ex); first | refine zv1 (v := .c _) ?_ | refine zv1 (v := .tu _) ?_ | refine za ?_) | refine n_al ?_ | refine zy1 ?_ | refine zn2 ?_ | refine zo2 ?_ | refine zp2 ?_ | refine za ?_ | refine n_mv ?_) | ((apply f_w); first | refine zx ?_ | refine zd ?_) | refine zb fun C => ?_ | refine zj ?_ | refine zc ?_ | refine ze ?_ | refine zf ?_ | refine zp rfl ?_ | refine zq rfl ?_)
          refine zw ?_; refine ret0 rfl (zn3 (zf1 (zm3 (zd2 rfl (zd2 rfl (zd2 rfl zm2)))) (zf1 zu1 zj2))) ⟨?_, rfl⟩; rfl
        · exfalso; simp only [beq_eq_false_iff_ne, ne_eq] at hC; omega
      · rw [if_neg h39]
        repeat' (first | ((apply f_wo); first | ((apply f_gs); first | refine n_sk ?_) | ((apply f_mv); first | (refine zq1 ?_ ?_ <;> intro hG <;> (try cases hG)) | refine zv (v := .c _) ?_ | refine zv (v := .tu _) ?_ | refine za ?_) | ((apply f_as); first | refine zt (v := .c _) ?_ | refine zt (v := .tu _) ?_ | refine za ?_) | ((apply f_ca); first | refine zk1 (cd) ?_ | refine zh1 (cd) ?_ | refine zk1 (cl) ?_ | refine zh1 (cl) ?_) | ((apply f_bi); first | refine zc1 ?_ | refine zb1 ?_ | refine zd1 ?_ | refine za ?_) | ((apply f_st); first | refine n_st ?_ | refine zr2 ?_) | ((apply zn1); first | refine zl1 ?_ | refine za ?_) | ((apply zm1); first | refine zh ?_ | refine za ?_) | ((apply zj1); first | refine zg ?_ | refine zi1 ?_ | refine za ?_) | ((apply f_pk); first | refine zg1 (v := .c _) ?_ | refine zg1 (v := .tu _) ?_ | refine za ?_) | ((apply f_ex); first | refine zv1 (v := .c _) ?_ | refine zv1 (v := .tu _) ?_ | refine za ?_) | refine n_al ?_ | refine zy1 ?_ | refine zn2 ?_ | refine zo2 ?_ | refine zp2 ?_ | refine za ?_ | refine n_mv ?_) | ((apply f_w); first | refine zx ?_ | refine zd ?_) | refine zb fun C => ?_ | refine zj ?_ | refine zc ?_ | refine ze ?_ | refine zf ?_ | refine zp rfl ?_ | refine zq rfl ?_)
        refine zr (by rfl) (fun hC => ?_) fun _ => ?_
        · exfalso; simp only [beq_iff_eq] at hC; omega
        by_cases h47 : bAt s a = 47 ∧ rex = true
        · rw [if_pos h47]
          obtain ⟨h47, rfl⟩ := h47
          have c3 := cq 4
          generalize quoR s a 4 = q at c3 ⊢
          obtain ⟨q1, q2, q3, q4⟩ := q
          repeat' (first | ((apply f_wo); first | ((apply f_gs); first | refine n_sk ?_) | ((apply f_mv); first | (refine zq1 ?_ ?_ <;> intro hG <;> (try cases hG)) | refine zv (v := .c _) ?_ | refine zv (v := .tu _) ?_ | refine za ?_) | ((apply f_as); first | refine zt (v := .c _) ?_ | refine zt (v := .tu _) ?_ | refine za ?_) | ((apply f_ca); first | refine zk1 (c3) ?_ | refine zh1 (c3) ?_) | ((apply f_bi); first | refine zc1 ?_ | refine zb1 ?_ | refine zd1 ?_ | refine za ?_) | ((apply f_st); first | refine n_st ?_ | refine zr2 ?_) | ((apply zn1); first | refine zl1 ?_ | refine za ?_) | ((apply zm1); first | refine zh ?_ | refine za ?_) | ((apply zj1); first | refine zg ?_ | refine zi1 ?_ | refine za ?_) | ((apply f_pk); first | refine zg1 (v := .c _) ?_ | refine zg1 (v := .tu _) ?_ | refine za ?_) | ((apply f_ex); first | refine zv1 (v := .c _) ?_ | refine zv1 (v := .tu _) ?_ | refine za ?_) | refine n_al ?_ | refine zy1 ?_ | refine zn2 ?_ | refine zo2 ?_ | refine zp2 ?_ | refine za ?_ | refine n_mv ?_) | ((apply f_w); first | refine zx ?_ | refine zd ?_) | refine zb fun C => ?_ | refine zj ?_ | refine zc ?_ | refine ze ?_ | refine zf ?_ | (refine zr (by rfl) ?_ ?_ <;> intro hC <;> (try cases hC)))
          all_goals first
            | (exfalso; simp only [beq_iff_eq, beq_eq_false_iff_ne, ne_eq, Bool.false_eq_true, Bool.true_eq_false] at *; first | omega | assumption)
            | (refine zw ?_; refine ret0 rfl (zn3 (zf1 (zm3 (zd2 rfl (zd2 rfl (zd2 rfl zm2)))) (zf1 zu1 zj2))) ⟨?_, rfl⟩; rfl)
        · rw [if_neg h47]
          have h47' : bAt s a ≠ 47 ∨ rex = false := by
            by_cases e : bAt s a = 47
            · right; cases rex with
              | false => rfl
              | true => exact absurd ⟨e, rfl⟩ h47
            · exact .inl e
          have ha1 : (a : Int) + 1 = ((a + 1 : Nat) : Int) := by omega
          have ha2 : (a : Int) + 2 = ((a + 2 : Nat) : Int) := by omega
          have cm := zp13 (cutB s a (a + 2))
          by_cases hz : a + 1 < s.size
          · cases hm : markB (cutB s a (a + 2)) with
            | true =>
              rw [hm] at cm
              rw [if_pos ⟨hz, rfl⟩]
              rcases h47' with e | rfl
              · repeat' (first | ((apply f_wo); first | ((apply f_gs); first | refine n_sk ?_) | ((apply f_mv); first | (refine zq1 ?_ ?_ <;> intro hG <;> (try cases hG)) | refine zv (v := .c _) ?_ | refine zv (v := .tu _) ?_ | refine za ?_) | ((apply f_as); first | refine zt (v := .c _) ?_ | refine zt (v := .tu _) ?_ | refine za ?_) | ((apply f_ca); first | refine zk1 (cm) ?_ | refine zh1 (cm) ?_) | ((apply f_bi); first | refine zc1 ?_ | refine zb1 ?_ | refine zd1 ?_ | refine za ?_) | ((apply f_st); first | refine n_st ?_ | refine zr2 ?_) | ((apply zn1); first | refine zl1 ?_ | refine za ?_) | ((apply zm1); first | refine zh ?_ | refine za ?_) | ((apply zj1); first | refine zg ?_ | refine zi1 ?_ | refine za ?_) | ((apply f_pk); first | refine zg1 (v := .c _) ?_ | refine zg1 (v := .tu _) ?_ | refine za ?_) | ((apply f_ex); first | refine zv1 (v := .c _) ?_ | refine zv1 (v := .tu _) ?_ | refine za ?_) | refine n_al ?_ | refine zy1 ?_ | refine zn2 ?_ | refine zo2 ?_ | refine zp2 ?_ | refine za ?_ | refine n_mv ?_) | ((apply f_w); first | refine zx ?_ | refine zd ?_) | refine zb fun C => ?_ | refine zj ?_ | refine zc ?_ | refine ze ?_ | refine zf ?_ | (refine zr (by rfl) ?_ ?_ <;> intro hC <;> (try cases hC)))
                all_goals first
                  | (exfalso; simp only [beq_iff_eq, beq_eq_false_iff_ne, ne_eq, Bool.false_eq_true, Bool.true_eq_false, decide_eq_true_iff, decide_eq_false_iff_not] at *; first | omega | assumption)
                  | (refine zw ?_; refine ret0 rfl (zn3 (zf1 (zm3 (zd2 rfl (zd2 rfl (zd2 rfl zm2)))) (zf1 zu1 zj2))) ⟨?_, rfl⟩; rfl)
              · repeat' (first | ((apply f_wo); first | ((apply f_gs); first | refine n_sk ?_) | ((apply f_mv); first | (refine zq1 ?_ ?_ <;> intro hG <;> (try cases hG)) | refine zv (v := .c _) ?_ | refine zv (v := .tu _) ?_ | refine za ?_) | ((apply f_as); first | refine zt (v := .c _) ?_ | refine zt (v := .tu _) ?_ | refine za ?_) | ((apply f_ca); first | refine zk1 (cm) ?_ | refine zh1 (cm) ?_) | ((apply f_bi); first | refine zc1 ?_ | refine zb1 ?_ | refine zd1 ?_ | refine za ?_) | ((apply f_st); first | refine n_st ?_ | refine zr2 ?_) | ((apply zn1); first | refine zl1 ?_ | refine za ?_) | ((apply zm1); first | refine zh ?_ | refine za ?_) | ((apply zj1); first | refine zg ?_ | refine zi1 ?_ | refine za ?_) | ((apply f_pk); first | refine zg1 (v := .c _) ?_ | refine zg1 (v := .tu _) ?_ | refine za ?_) | ((apply f_ex); first | refine zv1 (v := .c _) ?_ | refine zv1 (v := .tu _) ?_ | refine za ?_) | refine n_al ?_ | refine zy1 ?_ | refine zn2 ?_ | refine zo2 ?_ | refine zp2 ?_ | refine za ?_ | refine n_mv ?_) | ((apply f_w); first | refine zx ?_ | refine zd ?_) | refine zb fun C => ?_ | refine zj ?_ | refine zc ?_ | refine ze ?_ | refine zf ?_ | (refine zr (by rfl) ?_ ?_ <;> intro hC <;> (try cases hC)))
                all_goals first
                  | (exfalso; simp only [beq_iff_eq, beq_eq_false_iff_ne, ne_eq, Bool.false_eq_true, Bool.true_eq_false, decide_eq_true_iff, decide_eq_false_iff_not] at *; first | omega | assumption)
                  | (refine zw ?_; refine ret0 rfl (zn3 (zf1 (zm3 (zd2 rfl (zd2 rfl (zd2 rfl zm2)))) (zf1 zu1 zj2))) ⟨?_, rfl⟩; rfl)
            | false =>
              rw [hm] at cm
              rw [if_neg (by simp)]
              rcases h47' with e | rfl
              · repeat' (first | ((apply f_wo); first | ((apply f_gs); first | refine n_sk ?_) | ((apply f_mv); first | (refine zq1 ?_ ?_ <;> intro hG <;> (try cases hG)) | refine zv (v := .c _) ?_ | refine zv (v := .tu _) ?_ | refine za ?_) | ((apply f_as); first | refine zt (v := .c _) ?_ | refine zt (v := .tu _) ?_ | refine za ?_) | ((apply f_ca); first | refine zk1 (cm) ?_ | refine zh1 (cm) ?_) | ((apply f_bi); first | refine zc1 ?_ | refine zb1 ?_ | refine zd1 ?_ | refine za ?_) | ((apply f_st); first | refine n_st ?_ | refine zr2 ?_) | ((apply zn1); first | refine zl1 ?_ | refine za ?_) | ((apply zm1); first | refine zh ?_ | refine za ?_) | ((apply zj1); first | refine zg ?_ | refine zi1 ?_ | refine za ?_) | ((apply f_pk); first | refine zg1 (v := .c _) ?_ | refine zg1 (v := .tu _) ?_ | refine za ?_) | ((apply f_ex); first | refine zv1 (v := .c _) ?_ | refine zv1 (v := .tu _) ?_ | refine za ?_) | refine n_al ?_ | refine zy1 ?_ | refine zn2 ?_ | refine zo2 ?_ | refine zp2 ?_ | refine za ?_ | refine n_mv ?_) | ((apply f_w); first | refine zx ?_ | refine zd ?_) | refine zb fun C => ?_ | refine zj ?_ | refine zc ?_ | refine ze ?_ | refine zf ?_ | (refine zr (by rfl) ?_ ?_ <;> intro hC <;> (try cases hC)))
                all_goals first
                  | (exfalso; simp only [beq_iff_eq, beq_eq_false_iff_ne, ne_eq, Bool.false_eq_true, Bool.true_eq_false, decide_eq_true_iff, decide_eq_false_iff_not] at *; first | omega | assumption)
                  | (refine zw ?_; refine ret0 rfl (zn3 (zf1 (zm3 (zd2 rfl (zd2 rfl (zd2 rfl zm2)))) (zf1 zu1 zj2))) ⟨?_, rfl⟩; rfl)
              · repeat' (first | ((apply f_wo); first | ((apply f_gs); first | refine n_sk ?_) | ((apply f_mv); first | (refine zq1 ?_ ?_ <;> intro hG <;> (try cases hG)) | refine zv (v := .c _) ?_ | refine zv (v := .tu _) ?_ | refine za ?_) | ((apply f_as); first | refine zt (v := .c _) ?_ | refine zt (v := .tu _) ?_ | refine za ?_) | ((apply f_ca); first | refine zk1 (cm) ?_ | refine zh1 (cm) ?_) | ((apply f_bi); first | refine zc1 ?_ | refine zb1 ?_ | refine zd1 ?_ | refine za ?_) | ((apply f_st); first | refine n_st ?_ | refine zr2 ?_) | ((apply zn1); first | refine zl1 ?_ | refine za ?_) | ((apply zm1); first | refine zh ?_ | refine za ?_) | ((apply zj1); first | refine zg ?_ | refine zi1 ?_ | refine za ?_) | ((apply f_pk); first | refine zg1 (v := .c _) ?_ | refine zg1 (v := .tu _) ?_ | refine za ?_) | ((apply f_ex); first | refine zv1 (v := .c _) ?_ | refine zv1 (v := .tu _) ?_ | refine za ?_) | refine n_al ?_ | refine zy1 ?_ | refine zn2 ?_ | refine zo2 ?_ | refine zp2 ?_ | refine za ?_ | refine n_mv ?_) | ((apply f_w); first | refine zx ?_ | refine zd ?_) | refine zb fun C => ?_ | refine zj ?_ | refine zc ?_ | refine ze ?_ | refine zf ?_ | (refine zr (by rfl) ?_ ?_ <;> intro hC <;> (try cases hC)))
                all_goals first
                  | (exfalso; simp only [beq_iff_eq, beq_eq_false_iff_ne, ne_eq, Bool.false_eq_true, Bool.true_eq_false, decide_eq_true_iff, decide_eq_false_iff_not] at *; first | omega | assumption)
                  | (refine zw ?_; refine ret0 rfl (zn3 (zf1 (zm3 (zd2 rfl (zd2 rfl (zd2 rfl zm2)))) (zf1 zu1 zj2))) ⟨?_, rfl⟩; rfl)
          · rw [if_neg fun h => hz h.1]
            rcases h47' with e | rfl
            · repeat' (first | ((apply f_wo); first | ((apply f_gs); first | refine n_sk ?_) | ((apply f_mv); first | (refine zq1 ?_ ?_ <;> intro hG <;> (try cases hG)) | refine zv (v := .c _) ?_ | refine zv (v := .tu _) ?_ | refine za ?_) | ((apply f_as); first | refine zt (v := .c _) ?_ | refine zt (v := .tu _) ?_ | refine za ?_) | ((apply f_bi); first | refine zc1 ?_ | refine zb1 ?_ | refine zd1 ?_ | refine za ?_) | ((apply f_st); first | refine n_st ?_ | refine zr2 ?_) | ((apply zn1); first | refine zl1 ?_ | refine za ?_) | ((apply zm1); first | refine zh ?_ | refine za ?_) | ((apply zj1); first | refine zg ?_ | refine zi1 ?_ | refine za ?_) | ((apply f_pk); first | refine zg1 (v := .c _) ?_ | refine zg1 (v := .tu _) ?_ | refine za ?_) | ((apply f_ex); first | refine zv1 (v := .c _) ?_ | refine zv1 (v := .tu _) ?_ | refine za ?_) | refine n_al ?_ | refine zy1 ?_ | refine zn2 ?_ | refine zo2 ?_ | refine zp2 ?_ | refine za ?_ | refine n_mv ?_) | ((apply f_w); first | refine zx ?_ | refine zd ?_) | refine zb fun C => ?_ | refine zj ?_ | refine zc ?_ | refine ze ?_ | refine zf ?_ | (refine zr (by rfl) ?_ ?_ <;> intro hC <;> (try cases hC)))
              all_goals first
                | (exfalso; simp only [beq_iff_eq, beq_eq_false_iff_ne, ne_eq, Bool.false_eq_true, Bool.true_eq_false, decide_eq_true_iff, decide_eq_false_iff_not] at *; first | omega | assumption)
                | (refine zw ?_; refine ret0 rfl (zn3 (zf1 (zm3 (zd2 rfl (zd2 rfl (zd2 rfl zm2)))) (zf1 zu1 zj2))) ⟨?_, rfl⟩; rfl)
            · repeat' (first | ((apply f_wo); first | ((apply f_gs); first | refine n_sk ?_) | ((apply f_mv); first | (refine zq1 ?_ ?_ <;> intro hG <;> (try cases hG)) | refine zv (v := .c _) ?_ | refine zv (v := .tu _) ?_ | refine za ?_) | ((apply f_as); first | refine zt (v := .c _) ?_ | refine zt (v := .tu _) ?_ | refine za ?_) | ((apply f_bi); first | refine zc1 ?_ | refine zb1 ?_ | refine zd1 ?_ | refine za ?_) | ((apply f_st); first | refine n_st ?_ | refine zr2 ?_) | ((apply zn1); first | refine zl1 ?_ | refine za ?_) | ((apply zm1); first | refine zh ?_ | refine za ?_) | ((apply zj1); first | refine zg ?_ | refine zi1 ?_ | refine za ?_) | ((apply f_pk); first | refine zg1 (v := .c _) ?_ | refine zg1 (v := .tu _) ?_ | refine za ?_) | ((apply f_ex); first | refine zv1 (v := .c _) ?_ | refine zv1 (v := .tu _) ?_ | refine za ?_) | refine n_al ?_ | refine zy1 ?_ | refine zn2 ?_ | refine zo2 ?_ | refine zp2 ?_ | refine za ?_ | refine n_mv ?_) | ((apply f_w); first | refine zx ?_ | refine zd ?_) | refine zb fun C => ?_ | refine zj ?_ | refine zc ?_ | refine ze ?_ | refine zf ?_ | (refine zr (by rfl) ?_ ?_ <;> intro hC <;> (try cases hC)))
              all_goals first
                | (exfalso; simp only [beq_iff_eq, beq_eq_false_iff_ne, ne_eq, Bool.false_eq_true, Bool.true_eq_false, decide_eq_true_iff, decide_eq_false_iff_not] at *; first | omega | assumption)
                | (refine zw ?_; refine ret0 rfl (zn3 (zf1 (zm3 (zd2 rfl (zd2 rfl (zd2 rfl zm2)))) (zf1 zu1 zj2))) ⟨?_, rfl⟩; rfl)
end Go.Proofs.YtnlgmojciplnoaaDoor
