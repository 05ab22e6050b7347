/- TokenOk and TokenText of the program; tokens joined. -/
import Derived.Test.YtnlgmojciplnoaaDoorFlxPU
namespace Go.Proofs.YtnlgmojciplnoaaDoor
open Go.RowKit
set_option maxRecDepth 100000
theorem zr17 {s : ByteArray} : markB s = (decide (s.size ≠ 0) && ((markS s).toList == s.toList)) := by
  have key : ∀ n, s.size = n → cutB s 0 n = s := fun n hn => by
    subst hn
    have hz := zy2 (s := s) (a := 0) (b := s.size) (by omega) (Nat.le_refl _)
    refine zf6 (by omega) fun j hj => ?_
    rw [zk4 (Nat.le_refl _) (by omega), Nat.zero_add]
  rw [zz4]
  unfold markS
  by_cases h6 : 2 ≤ s.size ∧ sixB (bAt s 0) (bAt s 1) = true
  · rw [if_pos h6]
    by_cases hz : s.size = 2
    · rw [key 2 hz]; simp [markB, hz, h6.2]
    · have : ¬ cutB s 0 2 = s := fun e => by
        have h2 := zy2 (s := s) (a := 0) (b := 2) (by omega) h6.1
        rw [e] at h2; omega
      simp only [markB, this, decide_false, Bool.and_false]
      have hz1 : ¬ s.size = 1 := by omega
      simp [hz, hz1]
  · rw [if_neg h6]
    have hm : markB s = (decide (s.size = 1) && oneB (bAt s 0)) := by
      unfold markB
      by_cases hz : s.size = 2
      · have : sixB (bAt s 0) (bAt s 1) = false := by
          cases hb : sixB (bAt s 0) (bAt s 1) with
          | false => rfl
          | true => exact absurd ⟨by omega, hb⟩ h6
        simp [hz, this]
      · simp [hz]
    rw [hm]
    by_cases h1 : 1 ≤ s.size ∧ oneB (bAt s 0) = true
    · rw [if_pos h1]
      by_cases hz : s.size = 1
      · rw [key 1 hz]; simp [hz, h1.2]
      · have : ¬ cutB s 0 1 = s := fun e => by
          have h2 := zy2 (s := s) (a := 0) (b := 1) (by omega) h1.1
          rw [e] at h2; omega
        simp [hz, this]
    · rw [if_neg h1]
      by_cases hz : s.size = 0
      · simp [hz]
      · have : ¬ ByteArray.empty = s := fun e => by rw [← e] at hz; exact hz rfl
        have h3 : s.size = 1 → oneB (bAt s 0) = false := fun h => by
          cases hb : oneB (bAt s 0) with
          | false => rfl
          | true => exact absurd ⟨by omega, hb⟩ h1
        by_cases hz1 : s.size = 1
        · simp [hz1, h3 hz1, this]
        · simp [hz1, this]
set_option maxHeartbeats 4000000 in
theorem zg7 {s : ByteArray} (hs : s.size ≤ 1048576) (k n : Int) : Ctr Tryd.prog 10 [.ag [.v (.int .i64 k), .v (.int .i64 n), .v (.string s)]] [] (.c (.v (.bool (tokOk k n s)))) [] := by
  have c1 := zd8 n 0 2147483647
  have c2 := zz18 hs
  have c3 := zm13 hs
  have c4 := zy8 hs
  have c5 := zw13 hs
  refine za2 Tryd.func10 rfl rfl ?_
  by_cases k1 : k = 1
  · subst k1
    rw [show tokOk 1 n s = (inR n 0 2147483647 && decide (s.size = 0)) by simp [tokOk, inR, Bool.and_assoc]]
    generalize inR n 0 2147483647 = b at c1 ⊢
    cases b
    · repeat' (first | ((apply f_wo); first | ((apply f_gs); first | refine n_sk ?_) | ((apply f_mv); first | (refine zq1 ?_ ?_ <;> intro hG <;> (try cases hG)) | refine zv (v := .c _) ?_ | refine za ?_) | ((apply f_as); first | refine zt (v := .c _) ?_ | refine za ?_) | ((apply f_fa); first | refine n_fa ?_ | refine zx3 ?_) | ((apply f_ld); first | refine zp3 ?_ | refine zs2 ?_ | refine n_ld ?_) | ((apply f_ca); first | refine zk1 (c1) ?_ | refine zh1 (c1) ?_) | ((apply zn1); first | refine zu ?_ | refine zi2 ?_ | refine za ?_) | ((apply zx2); first | refine zb2 ?_ | refine za ?_) | ((apply f_pk); first | refine zg1 (v := .c _) ?_ | refine za ?_) | refine n_bo ?_ | refine za ?_) | ((apply f_w); first | refine zx ?_ | refine zd ?_) | ((apply d_wo); first | ((apply d_gs); first | refine o_sk ?_ | refine zy3 ?_) | ((apply d_bo); (refine o_gm ?_ ?_ <;> intro hG <;> (try cases hG))) | ((apply d_mv); refine zy ?_) | ((apply d_as); refine zy ?_) | ((apply d_fa); first | refine o_fa ?_ | refine zy6 ?_) | ((apply d_ld); first | refine zb5 ?_ | refine zz3 ?_ | refine za4 ?_ | refine zc5 ?_ | refine zy ?_ | refine o_ld ?_) | ((apply d_ca); first | refine zt2 (c1) ?_) | ((apply d_bb); first | refine zr1 ?_ | refine zs1 ?_ | refine zt1 ?_ | refine zu3 ?_ | refine zy ?_) | refine o_bo ?_ | refine zy ?_) | ((apply d_w); first | refine zx ?_ | refine zd ?_) | refine zb fun C => ?_ | refine za1 (by kernel_rfl) (by kernel_rfl) fun C => ?_ | refine zj ?_ | refine zc ?_ | refine ze ?_ | refine zf ?_ | refine zp rfl ?_ | refine zq rfl ?_)
      refine zw ?_; refine ret0 rfl zu1 ⟨?_, rfl⟩; rfl
    · rw [← zc7]
      repeat' (first | ((apply f_wo); first | ((apply f_gs); first | refine n_sk ?_) | ((apply f_mv); first | (refine zq1 ?_ ?_ <;> intro hG <;> (try cases hG)) | refine zv (v := .c _) ?_ | refine za ?_) | ((apply f_as); first | refine zt (v := .c _) ?_ | refine za ?_) | ((apply f_fa); first | refine n_fa ?_ | refine zx3 ?_) | ((apply f_ld); first | refine zp3 ?_ | refine zs2 ?_ | refine n_ld ?_) | ((apply f_ca); first | refine zk1 (c1) ?_ | refine zh1 (c1) ?_) | ((apply zn1); first | refine zu ?_ | refine zi2 ?_ | refine za ?_) | ((apply zx2); first | refine zb2 ?_ | refine za ?_) | ((apply f_pk); first | refine zg1 (v := .c _) ?_ | refine za ?_) | refine n_bo ?_ | refine za ?_) | ((apply f_w); first | refine zx ?_ | refine zd ?_) | ((apply d_wo); first | ((apply d_gs); first | refine o_sk ?_ | refine zy3 ?_) | ((apply d_bo); (refine o_gm ?_ ?_ <;> intro hG <;> (try cases hG))) | ((apply d_mv); refine zy ?_) | ((apply d_as); refine zy ?_) | ((apply d_fa); first | refine o_fa ?_ | refine zy6 ?_) | ((apply d_ld); first | refine zb5 ?_ | refine zz3 ?_ | refine za4 ?_ | refine zc5 ?_ | refine zy ?_ | refine o_ld ?_) | ((apply d_ca); first | refine zt2 (c1) ?_) | ((apply d_bb); first | refine zr1 ?_ | refine zs1 ?_ | refine zt1 ?_ | refine zu3 ?_ | refine zy ?_) | refine o_bo ?_ | refine zy ?_) | ((apply d_w); first | refine zx ?_ | refine zd ?_) | refine zb fun C => ?_ | refine za1 (by kernel_rfl) (by kernel_rfl) fun C => ?_ | refine zj ?_ | refine zc ?_ | refine ze ?_ | refine zf ?_ | refine zp rfl ?_ | refine zq rfl ?_)
      refine zw ?_; refine ret0 rfl zu1 ⟨?_, rfl⟩; rfl
  by_cases hn : n = 0
  · subst hn
    by_cases k2 : k = 2
    · subst k2
      rw [show tokOk 2 0 s = nameW s by simp [tokOk]]
      repeat' (first | ((apply f_wo); first | ((apply f_gs); first | refine n_sk ?_) | ((apply f_mv); first | (refine zq1 ?_ ?_ <;> intro hG <;> (try cases hG)) | refine zv (v := .c _) ?_ | refine za ?_) | ((apply f_as); first | refine zt (v := .c _) ?_ | refine za ?_) | ((apply f_fa); first | refine n_fa ?_ | refine zx3 ?_) | ((apply f_ld); first | refine zp3 ?_ | refine zs2 ?_ | refine n_ld ?_) | ((apply f_ca); first | refine zk1 (c2) ?_ | refine zh1 (c2) ?_) | ((apply zn1); first | refine zu ?_ | refine zi2 ?_ | refine za ?_) | ((apply zx2); first | refine zb2 ?_ | refine za ?_) | ((apply f_pk); first | refine zg1 (v := .c _) ?_ | refine za ?_) | refine n_bo ?_ | refine za ?_) | ((apply f_w); first | refine zx ?_ | refine zd ?_) | ((apply d_wo); first | ((apply d_gs); first | refine o_sk ?_ | refine zy3 ?_) | ((apply d_bo); (refine o_gm ?_ ?_ <;> intro hG <;> (try cases hG))) | ((apply d_mv); refine zy ?_) | ((apply d_as); refine zy ?_) | ((apply d_fa); first | refine o_fa ?_ | refine zy6 ?_) | ((apply d_ld); first | refine zb5 ?_ | refine zz3 ?_ | refine za4 ?_ | refine zc5 ?_ | refine zy ?_ | refine o_ld ?_) | ((apply d_ca); first | refine zt2 (c2) ?_) | ((apply d_bb); first | refine zr1 ?_ | refine zs1 ?_ | refine zt1 ?_ | refine zu3 ?_ | refine zy ?_) | refine o_bo ?_ | refine zy ?_) | ((apply d_w); first | refine zx ?_ | refine zd ?_) | refine zb fun C => ?_ | refine za1 (by kernel_rfl) (by kernel_rfl) fun C => ?_ | refine zj ?_ | refine zc ?_ | refine ze ?_ | refine zf ?_ | refine zp rfl ?_ | refine zq rfl ?_)
      refine zw ?_; refine ret0 rfl zu1 ⟨?_, rfl⟩; rfl
    by_cases k3 : k = 3
    · subst k3
      rw [show tokOk 3 0 s = textB 39 s by simp [tokOk]]
      repeat' (first | ((apply f_wo); first | ((apply f_gs); first | refine n_sk ?_) | ((apply f_mv); first | (refine zq1 ?_ ?_ <;> intro hG <;> (try cases hG)) | refine zv (v := .c _) ?_ | refine za ?_) | ((apply f_as); first | refine zt (v := .c _) ?_ | refine za ?_) | ((apply f_fa); first | refine n_fa ?_ | refine zx3 ?_) | ((apply f_ld); first | refine zp3 ?_ | refine zs2 ?_ | refine n_ld ?_) | ((apply f_ca); first | refine zk1 (c3) ?_ | refine zh1 (c3) ?_) | ((apply zn1); first | refine zu ?_ | refine zi2 ?_ | refine za ?_) | ((apply zx2); first | refine zb2 ?_ | refine za ?_) | ((apply f_pk); first | refine zg1 (v := .c _) ?_ | refine za ?_) | refine n_bo ?_ | refine za ?_) | ((apply f_w); first | refine zx ?_ | refine zd ?_) | ((apply d_wo); first | ((apply d_gs); first | refine o_sk ?_ | refine zy3 ?_) | ((apply d_bo); (refine o_gm ?_ ?_ <;> intro hG <;> (try cases hG))) | ((apply d_mv); refine zy ?_) | ((apply d_as); refine zy ?_) | ((apply d_fa); first | refine o_fa ?_ | refine zy6 ?_) | ((apply d_ld); first | refine zb5 ?_ | refine zz3 ?_ | refine za4 ?_ | refine zc5 ?_ | refine zy ?_ | refine o_ld ?_) | ((apply d_ca); first | refine zt2 (c3) ?_) | ((apply d_bb); first | refine zr1 ?_ | refine zs1 ?_ | refine zt1 ?_ | refine zu3 ?_ | refine zy ?_) | refine o_bo ?_ | refine zy ?_) | ((apply d_w); first | refine zx ?_ | refine zd ?_) | refine zb fun C => ?_ | refine za1 (by kernel_rfl) (by kernel_rfl) fun C => ?_ | refine zj ?_ | refine zc ?_ | refine ze ?_ | refine zf ?_ | refine zp rfl ?_ | refine zq rfl ?_)
      refine zw ?_; refine ret0 rfl zu1 ⟨?_, rfl⟩; rfl
    by_cases k4 : k = 4
    · subst k4
      rw [show tokOk 4 0 s = (decide (1 ≤ s.size) && textB 47 s) by simp [tokOk, Bool.and_comm]]
      repeat' (first | ((apply f_wo); first | ((apply f_gs); first | refine n_sk ?_) | ((apply f_mv); first | (refine zq1 ?_ ?_ <;> intro hG <;> (try cases hG)) | refine zv (v := .c _) ?_ | refine za ?_) | ((apply f_as); first | refine zt (v := .c _) ?_ | refine za ?_) | ((apply f_fa); first | refine n_fa ?_ | refine zx3 ?_) | ((apply f_ld); first | refine zp3 ?_ | refine zs2 ?_ | refine n_ld ?_) | ((apply f_ca); first | refine zk1 (c4) ?_ | refine zh1 (c4) ?_) | ((apply zn1); first | refine zu ?_ | refine zi2 ?_ | refine za ?_) | ((apply zx2); first | refine zb2 ?_ | refine za ?_) | ((apply f_pk); first | refine zg1 (v := .c _) ?_ | refine za ?_) | refine n_bo ?_ | refine za ?_) | ((apply f_w); first | refine zx ?_ | refine zd ?_) | ((apply d_wo); first | ((apply d_gs); first | refine o_sk ?_ | refine zy3 ?_) | ((apply d_bo); (refine o_gm ?_ ?_ <;> intro hG <;> (try cases hG))) | ((apply d_mv); refine zy ?_) | ((apply d_as); refine zy ?_) | ((apply d_fa); first | refine o_fa ?_ | refine zy6 ?_) | ((apply d_ld); first | refine zb5 ?_ | refine zz3 ?_ | refine za4 ?_ | refine zc5 ?_ | refine zy ?_ | refine o_ld ?_) | ((apply d_ca); first | refine zt2 (c4) ?_) | ((apply d_bb); first | refine zr1 ?_ | refine zs1 ?_ | refine zt1 ?_ | refine zu3 ?_ | refine zy ?_) | refine o_bo ?_ | refine zy ?_) | ((apply d_w); first | refine zx ?_ | refine zd ?_) | refine zb fun C => ?_ | refine za1 (by kernel_rfl) (by kernel_rfl) fun C => ?_ | refine zj ?_ | refine zc ?_ | refine ze ?_ | refine zf ?_ | refine zp rfl ?_ | refine zq rfl ?_)
      refine zw ?_; refine ret0 rfl zu1 ⟨?_, rfl⟩; rfl
    by_cases k5 : k = 5
    · subst k5
      rw [show tokOk 5 0 s = markB s by simp [tokOk], zr17]
      have e0 := zc7 (s := s)
      by_cases hz : s.size = 0
      · rw [decide_eq_true hz] at e0
        rw [show decide (s.size ≠ 0) = false from decide_eq_false (fun h => h hz)]
        repeat' (first | ((apply f_wo); first | ((apply f_gs); first | refine n_sk ?_) | ((apply f_mv); first | (refine zq1 ?_ ?_ <;> intro hG <;> (try cases hG)) | refine zv (v := .c _) ?_ | refine za ?_) | ((apply f_as); first | refine zt (v := .c _) ?_ | refine za ?_) | ((apply f_fa); first | refine n_fa ?_ | refine zx3 ?_) | ((apply f_ld); first | refine zp3 ?_ | refine zs2 ?_ | refine n_ld ?_) | ((apply f_ca); first | refine zk1 (c5) ?_ | refine zh1 (c5) ?_) | ((apply zn1); first | refine zu ?_ | refine zi2 ?_ | refine za ?_) | ((apply zx2); first | refine zb2 ?_ | refine za ?_) | ((apply f_pk); first | refine zg1 (v := .c _) ?_ | refine za ?_) | refine n_bo ?_ | refine za ?_) | ((apply f_w); first | refine zx ?_ | refine zd ?_) | ((apply d_wo); first | ((apply d_gs); first | refine o_sk ?_ | refine zy3 ?_) | ((apply d_bo); (refine o_gm ?_ ?_ <;> intro hG <;> (try cases hG))) | ((apply d_mv); refine zy ?_) | ((apply d_as); refine zy ?_) | ((apply d_fa); first | refine o_fa ?_ | refine zy6 ?_) | ((apply d_ld); first | refine zb5 ?_ | refine zz3 ?_ | refine za4 ?_ | refine zc5 ?_ | refine zy ?_ | refine o_ld ?_) | ((apply d_ca); first | refine zt2 (c5) ?_) | ((apply d_bb); first | refine zr1 ?_ | refine zs1 ?_ | refine zt1 ?_ | refine zu3 ?_ | refine zy ?_) | refine o_bo ?_ | refine zy ?_) | ((apply d_w); first | refine zx ?_ | refine zd ?_) | refine zb fun C => ?_ | refine za1 (by kernel_rfl) (by kernel_rfl) fun C => ?_ | refine zj ?_ | refine zc ?_ | refine ze ?_ | refine zf ?_ | (refine zr (by rfl) ?_ ?_ <;> intro hC <;> (try cases hC)))
        all_goals first
          | (exfalso; rw [e0] at hG; cases hG; done)
          | (refine zw ?_; refine ret0 rfl zu1 ⟨?_, rfl⟩; rfl)
          | (refine zw ?_; refine ret0 rfl zu1 ⟨?_, rfl⟩; rw [e0]; rfl)
      · rw [decide_eq_false hz] at e0
        rw [show decide (s.size ≠ 0) = true from decide_eq_true hz]
        repeat' (first | ((apply f_wo); first | ((apply f_gs); first | refine n_sk ?_) | ((apply f_mv); first | (refine zq1 ?_ ?_ <;> intro hG <;> (try cases hG)) | refine zv (v := .c _) ?_ | refine za ?_) | ((apply f_as); first | refine zt (v := .c _) ?_ | refine za ?_) | ((apply f_fa); first | refine n_fa ?_ | refine zx3 ?_) | ((apply f_ld); first | refine zp3 ?_ | refine zs2 ?_ | refine n_ld ?_) | ((apply f_ca); first | refine zk1 (c5) ?_ | refine zh1 (c5) ?_) | ((apply zn1); first | refine zu ?_ | refine zi2 ?_ | refine za ?_) | ((apply zx2); first | refine zb2 ?_ | refine za ?_) | ((apply f_pk); first | refine zg1 (v := .c _) ?_ | refine za ?_) | refine n_bo ?_ | refine za ?_) | ((apply f_w); first | refine zx ?_ | refine zd ?_) | ((apply d_wo); first | ((apply d_gs); first | refine o_sk ?_ | refine zy3 ?_) | ((apply d_bo); (refine o_gm ?_ ?_ <;> intro hG <;> (try cases hG))) | ((apply d_mv); refine zy ?_) | ((apply d_as); refine zy ?_) | ((apply d_fa); first | refine o_fa ?_ | refine zy6 ?_) | ((apply d_ld); first | refine zb5 ?_ | refine zz3 ?_ | refine za4 ?_ | refine zc5 ?_ | refine zy ?_ | refine o_ld ?_) | ((apply d_ca); first | refine zt2 (c5) ?_) | ((apply d_bb); first | refine zr1 ?_ | refine zs1 ?_ | refine zt1 ?_ | refine zu3 ?_ | refine zy ?_) | refine o_bo ?_ | refine zy ?_) | ((apply d_w); first | refine zx ?_ | refine zd ?_) | refine zb fun C => ?_ | refine za1 (by kernel_rfl) (by kernel_rfl) fun C => ?_ | refine zj ?_ | refine zc ?_ | refine ze ?_ | refine zf ?_ | (refine zr (by rfl) ?_ ?_ <;> intro hC <;> (try cases hC)))
        all_goals first
          | (exfalso; rw [e0] at hG; cases hG; done)
          | (refine zw ?_; refine ret0 rfl zu1 ⟨?_, rfl⟩; rfl)
    · rw [show tokOk k 0 s = false by simp [tokOk, k1, k2, k3, k4, k5]]
      repeat' (first | ((apply f_wo); first | ((apply f_gs); first | refine n_sk ?_) | ((apply f_mv); first | (refine zq1 ?_ ?_ <;> intro hG <;> (try cases hG)) | refine zv (v := .c _) ?_ | refine za ?_) | ((apply f_as); first | refine zt (v := .c _) ?_ | refine za ?_) | ((apply f_fa); first | refine n_fa ?_ | refine zx3 ?_) | ((apply f_ld); first | refine zp3 ?_ | refine zs2 ?_ | refine n_ld ?_) | ((apply zn1); first | refine zu ?_ | refine zi2 ?_ | refine za ?_) | ((apply zx2); first | refine zb2 ?_ | refine za ?_) | ((apply f_pk); first | refine zg1 (v := .c _) ?_ | refine za ?_) | refine n_bo ?_ | refine za ?_) | ((apply f_w); first | refine zx ?_ | refine zd ?_) | ((apply d_wo); first | ((apply d_gs); first | refine o_sk ?_ | refine zy3 ?_) | ((apply d_bo); (refine o_gm ?_ ?_ <;> intro hG <;> (try cases hG))) | ((apply d_mv); refine zy ?_) | ((apply d_as); refine zy ?_) | ((apply d_fa); first | refine o_fa ?_ | refine zy6 ?_) | ((apply d_ld); first | refine zb5 ?_ | refine zz3 ?_ | refine za4 ?_ | refine zc5 ?_ | refine zy ?_ | refine o_ld ?_) | ((apply d_bb); first | refine zr1 ?_ | refine zs1 ?_ | refine zt1 ?_ | refine zu3 ?_ | refine zy ?_) | refine o_bo ?_ | refine zy ?_) | ((apply d_w); first | refine zx ?_ | refine zd ?_) | refine zb fun C => ?_ | refine za1 (by kernel_rfl) (by kernel_rfl) fun C => ?_ | refine zj ?_ | refine zc ?_ | refine ze ?_ | refine zf ?_ | (refine zr (by rfl) ?_ ?_ <;> intro hC <;> (try cases hC)))
      all_goals first
        | (exfalso; simp only [beq_iff_eq] at hC; first | exact k1 hC | exact k2 hC | exact k3 hC | exact k4 hC | exact k5 hC)
        | (refine zw ?_; refine ret0 rfl zu1 ⟨?_, rfl⟩; rfl)
  · have e0 : (n == 0) = false := by simp [hn]
    rw [show tokOk k n s = false by simp [tokOk, k1, hn]]
    repeat' (first | ((apply f_wo); first | ((apply f_gs); first | refine n_sk ?_) | ((apply f_mv); first | (refine zq1 ?_ ?_ <;> intro hG <;> (try cases hG)) | refine zv (v := .c _) ?_ | refine za ?_) | ((apply f_as); first | refine zt (v := .c _) ?_ | refine za ?_) | ((apply f_fa); first | refine n_fa ?_ | refine zx3 ?_) | ((apply f_ld); first | refine zp3 ?_ | refine zs2 ?_ | refine n_ld ?_) | ((apply f_ca); first | refine zk1 (c2) ?_ | refine zh1 (c2) ?_ | refine zk1 (c3) ?_ | refine zh1 (c3) ?_ | refine zk1 (c4) ?_ | refine zh1 (c4) ?_ | refine zk1 (c5) ?_ | refine zh1 (c5) ?_) | ((apply zn1); first | refine zu ?_ | refine zi2 ?_ | refine za ?_) | ((apply zx2); first | refine zb2 ?_ | refine za ?_) | ((apply f_pk); first | refine zg1 (v := .c _) ?_ | refine za ?_) | refine n_bo ?_ | refine za ?_) | ((apply f_w); first | refine zx ?_ | refine zd ?_) | ((apply d_wo); first | ((apply d_gs); first | refine o_sk ?_ | refine zy3 ?_) | ((apply d_bo); (refine o_gm ?_ ?_ <;> intro hG <;> (try cases hG))) | ((apply d_mv); refine zy ?_) | ((apply d_as); refine zy ?_) | ((apply d_fa); first | refine o_fa ?_ | refine zy6 ?_) | ((apply d_ld); first | refine zb5 ?_ | refine zz3 ?_ | refine za4 ?_ | refine zc5 ?_ | refine zy ?_ | refine o_ld ?_) | ((apply d_ca); first | refine zt2 (c2) ?_ | refine zt2 (c3) ?_ | refine zt2 (c4) ?_ | refine zt2 (c5) ?_) | ((apply d_bb); first | refine zr1 ?_ | refine zs1 ?_ | refine zt1 ?_ | refine zu3 ?_ | refine zy ?_) | refine o_bo ?_ | refine zy ?_) | ((apply d_w); first | refine zx ?_ | refine zd ?_) | refine zb fun C => ?_ | refine za1 (by kernel_rfl) (by kernel_rfl) fun C => ?_ | refine zj ?_ | refine zc ?_ | refine ze ?_ | refine zf ?_ | (refine zr (by rfl) ?_ ?_ <;> intro hC <;> (try cases hC)))
    all_goals first
      | (exfalso; rw [e0] at hG; cases hG; done)
      | (exfalso; simp only [beq_iff_eq] at hC; exact k1 hC)
      | (exfalso; simp only [beq_iff_eq] at *; exact hn (by assumption))
      | (refine zw ?_; refine ret0 rfl zu1 ⟨?_, rfl⟩; first | rfl | rw [e0])
set_option maxHeartbeats 4000000 in
theorem zg6 {s : ByteArray} (hs : s.size ≤ 1048576) {k n : Int} : Ctr Tryd.prog 11 [.ag [.v (.int .i64 k), .v (.int .i64 n), .v (.string s)]] [] (.c (.v (.string (tkT k n s)))) [] := by
  have c0 := zg7 hs k n
  unfold tkT
  refine za2 Tryd.func11 rfl rfl ?_
  cases h : tokOk k n s with
  | false =>
    rw [h] at c0
    rw [if_neg (by simp)]
    repeat' (first | ((apply f_wo); first | ((apply f_as); first | refine zt (v := .c _) ?_ | refine za ?_) | ((apply f_fa); first | refine n_fa ?_ | refine zx3 ?_) | ((apply f_ld); first | refine zp3 ?_ | refine zs2 ?_ | refine zq2 ?_ | refine zo3 ?_ | refine n_ld ?_) | ((apply f_ca); first | refine zk1 (c0) ?_ | refine zh1 (c0) ?_) | ((apply zn1); first | refine zu ?_ | refine za ?_) | ((apply zj1); first | refine zg ?_ | refine zi1 ?_ | refine za ?_) | ((apply f_no); first | refine zw2 ?_ | refine za ?_) | refine n_bo ?_ | refine za ?_) | ((apply f_w); first | refine zx ?_ | refine zd ?_) | refine zb fun C => ?_ | refine zj ?_ | refine zc ?_ | refine ze ?_ | refine zf ?_ | refine zp rfl ?_ | refine zq rfl ?_)
    refine zw ?_; refine ret0 rfl zu1 ⟨?_, rfl⟩; rfl
  | true =>
    rw [h] at c0
    rw [if_pos rfl]
    by_cases k1 : k = 1
    · subst k1
      have hn : 0 ≤ n ∧ n ≤ 2147483647 ∧ s.size = 0 := by simpa [tokOk] using h
      have c1 := zc19 (n := n) (by omega) (by omega)
      repeat' (first | ((apply f_wo); first | ((apply f_as); first | refine zt (v := .c _) ?_ | refine za ?_) | ((apply f_fa); first | refine n_fa ?_ | refine zx3 ?_) | ((apply f_ld); first | refine zp3 ?_ | refine zs2 ?_ | refine zq2 ?_ | refine zo3 ?_ | refine n_ld ?_) | ((apply f_ca); first | refine zk1 (c0) ?_ | refine zh1 (c0) ?_ | refine zk1 (c1) ?_ | refine zh1 (c1) ?_) | ((apply zn1); first | refine zu ?_ | refine za ?_) | ((apply zj1); first | refine zg ?_ | refine zi1 ?_ | refine za ?_) | ((apply f_no); first | refine zw2 ?_ | refine za ?_) | refine n_bo ?_ | refine za ?_) | ((apply f_w); first | refine zx ?_ | refine zd ?_) | refine zb fun C => ?_ | refine zj ?_ | refine zc ?_ | refine ze ?_ | refine zf ?_ | refine zp rfl ?_ | refine zq rfl ?_)
      refine zw ?_; refine ret0 rfl zu1 ⟨?_, rfl⟩; rfl
    · rw [if_neg k1]
      by_cases k3 : k = 3
      · subst k3
        repeat' (first | ((apply f_wo); first | ((apply f_as); first | refine zt (v := .c _) ?_ | refine za ?_) | ((apply f_fa); first | refine n_fa ?_ | refine zx3 ?_) | ((apply f_ld); first | refine zp3 ?_ | refine zs2 ?_ | refine zq2 ?_ | refine zo3 ?_ | refine n_ld ?_) | ((apply f_ca); first | refine zk1 (c0) ?_ | refine zh1 (c0) ?_) | ((apply zn1); first | refine zu ?_ | refine za ?_) | ((apply zj1); first | refine zg ?_ | refine zi1 ?_ | refine za ?_) | ((apply f_no); first | refine zw2 ?_ | refine za ?_) | refine n_bo ?_ | refine za ?_) | ((apply f_w); first | refine zx ?_ | refine zd ?_) | refine zb fun C => ?_ | refine zj ?_ | refine zc ?_ | refine ze ?_ | refine zf ?_ | refine zp rfl ?_ | refine zq rfl ?_)
        refine zw ?_; refine ret0 rfl zu1 ⟨?_, rfl⟩; rfl
      · rw [if_neg k3]
        by_cases k4 : k = 4
        · subst k4
          repeat' (first | ((apply f_wo); first | ((apply f_as); first | refine zt (v := .c _) ?_ | refine za ?_) | ((apply f_fa); first | refine n_fa ?_ | refine zx3 ?_) | ((apply f_ld); first | refine zp3 ?_ | refine zs2 ?_ | refine zq2 ?_ | refine zo3 ?_ | refine n_ld ?_) | ((apply f_ca); first | refine zk1 (c0) ?_ | refine zh1 (c0) ?_) | ((apply zn1); first | refine zu ?_ | refine za ?_) | ((apply zj1); first | refine zg ?_ | refine zi1 ?_ | refine za ?_) | ((apply f_no); first | refine zw2 ?_ | refine za ?_) | refine n_bo ?_ | refine za ?_) | ((apply f_w); first | refine zx ?_ | refine zd ?_) | refine zb fun C => ?_ | refine zj ?_ | refine zc ?_ | refine ze ?_ | refine zf ?_ | refine zp rfl ?_ | refine zq rfl ?_)
          refine zw ?_; refine ret0 rfl zu1 ⟨?_, rfl⟩; rfl
        · rw [if_neg k4]
          repeat' (first | ((apply f_wo); first | ((apply f_as); first | refine zt (v := .c _) ?_ | refine za ?_) | ((apply f_fa); first | refine n_fa ?_ | refine zx3 ?_) | ((apply f_ld); first | refine zp3 ?_ | refine zs2 ?_ | refine zq2 ?_ | refine zo3 ?_ | refine n_ld ?_) | ((apply f_ca); first | refine zk1 (c0) ?_ | refine zh1 (c0) ?_) | ((apply zn1); first | refine zu ?_ | refine za ?_) | ((apply zj1); first | refine zg ?_ | refine zi1 ?_ | refine za ?_) | ((apply f_no); first | refine zw2 ?_ | refine za ?_) | refine n_bo ?_ | refine za ?_) | ((apply f_w); first | refine zx ?_ | refine zd ?_) | refine zb fun C => ?_ | refine zj ?_ | refine zc ?_ | refine ze ?_ | refine zf ?_ | (refine zr (by rfl) ?_ ?_ <;> intro hC <;> (try cases hC)))
          all_goals first
            | (exfalso; simp only [beq_iff_eq] at hC; first | exact k1 hC | exact k3 hC | exact k4 hC)
            | (refine zw ?_; refine ret0 rfl zu1 ⟨?_, rfl⟩; rfl)
end Go.Proofs.YtnlgmojciplnoaaDoor
