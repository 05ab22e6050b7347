/- TokenOk and TokenText of the program; tokens joined. -/
import Derived.Test.YtnlgmojciplnoaaDoorLxdPP
namespace Go.Proofs.YtnlgmojciplnoaaDoor
open Go.RowKit
set_option maxRecDepth 100000
theorem zd16 {s : ByteArray} : markB s = (decide (s.size ≠ 0) && ((markS s).toList == s.toList)) := by
  have key : ∀ n, s.size = n → cutB s 0 n = s := fun n hn => by
    subst hn
    have hz := zk2 (s := s) (a := 0) (b := s.size) (by omega) (Nat.le_refl _)
    refine zd6 (by omega) fun j hj => ?_
    rw [zl4 (Nat.le_refl _) (by omega), Nat.zero_add]
  rw [zr5]
  unfold markS
  by_cases h6 : 2 ≤ s.size ∧ sixB (bAt s 0) (bAt s 1) = true
  · rw [if_pos h6]
    by_cases hz : s.size = 2
    · rw [key 2 hz]; simp [markB, hz, h6.2]
    · have : ¬ cutB s 0 2 = s := fun e => by
        have h2 := zk2 (s := s) (a := 0) (b := 2) (by omega) h6.1
        rw [e] at h2; omega
      simp only [markB, this, decide_false, Bool.and_false]
      have hz1 : ¬ s.size = 1 := by omega
      simp [hz, hz1]
  · rw [if_neg h6]
    have hm : markB s = (decide (s.size = 1) && oneB (bAt s 0)) := by
      unfold markB
      by_cases hz : s.size = 2
      · have : sixB (bAt s 0) (bAt s 1) = false := by
          cases hb : sixB (bAt s 0) (bAt s 1) with
          | false => rfl
          | true => exact absurd ⟨by omega, hb⟩ h6
        simp [hz, this]
      · simp [hz]
    rw [hm]
    by_cases h1 : 1 ≤ s.size ∧ oneB (bAt s 0) = true
    · rw [if_pos h1]
      by_cases hz : s.size = 1
      · rw [key 1 hz]; simp [hz, h1.2]
      · have : ¬ cutB s 0 1 = s := fun e => by
          have h2 := zk2 (s := s) (a := 0) (b := 1) (by omega) h1.1
          rw [e] at h2; omega
        simp [hz, this]
    · rw [if_neg h1]
      by_cases hz : s.size = 0
      · simp [hz]
      · have : ¬ ByteArray.empty = s := fun e => by rw [← e] at hz; exact hz rfl
        have h3 : s.size = 1 → oneB (bAt s 0) = false := fun h => by
          cases hb : oneB (bAt s 0) with
          | false => rfl
          | true => exact absurd ⟨by omega, hb⟩ h1
        by_cases hz1 : s.size = 1
        · simp [hz1, h3 hz1, this]
        · simp [hz1, this]
set_option maxHeartbeats 4000000 in
theorem zm6 {s : ByteArray} (hs : s.size ≤ 1048576) (k n : Int) : Ctr Tryd.prog 10 [.ag [.v (.int .i64 k), .v (.int .i64 n), .v (.string s)]] [] (.c (.v (.bool (tokOk k n s)))) [] := by
  have c1 := zb7 n 0 2147483647
  have c2 := zm17 hs
  have c3 := za12 hs
  have c4 := zx7 hs
  have c5 := zh12 hs
  refine zf2 Tryd.func10 rfl rfl ?_
  by_cases k1 : k = 1
  · subst k1
    rw [show tokOk 1 n s = (inR n 0 2147483647 && decide (s.size = 0)) by simp [tokOk, inR, Bool.and_assoc]]
    generalize inR n 0 2147483647 = b at c1 ⊢
    cases b
    · repeat' (first | ((apply f_wo); first | ((apply f_gs); first | refine n_sk ?_) | ((apply f_mv); first | (refine zx1 ?_ ?_ <;> intro hG <;> (try cases hG)) | refine zw (v := .c _) ?_ | refine za ?_) | ((apply f_as); first | refine zv (v := .c _) ?_ | refine za ?_) | ((apply f_fa); first | refine n_fa ?_ | refine zh5 ?_) | ((apply f_ld); first | refine zp3 ?_ | refine za3 ?_ | refine n_ld ?_) | ((apply f_ca); first | refine zn1 (c1) ?_ | refine zm1 (c1) ?_) | ((apply zb2); first | refine zk1 ?_ | refine zf4 ?_ | refine za ?_) | ((apply zz2); first | refine zv1 ?_ | refine za ?_) | ((apply f_pk); first | refine zg1 (v := .c _) ?_ | refine za ?_) | refine n_bo ?_ | refine za ?_) | ((apply f_w); first | refine zx ?_ | refine zc ?_) | ((apply d_wo); first | ((apply d_gs); first | refine o_sk ?_ | refine zs3 ?_) | ((apply d_bo); (refine o_gm ?_ ?_ <;> intro hG <;> (try cases hG))) | ((apply d_mv); refine zp ?_) | ((apply d_as); refine zp ?_) | ((apply d_fa); first | refine o_fa ?_ | refine zi6 ?_) | ((apply d_ld); first | refine zf5 ?_ | refine zb4 ?_ | refine zc4 ?_ | refine zg5 ?_ | refine zp ?_ | refine o_ld ?_) | ((apply d_ca); first | refine zi2 (c1) ?_) | ((apply d_bb); first | refine zh1 ?_ | refine zi1 ?_ | refine zj1 ?_ | refine zk3 ?_ | refine zp ?_) | refine o_bo ?_ | refine zp ?_) | ((apply d_w); first | refine zx ?_ | refine zc ?_) | refine zb fun C => ?_ | refine zt (by kernel_rfl) (by kernel_rfl) fun C => ?_ | refine zl ?_ | refine zd ?_ | refine zf ?_ | refine zg ?_ | refine zq rfl ?_ | refine zr rfl ?_)
      refine zy ?_; refine ret0 rfl zc2 ⟨?_, rfl⟩; rfl
    · rw [← zf7]
      repeat' (first | ((apply f_wo); first | ((apply f_gs); first | refine n_sk ?_) | ((apply f_mv); first | (refine zx1 ?_ ?_ <;> intro hG <;> (try cases hG)) | refine zw (v := .c _) ?_ | refine za ?_) | ((apply f_as); first | refine zv (v := .c _) ?_ | refine za ?_) | ((apply f_fa); first | refine n_fa ?_ | refine zh5 ?_) | ((apply f_ld); first | refine zp3 ?_ | refine za3 ?_ | refine n_ld ?_) | ((apply f_ca); first | refine zn1 (c1) ?_ | refine zm1 (c1) ?_) | ((apply zb2); first | refine zk1 ?_ | refine zf4 ?_ | refine za ?_) | ((apply zz2); first | refine zv1 ?_ | refine za ?_) | ((apply f_pk); first | refine zg1 (v := .c _) ?_ | refine za ?_) | refine n_bo ?_ | refine za ?_) | ((apply f_w); first | refine zx ?_ | refine zc ?_) | ((apply d_wo); first | ((apply d_gs); first | refine o_sk ?_ | refine zs3 ?_) | ((apply d_bo); (refine o_gm ?_ ?_ <;> intro hG <;> (try cases hG))) | ((apply d_mv); refine zp ?_) | ((apply d_as); refine zp ?_) | ((apply d_fa); first | refine o_fa ?_ | refine zi6 ?_) | ((apply d_ld); first | refine zf5 ?_ | refine zb4 ?_ | refine zc4 ?_ | refine zg5 ?_ | refine zp ?_ | refine o_ld ?_) | ((apply d_ca); first | refine zi2 (c1) ?_) | ((apply d_bb); first | refine zh1 ?_ | refine zi1 ?_ | refine zj1 ?_ | refine zk3 ?_ | refine zp ?_) | refine o_bo ?_ | refine zp ?_) | ((apply d_w); first | refine zx ?_ | refine zc ?_) | refine zb fun C => ?_ | refine zt (by kernel_rfl) (by kernel_rfl) fun C => ?_ | refine zl ?_ | refine zd ?_ | refine zf ?_ | refine zg ?_ | refine zq rfl ?_ | refine zr rfl ?_)
      refine zy ?_; refine ret0 rfl zc2 ⟨?_, rfl⟩; rfl
  by_cases hn : n = 0
  · subst hn
    by_cases k2 : k = 2
    · subst k2
      rw [show tokOk 2 0 s = nameW s by simp [tokOk]]
      repeat' (first | ((apply f_wo); first | ((apply f_gs); first | refine n_sk ?_) | ((apply f_mv); first | (refine zx1 ?_ ?_ <;> intro hG <;> (try cases hG)) | refine zw (v := .c _) ?_ | refine za ?_) | ((apply f_as); first | refine zv (v := .c _) ?_ | refine za ?_) | ((apply f_fa); first | refine n_fa ?_ | refine zh5 ?_) | ((apply f_ld); first | refine zp3 ?_ | refine za3 ?_ | refine n_ld ?_) | ((apply f_ca); first | refine zn1 (c2) ?_ | refine zm1 (c2) ?_) | ((apply zb2); first | refine zk1 ?_ | refine zf4 ?_ | refine za ?_) | ((apply zz2); first | refine zv1 ?_ | refine za ?_) | ((apply f_pk); first | refine zg1 (v := .c _) ?_ | refine za ?_) | refine n_bo ?_ | refine za ?_) | ((apply f_w); first | refine zx ?_ | refine zc ?_) | ((apply d_wo); first | ((apply d_gs); first | refine o_sk ?_ | refine zs3 ?_) | ((apply d_bo); (refine o_gm ?_ ?_ <;> intro hG <;> (try cases hG))) | ((apply d_mv); refine zp ?_) | ((apply d_as); refine zp ?_) | ((apply d_fa); first | refine o_fa ?_ | refine zi6 ?_) | ((apply d_ld); first | refine zf5 ?_ | refine zb4 ?_ | refine zc4 ?_ | refine zg5 ?_ | refine zp ?_ | refine o_ld ?_) | ((apply d_ca); first | refine zi2 (c2) ?_) | ((apply d_bb); first | refine zh1 ?_ | refine zi1 ?_ | refine zj1 ?_ | refine zk3 ?_ | refine zp ?_) | refine o_bo ?_ | refine zp ?_) | ((apply d_w); first | refine zx ?_ | refine zc ?_) | refine zb fun C => ?_ | refine zt (by kernel_rfl) (by kernel_rfl) fun C => ?_ | refine zl ?_ | refine zd ?_ | refine zf ?_ | refine zg ?_ | refine zq rfl ?_ | refine zr rfl ?_)
      refine zy ?_; refine ret0 rfl zc2 ⟨?_, rfl⟩; rfl
    by_cases k3 : k = 3
    · subst k3
      rw [show tokOk 3 0 s = textB 39 s by simp [tokOk]]
      repeat' (first | ((apply f_wo); first | ((apply f_gs); first | refine n_sk ?_) | ((apply f_mv); first | (refine zx1 ?_ ?_ <;> intro hG <;> (try cases hG)) | refine zw (v := .c _) ?_ | refine za ?_) | ((apply f_as); first | refine zv (v := .c _) ?_ | refine za ?_) | ((apply f_fa); first | refine n_fa ?_ | refine zh5 ?_) | ((apply f_ld); first | refine zp3 ?_ | refine za3 ?_ | refine n_ld ?_) | ((apply f_ca); first | refine zn1 (c3) ?_ | refine zm1 (c3) ?_) | ((apply zb2); first | refine zk1 ?_ | refine zf4 ?_ | refine za ?_) | ((apply zz2); first | refine zv1 ?_ | refine za ?_) | ((apply f_pk); first | refine zg1 (v := .c _) ?_ | refine za ?_) | refine n_bo ?_ | refine za ?_) | ((apply f_w); first | refine zx ?_ | refine zc ?_) | ((apply d_wo); first | ((apply d_gs); first | refine o_sk ?_ | refine zs3 ?_) | ((apply d_bo); (refine o_gm ?_ ?_ <;> intro hG <;> (try cases hG))) | ((apply d_mv); refine zp ?_) | ((apply d_as); refine zp ?_) | ((apply d_fa); first | refine o_fa ?_ | refine zi6 ?_) | ((apply d_ld); first | refine zf5 ?_ | refine zb4 ?_ | refine zc4 ?_ | refine zg5 ?_ | refine zp ?_ | refine o_ld ?_) | ((apply d_ca); first | refine zi2 (c3) ?_) | ((apply d_bb); first | refine zh1 ?_ | refine zi1 ?_ | refine zj1 ?_ | refine zk3 ?_ | refine zp ?_) | refine o_bo ?_ | refine zp ?_) | ((apply d_w); first | refine zx ?_ | refine zc ?_) | refine zb fun C => ?_ | refine zt (by kernel_rfl) (by kernel_rfl) fun C => ?_ | refine zl ?_ | refine zd ?_ | refine zf ?_ | refine zg ?_ | refine zq rfl ?_ | refine zr rfl ?_)
      refine zy ?_; refine ret0 rfl zc2 ⟨?_, rfl⟩; rfl
    by_cases k4 : k = 4
    · subst k4
      rw [show tokOk 4 0 s = (decide (1 ≤ s.size) && textB 47 s) by simp [tokOk, Bool.and_comm]]
      repeat' (first | ((apply f_wo); first | ((apply f_gs); first | refine n_sk ?_) | ((apply f_mv); first | (refine zx1 ?_ ?_ <;> intro hG <;> (try cases hG)) | refine zw (v := .c _) ?_ | refine za ?_) | ((apply f_as); first | refine zv (v := .c _) ?_ | refine za ?_) | ((apply f_fa); first | refine n_fa ?_ | refine zh5 ?_) | ((apply f_ld); first | refine zp3 ?_ | refine za3 ?_ | refine n_ld ?_) | ((apply f_ca); first | refine zn1 (c4) ?_ | refine zm1 (c4) ?_) | ((apply zb2); first | refine zk1 ?_ | refine zf4 ?_ | refine za ?_) | ((apply zz2); first | refine zv1 ?_ | refine za ?_) | ((apply f_pk); first | refine zg1 (v := .c _) ?_ | refine za ?_) | refine n_bo ?_ | refine za ?_) | ((apply f_w); first | refine zx ?_ | refine zc ?_) | ((apply d_wo); first | ((apply d_gs); first | refine o_sk ?_ | refine zs3 ?_) | ((apply d_bo); (refine o_gm ?_ ?_ <;> intro hG <;> (try cases hG))) | ((apply d_mv); refine zp ?_) | ((apply d_as); refine zp ?_) | ((apply d_fa); first | refine o_fa ?_ | refine zi6 ?_) | ((apply d_ld); first | refine zf5 ?_ | refine zb4 ?_ | refine zc4 ?_ | refine zg5 ?_ | refine zp ?_ | refine o_ld ?_) | ((apply d_ca); first | refine zi2 (c4) ?_) | ((apply d_bb); first | refine zh1 ?_ | refine zi1 ?_ | refine zj1 ?_ | refine zk3 ?_ | refine zp ?_) | refine o_bo ?_ | refine zp ?_) | ((apply d_w); first | refine zx ?_ | refine zc ?_) | refine zb fun C => ?_ | refine zt (by kernel_rfl) (by kernel_rfl) fun C => ?_ | refine zl ?_ | refine zd ?_ | refine zf ?_ | refine zg ?_ | refine zq rfl ?_ | refine zr rfl ?_)
      refine zy ?_; refine ret0 rfl zc2 ⟨?_, rfl⟩; rfl
    by_cases k5 : k = 5
    · subst k5
      rw [show tokOk 5 0 s = markB s by simp [tokOk], zd16]
      have e0 := zf7 (s := s)
      by_cases hz : s.size = 0
      · rw [decide_eq_true hz] at e0
        rw [show decide (s.size ≠ 0) = false from decide_eq_false (fun h => h hz)]
        repeat' (first | ((apply f_wo); first | ((apply f_gs); first | refine n_sk ?_) | ((apply f_mv); first | (refine zx1 ?_ ?_ <;> intro hG <;> (try cases hG)) | refine zw (v := .c _) ?_ | refine za ?_) | ((apply f_as); first | refine zv (v := .c _) ?_ | refine za ?_) | ((apply f_fa); first | refine n_fa ?_ | refine zh5 ?_) | ((apply f_ld); first | refine zp3 ?_ | refine za3 ?_ | refine n_ld ?_) | ((apply f_ca); first | refine zn1 (c5) ?_ | refine zm1 (c5) ?_) | ((apply zb2); first | refine zk1 ?_ | refine zf4 ?_ | refine za ?_) | ((apply zz2); first | refine zv1 ?_ | refine za ?_) | ((apply f_pk); first | refine zg1 (v := .c _) ?_ | refine za ?_) | refine n_bo ?_ | refine za ?_) | ((apply f_w); first | refine zx ?_ | refine zc ?_) | ((apply d_wo); first | ((apply d_gs); first | refine o_sk ?_ | refine zs3 ?_) | ((apply d_bo); (refine o_gm ?_ ?_ <;> intro hG <;> (try cases hG))) | ((apply d_mv); refine zp ?_) | ((apply d_as); refine zp ?_) | ((apply d_fa); first | refine o_fa ?_ | refine zi6 ?_) | ((apply d_ld); first | refine zf5 ?_ | refine zb4 ?_ | refine zc4 ?_ | refine zg5 ?_ | refine zp ?_ | refine o_ld ?_) | ((apply d_ca); first | refine zi2 (c5) ?_) | ((apply d_bb); first | refine zh1 ?_ | refine zi1 ?_ | refine zj1 ?_ | refine zk3 ?_ | refine zp ?_) | refine o_bo ?_ | refine zp ?_) | ((apply d_w); first | refine zx ?_ | refine zc ?_) | refine zb fun C => ?_ | refine zt (by kernel_rfl) (by kernel_rfl) fun C => ?_ | refine zl ?_ | refine zd ?_ | refine zf ?_ | refine zg ?_ | (refine zu (by rfl) ?_ ?_ <;> intro hC <;> (try cases hC)))
        all_goals first
          | (exfalso; rw [e0] at hG; cases hG; done)
          | (refine zy ?_; refine ret0 rfl zc2 ⟨?_, rfl⟩; rfl)
          | (refine zy ?_; refine ret0 rfl zc2 ⟨?_, rfl⟩; rw [e0]; rfl)
      · rw [decide_eq_false hz] at e0
        rw [show decide (s.size ≠ 0) = true from decide_eq_true hz]
        repeat' (first | ((apply f_wo); first | ((apply f_gs); first | refine n_sk ?_) | ((apply f_mv); first | (refine zx1 ?_ ?_ <;> intro hG <;> (try cases hG)) | refine zw (v := .c _) ?_ | refine za ?_) | ((apply f_as); first | refine zv (v := .c _) ?_ | refine za ?_) | ((apply f_fa); first | refine n_fa ?_ | refine zh5 ?_) | ((apply f_ld); first | refine zp3 ?_ | refine za3 ?_ | refine n_ld ?_) | ((apply f_ca); first | refine zn1 (c5) ?_ | refine zm1 (c5) ?_) | ((apply zb2); first | refine zk1 ?_ | refine zf4 ?_ | refine za ?_) | ((apply zz2); first | refine zv1 ?_ | refine za ?_) | ((apply f_pk); first | refine zg1 (v := .c _) ?_ | refine za ?_) | refine n_bo ?_ | refine za ?_) | ((apply f_w); first | refine zx ?_ | refine zc ?_) | ((apply d_wo); first | ((apply d_gs); first | refine o_sk ?_ | refine zs3 ?_) | ((apply d_bo); (refine o_gm ?_ ?_ <;> intro hG <;> (try cases hG))) | ((apply d_mv); refine zp ?_) | ((apply d_as); refine zp ?_) | ((apply d_fa); first | refine o_fa ?_ | refine zi6 ?_) | ((apply d_ld); first | refine zf5 ?_ | refine zb4 ?_ | refine zc4 ?_ | refine zg5 ?_ | refine zp ?_ | refine o_ld ?_) | ((apply d_ca); first | refine zi2 (c5) ?_) | ((apply d_bb); first | refine zh1 ?_ | refine zi1 ?_ | refine zj1 ?_ | refine zk3 ?_ | refine zp ?_) | refine o_bo ?_ | refine zp ?_) | ((apply d_w); first | refine zx ?_ | refine zc ?_) | refine zb fun C => ?_ | refine zt (by kernel_rfl) (by kernel_rfl) fun C => ?_ | refine zl ?_ | refine zd ?_ | refine zf ?_ | refine zg ?_ | (refine zu (by rfl) ?_ ?_ <;> intro hC <;> (try cases hC)))
        all_goals first
          | (exfalso; rw [e0] at hG; cases hG; done)
          | (refine zy ?_; refine ret0 rfl zc2 ⟨?_, rfl⟩; rfl)
    · rw [show tokOk k 0 s = false by simp [tokOk, k1, k2, k3, k4, k5]]
      repeat' (first | ((apply f_wo); first | ((apply f_gs); first | refine n_sk ?_) | ((apply f_mv); first | (refine zx1 ?_ ?_ <;> intro hG <;> (try cases hG)) | refine zw (v := .c _) ?_ | refine za ?_) | ((apply f_as); first | refine zv (v := .c _) ?_ | refine za ?_) | ((apply f_fa); first | refine n_fa ?_ | refine zh5 ?_) | ((apply f_ld); first | refine zp3 ?_ | refine za3 ?_ | refine n_ld ?_) | ((apply zb2); first | refine zk1 ?_ | refine zf4 ?_ | refine za ?_) | ((apply zz2); first | refine zv1 ?_ | refine za ?_) | ((apply f_pk); first | refine zg1 (v := .c _) ?_ | refine za ?_) | refine n_bo ?_ | refine za ?_) | ((apply f_w); first | refine zx ?_ | refine zc ?_) | ((apply d_wo); first | ((apply d_gs); first | refine o_sk ?_ | refine zs3 ?_) | ((apply d_bo); (refine o_gm ?_ ?_ <;> intro hG <;> (try cases hG))) | ((apply d_mv); refine zp ?_) | ((apply d_as); refine zp ?_) | ((apply d_fa); first | refine o_fa ?_ | refine zi6 ?_) | ((apply d_ld); first | refine zf5 ?_ | refine zb4 ?_ | refine zc4 ?_ | refine zg5 ?_ | refine zp ?_ | refine o_ld ?_) | ((apply d_bb); first | refine zh1 ?_ | refine zi1 ?_ | refine zj1 ?_ | refine zk3 ?_ | refine zp ?_) | refine o_bo ?_ | refine zp ?_) | ((apply d_w); first | refine zx ?_ | refine zc ?_) | refine zb fun C => ?_ | refine zt (by kernel_rfl) (by kernel_rfl) fun C => ?_ | refine zl ?_ | refine zd ?_ | refine zf ?_ | refine zg ?_ | (refine zu (by rfl) ?_ ?_ <;> intro hC <;> (try cases hC)))
      all_goals first
        | (exfalso; simp only [beq_iff_eq] at hC; first | exact k1 hC | exact k2 hC | exact k3 hC | exact k4 hC | exact k5 hC)
        | (refine zy ?_; refine ret0 rfl zc2 ⟨?_, rfl⟩; rfl)
  · have e0 : (n == 0) = false := by simp [hn]
    rw [show tokOk k n s = false by simp [tokOk, k1, hn]]
    repeat' (first | ((apply f_wo); first | ((apply f_gs); first | refine n_sk ?_) | ((apply f_mv); first | (refine zx1 ?_ ?_ <;> intro hG <;> (try cases hG)) | refine zw (v := .c _) ?_ | refine za ?_) | ((apply f_as); first | refine zv (v := .c _) ?_ | refine za ?_) | ((apply f_fa); first | refine n_fa ?_ | refine zh5 ?_) | ((apply f_ld); first | refine zp3 ?_ | refine za3 ?_ | refine n_ld ?_) | ((apply f_ca); first | refine zn1 (c2) ?_ | refine zm1 (c2) ?_ | refine zn1 (c3) ?_ | refine zm1 (c3) ?_ | refine zn1 (c4) ?_ | refine zm1 (c4) ?_ | refine zn1 (c5) ?_ | refine zm1 (c5) ?_) | ((apply zb2); first | refine zk1 ?_ | refine zf4 ?_ | refine za ?_) | ((apply zz2); first | refine zv1 ?_ | refine za ?_) | ((apply f_pk); first | refine zg1 (v := .c _) ?_ | refine za ?_) | refine n_bo ?_ | refine za ?_) | ((apply f_w); first | refine zx ?_ | refine zc ?_) | ((apply d_wo); first | ((apply d_gs); first | refine o_sk ?_ | refine zs3 ?_) | ((apply d_bo); (refine o_gm ?_ ?_ <;> intro hG <;> (try cases hG))) | ((apply d_mv); refine zp ?_) | ((apply d_as); refine zp ?_) | ((apply d_fa); first | refine o_fa ?_ | refine zi6 ?_) | ((apply d_ld); first | refine zf5 ?_ | refine zb4 ?_ | refine zc4 ?_ | refine zg5 ?_ | refine zp ?_ | refine o_ld ?_) | ((apply d_ca); first | refine zi2 (c2) ?_ | refine zi2 (c3) ?_ | refine zi2 (c4) ?_ | refine zi2 (c5) ?_) | ((apply d_bb); first | refine zh1 ?_ | refine zi1 ?_ | refine zj1 ?_ | refine zk3 ?_ | refine zp ?_) | refine o_bo ?_ | refine zp ?_) | ((apply d_w); first | refine zx ?_ | refine zc ?_) | refine zb fun C => ?_ | refine zt (by kernel_rfl) (by kernel_rfl) fun C => ?_ | refine zl ?_ | refine zd ?_ | refine zf ?_ | refine zg ?_ | (refine zu (by rfl) ?_ ?_ <;> intro hC <;> (try cases hC)))
    all_goals first
      | (exfalso; rw [e0] at hG; cases hG; done)
      | (exfalso; simp only [beq_iff_eq] at hC; exact k1 hC)
      | (exfalso; simp only [beq_iff_eq] at *; exact hn (by assumption))
      | (refine zy ?_; refine ret0 rfl zc2 ⟨?_, rfl⟩; first | rfl | rw [e0])
set_option maxHeartbeats 4000000 in
theorem zs5 {s : ByteArray} (hs : s.size ≤ 1048576) {k n : Int} : Ctr Tryd.prog 11 [.ag [.v (.int .i64 k), .v (.int .i64 n), .v (.string s)]] [] (.c (.v (.string (tkT k n s)))) [] := by
  have c0 := zm6 hs k n
  unfold tkT
  refine zf2 Tryd.func11 rfl rfl ?_
  cases h : tokOk k n s with
  | false =>
    rw [h] at c0
    rw [if_neg (by simp)]
    repeat' (first | ((apply f_wo); first | ((apply f_as); first | refine zv (v := .c _) ?_ | refine za ?_) | ((apply f_fa); first | refine n_fa ?_ | refine zh5 ?_) | ((apply f_ld); first | refine zp3 ?_ | refine za3 ?_ | refine zr2 ?_ | refine zm3 ?_ | refine n_ld ?_) | ((apply f_ca); first | refine zn1 (c0) ?_ | refine zm1 (c0) ?_) | ((apply zb2); first | refine zk1 ?_ | refine za ?_) | ((apply zt1); first | refine zi ?_ | refine zs1 ?_ | refine za ?_) | ((apply f_no); first | refine zl3 ?_ | refine za ?_) | refine n_bo ?_ | refine za ?_) | ((apply f_w); first | refine zx ?_ | refine zc ?_) | refine zb fun C => ?_ | refine zl ?_ | refine zd ?_ | refine zf ?_ | refine zg ?_ | refine zq rfl ?_ | refine zr rfl ?_)
    refine zy ?_; refine ret0 rfl zc2 ⟨?_, rfl⟩; rfl
  | true =>
    rw [h] at c0
    rw [if_pos rfl]
    by_cases k1 : k = 1
    · subst k1
      have hn : 0 ≤ n ∧ n ≤ 2147483647 ∧ s.size = 0 := by simpa [tokOk] using h
      have c1 := zo17 (n := n) (by omega) (by omega)
      repeat' (first | ((apply f_wo); first | ((apply f_as); first | refine zv (v := .c _) ?_ | refine za ?_) | ((apply f_fa); first | refine n_fa ?_ | refine zh5 ?_) | ((apply f_ld); first | refine zp3 ?_ | refine za3 ?_ | refine zr2 ?_ | refine zm3 ?_ | refine n_ld ?_) | ((apply f_ca); first | refine zn1 (c0) ?_ | refine zm1 (c0) ?_ | refine zn1 (c1) ?_ | refine zm1 (c1) ?_) | ((apply zb2); first | refine zk1 ?_ | refine za ?_) | ((apply zt1); first | refine zi ?_ | refine zs1 ?_ | refine za ?_) | ((apply f_no); first | refine zl3 ?_ | refine za ?_) | refine n_bo ?_ | refine za ?_) | ((apply f_w); first | refine zx ?_ | refine zc ?_) | refine zb fun C => ?_ | refine zl ?_ | refine zd ?_ | refine zf ?_ | refine zg ?_ | refine zq rfl ?_ | refine zr rfl ?_)
      refine zy ?_; refine ret0 rfl zc2 ⟨?_, rfl⟩; rfl
    · rw [if_neg k1]
      by_cases k3 : k = 3
      · subst k3
        repeat' (first | ((apply f_wo); first | ((apply f_as); first | refine zv (v := .c _) ?_ | refine za ?_) | ((apply f_fa); first | refine n_fa ?_ | refine zh5 ?_) | ((apply f_ld); first | refine zp3 ?_ | refine za3 ?_ | refine zr2 ?_ | refine zm3 ?_ | refine n_ld ?_) | ((apply f_ca); first | refine zn1 (c0) ?_ | refine zm1 (c0) ?_) | ((apply zb2); first | refine zk1 ?_ | refine za ?_) | ((apply zt1); first | refine zi ?_ | refine zs1 ?_ | refine za ?_) | ((apply f_no); first | refine zl3 ?_ | refine za ?_) | refine n_bo ?_ | refine za ?_) | ((apply f_w); first | refine zx ?_ | refine zc ?_) | refine zb fun C => ?_ | refine zl ?_ | refine zd ?_ | refine zf ?_ | refine zg ?_ | refine zq rfl ?_ | refine zr rfl ?_)
        refine zy ?_; refine ret0 rfl zc2 ⟨?_, rfl⟩; rfl
      · rw [if_neg k3]
        by_cases k4 : k = 4
        · subst k4
          repeat' (first | ((apply f_wo); first | ((apply f_as); first | refine zv (v := .c _) ?_ | refine za ?_) | ((apply f_fa); first | refine n_fa ?_ | refine zh5 ?_) | ((apply f_ld); first | refine zp3 ?_ | refine za3 ?_ | refine zr2 ?_ | refine zm3 ?_ | refine n_ld ?_) | ((apply f_ca); first | refine zn1 (c0) ?_ | refine zm1 (c0) ?_) | ((apply zb2); first | refine zk1 ?_ | refine za ?_) | ((apply zt1); first | refine zi ?_ | refine zs1 ?_ | refine za ?_) | ((apply f_no); first | refine zl3 ?_ | refine za ?_) | refine n_bo ?_ | refine za ?_) | ((apply f_w); first | refine zx ?_ | refine zc ?_) | refine zb fun C => ?_ | refine zl ?_ | refine zd ?_ | refine zf ?_ | refine zg ?_ | refine zq rfl ?_ | refine zr rfl ?_)
          refine zy ?_; refine ret0 rfl zc2 ⟨?_, rfl⟩; rfl
        · rw [if_neg k4]
          repeat' (first | ((apply f_wo); first | ((apply f_as); first | refine zv (v := .c _) ?_ | refine za ?_) | ((apply f_fa); first | refine n_fa ?_ | refine zh5 ?_) | ((apply f_ld); first | refine zp3 ?_ | refine za3 ?_ | refine zr2 ?_ | refine zm3 ?_ | refine n_ld ?_) | ((apply f_ca); first | refine zn1 (c0) ?_ | refine zm1 (c0) ?_) | ((apply zb2); first | refine zk1 ?_ | refine za ?_) | ((apply zt1); first | refine zi ?_ | refine zs1 ?_ | refine za ?_) | ((apply f_no); first | refine zl3 ?_ | refine za ?_) | refine n_bo ?_ | refine za ?_) | ((apply f_w); first | refine zx ?_ | refine zc ?_) | refine zb fun C => ?_ | refine zl ?_ | refine zd ?_ | refine zf ?_ | refine zg ?_ | (refine zu (by rfl) ?_ ?_ <;> intro hC <;> (try cases hC)))
          all_goals first
            | (exfalso; simp only [beq_iff_eq] at hC; first | exact k1 hC | exact k3 hC | exact k4 hC)
            | (refine zy ?_; refine ret0 rfl zc2 ⟨?_, rfl⟩; rfl)
end Go.Proofs.YtnlgmojciplnoaaDoor
