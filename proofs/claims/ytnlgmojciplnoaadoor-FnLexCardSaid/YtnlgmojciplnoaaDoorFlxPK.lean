/- Names and printed texts: contracts of both sides. -/
import Derived.Test.YtnlgmojciplnoaaDoorFlxPJ
namespace Go.Proofs.YtnlgmojciplnoaaDoor
open Go.RowKit
set_option maxRecDepth 100000
def letB (c : Nat) : Bool := decide (97 ≤ c) && decide (c ≤ 122)
def ldB (c : Nat) : Bool := letB c || digB c
def plB (b c : Nat) : Bool := decide (32 ≤ c) && (decide (c ≤ 126) && decide (c ≠ b))
def allB (p : Nat → Bool) (s : ByteArray) : Bool := decide (∀ j, j < s.size → p (bAt s j) = true)
def runF (p : Nat → Bool) (s : ByteArray) : Nat → Nat → Nat
  | 0, a => a
  | f + 1, a => if a < s.size ∧ p (bAt s a) = true then runF p s f (a + 1) else a
def nameW (s : ByteArray) : Bool := decide (1 ≤ s.size) && (decide (s.size ≤ 8) && (letB (bAt s 0) && allB ldB s))
def textB (b : Nat) (s : ByteArray) : Bool := decide (s.size ≤ 200) && allB (plB b) s
theorem zo5 {p : Nat → Bool} {s : ByteArray} (h : ∀ j, j < s.size → p (bAt s j) = true) : allB p s = true := decide_eq_true h
theorem zl7 {p : Nat → Bool} {s : ByteArray} {j : Nat} (h : j < s.size) (h2 : p (bAt s j) = false) : allB p s = false := decide_eq_false fun hh => by rw [hh j h] at h2; cases h2
theorem zp5 {p : Nat → Bool} {s : ByteArray} {f a : Nat} (h : a < s.size) (h2 : p (bAt s a) = true) : runF p s (f + 1) a = runF p s f (a + 1) := if_pos ⟨h, h2⟩
theorem ze5 {p : Nat → Bool} {s : ByteArray} {f a : Nat} (h : ¬ (a < s.size ∧ p (bAt s a) = true)) : runF p s f a = a := by
  cases f with
  | zero => rfl
  | succ f => exact if_neg h
theorem zv2 {p : Nat → Bool} {s : ByteArray} : ∀ (f a : Nat), a ≤ s.size → s.size ≤ a + f → a ≤ runF p s f a ∧ runF p s f a ≤ s.size ∧ (∀ j, a ≤ j → j < runF p s f a → p (bAt s j) = true) ∧ (runF p s f a < s.size → p (bAt s (runF p s f a)) = false)
  | 0, a, h1, h2 => ⟨Nat.le_refl _, h1, fun j h3 h4 => absurd h4 (by show ¬ j < a; omega), fun h => absurd h (by show ¬ a < s.size; omega)⟩
  | f + 1, a, h1, h2 => by
    by_cases h : a < s.size ∧ p (bAt s a) = true
    · have h0 := h.1
      rw [zp5 h.1 h.2]
      obtain ⟨g1, g2, g3, g4⟩ := zv2 (p := p) (s := s) f (a + 1) (by omega) (by omega)
      refine ⟨by omega, g2, fun j h3 h4 => ?_, g4⟩
      by_cases e : j = a
      · subst e; exact h.2
      · exact g3 j (by omega) h4
    · rw [ze5 h]
      refine ⟨Nat.le_refl _, h1, fun j h3 h4 => by omega, fun h5 => ?_⟩
      cases hb : p (bAt s a) with
      | false => rfl
      | true => exact absurd ⟨h5, hb⟩ h
theorem zx21 {p : Nat → Bool} {s : ByteArray} : decide ((runF p s s.size 0 : Int) = (s.size : Int)) = allB p s := by
  obtain ⟨g1, g2, g3, g4⟩ := zv2 (p := p) (s := s) s.size 0 (Nat.zero_le _) (by omega)
  by_cases h : runF p s s.size 0 = s.size
  · rw [zo5 fun j hj => g3 j (Nat.zero_le _) (by omega)]
    simp [h]
  · rw [zl7 (show runF p s s.size 0 < s.size by omega) (g4 (by omega))]
    simp; omega
theorem zu5 (c : Nat) : Ctr Tryd.prog 48 [.c (.v (.int .u8 (c : Int)))] [] (.c (.v (.bool (letB c)))) [] := by
  refine za2 Tryd.func48 rfl rfl ?_
  repeat' (first | refine zj ?_ | refine zc ?_ | refine ze ?_ | refine zf ?_ | refine zb fun C => ?_ | refine za1 (by kernel_rfl) (by kernel_rfl) fun C => ?_ | refine zd ?_ | (refine x_gm ?_ ?_ <;> intro hG <;> (try cases hG)) | refine zi5 ?_ | refine x_bs ?_ | refine x_gr ?_ | refine x_st ?_ | refine x_mv ?_ | refine x_sk ?_ | refine zu7 ?_ | refine x_ix ?_ | refine zv7 ?_ | refine zw7 ?_ | refine zy5 ?_ | refine zv4 ?_ | refine x_ld ?_ | refine zc10 ?_ | (refine zc4 (by rfl) ?_ ?_ <;> intro hC <;> (try cases hC)))
  all_goals
    (first | refine zw ?_ | skip); refine ret0 rfl zu1 ⟨?_, rfl⟩; refine congrArg (fun s => AV.c (AC.v (Value.bool s))) ?_
    unfold letB
    (rw [Bool.eq_iff_iff]; (try simp only [Bool.and_eq_true, Bool.or_eq_true, Bool.not_eq_true', decide_eq_true_iff, decide_eq_false_iff_not, beq_iff_eq, Bool.and_eq_false_iff, Bool.or_eq_false_iff, bne_iff_ne, ne_eq, Bool.true_eq_false, Bool.false_eq_true, true_iff, false_iff, iff_true, iff_false] at *); first | omega | (simp at *; omega))
theorem zx8 {c : Nat} (hc : c < 256) : Ctr Tryd.prog 59 [.c (.v (.int .u8 (c : Int)))] [] (.c (.v (.bool (letB c)))) [] := by
  refine za2 Tryd.func59 rfl rfl ?_
  repeat' (first | refine zj ?_ | refine zc ?_ | refine ze ?_ | refine zf ?_ | refine zb fun C => ?_ | refine za1 (by kernel_rfl) (by kernel_rfl) fun C => ?_ | refine zd ?_ | (refine x_gm ?_ ?_ <;> intro hG <;> (try cases hG)) | refine zn21 ?_ | refine zr21 ?_ | refine zs21 ?_ | refine zt21 ?_ | refine zo14 ?_ | refine zi5 ?_ | refine zl16 ?_ | refine zi12 ?_ | refine zj12 ?_ | refine x_bs ?_ | refine x_gr ?_ | refine x_st ?_ | refine x_mv ?_ | refine x_sk ?_ | refine zu7 ?_ | refine x_ix ?_ | refine zv7 ?_ | refine zw7 ?_ | refine zy5 ?_ | refine zy5 (hnu := zl _) ?_ | refine zv4 ?_ | refine zv4 (hnu := zl _) ?_ | refine x_ld ?_ | refine zh12 ?_ | refine zj21 (zp9 _ _ _) ?_ | (refine zc4 (by rfl) ?_ ?_ <;> intro hC <;> (try cases hC)))
  all_goals
    (first | refine zw ?_ | skip); refine ret0 rfl zu1 ⟨?_, rfl⟩; refine congrArg (fun s => AV.c (AC.v (Value.bool s))) ?_
    unfold letB inR
    (rw [Bool.eq_iff_iff]; (try simp only [Bool.and_eq_true, Bool.or_eq_true, Bool.not_eq_true', decide_eq_true_iff, decide_eq_false_iff_not, beq_iff_eq, Bool.and_eq_false_iff, Bool.or_eq_false_iff, bne_iff_ne, ne_eq, Bool.true_eq_false, Bool.false_eq_true, true_iff, false_iff, iff_true, iff_false] at *); first | omega | (simp at *; omega))
theorem zt7 {s : ByteArray} (hs : s.size ≤ 1048576) : Ctr Tryd.prog 49 [.c (.v (.string s))] [] (.c (.v (.int .i64 (runF ldB s s.size 0 : Nat)))) [] := by
  refine za2 Tryd.func49 rfl rfl ?_
  repeat' (first | ((apply f_wo); first | ((apply f_gs); first | refine n_sk ?_) | ((apply f_mv); first | (refine zq1 ?_ ?_ <;> intro hG <;> (try cases hG)) | refine zv (v := .c _) ?_ | refine za ?_) | ((apply f_as); first | refine zt (v := .c _) ?_ | refine za ?_) | ((apply f_bi); first | refine zc1 ?_ | refine zb1 ?_ | refine zd1 ?_ | refine za ?_) | ((apply zm1); first | refine zh ?_ | refine za ?_) | ((apply zj1); first | refine zg ?_ | refine zi1 ?_ | refine za ?_) | ((apply f_pk); first | refine zg1 (v := .c _) ?_ | refine za ?_) | refine zy1 ?_ | refine za ?_) | ((apply f_w); first | refine zx ?_ | refine zd ?_) | refine zb fun C => ?_ | refine zj ?_ | refine zc ?_ | refine ze ?_ | refine zf ?_)
  refine zb3 (fun k : Nat => ⟨tmsF [(0, .c (.v (.string s))), (3, .c (.v (.int .i64 (k : Int))))], hpsF [], 0, [], 23⟩)
    (fun N k => k + N = s.size ∧ runF ldB s s.size 0 = runF ldB s N k) s.size 0 ⟨by omega, rfl⟩ ?_ ?_
  · (refine ze2 _ _ rfl rfl ?_ ?_ <;> (repeat' (first | exact TmOk.nil | exact RwOk.nil | refine TmOk.cons ?_ ?_ | refine RwOk.cons ?_ ?_ | rfl | (refine rnV_id' rfl ?_; (first | rfl | (simp [cloV, cloL, clo, zn, zm, zo, zk, zi]; done))) | (refine zk2 ?_; first | rfl | omega | (rw [zp1 (by omega) (by omega)]; omega)) | (refine ze1 rfl ?_; (first | rfl | (simp [cloV, cloL, clo, zn, zm, zo, zk, zi]; done))) | exact zg3 rfl rfl | (refine zl2 (by rfl) (by rfl) ?_ ?_ <;> (first | rfl | (simp [cloV, cloL, clo, zn, zm, zo, zk, zi]; done))) | (refine rw_rn' rfl rfl ?_; simp; done))))
  rintro N k ⟨hN, hr⟩
  try dsimp only
  have c1 := zu5 (bAt s k)
  have c2 := zt5 (bAt s k)
  by_cases hk : k < s.size
  · obtain ⟨M, rfl⟩ : ∃ M, N = M + 1 := ⟨N - 1, by omega⟩
    cases h1 : letB (bAt s k) with
    | true =>
      rw [h1] at c1
      have hq : runF ldB s s.size 0 = runF ldB s M (k + 1) := by rw [hr, zp5 hk (by simp [ldB, h1])]
      repeat' (first | ((apply f_wo); first | ((apply f_gs); first | refine n_sk ?_) | ((apply f_mv); first | (refine zq1 ?_ ?_ <;> intro hG <;> (try cases hG)) | refine zv (v := .c _) ?_ | refine za ?_) | ((apply f_as); first | refine zt (v := .c _) ?_ | refine za ?_) | ((apply f_ca); first | refine zk1 (c1) ?_ | refine zh1 (c1) ?_ | refine zk1 (c2) ?_ | refine zh1 (c2) ?_) | ((apply f_bi); first | refine zc1 ?_ | refine zb1 ?_ | refine zd1 ?_ | refine za ?_) | ((apply zm1); first | refine zh ?_ | refine za ?_) | ((apply zj1); first | refine zg ?_ | refine zi1 ?_ | refine za ?_) | ((apply f_pk); first | refine zg1 (v := .c _) ?_ | refine za ?_) | refine zy1 ?_ | refine za ?_) | ((apply f_w); first | refine zx ?_ | refine zd ?_) | refine zb fun C => ?_ | refine zj ?_ | refine zc ?_ | refine ze ?_ | refine zf ?_ | (refine zr (by rfl) ?_ ?_ <;> intro hC <;> (try cases hC)))
      all_goals first
        | (exfalso; simp only [decide_eq_true_iff, decide_eq_false_iff_not] at *; omega)
        | (refine ⟨M, k + 1, by omega, ⟨by omega, hq⟩, ?_⟩; (refine ze2 _ _ rfl rfl ?_ ?_ <;> (repeat' (first | exact TmOk.nil | exact RwOk.nil | refine TmOk.cons ?_ ?_ | refine RwOk.cons ?_ ?_ | rfl | (refine rnV_id' rfl ?_; (first | rfl | (simp [cloV, cloL, clo, zn, zm, zo, zk, zi]; done))) | (refine zk2 ?_; first | rfl | omega | (rw [zp1 (by omega) (by omega)]; omega)) | (refine ze1 rfl ?_; (first | rfl | (simp [cloV, cloL, clo, zn, zm, zo, zk, zi]; done))) | exact zg3 rfl rfl | (refine zl2 (by rfl) (by rfl) ?_ ?_ <;> (first | rfl | (simp [cloV, cloL, clo, zn, zm, zo, zk, zi]; done))) | (refine rw_rn' rfl rfl ?_; simp; done)))))
    | false =>
      rw [h1] at c1
      cases h2 : digB (bAt s k) with
      | true =>
        rw [h2] at c2
        have hq : runF ldB s s.size 0 = runF ldB s M (k + 1) := by rw [hr, zp5 hk (by simp [ldB, h2])]
        repeat' (first | ((apply f_wo); first | ((apply f_gs); first | refine n_sk ?_) | ((apply f_mv); first | (refine zq1 ?_ ?_ <;> intro hG <;> (try cases hG)) | refine zv (v := .c _) ?_ | refine za ?_) | ((apply f_as); first | refine zt (v := .c _) ?_ | refine za ?_) | ((apply f_ca); first | refine zk1 (c1) ?_ | refine zh1 (c1) ?_ | refine zk1 (c2) ?_ | refine zh1 (c2) ?_) | ((apply f_bi); first | refine zc1 ?_ | refine zb1 ?_ | refine zd1 ?_ | refine za ?_) | ((apply zm1); first | refine zh ?_ | refine za ?_) | ((apply zj1); first | refine zg ?_ | refine zi1 ?_ | refine za ?_) | ((apply f_pk); first | refine zg1 (v := .c _) ?_ | refine za ?_) | refine zy1 ?_ | refine za ?_) | ((apply f_w); first | refine zx ?_ | refine zd ?_) | refine zb fun C => ?_ | refine zj ?_ | refine zc ?_ | refine ze ?_ | refine zf ?_ | (refine zr (by rfl) ?_ ?_ <;> intro hC <;> (try cases hC)))
        all_goals first
          | (exfalso; simp only [decide_eq_true_iff, decide_eq_false_iff_not] at *; omega)
          | (refine ⟨M, k + 1, by omega, ⟨by omega, hq⟩, ?_⟩; (refine ze2 _ _ rfl rfl ?_ ?_ <;> (repeat' (first | exact TmOk.nil | exact RwOk.nil | refine TmOk.cons ?_ ?_ | refine RwOk.cons ?_ ?_ | rfl | (refine rnV_id' rfl ?_; (first | rfl | (simp [cloV, cloL, clo, zn, zm, zo, zk, zi]; done))) | (refine zk2 ?_; first | rfl | omega | (rw [zp1 (by omega) (by omega)]; omega)) | (refine ze1 rfl ?_; (first | rfl | (simp [cloV, cloL, clo, zn, zm, zo, zk, zi]; done))) | exact zg3 rfl rfl | (refine zl2 (by rfl) (by rfl) ?_ ?_ <;> (first | rfl | (simp [cloV, cloL, clo, zn, zm, zo, zk, zi]; done))) | (refine rw_rn' rfl rfl ?_; simp; done)))))
      | false =>
        rw [h2] at c2
        rw [hr, ze5 fun h => by simp [ldB, h1, h2] at h]
        repeat' (first | ((apply f_wo); first | ((apply f_gs); first | refine n_sk ?_) | ((apply f_mv); first | (refine zq1 ?_ ?_ <;> intro hG <;> (try cases hG)) | refine zv (v := .c _) ?_ | refine za ?_) | ((apply f_as); first | refine zt (v := .c _) ?_ | refine za ?_) | ((apply f_ca); first | refine zk1 (c1) ?_ | refine zh1 (c1) ?_ | refine zk1 (c2) ?_ | refine zh1 (c2) ?_) | ((apply f_bi); first | refine zc1 ?_ | refine zb1 ?_ | refine zd1 ?_ | refine za ?_) | ((apply zm1); first | refine zh ?_ | refine za ?_) | ((apply zj1); first | refine zg ?_ | refine zi1 ?_ | refine za ?_) | ((apply f_pk); first | refine zg1 (v := .c _) ?_ | refine za ?_) | refine zy1 ?_ | refine za ?_) | ((apply f_w); first | refine zx ?_ | refine zd ?_) | refine zb fun C => ?_ | refine zj ?_ | refine zc ?_ | refine ze ?_ | refine zf ?_ | (refine zr (by rfl) ?_ ?_ <;> intro hC <;> (try cases hC)))
        all_goals first
          | (exfalso; simp only [decide_eq_true_iff, decide_eq_false_iff_not] at *; omega)
          | (refine zw ?_; refine ret0 rfl zu1 ⟨?_, rfl⟩; rfl)
  · rw [hr, ze5 fun h => hk h.1]
    repeat' (first | ((apply f_wo); first | ((apply f_gs); first | refine n_sk ?_) | ((apply f_mv); first | (refine zq1 ?_ ?_ <;> intro hG <;> (try cases hG)) | refine zv (v := .c _) ?_ | refine za ?_) | ((apply f_as); first | refine zt (v := .c _) ?_ | refine za ?_) | ((apply f_ca); first | refine zk1 (c1) ?_ | refine zh1 (c1) ?_ | refine zk1 (c2) ?_ | refine zh1 (c2) ?_) | ((apply f_bi); first | refine zc1 ?_ | refine zb1 ?_ | refine zd1 ?_ | refine za ?_) | ((apply zm1); first | refine zh ?_ | refine za ?_) | ((apply zj1); first | refine zg ?_ | refine zi1 ?_ | refine za ?_) | ((apply f_pk); first | refine zg1 (v := .c _) ?_ | refine za ?_) | refine zy1 ?_ | refine za ?_) | ((apply f_w); first | refine zx ?_ | refine zd ?_) | refine zb fun C => ?_ | refine zj ?_ | refine zc ?_ | refine ze ?_ | refine zf ?_ | (refine zr (by rfl) ?_ ?_ <;> intro hC <;> (try cases hC)))
    all_goals first
      | (exfalso; simp only [decide_eq_true_iff, decide_eq_false_iff_not] at *; omega)
      | (refine zw ?_; refine ret0 rfl zu1 ⟨?_, rfl⟩; rfl)
theorem zz18 {s : ByteArray} (hs : s.size ≤ 1048576) : Ctr Tryd.prog 26 [.c (.v (.string s))] [] (.c (.v (.bool (nameW s)))) [] := by
  have cw := zd8 (s.size : Int) 1 8
  have c1 := zu5 (bAt s 0)
  have c2 := zt7 hs
  by_cases hb : 1 ≤ s.size ∧ s.size ≤ 8
  · rw [show inR (s.size : Int) 1 8 = true by simp [inR]; omega] at cw
    cases h1 : letB (bAt s 0) with
    | true =>
      rw [h1] at c1
      rw [show nameW s = decide ((runF ldB s s.size 0 : Int) = (s.size : Int)) by rw [zx21]; simp [nameW, hb, h1]]
      refine za2 Tryd.func26 rfl rfl ?_
      repeat' (first | ((apply f_wo); first | ((apply f_gs); first | refine n_sk ?_) | ((apply f_mv); first | (refine zq1 ?_ ?_ <;> intro hG <;> (try cases hG)) | refine zv (v := .c _) ?_ | refine za ?_) | ((apply f_as); first | refine zt (v := .c _) ?_ | refine za ?_) | ((apply f_ca); first | refine zk1 (cw) ?_ | refine zh1 (cw) ?_ | refine zk1 (c1) ?_ | refine zh1 (c1) ?_ | refine zk1 (c2) ?_ | refine zh1 (c2) ?_) | ((apply f_bi); first | refine zc1 ?_ | refine zb1 ?_ | refine zd1 ?_ | refine za ?_) | ((apply zn1); first | refine zu ?_ | refine za ?_) | ((apply f_pk); first | refine zg1 (v := .c _) ?_ | refine za ?_) | refine zy1 ?_ | refine za ?_) | ((apply f_w); first | refine zx ?_ | refine zd ?_) | refine zb fun C => ?_ | refine zj ?_ | refine zc ?_ | refine ze ?_ | refine zf ?_ | refine zp rfl ?_ | refine zq rfl ?_)
      refine zw ?_; refine ret0 rfl zu1 ⟨?_, rfl⟩; rfl
    | false =>
      rw [h1] at c1
      rw [show nameW s = false by simp [nameW, h1]]
      refine za2 Tryd.func26 rfl rfl ?_
      repeat' (first | ((apply f_wo); first | ((apply f_gs); first | refine n_sk ?_) | ((apply f_mv); first | (refine zq1 ?_ ?_ <;> intro hG <;> (try cases hG)) | refine zv (v := .c _) ?_ | refine za ?_) | ((apply f_as); first | refine zt (v := .c _) ?_ | refine za ?_) | ((apply f_ca); first | refine zk1 (cw) ?_ | refine zh1 (cw) ?_ | refine zk1 (c1) ?_ | refine zh1 (c1) ?_ | refine zk1 (c2) ?_ | refine zh1 (c2) ?_) | ((apply f_bi); first | refine zc1 ?_ | refine zb1 ?_ | refine zd1 ?_ | refine za ?_) | ((apply zn1); first | refine zu ?_ | refine za ?_) | ((apply f_pk); first | refine zg1 (v := .c _) ?_ | refine za ?_) | refine zy1 ?_ | refine za ?_) | ((apply f_w); first | refine zx ?_ | refine zd ?_) | refine zb fun C => ?_ | refine zj ?_ | refine zc ?_ | refine ze ?_ | refine zf ?_ | refine zp rfl ?_ | refine zq rfl ?_)
      refine zw ?_; refine ret0 rfl zu1 ⟨?_, rfl⟩; rfl
  · rw [show inR (s.size : Int) 1 8 = false by simp [inR]; omega] at cw
    rw [show nameW s = false by simp [nameW]; omega]
    refine za2 Tryd.func26 rfl rfl ?_
    repeat' (first | ((apply f_wo); first | ((apply f_gs); first | refine n_sk ?_) | ((apply f_mv); first | (refine zq1 ?_ ?_ <;> intro hG <;> (try cases hG)) | refine zv (v := .c _) ?_ | refine za ?_) | ((apply f_as); first | refine zt (v := .c _) ?_ | refine za ?_) | ((apply f_ca); first | refine zk1 (cw) ?_ | refine zh1 (cw) ?_ | refine zk1 (c1) ?_ | refine zh1 (c1) ?_ | refine zk1 (c2) ?_ | refine zh1 (c2) ?_) | ((apply f_bi); first | refine zc1 ?_ | refine zb1 ?_ | refine zd1 ?_ | refine za ?_) | ((apply zn1); first | refine zu ?_ | refine za ?_) | ((apply f_pk); first | refine zg1 (v := .c _) ?_ | refine za ?_) | refine zy1 ?_ | refine za ?_) | ((apply f_w); first | refine zx ?_ | refine zd ?_) | refine zb fun C => ?_ | refine zj ?_ | refine zc ?_ | refine ze ?_ | refine zf ?_ | refine zp rfl ?_ | refine zq rfl ?_)
    refine zw ?_; refine ret0 rfl zu1 ⟨?_, rfl⟩; rfl
theorem za19 {s : ByteArray} (hs : s.size ≤ 1048576) : Ctr Tryd.prog 63 [.c (.v (.string s))] [] (.c (.v (.bool (nameW s)))) [] := by
  refine za2 Tryd.func63 rfl rfl ?_
  repeat' (first | ((apply f_wo); first | ((apply f_gs); first | refine n_sk ?_) | ((apply f_mv); first | (refine zq1 ?_ ?_ <;> intro hG <;> (try cases hG)) | refine zv (v := .c _) ?_ | refine za ?_) | ((apply f_as); first | refine zt (v := .c _) ?_ | refine za ?_) | ((apply f_bi); first | refine zc1 ?_ | refine zb1 ?_ | refine zd1 ?_ | refine za ?_) | ((apply zn1); first | refine zu ?_ | refine za ?_) | ((apply zm1); first | refine zh ?_ | refine za ?_) | ((apply zj1); first | refine zg ?_ | refine zi1 ?_ | refine za ?_) | ((apply f_no); first | refine zw2 ?_ | refine za ?_) | ((apply f_pk); first | refine zg1 (v := .c _) ?_ | refine za ?_) | refine zy1 ?_ | refine za ?_) | ((apply f_w); first | refine zx ?_ | refine zd ?_) | refine zb fun C => ?_ | refine zj ?_ | refine zc ?_ | refine ze ?_ | refine zf ?_)
  refine zb3 (fun k : Nat => ⟨tmsF [(0, .c (.v (.string s))), (3, .c (.v (.int .i64 (k : Int))))], hpsF [], 0, [], 29⟩)
    (fun N k => k + N = s.size ∧ (∀ j, j < k → ldB (bAt s j) = true) ∧ (0 < k → letB (bAt s 0) = true)) s.size 0 ⟨by omega, fun j hj => absurd hj (Nat.not_lt_zero j), fun h => absurd h (Nat.lt_irrefl 0)⟩ ?_ ?_
  · (refine ze2 _ _ rfl rfl ?_ ?_ <;> (repeat' (first | exact TmOk.nil | exact RwOk.nil | refine TmOk.cons ?_ ?_ | refine RwOk.cons ?_ ?_ | rfl | (refine rnV_id' rfl ?_; (first | rfl | (simp [cloV, cloL, clo, zn, zm, zo, zk, zi]; done))) | (refine zk2 ?_; first | rfl | omega | (rw [zp1 (by omega) (by omega)]; omega)) | (refine ze1 rfl ?_; (first | rfl | (simp [cloV, cloL, clo, zn, zm, zo, zk, zi]; done))) | exact zg3 rfl rfl | (refine zl2 (by rfl) (by rfl) ?_ ?_ <;> (first | rfl | (simp [cloV, cloL, clo, zn, zm, zo, zk, zi]; done))) | (refine rw_rn' rfl rfl ?_; simp; done))))
  rintro N k ⟨hN, hr, hr0⟩
  try dsimp only
  have c1 := zx8 (ze4 s k)
  have c2 := zz6 (ze4 s k)
  have c3 := zp9 (s.size : Int) 1 8
  repeat' (first | ((apply f_wo); first | ((apply f_gs); first | refine n_sk ?_) | ((apply f_mv); first | (refine zq1 ?_ ?_ <;> intro hG <;> (try cases hG)) | refine zv (v := .c _) ?_ | refine za ?_) | ((apply f_as); first | refine zt (v := .c _) ?_ | refine za ?_) | ((apply f_bi); first | refine zc1 ?_ | refine zb1 ?_ | refine zd1 ?_ | refine za ?_) | ((apply zn1); first | refine zu ?_ | refine za ?_) | ((apply zm1); first | refine zh ?_ | refine za ?_) | ((apply zj1); first | refine zg ?_ | refine zi1 ?_ | refine za ?_) | ((apply f_no); first | refine zw2 ?_ | refine za ?_) | ((apply f_pk); first | refine zg1 (v := .c _) ?_ | refine za ?_) | refine zy1 ?_ | refine za ?_) | ((apply f_w); first | refine zx ?_ | refine zd ?_) | refine zb fun C => ?_ | refine zj ?_ | refine zc ?_ | refine ze ?_ | refine zf ?_)
  refine zr (by rfl) (fun hk => ?_) fun hk => ?_
  · have hk' : k < s.size := by simpa using hk
    cases h1 : letB (bAt s k) with
    | true =>
      rw [h1] at c1
      repeat' (first | ((apply f_wo); first | ((apply f_gs); first | refine n_sk ?_) | ((apply f_mv); first | (refine zq1 ?_ ?_ <;> intro hG <;> (try cases hG)) | refine zv (v := .c _) ?_ | refine za ?_) | ((apply f_as); first | refine zt (v := .c _) ?_ | refine za ?_) | ((apply f_ca); first | refine zk1 (c1) ?_ | refine zh1 (c1) ?_ | refine zk1 (c2) ?_ | refine zh1 (c2) ?_) | ((apply f_bi); first | refine zc1 ?_ | refine zb1 ?_ | refine zd1 ?_ | refine za ?_) | ((apply zn1); first | refine zu ?_ | refine za ?_) | ((apply zm1); first | refine zh ?_ | refine za ?_) | ((apply zj1); first | refine zg ?_ | refine zi1 ?_ | refine za ?_) | ((apply f_no); first | refine zw2 ?_ | refine za ?_) | ((apply f_pk); first | refine zg1 (v := .c _) ?_ | refine za ?_) | refine zy1 ?_ | refine za ?_) | ((apply f_w); first | refine zx ?_ | refine zd ?_) | refine zb fun C => ?_ | refine zj ?_ | refine zc ?_ | refine ze ?_ | refine zf ?_ | refine zp rfl ?_ | refine zq rfl ?_)
      refine ⟨N - 1, k + 1, by omega, ⟨by omega, fun j hj => ?_, fun _ => ?_⟩, ?_⟩
      · by_cases e : j = k
        · subst e; simp [ldB, h1]
        · exact hr j (by omega)
      · by_cases e : k = 0
        · subst e; exact h1
        · exact hr0 (by omega)
      · (refine ze2 _ _ rfl rfl ?_ ?_ <;> (repeat' (first | exact TmOk.nil | exact RwOk.nil | refine TmOk.cons ?_ ?_ | refine RwOk.cons ?_ ?_ | rfl | (refine rnV_id' rfl ?_; (first | rfl | (simp [cloV, cloL, clo, zn, zm, zo, zk, zi]; done))) | (refine zk2 ?_; first | rfl | omega | (rw [zp1 (by omega) (by omega)]; omega)) | (refine ze1 rfl ?_; (first | rfl | (simp [cloV, cloL, clo, zn, zm, zo, zk, zi]; done))) | exact zg3 rfl rfl | (refine zl2 (by rfl) (by rfl) ?_ ?_ <;> (first | rfl | (simp [cloV, cloL, clo, zn, zm, zo, zk, zi]; done))) | (refine rw_rn' rfl rfl ?_; simp; done))))
    | false =>
      rw [h1] at c1
      by_cases h0 : k = 0
      · subst h0
        rw [show nameW s = false by simp [nameW, h1]]
        repeat' (first | ((apply f_wo); first | ((apply f_gs); first | refine n_sk ?_) | ((apply f_mv); first | (refine zq1 ?_ ?_ <;> intro hG <;> (try cases hG)) | refine zv (v := .c _) ?_ | refine za ?_) | ((apply f_as); first | refine zt (v := .c _) ?_ | refine za ?_) | ((apply f_ca); first | refine zk1 (c1) ?_ | refine zh1 (c1) ?_ | refine zk1 (c2) ?_ | refine zh1 (c2) ?_) | ((apply f_bi); first | refine zc1 ?_ | refine zb1 ?_ | refine zd1 ?_ | refine za ?_) | ((apply zn1); first | refine zu ?_ | refine za ?_) | ((apply zm1); first | refine zh ?_ | refine za ?_) | ((apply zj1); first | refine zg ?_ | refine zi1 ?_ | refine za ?_) | ((apply f_no); first | refine zw2 ?_ | refine za ?_) | ((apply f_pk); first | refine zg1 (v := .c _) ?_ | refine za ?_) | refine zy1 ?_ | refine za ?_) | ((apply f_w); first | refine zx ?_ | refine zd ?_) | refine zb fun C => ?_ | refine zj ?_ | refine zc ?_ | refine ze ?_ | refine zf ?_ | refine zp rfl ?_ | refine zq rfl ?_)
        refine zw ?_; refine ret0 rfl zu1 ⟨?_, rfl⟩; rfl
      · cases h2 : digB (bAt s k) with
        | true =>
          rw [h2] at c2
          repeat' (first | ((apply f_wo); first | ((apply f_gs); first | refine n_sk ?_) | ((apply f_mv); first | (refine zq1 ?_ ?_ <;> intro hG <;> (try cases hG)) | refine zv (v := .c _) ?_ | refine za ?_) | ((apply f_as); first | refine zt (v := .c _) ?_ | refine za ?_) | ((apply f_ca); first | refine zk1 (c1) ?_ | refine zh1 (c1) ?_ | refine zk1 (c2) ?_ | refine zh1 (c2) ?_) | ((apply f_bi); first | refine zc1 ?_ | refine zb1 ?_ | refine zd1 ?_ | refine za ?_) | ((apply zn1); first | refine zu ?_ | refine za ?_) | ((apply zm1); first | refine zh ?_ | refine za ?_) | ((apply zj1); first | refine zg ?_ | refine zi1 ?_ | refine za ?_) | ((apply f_no); first | refine zw2 ?_ | refine za ?_) | ((apply f_pk); first | refine zg1 (v := .c _) ?_ | refine za ?_) | refine zy1 ?_ | refine za ?_) | ((apply f_w); first | refine zx ?_ | refine zd ?_) | refine zb fun C => ?_ | refine zj ?_ | refine zc ?_ | refine ze ?_ | refine zf ?_ | (refine zr (by rfl) ?_ ?_ <;> intro hC <;> (try cases hC)))
          all_goals first
            | (refine absurd hG ?_; simp; omega)
            | (refine ⟨N - 1, k + 1, by omega, ⟨by omega, fun j hj => ?_, fun _ => hr0 (by omega)⟩, ?_⟩
               · by_cases e : j = k
                 · subst e; simp [ldB, h2]
                 · exact hr j (by omega)
               · (refine ze2 _ _ rfl rfl ?_ ?_ <;> (repeat' (first | exact TmOk.nil | exact RwOk.nil | refine TmOk.cons ?_ ?_ | refine RwOk.cons ?_ ?_ | rfl | (refine rnV_id' rfl ?_; (first | rfl | (simp [cloV, cloL, clo, zn, zm, zo, zk, zi]; done))) | (refine zk2 ?_; first | rfl | omega | (rw [zp1 (by omega) (by omega)]; omega)) | (refine ze1 rfl ?_; (first | rfl | (simp [cloV, cloL, clo, zn, zm, zo, zk, zi]; done))) | exact zg3 rfl rfl | (refine zl2 (by rfl) (by rfl) ?_ ?_ <;> (first | rfl | (simp [cloV, cloL, clo, zn, zm, zo, zk, zi]; done))) | (refine rw_rn' rfl rfl ?_; simp; done)))))
        | false =>
          rw [h2] at c2
          rw [show nameW s = false by simp [nameW, zl7 hk' (show ldB (bAt s k) = false by simp [ldB, h1, h2])]]
          repeat' (first | ((apply f_wo); first | ((apply f_gs); first | refine n_sk ?_) | ((apply f_mv); first | (refine zq1 ?_ ?_ <;> intro hG <;> (try cases hG)) | refine zv (v := .c _) ?_ | refine za ?_) | ((apply f_as); first | refine zt (v := .c _) ?_ | refine za ?_) | ((apply f_ca); first | refine zk1 (c1) ?_ | refine zh1 (c1) ?_ | refine zk1 (c2) ?_ | refine zh1 (c2) ?_) | ((apply f_bi); first | refine zc1 ?_ | refine zb1 ?_ | refine zd1 ?_ | refine za ?_) | ((apply zn1); first | refine zu ?_ | refine za ?_) | ((apply zm1); first | refine zh ?_ | refine za ?_) | ((apply zj1); first | refine zg ?_ | refine zi1 ?_ | refine za ?_) | ((apply f_no); first | refine zw2 ?_ | refine za ?_) | ((apply f_pk); first | refine zg1 (v := .c _) ?_ | refine za ?_) | refine zy1 ?_ | refine za ?_) | ((apply f_w); first | refine zx ?_ | refine zd ?_) | refine zb fun C => ?_ | refine zj ?_ | refine zc ?_ | refine ze ?_ | refine zf ?_ | (refine zr (by rfl) ?_ ?_ <;> intro hC <;> (try cases hC)))
          all_goals first
            | (refine absurd hG ?_; simp; omega)
            | (refine zw ?_; refine ret0 rfl zu1 ⟨?_, rfl⟩; rfl)
  · have hk' : ¬ k < s.size := by simpa using hk
    have ha : allB ldB s = true := zo5 fun j hj => hr j (by omega)
    have hk2 : k = s.size := by omega
    rw [show nameW s = inR (s.size : Int) 1 8 by
      by_cases hz : 0 < s.size
      · have e0 := hr0 (by omega)
        simp only [nameW, ha, e0, inR, Bool.and_true]
        congr 1 <;> (apply decide_eq_decide.2; omega)
      · have e1 : decide (1 ≤ s.size) = false := decide_eq_false (by omega)
        have e2 : decide ((1 : Int) ≤ (s.size : Int)) = false := decide_eq_false (by omega)
        simp only [nameW, inR, e1, e2, Bool.false_and]]
    repeat' (first | ((apply f_wo); first | ((apply f_gs); first | refine n_sk ?_) | ((apply f_mv); first | (refine zq1 ?_ ?_ <;> intro hG <;> (try cases hG)) | refine zv (v := .c _) ?_ | refine za ?_) | ((apply f_as); first | refine zt (v := .c _) ?_ | refine za ?_) | ((apply f_ca); first | refine zk1 (c3) ?_ | refine zh1 (c3) ?_) | ((apply f_bi); first | refine zc1 ?_ | refine zb1 ?_ | refine zd1 ?_ | refine za ?_) | ((apply zn1); first | refine zu ?_ | refine za ?_) | ((apply zm1); first | refine zh ?_ | refine za ?_) | ((apply zj1); first | refine zg ?_ | refine zi1 ?_ | refine za ?_) | ((apply f_no); first | refine zw2 ?_ | refine za ?_) | ((apply f_pk); first | refine zg1 (v := .c _) ?_ | refine za ?_) | refine zy1 ?_ | refine za ?_) | ((apply f_w); first | refine zx ?_ | refine zd ?_) | refine zb fun C => ?_ | refine zj ?_ | refine zc ?_ | refine ze ?_ | refine zf ?_ | refine zp rfl ?_ | refine zq rfl ?_)
    refine zw ?_; refine ret0 rfl zu1 ⟨?_, rfl⟩; rfl
theorem zf11 {s : ByteArray} (hs : s.size ≤ 1048576) {b : Nat} (hb : b < 256) : Ctr Tryd.prog 53 [.c (.v (.string s)), .c (.v (.int .u8 (b : Int)))] [] (.c (.v (.bool (allB (plB b) s)))) [] := by
  refine za2 Tryd.func53 rfl rfl ?_
  repeat' (first | ((apply f_wo); first | ((apply f_gs); first | refine n_sk ?_) | ((apply f_mv); first | (refine zq1 ?_ ?_ <;> intro hG <;> (try cases hG)) | refine zv (v := .c _) ?_ | refine za ?_) | ((apply f_as); first | refine zt (v := .c _) ?_ | refine za ?_) | ((apply f_bi); first | refine zc1 ?_ | refine zb1 ?_ | refine zd1 ?_ | refine za ?_) | ((apply zn1); first | refine zl1 ?_ | refine za ?_) | ((apply zm1); first | refine zh ?_ | refine za ?_) | ((apply zj1); first | refine zg ?_ | refine zi1 ?_ | refine za ?_) | ((apply f_no); first | refine zw2 ?_ | refine za ?_) | ((apply f_pk); first | refine zg1 (v := .c _) ?_ | refine za ?_) | ((apply f_cv); first | refine zf3 ?_ | refine za ?_) | refine zy1 ?_ | refine za ?_) | ((apply f_w); first | refine zx ?_ | refine zd ?_) | refine zb fun C => ?_ | refine zj ?_ | refine zc ?_ | refine ze ?_ | refine zf ?_)
  refine zb3 (fun k : Nat => ⟨tmsF [(0, .c (.v (.string s))), (1, .c (.v (.int .u8 (b : Int)))), (5, .c (.v (.int .i64 (k : Int))))], hpsF [], 0, [], 25⟩)
    (fun N k => k + N = s.size ∧ ∀ j, j < k → plB b (bAt s j) = true) s.size 0 ⟨by omega, fun j hj => absurd hj (Nat.not_lt_zero j)⟩ ?_ ?_
  · (refine ze2 _ _ rfl rfl ?_ ?_ <;> (repeat' (first | exact TmOk.nil | exact RwOk.nil | refine TmOk.cons ?_ ?_ | refine RwOk.cons ?_ ?_ | rfl | (refine rnV_id' rfl ?_; (first | rfl | (simp [cloV, cloL, clo, zn, zm, zo, zk, zi]; done))) | (refine zk2 ?_; first | rfl | omega | (rw [zp1 (by omega) (by omega)]; omega)) | (refine ze1 rfl ?_; (first | rfl | (simp [cloV, cloL, clo, zn, zm, zo, zk, zi]; done))) | exact zg3 rfl rfl | (refine zl2 (by rfl) (by rfl) ?_ ?_ <;> (first | rfl | (simp [cloV, cloL, clo, zn, zm, zo, zk, zi]; done))) | (refine rw_rn' rfl rfl ?_; simp; done))))
  rintro N k ⟨hN, hr⟩
  try dsimp only
  have hlt := ze4 s k
  have c1 := zd8 (bAt s k : Int) 32 126
  repeat' (first | ((apply f_wo); first | ((apply f_gs); first | refine n_sk ?_) | ((apply f_mv); first | (refine zq1 ?_ ?_ <;> intro hG <;> (try cases hG)) | refine zv (v := .c _) ?_ | refine za ?_) | ((apply f_as); first | refine zt (v := .c _) ?_ | refine za ?_) | ((apply f_bi); first | refine zc1 ?_ | refine zb1 ?_ | refine zd1 ?_ | refine za ?_) | ((apply zn1); first | refine zl1 ?_ | refine za ?_) | ((apply zm1); first | refine zh ?_ | refine za ?_) | ((apply zj1); first | refine zg ?_ | refine zi1 ?_ | refine za ?_) | ((apply f_no); first | refine zw2 ?_ | refine za ?_) | ((apply f_pk); first | refine zg1 (v := .c _) ?_ | refine za ?_) | ((apply f_cv); first | refine zf3 ?_ | refine za ?_) | refine zy1 ?_ | refine za ?_) | ((apply f_w); first | refine zx ?_ | refine zd ?_) | refine zb fun C => ?_ | refine zj ?_ | refine zc ?_ | refine ze ?_ | refine zf ?_)
  refine zr (by rfl) (fun hk => ?_) fun hk => ?_
  · have hk' : k < s.size := by simpa using hk
    by_cases h1 : 32 ≤ bAt s k ∧ bAt s k ≤ 126
    · rw [show inR (bAt s k : Int) 32 126 = true by simp [inR]; omega] at c1
      repeat' (first | ((apply f_wo); first | ((apply f_gs); first | refine n_sk ?_) | ((apply f_mv); first | (refine zq1 ?_ ?_ <;> intro hG <;> (try cases hG)) | refine zv (v := .c _) ?_ | refine za ?_) | ((apply f_as); first | refine zt (v := .c _) ?_ | refine za ?_) | ((apply f_ca); first | refine zk1 (c1) ?_ | refine zh1 (c1) ?_) | ((apply f_bi); first | refine zc1 ?_ | refine zb1 ?_ | refine zd1 ?_ | refine za ?_) | ((apply zn1); first | refine zl1 ?_ | refine za ?_) | ((apply zm1); first | refine zh ?_ | refine za ?_) | ((apply zj1); first | refine zg ?_ | refine zi1 ?_ | refine za ?_) | ((apply f_no); first | refine zw2 ?_ | refine za ?_) | ((apply f_pk); first | refine zg1 (v := .c _) ?_ | refine za ?_) | ((apply f_cv); first | refine zf3 ?_ | refine za ?_) | refine zy1 ?_ | refine za ?_) | ((apply f_w); first | refine zx ?_ | refine zd ?_) | refine zb fun C => ?_ | refine zj ?_ | refine zc ?_ | refine ze ?_ | refine zf ?_)
      refine zr (by rfl) (fun hC => ?_) fun hC => ?_
      · have e : bAt s k = b := by have := eq_of_beq hC; omega
        rw [zl7 hk' (show plB b (bAt s k) = false by simp [plB, e])]
        repeat' (first | ((apply f_wo); first | ((apply f_gs); first | refine n_sk ?_) | ((apply f_mv); first | (refine zq1 ?_ ?_ <;> intro hG <;> (try cases hG)) | refine zv (v := .c _) ?_ | refine za ?_) | ((apply f_as); first | refine zt (v := .c _) ?_ | refine za ?_) | ((apply f_bi); first | refine zc1 ?_ | refine zb1 ?_ | refine zd1 ?_ | refine za ?_) | ((apply zn1); first | refine zl1 ?_ | refine za ?_) | ((apply zm1); first | refine zh ?_ | refine za ?_) | ((apply zj1); first | refine zg ?_ | refine zi1 ?_ | refine za ?_) | ((apply f_no); first | refine zw2 ?_ | refine za ?_) | ((apply f_pk); first | refine zg1 (v := .c _) ?_ | refine za ?_) | ((apply f_cv); first | refine zf3 ?_ | refine za ?_) | refine zy1 ?_ | refine za ?_) | ((apply f_w); first | refine zx ?_ | refine zd ?_) | refine zb fun C => ?_ | refine zj ?_ | refine zc ?_ | refine ze ?_ | refine zf ?_ | refine zp rfl ?_ | refine zq rfl ?_)
        refine zw ?_; refine ret0 rfl zu1 ⟨?_, rfl⟩; rfl
      · have e : bAt s k ≠ b := by have := ne_of_beq_false hC; omega
        repeat' (first | ((apply f_wo); first | ((apply f_gs); first | refine n_sk ?_) | ((apply f_mv); first | (refine zq1 ?_ ?_ <;> intro hG <;> (try cases hG)) | refine zv (v := .c _) ?_ | refine za ?_) | ((apply f_as); first | refine zt (v := .c _) ?_ | refine za ?_) | ((apply f_bi); first | refine zc1 ?_ | refine zb1 ?_ | refine zd1 ?_ | refine za ?_) | ((apply zn1); first | refine zl1 ?_ | refine za ?_) | ((apply zm1); first | refine zh ?_ | refine za ?_) | ((apply zj1); first | refine zg ?_ | refine zi1 ?_ | refine za ?_) | ((apply f_no); first | refine zw2 ?_ | refine za ?_) | ((apply f_pk); first | refine zg1 (v := .c _) ?_ | refine za ?_) | ((apply f_cv); first | refine zf3 ?_ | refine za ?_) | refine zy1 ?_ | refine za ?_) | ((apply f_w); first | refine zx ?_ | refine zd ?_) | refine zb fun C => ?_ | refine zj ?_ | refine zc ?_ | refine ze ?_ | refine zf ?_ | refine zp rfl ?_ | refine zq rfl ?_)
        refine ⟨N - 1, k + 1, by omega, ⟨by omega, fun j hj => ?_⟩, ?_⟩
        · by_cases e2 : j = k
          · subst e2; simp [plB, h1, e]
          · exact hr j (by omega)
        · (refine ze2 _ _ rfl rfl ?_ ?_ <;> (repeat' (first | exact TmOk.nil | exact RwOk.nil | refine TmOk.cons ?_ ?_ | refine RwOk.cons ?_ ?_ | rfl | (refine rnV_id' rfl ?_; (first | rfl | (simp [cloV, cloL, clo, zn, zm, zo, zk, zi]; done))) | (refine zk2 ?_; first | rfl | omega | (rw [zp1 (by omega) (by omega)]; omega)) | (refine ze1 rfl ?_; (first | rfl | (simp [cloV, cloL, clo, zn, zm, zo, zk, zi]; done))) | exact zg3 rfl rfl | (refine zl2 (by rfl) (by rfl) ?_ ?_ <;> (first | rfl | (simp [cloV, cloL, clo, zn, zm, zo, zk, zi]; done))) | (refine rw_rn' rfl rfl ?_; simp; done))))
    · rw [show inR (bAt s k : Int) 32 126 = false by simp [inR]; omega] at c1
      rw [zl7 hk' (show plB b (bAt s k) = false by simp [plB]; omega)]
      repeat' (first | ((apply f_wo); first | ((apply f_gs); first | refine n_sk ?_) | ((apply f_mv); first | (refine zq1 ?_ ?_ <;> intro hG <;> (try cases hG)) | refine zv (v := .c _) ?_ | refine za ?_) | ((apply f_as); first | refine zt (v := .c _) ?_ | refine za ?_) | ((apply f_ca); first | refine zk1 (c1) ?_ | refine zh1 (c1) ?_) | ((apply f_bi); first | refine zc1 ?_ | refine zb1 ?_ | refine zd1 ?_ | refine za ?_) | ((apply zn1); first | refine zl1 ?_ | refine za ?_) | ((apply zm1); first | refine zh ?_ | refine za ?_) | ((apply zj1); first | refine zg ?_ | refine zi1 ?_ | refine za ?_) | ((apply f_no); first | refine zw2 ?_ | refine za ?_) | ((apply f_pk); first | refine zg1 (v := .c _) ?_ | refine za ?_) | ((apply f_cv); first | refine zf3 ?_ | refine za ?_) | refine zy1 ?_ | refine za ?_) | ((apply f_w); first | refine zx ?_ | refine zd ?_) | refine zb fun C => ?_ | refine zj ?_ | refine zc ?_ | refine ze ?_ | refine zf ?_ | refine zp rfl ?_ | refine zq rfl ?_)
      refine zw ?_; refine ret0 rfl zu1 ⟨?_, rfl⟩; rfl
  · have hk' : ¬ k < s.size := by simpa using hk
    rw [zo5 fun j hj => hr j (by omega)]
    repeat' (first | ((apply f_wo); first | ((apply f_gs); first | refine n_sk ?_) | ((apply f_mv); first | (refine zq1 ?_ ?_ <;> intro hG <;> (try cases hG)) | refine zv (v := .c _) ?_ | refine za ?_) | ((apply f_as); first | refine zt (v := .c _) ?_ | refine za ?_) | ((apply f_bi); first | refine zc1 ?_ | refine zb1 ?_ | refine zd1 ?_ | refine za ?_) | ((apply zn1); first | refine zl1 ?_ | refine za ?_) | ((apply zm1); first | refine zh ?_ | refine za ?_) | ((apply zj1); first | refine zg ?_ | refine zi1 ?_ | refine za ?_) | ((apply f_no); first | refine zw2 ?_ | refine za ?_) | ((apply f_pk); first | refine zg1 (v := .c _) ?_ | refine za ?_) | ((apply f_cv); first | refine zf3 ?_ | refine za ?_) | refine zy1 ?_ | refine za ?_) | ((apply f_w); first | refine zx ?_ | refine zd ?_) | refine zb fun C => ?_ | refine zj ?_ | refine zc ?_ | refine ze ?_ | refine zf ?_ | refine zp rfl ?_ | refine zq rfl ?_)
    refine zw ?_; refine ret0 rfl zu1 ⟨?_, rfl⟩; rfl
theorem zg11 {s : ByteArray} (hs : s.size ≤ 1048576) {b : Nat} (hb : b < 256) : Ctr Tryd.prog 64 [.c (.v (.string s)), .c (.v (.int .u8 (b : Int)))] [] (.c (.v (.bool (textB b s)))) [] := by
  refine za2 Tryd.func64 rfl rfl ?_
  repeat' (first | ((apply f_wo); first | ((apply f_gs); first | refine n_sk ?_) | ((apply f_mv); first | (refine zq1 ?_ ?_ <;> intro hG <;> (try cases hG)) | refine zv (v := .c _) ?_ | refine za ?_) | ((apply f_as); first | refine zt (v := .c _) ?_ | refine za ?_) | ((apply f_bi); first | refine zc1 ?_ | refine zb1 ?_ | refine zd1 ?_ | refine za ?_) | ((apply zn1); first | refine zl1 ?_ | refine za ?_) | ((apply zm1); first | refine zh ?_ | refine za ?_) | ((apply zo6); first | refine zv3 ?_ | refine za ?_) | ((apply zj1); first | refine zg ?_ | refine zi1 ?_ | refine za ?_) | ((apply f_no); first | refine zw2 ?_ | refine za ?_) | ((apply f_pk); first | refine zg1 (v := .c _) ?_ | refine za ?_) | ((apply f_cv); first | refine zf3 ?_ | refine za ?_) | refine zy1 ?_ | refine za ?_) | ((apply f_w); first | refine zx ?_ | refine zd ?_) | refine zb fun C => ?_ | refine zj ?_ | refine zc ?_ | refine ze ?_ | refine zf ?_)
  refine zb3 (fun k : Nat => ⟨tmsF [(0, .c (.v (.string s))), (1, .c (.v (.int .u8 (b : Int)))), (5, .c (.v (.int .i64 (k : Int))))], hpsF [], 0, [], 28⟩)
    (fun N k => k + N = s.size ∧ ∀ j, j < k → plB b (bAt s j) = true) s.size 0 ⟨by omega, fun j hj => absurd hj (Nat.not_lt_zero j)⟩ ?_ ?_
  · (refine ze2 _ _ rfl rfl ?_ ?_ <;> (repeat' (first | exact TmOk.nil | exact RwOk.nil | refine TmOk.cons ?_ ?_ | refine RwOk.cons ?_ ?_ | rfl | (refine rnV_id' rfl ?_; (first | rfl | (simp [cloV, cloL, clo, zn, zm, zo, zk, zi]; done))) | (refine zk2 ?_; first | rfl | omega | (rw [zp1 (by omega) (by omega)]; omega)) | (refine ze1 rfl ?_; (first | rfl | (simp [cloV, cloL, clo, zn, zm, zo, zk, zi]; done))) | exact zg3 rfl rfl | (refine zl2 (by rfl) (by rfl) ?_ ?_ <;> (first | rfl | (simp [cloV, cloL, clo, zn, zm, zo, zk, zi]; done))) | (refine rw_rn' rfl rfl ?_; simp; done))))
  rintro N k ⟨hN, hr⟩
  try dsimp only
  have hlt := ze4 s k
  have c1 := zp9 (bAt s k : Int) 32 126
  repeat' (first | ((apply f_wo); first | ((apply f_gs); first | refine n_sk ?_) | ((apply f_mv); first | (refine zq1 ?_ ?_ <;> intro hG <;> (try cases hG)) | refine zv (v := .c _) ?_ | refine za ?_) | ((apply f_as); first | refine zt (v := .c _) ?_ | refine za ?_) | ((apply f_bi); first | refine zc1 ?_ | refine zb1 ?_ | refine zd1 ?_ | refine za ?_) | ((apply zn1); first | refine zl1 ?_ | refine za ?_) | ((apply zm1); first | refine zh ?_ | refine za ?_) | ((apply zo6); first | refine zv3 ?_ | refine za ?_) | ((apply zj1); first | refine zg ?_ | refine zi1 ?_ | refine za ?_) | ((apply f_no); first | refine zw2 ?_ | refine za ?_) | ((apply f_pk); first | refine zg1 (v := .c _) ?_ | refine za ?_) | ((apply f_cv); first | refine zf3 ?_ | refine za ?_) | refine zy1 ?_ | refine za ?_) | ((apply f_w); first | refine zx ?_ | refine zd ?_) | refine zb fun C => ?_ | refine zj ?_ | refine zc ?_ | refine ze ?_ | refine zf ?_)
  refine zr (by rfl) (fun hk => ?_) fun hk => ?_
  · have hk' : k < s.size := by simpa using hk
    by_cases h1 : 32 ≤ bAt s k ∧ bAt s k ≤ 126
    · rw [show inR (bAt s k : Int) 32 126 = true by simp [inR]; omega] at c1
      repeat' (first | ((apply f_wo); first | ((apply f_gs); first | refine n_sk ?_) | ((apply f_mv); first | (refine zq1 ?_ ?_ <;> intro hG <;> (try cases hG)) | refine zv (v := .c _) ?_ | refine za ?_) | ((apply f_as); first | refine zt (v := .c _) ?_ | refine za ?_) | ((apply f_ca); first | refine zk1 (c1) ?_ | refine zh1 (c1) ?_) | ((apply f_bi); first | refine zc1 ?_ | refine zb1 ?_ | refine zd1 ?_ | refine za ?_) | ((apply zn1); first | refine zl1 ?_ | refine za ?_) | ((apply zm1); first | refine zh ?_ | refine za ?_) | ((apply zo6); first | refine zv3 ?_ | refine za ?_) | ((apply zj1); first | refine zg ?_ | refine zi1 ?_ | refine za ?_) | ((apply f_no); first | refine zw2 ?_ | refine za ?_) | ((apply f_pk); first | refine zg1 (v := .c _) ?_ | refine za ?_) | ((apply f_cv); first | refine zf3 ?_ | refine za ?_) | refine zy1 ?_ | refine za ?_) | ((apply f_w); first | refine zx ?_ | refine zd ?_) | refine zb fun C => ?_ | refine zj ?_ | refine zc ?_ | refine ze ?_ | refine zf ?_)
      refine zr (by rfl) (fun hC => ?_) fun hC => ?_
      · have e : bAt s k = b := by have := eq_of_beq hC; omega
        rw [show textB b s = false by simp [textB, zl7 hk' (show plB b (bAt s k) = false by simp [plB, e])]]
        repeat' (first | ((apply f_wo); first | ((apply f_gs); first | refine n_sk ?_) | ((apply f_mv); first | (refine zq1 ?_ ?_ <;> intro hG <;> (try cases hG)) | refine zv (v := .c _) ?_ | refine za ?_) | ((apply f_as); first | refine zt (v := .c _) ?_ | refine za ?_) | ((apply f_bi); first | refine zc1 ?_ | refine zb1 ?_ | refine zd1 ?_ | refine za ?_) | ((apply zn1); first | refine zl1 ?_ | refine za ?_) | ((apply zm1); first | refine zh ?_ | refine za ?_) | ((apply zo6); first | refine zv3 ?_ | refine za ?_) | ((apply zj1); first | refine zg ?_ | refine zi1 ?_ | refine za ?_) | ((apply f_no); first | refine zw2 ?_ | refine za ?_) | ((apply f_pk); first | refine zg1 (v := .c _) ?_ | refine za ?_) | ((apply f_cv); first | refine zf3 ?_ | refine za ?_) | refine zy1 ?_ | refine za ?_) | ((apply f_w); first | refine zx ?_ | refine zd ?_) | refine zb fun C => ?_ | refine zj ?_ | refine zc ?_ | refine ze ?_ | refine zf ?_ | refine zp rfl ?_ | refine zq rfl ?_)
        refine zw ?_; refine ret0 rfl zu1 ⟨?_, rfl⟩; rfl
      · have e : bAt s k ≠ b := by have := ne_of_beq_false hC; omega
        repeat' (first | ((apply f_wo); first | ((apply f_gs); first | refine n_sk ?_) | ((apply f_mv); first | (refine zq1 ?_ ?_ <;> intro hG <;> (try cases hG)) | refine zv (v := .c _) ?_ | refine za ?_) | ((apply f_as); first | refine zt (v := .c _) ?_ | refine za ?_) | ((apply f_bi); first | refine zc1 ?_ | refine zb1 ?_ | refine zd1 ?_ | refine za ?_) | ((apply zn1); first | refine zl1 ?_ | refine za ?_) | ((apply zm1); first | refine zh ?_ | refine za ?_) | ((apply zo6); first | refine zv3 ?_ | refine za ?_) | ((apply zj1); first | refine zg ?_ | refine zi1 ?_ | refine za ?_) | ((apply f_no); first | refine zw2 ?_ | refine za ?_) | ((apply f_pk); first | refine zg1 (v := .c _) ?_ | refine za ?_) | ((apply f_cv); first | refine zf3 ?_ | refine za ?_) | refine zy1 ?_ | refine za ?_) | ((apply f_w); first | refine zx ?_ | refine zd ?_) | refine zb fun C => ?_ | refine zj ?_ | refine zc ?_ | refine ze ?_ | refine zf ?_ | refine zp rfl ?_ | refine zq rfl ?_)
        refine ⟨N - 1, k + 1, by omega, ⟨by omega, fun j hj => ?_⟩, ?_⟩
        · by_cases e2 : j = k
          · subst e2; simp [plB, h1, e]
          · exact hr j (by omega)
        · (refine ze2 _ _ rfl rfl ?_ ?_ <;> (repeat' (first | exact TmOk.nil | exact RwOk.nil | refine TmOk.cons ?_ ?_ | refine RwOk.cons ?_ ?_ | rfl | (refine rnV_id' rfl ?_; (first | rfl | (simp [cloV, cloL, clo, zn, zm, zo, zk, zi]; done))) | (refine zk2 ?_; first | rfl | omega | (rw [zp1 (by omega) (by omega)]; omega)) | (refine ze1 rfl ?_; (first | rfl | (simp [cloV, cloL, clo, zn, zm, zo, zk, zi]; done))) | exact zg3 rfl rfl | (refine zl2 (by rfl) (by rfl) ?_ ?_ <;> (first | rfl | (simp [cloV, cloL, clo, zn, zm, zo, zk, zi]; done))) | (refine rw_rn' rfl rfl ?_; simp; done))))
    · rw [show inR (bAt s k : Int) 32 126 = false by simp [inR]; omega] at c1
      rw [show textB b s = false by simp [textB, zl7 hk' (show plB b (bAt s k) = false by simp [plB]; omega)]]
      repeat' (first | ((apply f_wo); first | ((apply f_gs); first | refine n_sk ?_) | ((apply f_mv); first | (refine zq1 ?_ ?_ <;> intro hG <;> (try cases hG)) | refine zv (v := .c _) ?_ | refine za ?_) | ((apply f_as); first | refine zt (v := .c _) ?_ | refine za ?_) | ((apply f_ca); first | refine zk1 (c1) ?_ | refine zh1 (c1) ?_) | ((apply f_bi); first | refine zc1 ?_ | refine zb1 ?_ | refine zd1 ?_ | refine za ?_) | ((apply zn1); first | refine zl1 ?_ | refine za ?_) | ((apply zm1); first | refine zh ?_ | refine za ?_) | ((apply zo6); first | refine zv3 ?_ | refine za ?_) | ((apply zj1); first | refine zg ?_ | refine zi1 ?_ | refine za ?_) | ((apply f_no); first | refine zw2 ?_ | refine za ?_) | ((apply f_pk); first | refine zg1 (v := .c _) ?_ | refine za ?_) | ((apply f_cv); first | refine zf3 ?_ | refine za ?_) | refine zy1 ?_ | refine za ?_) | ((apply f_w); first | refine zx ?_ | refine zd ?_) | refine zb fun C => ?_ | refine zj ?_ | refine zc ?_ | refine ze ?_ | refine zf ?_ | refine zp rfl ?_ | refine zq rfl ?_)
      refine zw ?_; refine ret0 rfl zu1 ⟨?_, rfl⟩; rfl
  · have hk' : ¬ k < s.size := by simpa using hk
    rw [show textB b s = decide (s.size ≤ 200) by simp [textB, zo5 fun j (hj : j < s.size) => hr j (by omega)]]
    repeat' (first | ((apply f_wo); first | ((apply f_gs); first | refine n_sk ?_) | ((apply f_mv); first | (refine zq1 ?_ ?_ <;> intro hG <;> (try cases hG)) | refine zv (v := .c _) ?_ | refine za ?_) | ((apply f_as); first | refine zt (v := .c _) ?_ | refine za ?_) | ((apply f_bi); first | refine zc1 ?_ | refine zb1 ?_ | refine zd1 ?_ | refine za ?_) | ((apply zn1); first | refine zl1 ?_ | refine za ?_) | ((apply zm1); first | refine zh ?_ | refine za ?_) | ((apply zo6); first | refine zv3 ?_ | refine za ?_) | ((apply zj1); first | refine zg ?_ | refine zi1 ?_ | refine za ?_) | ((apply f_no); first | refine zw2 ?_ | refine za ?_) | ((apply f_pk); first | refine zg1 (v := .c _) ?_ | refine za ?_) | ((apply f_cv); first | refine zf3 ?_ | refine za ?_) | refine zy1 ?_ | refine za ?_) | ((apply f_w); first | refine zx ?_ | refine zd ?_) | refine zb fun C => ?_ | refine zj ?_ | refine zc ?_ | refine ze ?_ | refine zf ?_ | refine zp rfl ?_ | refine zq rfl ?_)
    (first | refine zw ?_ | skip); refine ret0 rfl zu1 ⟨?_, rfl⟩; refine congrArg (fun s => AV.c (AC.v (Value.bool s))) ?_
    (rw [Bool.eq_iff_iff]; (try simp only [Bool.and_eq_true, Bool.or_eq_true, Bool.not_eq_true', decide_eq_true_iff, decide_eq_false_iff_not, beq_iff_eq, Bool.and_eq_false_iff, Bool.or_eq_false_iff, bne_iff_ne, ne_eq, Bool.true_eq_false, Bool.false_eq_true, true_iff, false_iff, iff_true, iff_false] at *); first | omega | (simp at *; omega))
theorem zm13 {s : ByteArray} (hs : s.size ≤ 1048576) : Ctr Tryd.prog 27 [.c (.v (.string s))] [] (.c (.v (.bool (textB 39 s)))) [] := by
  have c1 := zf11 hs (b := 39) (by omega)
  refine za2 Tryd.func27 rfl rfl ?_
  repeat' (first | ((apply f_wo); first | ((apply f_gs); first | refine n_sk ?_) | ((apply f_mv); first | (refine zq1 ?_ ?_ <;> intro hG <;> (try cases hG)) | refine zv (v := .c _) ?_ | refine za ?_) | ((apply f_as); first | refine zt (v := .c _) ?_ | refine za ?_) | ((apply f_ca); first | refine zk1 (c1) ?_ | refine zh1 (c1) ?_) | ((apply f_bi); first | refine zc1 ?_ | refine zb1 ?_ | refine zd1 ?_ | refine za ?_) | ((apply zo6); first | refine zv3 ?_ | refine za ?_) | ((apply f_pk); first | refine zg1 (v := .c _) ?_ | refine za ?_) | refine za ?_) | ((apply f_w); first | refine zx ?_ | refine zd ?_) | refine zb fun C => ?_ | refine zj ?_ | refine zc ?_ | refine ze ?_ | refine zf ?_ | (refine zr (by rfl) ?_ ?_ <;> intro hC <;> (try cases hC)))
  all_goals
    (first | refine zw ?_ | skip); refine ret0 rfl zu1 ⟨?_, rfl⟩; refine congrArg (fun s => AV.c (AC.v (Value.bool s))) ?_
    unfold textB
    (rw [Bool.eq_iff_iff]; (try simp only [Bool.and_eq_true, Bool.or_eq_true, Bool.not_eq_true', decide_eq_true_iff, decide_eq_false_iff_not, beq_iff_eq, Bool.and_eq_false_iff, Bool.or_eq_false_iff, bne_iff_ne, ne_eq, Bool.true_eq_false, Bool.false_eq_true, true_iff, false_iff, iff_true, iff_false] at *); first | omega | (simp at *; omega))
theorem zy8 {s : ByteArray} (hs : s.size ≤ 1048576) : Ctr Tryd.prog 28 [.c (.v (.string s))] [] (.c (.v (.bool (decide (1 ≤ s.size) && textB 47 s)))) [] := by
  have c1 := zf11 hs (b := 47) (by omega)
  have cw := zd8 (s.size : Int) 1 200
  by_cases hb : 1 ≤ s.size ∧ s.size ≤ 200
  · rw [show inR (s.size : Int) 1 200 = true by simp [inR]; omega] at cw
    rw [show (decide (1 ≤ s.size) && textB 47 s) = allB (plB 47) s by simp [textB, hb]]
    refine za2 Tryd.func28 rfl rfl ?_
    repeat' (first | ((apply f_wo); first | ((apply f_gs); first | refine n_sk ?_) | ((apply f_mv); first | (refine zq1 ?_ ?_ <;> intro hG <;> (try cases hG)) | refine zv (v := .c _) ?_ | refine za ?_) | ((apply f_as); first | refine zt (v := .c _) ?_ | refine za ?_) | ((apply f_ca); first | refine zk1 (c1) ?_ | refine zh1 (c1) ?_ | refine zk1 (cw) ?_ | refine zh1 (cw) ?_) | ((apply f_bi); first | refine zc1 ?_ | refine zb1 ?_ | refine zd1 ?_ | refine za ?_) | ((apply f_pk); first | refine zg1 (v := .c _) ?_ | refine za ?_) | refine za ?_) | ((apply f_w); first | refine zx ?_ | refine zd ?_) | refine zb fun C => ?_ | refine zj ?_ | refine zc ?_ | refine ze ?_ | refine zf ?_ | refine zp rfl ?_ | refine zq rfl ?_)
    refine zw ?_; refine ret0 rfl zu1 ⟨?_, rfl⟩; rfl
  · rw [show inR (s.size : Int) 1 200 = false by simp [inR]; omega] at cw
    rw [show (decide (1 ≤ s.size) && textB 47 s) = false by simp [textB]; omega]
    refine za2 Tryd.func28 rfl rfl ?_
    repeat' (first | ((apply f_wo); first | ((apply f_gs); first | refine n_sk ?_) | ((apply f_mv); first | (refine zq1 ?_ ?_ <;> intro hG <;> (try cases hG)) | refine zv (v := .c _) ?_ | refine za ?_) | ((apply f_as); first | refine zt (v := .c _) ?_ | refine za ?_) | ((apply f_ca); first | refine zk1 (c1) ?_ | refine zh1 (c1) ?_ | refine zk1 (cw) ?_ | refine zh1 (cw) ?_) | ((apply f_bi); first | refine zc1 ?_ | refine zb1 ?_ | refine zd1 ?_ | refine za ?_) | ((apply f_pk); first | refine zg1 (v := .c _) ?_ | refine za ?_) | refine za ?_) | ((apply f_w); first | refine zx ?_ | refine zd ?_) | refine zb fun C => ?_ | refine zj ?_ | refine zc ?_ | refine ze ?_ | refine zf ?_ | refine zp rfl ?_ | refine zq rfl ?_)
    refine zw ?_; refine ret0 rfl zu1 ⟨?_, rfl⟩; rfl
end Go.Proofs.YtnlgmojciplnoaaDoor
