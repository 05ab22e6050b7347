/- The machine: blocks given over to those that stand; the conversion of a literal's row of bytes, by which it stands from then on. -/
import Derived.Shelf.LaysM
import Derived.Shelf.Strconv.Itoa3
import Derived.Test.YtnlgmojciplnoaaDoorLxdPI
namespace Go.Proofs.YtnlgmojciplnoaaDoor
open Go.RowKit
set_option maxRecDepth 100000
section
variable {C : Ctx} {φ : Nat → Lc} {F : Nat → List Nat} {St : Nat → Prop} {σ : AS} {a : Act} {w w' : World}
end
section
variable {P : Program} {ops : Array Oper} {Q : Exit → Act → World → Prop} {C : Ctx} {i : Nat} {r : List Nat} {o : Oper}
variable {tm : Nat → AV} {hp : Nat → Option Row} {gn L : Nat} {us : List Nat} {x : AV}
end
def letB (c : Nat) : Bool := decide (97 ≤ c) && decide (c ≤ 122)
def ldB (c : Nat) : Bool := letB c || digB c
def plB (b c : Nat) : Bool := decide (32 ≤ c) && (decide (c ≤ 126) && decide (c ≠ b))
def allB (p : Nat → Bool) (s : ByteArray) : Bool := decide (∀ j, j < s.size → p (bAt s j) = true)
def runF (p : Nat → Bool) (s : ByteArray) : Nat → Nat → Nat
  | 0, a => a
  | f + 1, a => if a < s.size ∧ p (bAt s a) = true then runF p s f (a + 1) else a
def nameW (s : ByteArray) : Bool := decide (1 ≤ s.size) && (decide (s.size ≤ 8) && (letB (bAt s 0) && allB ldB s))
def textB (b : Nat) (s : ByteArray) : Bool := decide (s.size ≤ 200) && allB (plB b) s
theorem zj6 {p : Nat → Bool} {s : ByteArray} (h : ∀ j, j < s.size → p (bAt s j) = true) : allB p s = true := decide_eq_true h
theorem zw10 {p : Nat → Bool} {s : ByteArray} {j : Nat} (h : j < s.size) (h2 : p (bAt s j) = false) : allB p s = false := decide_eq_false fun hh => by rw [hh j h] at h2; cases h2
theorem zc7 {p : Nat → Bool} {s : ByteArray} {f a : Nat} (h : a < s.size) (h2 : p (bAt s a) = true) : runF p s (f + 1) a = runF p s f (a + 1) := if_pos ⟨h, h2⟩
theorem zw7 {p : Nat → Bool} {s : ByteArray} {f a : Nat} (h : ¬ (a < s.size ∧ p (bAt s a) = true)) : runF p s f a = a := by
  cases f with
  | zero => rfl
  | succ f => exact if_neg h
theorem zh2 {p : Nat → Bool} {s : ByteArray} : ∀ (f a : Nat), a ≤ s.size → s.size ≤ a + f → a ≤ runF p s f a ∧ runF p s f a ≤ s.size ∧ (∀ j, a ≤ j → j < runF p s f a → p (bAt s j) = true) ∧ (runF p s f a < s.size → p (bAt s (runF p s f a)) = false)
  | 0, a, h1, h2 => ⟨Nat.le_refl _, h1, fun j h3 h4 => absurd h4 (by show ¬ j < a; omega), fun h => absurd h (by show ¬ a < s.size; omega)⟩
  | f + 1, a, h1, h2 => by
    by_cases h : a < s.size ∧ p (bAt s a) = true
    · have h0 := h.1
      rw [zc7 h.1 h.2]
      obtain ⟨g1, g2, g3, g4⟩ := zh2 (p := p) (s := s) f (a + 1) (by omega) (by omega)
      refine ⟨by omega, g2, fun j h3 h4 => ?_, g4⟩
      by_cases e : j = a
      · subst e; exact h.2
      · exact g3 j (by omega) h4
    · rw [zw7 h]
      refine ⟨Nat.le_refl _, h1, fun j h3 h4 => by omega, fun h5 => ?_⟩
      cases hb : p (bAt s a) with
      | false => rfl
      | true => exact absurd ⟨h5, hb⟩ h
theorem za20 {p : Nat → Bool} {s : ByteArray} : decide ((runF p s s.size 0 : Int) = (s.size : Int)) = allB p s := by
  obtain ⟨g1, g2, g3, g4⟩ := zh2 (p := p) (s := s) s.size 0 (Nat.zero_le _) (by omega)
  by_cases h : runF p s s.size 0 = s.size
  · rw [zj6 fun j hj => g3 j (Nat.zero_le _) (by omega)]
    simp [h]
  · rw [zw10 (show runF p s s.size 0 < s.size by omega) (g4 (by omega))]
    simp; omega
theorem zb5 (c : Nat) : Ctr Tryd.prog 48 [.c (.v (.int .u8 (c : Int)))] [] (.c (.v (.bool (letB c)))) [] := by
  refine zf2 Tryd.func48 rfl rfl ?_
  repeat' (first | refine zl ?_ | refine zd ?_ | refine zf ?_ | refine zg ?_ | refine zb fun C => ?_ | refine zt (by kernel_rfl) (by kernel_rfl) fun C => ?_ | refine zc ?_ | (refine x_gm ?_ ?_ <;> intro hG <;> (try cases hG)) | refine zz5 ?_ | refine x_bs ?_ | refine x_gr ?_ | refine x_st ?_ | refine x_mv ?_ | refine x_sk ?_ | refine zw14 ?_ | refine x_ix ?_ | refine zx14 ?_ | refine zy14 ?_ | refine zz14 ?_ | refine zy9 ?_ | refine x_ld ?_ | refine zd17 ?_ | (refine zd5 (by rfl) ?_ ?_ <;> intro hC <;> (try cases hC)))
  all_goals
    (first | refine zy ?_ | skip); refine ret0 rfl zc2 ⟨?_, rfl⟩; refine congrArg (fun s => AV.c (AC.v (Value.bool s))) ?_
    unfold letB
    (rw [Bool.eq_iff_iff]; (try simp only [Bool.and_eq_true, Bool.or_eq_true, Bool.not_eq_true', decide_eq_true_iff, decide_eq_false_iff_not, beq_iff_eq, Bool.and_eq_false_iff, Bool.or_eq_false_iff, bne_iff_ne, ne_eq, Bool.true_eq_false, Bool.false_eq_true, true_iff, false_iff, iff_true, iff_false] at *); first | omega | (simp at *; omega))
theorem zw6 {s : ByteArray} (hs : s.size ≤ 1048576) : Ctr Tryd.prog 49 [.c (.v (.string s))] [] (.c (.v (.int .i64 (runF ldB s s.size 0 : Nat)))) [] := by
  refine zf2 Tryd.func49 rfl rfl ?_
  repeat' (first | ((apply f_wo); first | ((apply f_gs); first | refine n_sk ?_) | ((apply f_mv); first | (refine zx1 ?_ ?_ <;> intro hG <;> (try cases hG)) | refine zw (v := .c _) ?_ | refine za ?_) | ((apply f_as); first | refine zv (v := .c _) ?_ | refine za ?_) | ((apply f_bi); first | refine zd1 ?_ | refine zc1 ?_ | refine ze1 ?_ | refine za ?_) | ((apply zy1); first | refine zm ?_ | refine za ?_) | ((apply zt1); first | refine zi ?_ | refine zs1 ?_ | refine za ?_) | ((apply f_pk); first | refine zg1 (v := .c _) ?_ | refine za ?_) | refine zd2 ?_ | refine za ?_) | ((apply f_w); first | refine zx ?_ | refine zc ?_) | refine zb fun C => ?_ | refine zl ?_ | refine zd ?_ | refine zf ?_ | refine zg ?_)
  refine zy3 (fun k : Nat => ⟨tmsF [(0, .c (.v (.string s))), (3, .c (.v (.int .i64 (k : Int))))], hpsF [], 0, [], 23⟩)
    (fun N k => k + N = s.size ∧ runF ldB s s.size 0 = runF ldB s N k) s.size 0 ⟨by omega, rfl⟩ ?_ ?_
  · (refine zt2 _ _ rfl rfl ?_ ?_ <;> (repeat' (first | exact TmOk.nil | exact RwOk.nil | refine TmOk.cons ?_ ?_ | refine RwOk.cons ?_ ?_ | rfl | (refine rnV_id' rfl ?_; (first | rfl | (simp [cloV, cloL, clo, zn, zk, zo, zj, zh]; done))) | (refine zh3 ?_; first | rfl | omega | (rw [za2 (by omega) (by omega)]; omega)) | (refine zb1 rfl ?_; (first | rfl | (simp [cloV, cloL, clo, zn, zk, zo, zj, zh]; done))) | exact zu3 rfl rfl | (refine zi3 (by rfl) (by rfl) ?_ ?_ <;> (first | rfl | (simp [cloV, cloL, clo, zn, zk, zo, zj, zh]; done))) | (refine rw_rn' rfl rfl ?_; simp; done))))
  rintro N k ⟨hN, hr⟩
  try dsimp only
  have c1 := zb5 (bAt s k)
  have c2 := za5 (bAt s k)
  by_cases hk : k < s.size
  · obtain ⟨M, rfl⟩ : ∃ M, N = M + 1 := ⟨N - 1, by omega⟩
    cases h1 : letB (bAt s k) with
    | true =>
      rw [h1] at c1
      have hq : runF ldB s s.size 0 = runF ldB s M (k + 1) := by rw [hr, zc7 hk (by simp [ldB, h1])]
      repeat' (first | ((apply f_wo); first | ((apply f_gs); first | refine n_sk ?_) | ((apply f_mv); first | (refine zx1 ?_ ?_ <;> intro hG <;> (try cases hG)) | refine zw (v := .c _) ?_ | refine za ?_) | ((apply f_as); first | refine zv (v := .c _) ?_ | refine za ?_) | ((apply f_ca); first | refine zn1 (c1) ?_ | refine zm1 (c1) ?_ | refine zn1 (c2) ?_ | refine zm1 (c2) ?_) | ((apply f_bi); first | refine zd1 ?_ | refine zc1 ?_ | refine ze1 ?_ | refine za ?_) | ((apply zy1); first | refine zm ?_ | refine za ?_) | ((apply zt1); first | refine zi ?_ | refine zs1 ?_ | refine za ?_) | ((apply f_pk); first | refine zg1 (v := .c _) ?_ | refine za ?_) | refine zd2 ?_ | refine za ?_) | ((apply f_w); first | refine zx ?_ | refine zc ?_) | refine zb fun C => ?_ | refine zl ?_ | refine zd ?_ | refine zf ?_ | refine zg ?_ | (refine zu (by rfl) ?_ ?_ <;> intro hC <;> (try cases hC)))
      all_goals first
        | (exfalso; simp only [decide_eq_true_iff, decide_eq_false_iff_not] at *; omega)
        | (refine ⟨M, k + 1, by omega, ⟨by omega, hq⟩, ?_⟩; (refine zt2 _ _ rfl rfl ?_ ?_ <;> (repeat' (first | exact TmOk.nil | exact RwOk.nil | refine TmOk.cons ?_ ?_ | refine RwOk.cons ?_ ?_ | rfl | (refine rnV_id' rfl ?_; (first | rfl | (simp [cloV, cloL, clo, zn, zk, zo, zj, zh]; done))) | (refine zh3 ?_; first | rfl | omega | (rw [za2 (by omega) (by omega)]; omega)) | (refine zb1 rfl ?_; (first | rfl | (simp [cloV, cloL, clo, zn, zk, zo, zj, zh]; done))) | exact zu3 rfl rfl | (refine zi3 (by rfl) (by rfl) ?_ ?_ <;> (first | rfl | (simp [cloV, cloL, clo, zn, zk, zo, zj, zh]; done))) | (refine rw_rn' rfl rfl ?_; simp; done)))))
    | false =>
      rw [h1] at c1
      cases h2 : digB (bAt s k) with
      | true =>
        rw [h2] at c2
        have hq : runF ldB s s.size 0 = runF ldB s M (k + 1) := by rw [hr, zc7 hk (by simp [ldB, h2])]
        repeat' (first | ((apply f_wo); first | ((apply f_gs); first | refine n_sk ?_) | ((apply f_mv); first | (refine zx1 ?_ ?_ <;> intro hG <;> (try cases hG)) | refine zw (v := .c _) ?_ | refine za ?_) | ((apply f_as); first | refine zv (v := .c _) ?_ | refine za ?_) | ((apply f_ca); first | refine zn1 (c1) ?_ | refine zm1 (c1) ?_ | refine zn1 (c2) ?_ | refine zm1 (c2) ?_) | ((apply f_bi); first | refine zd1 ?_ | refine zc1 ?_ | refine ze1 ?_ | refine za ?_) | ((apply zy1); first | refine zm ?_ | refine za ?_) | ((apply zt1); first | refine zi ?_ | refine zs1 ?_ | refine za ?_) | ((apply f_pk); first | refine zg1 (v := .c _) ?_ | refine za ?_) | refine zd2 ?_ | refine za ?_) | ((apply f_w); first | refine zx ?_ | refine zc ?_) | refine zb fun C => ?_ | refine zl ?_ | refine zd ?_ | refine zf ?_ | refine zg ?_ | (refine zu (by rfl) ?_ ?_ <;> intro hC <;> (try cases hC)))
        all_goals first
          | (exfalso; simp only [decide_eq_true_iff, decide_eq_false_iff_not] at *; omega)
          | (refine ⟨M, k + 1, by omega, ⟨by omega, hq⟩, ?_⟩; (refine zt2 _ _ rfl rfl ?_ ?_ <;> (repeat' (first | exact TmOk.nil | exact RwOk.nil | refine TmOk.cons ?_ ?_ | refine RwOk.cons ?_ ?_ | rfl | (refine rnV_id' rfl ?_; (first | rfl | (simp [cloV, cloL, clo, zn, zk, zo, zj, zh]; done))) | (refine zh3 ?_; first | rfl | omega | (rw [za2 (by omega) (by omega)]; omega)) | (refine zb1 rfl ?_; (first | rfl | (simp [cloV, cloL, clo, zn, zk, zo, zj, zh]; done))) | exact zu3 rfl rfl | (refine zi3 (by rfl) (by rfl) ?_ ?_ <;> (first | rfl | (simp [cloV, cloL, clo, zn, zk, zo, zj, zh]; done))) | (refine rw_rn' rfl rfl ?_; simp; done)))))
      | false =>
        rw [h2] at c2
        rw [hr, zw7 fun h => by simp [ldB, h1, h2] at h]
        repeat' (first | ((apply f_wo); first | ((apply f_gs); first | refine n_sk ?_) | ((apply f_mv); first | (refine zx1 ?_ ?_ <;> intro hG <;> (try cases hG)) | refine zw (v := .c _) ?_ | refine za ?_) | ((apply f_as); first | refine zv (v := .c _) ?_ | refine za ?_) | ((apply f_ca); first | refine zn1 (c1) ?_ | refine zm1 (c1) ?_ | refine zn1 (c2) ?_ | refine zm1 (c2) ?_) | ((apply f_bi); first | refine zd1 ?_ | refine zc1 ?_ | refine ze1 ?_ | refine za ?_) | ((apply zy1); first | refine zm ?_ | refine za ?_) | ((apply zt1); first | refine zi ?_ | refine zs1 ?_ | refine za ?_) | ((apply f_pk); first | refine zg1 (v := .c _) ?_ | refine za ?_) | refine zd2 ?_ | refine za ?_) | ((apply f_w); first | refine zx ?_ | refine zc ?_) | refine zb fun C => ?_ | refine zl ?_ | refine zd ?_ | refine zf ?_ | refine zg ?_ | (refine zu (by rfl) ?_ ?_ <;> intro hC <;> (try cases hC)))
        all_goals first
          | (exfalso; simp only [decide_eq_true_iff, decide_eq_false_iff_not] at *; omega)
          | (refine zy ?_; refine ret0 rfl zc2 ⟨?_, rfl⟩; rfl)
  · rw [hr, zw7 fun h => hk h.1]
    repeat' (first | ((apply f_wo); first | ((apply f_gs); first | refine n_sk ?_) | ((apply f_mv); first | (refine zx1 ?_ ?_ <;> intro hG <;> (try cases hG)) | refine zw (v := .c _) ?_ | refine za ?_) | ((apply f_as); first | refine zv (v := .c _) ?_ | refine za ?_) | ((apply f_ca); first | refine zn1 (c1) ?_ | refine zm1 (c1) ?_ | refine zn1 (c2) ?_ | refine zm1 (c2) ?_) | ((apply f_bi); first | refine zd1 ?_ | refine zc1 ?_ | refine ze1 ?_ | refine za ?_) | ((apply zy1); first | refine zm ?_ | refine za ?_) | ((apply zt1); first | refine zi ?_ | refine zs1 ?_ | refine za ?_) | ((apply f_pk); first | refine zg1 (v := .c _) ?_ | refine za ?_) | refine zd2 ?_ | refine za ?_) | ((apply f_w); first | refine zx ?_ | refine zc ?_) | refine zb fun C => ?_ | refine zl ?_ | refine zd ?_ | refine zf ?_ | refine zg ?_ | (refine zu (by rfl) ?_ ?_ <;> intro hC <;> (try cases hC)))
    all_goals first
      | (exfalso; simp only [decide_eq_true_iff, decide_eq_false_iff_not] at *; omega)
      | (refine zy ?_; refine ret0 rfl zc2 ⟨?_, rfl⟩; rfl)
theorem zm17 {s : ByteArray} (hs : s.size ≤ 1048576) : Ctr Tryd.prog 26 [.c (.v (.string s))] [] (.c (.v (.bool (nameW s)))) [] := by
  have cw := zb7 (s.size : Int) 1 8
  have c1 := zb5 (bAt s 0)
  have c2 := zw6 hs
  by_cases hb : 1 ≤ s.size ∧ s.size ≤ 8
  · rw [show inR (s.size : Int) 1 8 = true by simp [inR]; omega] at cw
    cases h1 : letB (bAt s 0) with
    | true =>
      rw [h1] at c1
      rw [show nameW s = decide ((runF ldB s s.size 0 : Int) = (s.size : Int)) by rw [za20]; simp [nameW, hb, h1]]
      refine zf2 Tryd.func26 rfl rfl ?_
      repeat' (first | ((apply f_wo); first | ((apply f_gs); first | refine n_sk ?_) | ((apply f_mv); first | (refine zx1 ?_ ?_ <;> intro hG <;> (try cases hG)) | refine zw (v := .c _) ?_ | refine za ?_) | ((apply f_as); first | refine zv (v := .c _) ?_ | refine za ?_) | ((apply f_ca); first | refine zn1 (cw) ?_ | refine zm1 (cw) ?_ | refine zn1 (c1) ?_ | refine zm1 (c1) ?_ | refine zn1 (c2) ?_ | refine zm1 (c2) ?_) | ((apply f_bi); first | refine zd1 ?_ | refine zc1 ?_ | refine ze1 ?_ | refine za ?_) | ((apply zb2); first | refine zk1 ?_ | refine za ?_) | ((apply f_pk); first | refine zg1 (v := .c _) ?_ | refine za ?_) | refine zd2 ?_ | refine za ?_) | ((apply f_w); first | refine zx ?_ | refine zc ?_) | refine zb fun C => ?_ | refine zl ?_ | refine zd ?_ | refine zf ?_ | refine zg ?_ | refine zq rfl ?_ | refine zr rfl ?_)
      refine zy ?_; refine ret0 rfl zc2 ⟨?_, rfl⟩; rfl
    | false =>
      rw [h1] at c1
      rw [show nameW s = false by simp [nameW, h1]]
      refine zf2 Tryd.func26 rfl rfl ?_
      repeat' (first | ((apply f_wo); first | ((apply f_gs); first | refine n_sk ?_) | ((apply f_mv); first | (refine zx1 ?_ ?_ <;> intro hG <;> (try cases hG)) | refine zw (v := .c _) ?_ | refine za ?_) | ((apply f_as); first | refine zv (v := .c _) ?_ | refine za ?_) | ((apply f_ca); first | refine zn1 (cw) ?_ | refine zm1 (cw) ?_ | refine zn1 (c1) ?_ | refine zm1 (c1) ?_ | refine zn1 (c2) ?_ | refine zm1 (c2) ?_) | ((apply f_bi); first | refine zd1 ?_ | refine zc1 ?_ | refine ze1 ?_ | refine za ?_) | ((apply zb2); first | refine zk1 ?_ | refine za ?_) | ((apply f_pk); first | refine zg1 (v := .c _) ?_ | refine za ?_) | refine zd2 ?_ | refine za ?_) | ((apply f_w); first | refine zx ?_ | refine zc ?_) | refine zb fun C => ?_ | refine zl ?_ | refine zd ?_ | refine zf ?_ | refine zg ?_ | refine zq rfl ?_ | refine zr rfl ?_)
      refine zy ?_; refine ret0 rfl zc2 ⟨?_, rfl⟩; rfl
  · rw [show inR (s.size : Int) 1 8 = false by simp [inR]; omega] at cw
    rw [show nameW s = false by simp [nameW]; omega]
    refine zf2 Tryd.func26 rfl rfl ?_
    repeat' (first | ((apply f_wo); first | ((apply f_gs); first | refine n_sk ?_) | ((apply f_mv); first | (refine zx1 ?_ ?_ <;> intro hG <;> (try cases hG)) | refine zw (v := .c _) ?_ | refine za ?_) | ((apply f_as); first | refine zv (v := .c _) ?_ | refine za ?_) | ((apply f_ca); first | refine zn1 (cw) ?_ | refine zm1 (cw) ?_ | refine zn1 (c1) ?_ | refine zm1 (c1) ?_ | refine zn1 (c2) ?_ | refine zm1 (c2) ?_) | ((apply f_bi); first | refine zd1 ?_ | refine zc1 ?_ | refine ze1 ?_ | refine za ?_) | ((apply zb2); first | refine zk1 ?_ | refine za ?_) | ((apply f_pk); first | refine zg1 (v := .c _) ?_ | refine za ?_) | refine zd2 ?_ | refine za ?_) | ((apply f_w); first | refine zx ?_ | refine zc ?_) | refine zb fun C => ?_ | refine zl ?_ | refine zd ?_ | refine zf ?_ | refine zg ?_ | refine zq rfl ?_ | refine zr rfl ?_)
    refine zy ?_; refine ret0 rfl zc2 ⟨?_, rfl⟩; rfl
theorem zz9 {s : ByteArray} (hs : s.size ≤ 1048576) {b : Nat} (hb : b < 256) : Ctr Tryd.prog 53 [.c (.v (.string s)), .c (.v (.int .u8 (b : Int)))] [] (.c (.v (.bool (allB (plB b) s)))) [] := by
  refine zf2 Tryd.func53 rfl rfl ?_
  repeat' (first | ((apply f_wo); first | ((apply f_gs); first | refine n_sk ?_) | ((apply f_mv); first | (refine zx1 ?_ ?_ <;> intro hG <;> (try cases hG)) | refine zw (v := .c _) ?_ | refine za ?_) | ((apply f_as); first | refine zv (v := .c _) ?_ | refine za ?_) | ((apply f_bi); first | refine zd1 ?_ | refine zc1 ?_ | refine ze1 ?_ | refine za ?_) | ((apply zb2); first | refine zl1 ?_ | refine za ?_) | ((apply zy1); first | refine zm ?_ | refine za ?_) | ((apply zt1); first | refine zi ?_ | refine zs1 ?_ | refine za ?_) | ((apply f_no); first | refine zl3 ?_ | refine za ?_) | ((apply f_pk); first | refine zg1 (v := .c _) ?_ | refine za ?_) | ((apply f_cv); first | refine zd4 ?_ | refine za ?_) | refine zd2 ?_ | refine za ?_) | ((apply f_w); first | refine zx ?_ | refine zc ?_) | refine zb fun C => ?_ | refine zl ?_ | refine zd ?_ | refine zf ?_ | refine zg ?_)
  refine zy3 (fun k : Nat => ⟨tmsF [(0, .c (.v (.string s))), (1, .c (.v (.int .u8 (b : Int)))), (5, .c (.v (.int .i64 (k : Int))))], hpsF [], 0, [], 25⟩)
    (fun N k => k + N = s.size ∧ ∀ j, j < k → plB b (bAt s j) = true) s.size 0 ⟨by omega, fun j hj => absurd hj (Nat.not_lt_zero j)⟩ ?_ ?_
  · (refine zt2 _ _ rfl rfl ?_ ?_ <;> (repeat' (first | exact TmOk.nil | exact RwOk.nil | refine TmOk.cons ?_ ?_ | refine RwOk.cons ?_ ?_ | rfl | (refine rnV_id' rfl ?_; (first | rfl | (simp [cloV, cloL, clo, zn, zk, zo, zj, zh]; done))) | (refine zh3 ?_; first | rfl | omega | (rw [za2 (by omega) (by omega)]; omega)) | (refine zb1 rfl ?_; (first | rfl | (simp [cloV, cloL, clo, zn, zk, zo, zj, zh]; done))) | exact zu3 rfl rfl | (refine zi3 (by rfl) (by rfl) ?_ ?_ <;> (first | rfl | (simp [cloV, cloL, clo, zn, zk, zo, zj, zh]; done))) | (refine rw_rn' rfl rfl ?_; simp; done))))
  rintro N k ⟨hN, hr⟩
  try dsimp only
  have hlt := zn5 s k
  have c1 := zb7 (bAt s k : Int) 32 126
  repeat' (first | ((apply f_wo); first | ((apply f_gs); first | refine n_sk ?_) | ((apply f_mv); first | (refine zx1 ?_ ?_ <;> intro hG <;> (try cases hG)) | refine zw (v := .c _) ?_ | refine za ?_) | ((apply f_as); first | refine zv (v := .c _) ?_ | refine za ?_) | ((apply f_bi); first | refine zd1 ?_ | refine zc1 ?_ | refine ze1 ?_ | refine za ?_) | ((apply zb2); first | refine zl1 ?_ | refine za ?_) | ((apply zy1); first | refine zm ?_ | refine za ?_) | ((apply zt1); first | refine zi ?_ | refine zs1 ?_ | refine za ?_) | ((apply f_no); first | refine zl3 ?_ | refine za ?_) | ((apply f_pk); first | refine zg1 (v := .c _) ?_ | refine za ?_) | ((apply f_cv); first | refine zd4 ?_ | refine za ?_) | refine zd2 ?_ | refine za ?_) | ((apply f_w); first | refine zx ?_ | refine zc ?_) | refine zb fun C => ?_ | refine zl ?_ | refine zd ?_ | refine zf ?_ | refine zg ?_)
  refine zu (by rfl) (fun hk => ?_) fun hk => ?_
  · have hk' : k < s.size := by simpa using hk
    by_cases h1 : 32 ≤ bAt s k ∧ bAt s k ≤ 126
    · rw [show inR (bAt s k : Int) 32 126 = true by simp [inR]; omega] at c1
      repeat' (first | ((apply f_wo); first | ((apply f_gs); first | refine n_sk ?_) | ((apply f_mv); first | (refine zx1 ?_ ?_ <;> intro hG <;> (try cases hG)) | refine zw (v := .c _) ?_ | refine za ?_) | ((apply f_as); first | refine zv (v := .c _) ?_ | refine za ?_) | ((apply f_ca); first | refine zn1 (c1) ?_ | refine zm1 (c1) ?_) | ((apply f_bi); first | refine zd1 ?_ | refine zc1 ?_ | refine ze1 ?_ | refine za ?_) | ((apply zb2); first | refine zl1 ?_ | refine za ?_) | ((apply zy1); first | refine zm ?_ | refine za ?_) | ((apply zt1); first | refine zi ?_ | refine zs1 ?_ | refine za ?_) | ((apply f_no); first | refine zl3 ?_ | refine za ?_) | ((apply f_pk); first | refine zg1 (v := .c _) ?_ | refine za ?_) | ((apply f_cv); first | refine zd4 ?_ | refine za ?_) | refine zd2 ?_ | refine za ?_) | ((apply f_w); first | refine zx ?_ | refine zc ?_) | refine zb fun C => ?_ | refine zl ?_ | refine zd ?_ | refine zf ?_ | refine zg ?_)
      refine zu (by rfl) (fun hC => ?_) fun hC => ?_
      · have e : bAt s k = b := by have := eq_of_beq hC; omega
        rw [zw10 hk' (show plB b (bAt s k) = false by simp [plB, e])]
        repeat' (first | ((apply f_wo); first | ((apply f_gs); first | refine n_sk ?_) | ((apply f_mv); first | (refine zx1 ?_ ?_ <;> intro hG <;> (try cases hG)) | refine zw (v := .c _) ?_ | refine za ?_) | ((apply f_as); first | refine zv (v := .c _) ?_ | refine za ?_) | ((apply f_bi); first | refine zd1 ?_ | refine zc1 ?_ | refine ze1 ?_ | refine za ?_) | ((apply zb2); first | refine zl1 ?_ | refine za ?_) | ((apply zy1); first | refine zm ?_ | refine za ?_) | ((apply zt1); first | refine zi ?_ | refine zs1 ?_ | refine za ?_) | ((apply f_no); first | refine zl3 ?_ | refine za ?_) | ((apply f_pk); first | refine zg1 (v := .c _) ?_ | refine za ?_) | ((apply f_cv); first | refine zd4 ?_ | refine za ?_) | refine zd2 ?_ | refine za ?_) | ((apply f_w); first | refine zx ?_ | refine zc ?_) | refine zb fun C => ?_ | refine zl ?_ | refine zd ?_ | refine zf ?_ | refine zg ?_ | refine zq rfl ?_ | refine zr rfl ?_)
        refine zy ?_; refine ret0 rfl zc2 ⟨?_, rfl⟩; rfl
      · have e : bAt s k ≠ b := by have := ne_of_beq_false hC; omega
        repeat' (first | ((apply f_wo); first | ((apply f_gs); first | refine n_sk ?_) | ((apply f_mv); first | (refine zx1 ?_ ?_ <;> intro hG <;> (try cases hG)) | refine zw (v := .c _) ?_ | refine za ?_) | ((apply f_as); first | refine zv (v := .c _) ?_ | refine za ?_) | ((apply f_bi); first | refine zd1 ?_ | refine zc1 ?_ | refine ze1 ?_ | refine za ?_) | ((apply zb2); first | refine zl1 ?_ | refine za ?_) | ((apply zy1); first | refine zm ?_ | refine za ?_) | ((apply zt1); first | refine zi ?_ | refine zs1 ?_ | refine za ?_) | ((apply f_no); first | refine zl3 ?_ | refine za ?_) | ((apply f_pk); first | refine zg1 (v := .c _) ?_ | refine za ?_) | ((apply f_cv); first | refine zd4 ?_ | refine za ?_) | refine zd2 ?_ | refine za ?_) | ((apply f_w); first | refine zx ?_ | refine zc ?_) | refine zb fun C => ?_ | refine zl ?_ | refine zd ?_ | refine zf ?_ | refine zg ?_ | refine zq rfl ?_ | refine zr rfl ?_)
        refine ⟨N - 1, k + 1, by omega, ⟨by omega, fun j hj => ?_⟩, ?_⟩
        · by_cases e2 : j = k
          · subst e2; simp [plB, h1, e]
          · exact hr j (by omega)
        · (refine zt2 _ _ rfl rfl ?_ ?_ <;> (repeat' (first | exact TmOk.nil | exact RwOk.nil | refine TmOk.cons ?_ ?_ | refine RwOk.cons ?_ ?_ | rfl | (refine rnV_id' rfl ?_; (first | rfl | (simp [cloV, cloL, clo, zn, zk, zo, zj, zh]; done))) | (refine zh3 ?_; first | rfl | omega | (rw [za2 (by omega) (by omega)]; omega)) | (refine zb1 rfl ?_; (first | rfl | (simp [cloV, cloL, clo, zn, zk, zo, zj, zh]; done))) | exact zu3 rfl rfl | (refine zi3 (by rfl) (by rfl) ?_ ?_ <;> (first | rfl | (simp [cloV, cloL, clo, zn, zk, zo, zj, zh]; done))) | (refine rw_rn' rfl rfl ?_; simp; done))))
    · rw [show inR (bAt s k : Int) 32 126 = false by simp [inR]; omega] at c1
      rw [zw10 hk' (show plB b (bAt s k) = false by simp [plB]; omega)]
      repeat' (first | ((apply f_wo); first | ((apply f_gs); first | refine n_sk ?_) | ((apply f_mv); first | (refine zx1 ?_ ?_ <;> intro hG <;> (try cases hG)) | refine zw (v := .c _) ?_ | refine za ?_) | ((apply f_as); first | refine zv (v := .c _) ?_ | refine za ?_) | ((apply f_ca); first | refine zn1 (c1) ?_ | refine zm1 (c1) ?_) | ((apply f_bi); first | refine zd1 ?_ | refine zc1 ?_ | refine ze1 ?_ | refine za ?_) | ((apply zb2); first | refine zl1 ?_ | refine za ?_) | ((apply zy1); first | refine zm ?_ | refine za ?_) | ((apply zt1); first | refine zi ?_ | refine zs1 ?_ | refine za ?_) | ((apply f_no); first | refine zl3 ?_ | refine za ?_) | ((apply f_pk); first | refine zg1 (v := .c _) ?_ | refine za ?_) | ((apply f_cv); first | refine zd4 ?_ | refine za ?_) | refine zd2 ?_ | refine za ?_) | ((apply f_w); first | refine zx ?_ | refine zc ?_) | refine zb fun C => ?_ | refine zl ?_ | refine zd ?_ | refine zf ?_ | refine zg ?_ | refine zq rfl ?_ | refine zr rfl ?_)
      refine zy ?_; refine ret0 rfl zc2 ⟨?_, rfl⟩; rfl
  · have hk' : ¬ k < s.size := by simpa using hk
    rw [zj6 fun j hj => hr j (by omega)]
    repeat' (first | ((apply f_wo); first | ((apply f_gs); first | refine n_sk ?_) | ((apply f_mv); first | (refine zx1 ?_ ?_ <;> intro hG <;> (try cases hG)) | refine zw (v := .c _) ?_ | refine za ?_) | ((apply f_as); first | refine zv (v := .c _) ?_ | refine za ?_) | ((apply f_bi); first | refine zd1 ?_ | refine zc1 ?_ | refine ze1 ?_ | refine za ?_) | ((apply zb2); first | refine zl1 ?_ | refine za ?_) | ((apply zy1); first | refine zm ?_ | refine za ?_) | ((apply zt1); first | refine zi ?_ | refine zs1 ?_ | refine za ?_) | ((apply f_no); first | refine zl3 ?_ | refine za ?_) | ((apply f_pk); first | refine zg1 (v := .c _) ?_ | refine za ?_) | ((apply f_cv); first | refine zd4 ?_ | refine za ?_) | refine zd2 ?_ | refine za ?_) | ((apply f_w); first | refine zx ?_ | refine zc ?_) | refine zb fun C => ?_ | refine zl ?_ | refine zd ?_ | refine zf ?_ | refine zg ?_ | refine zq rfl ?_ | refine zr rfl ?_)
    refine zy ?_; refine ret0 rfl zc2 ⟨?_, rfl⟩; rfl
theorem za12 {s : ByteArray} (hs : s.size ≤ 1048576) : Ctr Tryd.prog 27 [.c (.v (.string s))] [] (.c (.v (.bool (textB 39 s)))) [] := by
  have c1 := zz9 hs (b := 39) (by omega)
  refine zf2 Tryd.func27 rfl rfl ?_
  repeat' (first | ((apply f_wo); first | ((apply f_gs); first | refine n_sk ?_) | ((apply f_mv); first | (refine zx1 ?_ ?_ <;> intro hG <;> (try cases hG)) | refine zw (v := .c _) ?_ | refine za ?_) | ((apply f_as); first | refine zv (v := .c _) ?_ | refine za ?_) | ((apply f_ca); first | refine zn1 (c1) ?_ | refine zm1 (c1) ?_) | ((apply f_bi); first | refine zd1 ?_ | refine zc1 ?_ | refine ze1 ?_ | refine za ?_) | ((apply zy8); first | refine ze4 ?_ | refine za ?_) | ((apply f_pk); first | refine zg1 (v := .c _) ?_ | refine za ?_) | refine za ?_) | ((apply f_w); first | refine zx ?_ | refine zc ?_) | refine zb fun C => ?_ | refine zl ?_ | refine zd ?_ | refine zf ?_ | refine zg ?_ | (refine zu (by rfl) ?_ ?_ <;> intro hC <;> (try cases hC)))
  all_goals
    (first | refine zy ?_ | skip); refine ret0 rfl zc2 ⟨?_, rfl⟩; refine congrArg (fun s => AV.c (AC.v (Value.bool s))) ?_
    unfold textB
    (rw [Bool.eq_iff_iff]; (try simp only [Bool.and_eq_true, Bool.or_eq_true, Bool.not_eq_true', decide_eq_true_iff, decide_eq_false_iff_not, beq_iff_eq, Bool.and_eq_false_iff, Bool.or_eq_false_iff, bne_iff_ne, ne_eq, Bool.true_eq_false, Bool.false_eq_true, true_iff, false_iff, iff_true, iff_false] at *); first | omega | (simp at *; omega))
theorem zx7 {s : ByteArray} (hs : s.size ≤ 1048576) : Ctr Tryd.prog 28 [.c (.v (.string s))] [] (.c (.v (.bool (decide (1 ≤ s.size) && textB 47 s)))) [] := by
  have c1 := zz9 hs (b := 47) (by omega)
  have cw := zb7 (s.size : Int) 1 200
  by_cases hb : 1 ≤ s.size ∧ s.size ≤ 200
  · rw [show inR (s.size : Int) 1 200 = true by simp [inR]; omega] at cw
    rw [show (decide (1 ≤ s.size) && textB 47 s) = allB (plB 47) s by simp [textB, hb]]
    refine zf2 Tryd.func28 rfl rfl ?_
    repeat' (first | ((apply f_wo); first | ((apply f_gs); first | refine n_sk ?_) | ((apply f_mv); first | (refine zx1 ?_ ?_ <;> intro hG <;> (try cases hG)) | refine zw (v := .c _) ?_ | refine za ?_) | ((apply f_as); first | refine zv (v := .c _) ?_ | refine za ?_) | ((apply f_ca); first | refine zn1 (c1) ?_ | refine zm1 (c1) ?_ | refine zn1 (cw) ?_ | refine zm1 (cw) ?_) | ((apply f_bi); first | refine zd1 ?_ | refine zc1 ?_ | refine ze1 ?_ | refine za ?_) | ((apply f_pk); first | refine zg1 (v := .c _) ?_ | refine za ?_) | refine za ?_) | ((apply f_w); first | refine zx ?_ | refine zc ?_) | refine zb fun C => ?_ | refine zl ?_ | refine zd ?_ | refine zf ?_ | refine zg ?_ | refine zq rfl ?_ | refine zr rfl ?_)
    refine zy ?_; refine ret0 rfl zc2 ⟨?_, rfl⟩; rfl
  · rw [show inR (s.size : Int) 1 200 = false by simp [inR]; omega] at cw
    rw [show (decide (1 ≤ s.size) && textB 47 s) = false by simp [textB]; omega]
    refine zf2 Tryd.func28 rfl rfl ?_
    repeat' (first | ((apply f_wo); first | ((apply f_gs); first | refine n_sk ?_) | ((apply f_mv); first | (refine zx1 ?_ ?_ <;> intro hG <;> (try cases hG)) | refine zw (v := .c _) ?_ | refine za ?_) | ((apply f_as); first | refine zv (v := .c _) ?_ | refine za ?_) | ((apply f_ca); first | refine zn1 (c1) ?_ | refine zm1 (c1) ?_ | refine zn1 (cw) ?_ | refine zm1 (cw) ?_) | ((apply f_bi); first | refine zd1 ?_ | refine zc1 ?_ | refine ze1 ?_ | refine za ?_) | ((apply f_pk); first | refine zg1 (v := .c _) ?_ | refine za ?_) | refine za ?_) | ((apply f_w); first | refine zx ?_ | refine zc ?_) | refine zb fun C => ?_ | refine zl ?_ | refine zd ?_ | refine zf ?_ | refine zg ?_ | refine zq rfl ?_ | refine zr rfl ?_)
    refine zy ?_; refine ret0 rfl zc2 ⟨?_, rfl⟩; rfl
end Go.Proofs.YtnlgmojciplnoaaDoor
namespace Go.Proofs.YtnlgmojciplnoaaDoor
open Go.RowKit Go.Shelf
set_option maxRecDepth 100000
def laysM171_ren : Go.Shelf.Ren := ⟨fun | 171 => 47 | 243 => 70 | 246 => 79 | 283 => 85 | 284 => 86 | 285 => 87 | 286 => 88 | 129 => 92 | 317 => 91 | 318 => 93 | 319 => 94 | 320 => 95 | 337 => 96 | 338 => 97 | n => n, fun | 3 => 3 | 9 => 9 | 2 => 2 | 4 => 4 | 171 => 98 | 0 => 0 | 53 => 92 | 37 => 22 | 5 => 5 | 173 => 101 | 212 => 109 | 51 => 110 | 20 => 20 | 213 => 111 | 46 => 81 | 232 => 115 | 233 => 116 | n => n, fun | 17 => 3 | 18 => 4 | 19 => 5 | n => n⟩
theorem zn17 : Go.Proofs.LaysM.n171 Tryd.prog laysM171_ren := {
  mixed := by kernel_rfl
  f129 := Tryd.func92.trans (congrArg some (by kernel_rfl))
  f171 := Tryd.func47.trans (congrArg some (by kernel_rfl))
  f243 := Tryd.func70.trans (congrArg some (by kernel_rfl))
  f246 := Tryd.func79.trans (congrArg some (by kernel_rfl))
  f283 := Tryd.func85.trans (congrArg some (by kernel_rfl))
  f284 := Tryd.func86.trans (congrArg some (by kernel_rfl))
  f285 := Tryd.func87.trans (congrArg some (by kernel_rfl))
  f286 := Tryd.func88.trans (congrArg some (by kernel_rfl))
  f317 := Tryd.func91.trans (congrArg some (by kernel_rfl))
  f318 := Tryd.func93.trans (congrArg some (by kernel_rfl))
  f319 := Tryd.func94.trans (congrArg some (by kernel_rfl))
  f320 := Tryd.func95.trans (congrArg some (by kernel_rfl))
  f337 := Tryd.func96.trans (congrArg some (by kernel_rfl))
  f338 := Tryd.func97.trans (congrArg some (by kernel_rfl))
  t0 := Tryd.underlying0
  a0 := Tryd.isAgg0
  z0 := Tryd.sizeOf0
  v0 := Tryd.zeroValue0
  t2 := Tryd.underlying2
  a2 := Tryd.isAgg2
  z2 := Tryd.sizeOf2
  v2 := Tryd.zeroValue2
  t3 := Tryd.underlying3
  a3 := Tryd.isAgg3
  z3 := Tryd.sizeOf3
  v3 := Tryd.zeroValue3
  t4 := Tryd.underlying4
  a4 := Tryd.isAgg4
  z4 := Tryd.sizeOf4
  v4 := Tryd.zeroValue4
  t5 := Tryd.underlying5
  a5 := Tryd.isAgg5
  z5 := Tryd.sizeOf5
  v5 := Tryd.zeroValue5
  t9 := Tryd.underlying9
  a9 := Tryd.isAgg9
  z9 := Tryd.sizeOf9
  v9 := Tryd.zeroValue9
  t20 := Tryd.underlying20
  a20 := Tryd.isAgg20
  z20 := Tryd.sizeOf20
  v20 := Tryd.zeroValue20
  t37 := Tryd.underlying22
  a37 := Tryd.isAgg22
  z37 := Tryd.sizeOf22
  v37 := Tryd.zeroValue22
  t46 := Tryd.underlying81
  a46 := Tryd.isAgg81
  z46 := Tryd.sizeOf81
  v46 := Tryd.zeroValue81
  t51 := Tryd.underlying110
  a51 := Tryd.isAgg110
  z51 := Tryd.sizeOf110
  v51 := Tryd.zeroValue110
  t53 := Tryd.underlying92
  a53 := Tryd.isAgg92
  z53 := Tryd.sizeOf92
  v53 := Tryd.zeroValue92
  t171 := Tryd.underlying98
  a171 := Tryd.isAgg98
  z171 := Tryd.sizeOf98
  v171 := Tryd.zeroValue98
  t173 := Tryd.underlying101
  a173 := Tryd.isAgg101
  z173 := Tryd.sizeOf101
  v173 := Tryd.zeroValue101
  t212 := Tryd.underlying109
  a212 := Tryd.isAgg109
  z212 := Tryd.sizeOf109
  v212 := Tryd.zeroValue109
  t213 := Tryd.underlying111
  a213 := Tryd.isAgg111
  z213 := Tryd.sizeOf111
  t232 := Tryd.underlying115
  a232 := Tryd.isAgg115
  z232 := Tryd.sizeOf115
  v232 := Tryd.zeroValue115
  t233 := Tryd.underlying116
  a233 := Tryd.isAgg116
  z233 := Tryd.sizeOf116
  v233 := Tryd.zeroValue116
  g17 := by kernel_rfl
  g18 := by kernel_rfl
  g19 := by kernel_rfl
  i0 := by kernel_rfl
  i2 := by kernel_rfl
  i3 := by kernel_rfl
  i4 := by kernel_rfl
  i5 := by kernel_rfl
  i9 := by kernel_rfl
  i20 := by kernel_rfl
  i37 := by kernel_rfl
  i46 := by kernel_rfl
  i51 := by kernel_rfl
  i53 := by kernel_rfl
  i171 := by kernel_rfl
  i173 := by kernel_rfl
  i212 := by kernel_rfl
  i232 := by kernel_rfl
  i233 := by kernel_rfl
  m17 := by kernel_rfl
  m18 := by kernel_rfl
  m19 := by kernel_rfl }
theorem zy7 {P : Program} {f : FuncId} {ins : List AV} {us : List Value} {v : Value} (he : entB P f = true) (hv : scal v = true) (hin : ∀ (w : World) (St : Nat → Prop) (φ : Nat → Lc) (K : Nat → Prop) (us' : List Value), VRL w St φ K ins us' → us' = us)
    (hc : ∀ w, Gl w → Calls P f us.toArray w fun e w' => e = .returned v ∧ Below w.heap.size w w') : Ctr P f ins [] (.c (.v v)) [] := by
  refine ⟨he, fun w St φ F us' hent => ?_⟩
  obtain rfl := hin _ _ _ _ _ hent.args
  refine (hc w hent.gl.1).mono ?_
  rintro e w' ⟨rfl, hb⟩
  refine ⟨_, _, v, fun _ => False, fun _ => [], [], ⟨rfl, rfl⟩, rfl, ⟨⟨hb.os, hb.tape, hb.output, hb.size, fun b hlt _ => .inl (hb.block b hlt)⟩, ?_, by simp, rfl, fun i cs hi => by simp at hi, fun i hi => by simp at hi, fun i hi => by simp at hi, fun i j hi => by simp at hi, fun i b lo hi => by simp at hi, fun b hb => by simp at hb, fun b hb => hb.elim⟩⟩
  simp only [VRF, CR]
  exact ⟨trivial, hv, trivial⟩
def numT (n : Int) : ByteArray := ⟨(Lib.itoa n).toArray⟩
theorem za10 {n : Int} (h0 : -9223372036854775808 ≤ n) (h1 : n ≤ 9223372036854775807) : Ctr Tryd.prog 47 [.c (.v (.int .i64 n))] [] (.c (.v (.string (numT n)))) [] := by
  refine zy7 (us := [.int .i64 n]) (by kernel_rfl) rfl (fun w St φ K us' h => ?_) fun w gw => ?_
  · simp only [VRL, VR, CR] at h
    obtain ⟨u, us1, rfl, ⟨rfl, -⟩, rfl⟩ := h
    rfl
  · refine (Go.Proofs.Any.strconv_Itoa zn17 n h0 h1 w (zi13 gw)).mono ?_
    rintro e w' ⟨rfl, k, os, rfl⟩
    refine ⟨rfl, rfl, rfl, rfl, by simp [Sort.grow], fun j hj => ?_⟩
    simp only [Sort.grow, World.heap_drewN]
    rw [Array.getElem?_append_left hj]
theorem zo17 {n : Int} (h0 : -9223372036854775808 ≤ n) (h1 : n ≤ 9223372036854775807) : Ctr Tryd.prog 30 [.c (.v (.int .i64 n))] [] (.c (.v (.string (numT n)))) [] := by
  have hc := za10 h0 h1
  refine zf2 Tryd.func30 rfl rfl ?_
  repeat' (first | refine zl ?_ | refine zd ?_ | refine zf ?_ | refine zg ?_ | refine zb fun C => ?_ | refine zt (by kernel_rfl) (by kernel_rfl) fun C => ?_ | refine zc ?_ | (refine x_gm ?_ ?_ <;> intro hG <;> (try cases hG)) | refine zz5 ?_ | refine x_bs ?_ | refine x_gr ?_ | refine x_st ?_ | refine x_mv ?_ | refine x_sk ?_ | refine zw14 ?_ | refine x_ix ?_ | refine zx14 ?_ | refine zy14 ?_ | refine zz14 ?_ | refine zy9 ?_ | refine x_ld ?_ | refine zd17 ?_ | (refine zd5 (by rfl) ?_ ?_ <;> intro hC <;> (try cases hC)))
  refine zy ?_
  exact ret0 rfl zc2 ⟨rfl, rfl⟩
end Go.Proofs.YtnlgmojciplnoaaDoor
namespace Go.Proofs.YtnlgmojciplnoaaDoor
open Go.RowKit
set_option maxRecDepth 100000
theorem zb12 (k : Nat) : numT (k : Int) = ⟨(Lib.decDigits k).toArray⟩ := by
  unfold numT Lib.itoa
  rw [if_neg (by omega)]
  simp
theorem zz8 {k : Nat} (h : ¬ k < 10) : Lib.decDigits k = Lib.decDigits (k / 10) ++ [UInt8.ofNat (48 + k % 10)] := by
  rw [Lib.decDigits, dif_neg h]
theorem zp5 {k : Nat} (h : k < 10) : Lib.decDigits k = [UInt8.ofNat (48 + k)] := by
  rw [Lib.decDigits, dif_pos h]
end Go.Proofs.YtnlgmojciplnoaaDoor
