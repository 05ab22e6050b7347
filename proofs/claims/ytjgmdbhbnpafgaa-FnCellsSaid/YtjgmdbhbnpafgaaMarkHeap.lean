/- The marks of a heap. -/
import Derived.Test.YtjgmdbhbnpafgaaHold2
import Derived.Test.YtjgmdbhbnpafgaaMark
namespace Go.Proofs.Ytjgmdbhbnpafgaa
open Go.RowKit

theorem Ow.frz {w : World} {lo hi k n g c : Nat} {e : TypeId} {xs : List Value} (h : Ow w lo hi e k (.slice (some ⟨g, 0, none⟩) n c) n xs) : ∀ j, w.frozen? ⟨g, j, none⟩ = false := by
  obtain ⟨ho, _⟩ := h
  obtain ⟨_, ⟨hv, _⟩ | ⟨g2, cap, cur, hv, _, hh, _⟩⟩ := ho
  · cases hv
  · injection hv with e1
    injection e1 with e1
    injection e1 with e1
    subst e1
    intro j; simp [World.frozen?, hh]
def fC (j : Nat) (i : Int) : Value := if j = 3 then .string (markT i) else .int .i64 i
theorem markCell_row {xs : List Value} {k0 q : Int} {k n : Nat} (hq : q = k0 + ((k * 4 : Nat) : Int)) (hl : xs.length = n * 4) (hk : k < n) (h : ∀ i < k, ∀ j < 4, xs[i * 4 + j]? = some (fC j (k0 + ((i * 4 + j : Nat) : Int)))) :
    ∀ i < k + 1, ∀ j < 4, ((((xs.set (k * 4) (.int .i64 (q))).set (k * 4 + 1) (.int .i64 (q + 1))).set (k * 4 + 2) (.int .i64 (q + 1 + 1))).set (k * 4 + 3) (.string (markT (q + 1 + 1 + 1))))[i * 4 + j]? = some (fC j (k0 + ((i * 4 + j : Nat) : Int))) := by
  intro i hi j hj
  by_cases e : i = k
  · subst e
    obtain rfl | rfl | rfl | rfl : j = 0 ∨ j = 1 ∨ j = 2 ∨ j = 3 := by omega
    · show _[i * 4]? = _
      rw [List.getElem?_set_ne (by omega), List.getElem?_set_ne (by omega), List.getElem?_set_ne (by omega), List.getElem?_set_self (by first | omega | (simp only [List.length_set]; omega))]
      have e : q = k0 + ((i * 4 + 0 : Nat) : Int) := by omega
      rw [e]; rfl
    · show _[i * 4 + 1]? = _
      rw [List.getElem?_set_ne (by omega), List.getElem?_set_ne (by omega), List.getElem?_set_self (by first | omega | (simp only [List.length_set]; omega))]
      have e : q + 1 = k0 + ((i * 4 + 1 : Nat) : Int) := by omega
      rw [e]; rfl
    · show _[i * 4 + 2]? = _
      rw [List.getElem?_set_ne (by omega), List.getElem?_set_self (by first | omega | (simp only [List.length_set]; omega))]
      have e : q + 1 + 1 = k0 + ((i * 4 + 2 : Nat) : Int) := by omega
      rw [e]; rfl
    · show _[i * 4 + 3]? = _
      rw [List.getElem?_set_self (by first | omega | (simp only [List.length_set]; omega))]
      have e : q + 1 + 1 + 1 = k0 + ((i * 4 + 3 : Nat) : Int) := by omega
      rw [e]; rfl
  · rw [List.getElem?_set_ne (by omega), List.getElem?_set_ne (by omega), List.getElem?_set_ne (by omega), List.getElem?_set_ne (by omega)]
    exact h i (by omega) j hj
set_option maxRecDepth 100000 in
set_option maxHeartbeats 1000000 in
theorem markCellS_own (A : Option Addr) (c lo hi n : Nat) (k0 : Int) (xs0 : List Value) (w : World) (ho : Ow w lo hi 76 4 (.slice A n c) n xs0) (hhi : hi ≤ w.heap.size) (h0 : 0 ≤ k0) (h1 : k0 + ((n * 4 : Nat) : Int) ≤ 1152921504606846976) :
    Calls Try.prog 86 #[.slice A n c, .int .i64 k0] w fun e w' => e = .returned (.int .i64 (k0 + ((n * 4 : Nat) : Int))) ∧ Mk w' lo hi 76 4 fC (.slice A n c) n k0 ∧ Kp lo hi w w' := by
  go_enter Try.func86, Try.ntmps86
  go_wp2
  go_loopw [1, 5] (fun q i wr => ∃ (k : Nat) (q' : Int), k ≤ n ∧ i = .int .i64 k ∧ q = .int .i64 q' ∧ q' = k0 + ((k * 4 : Nat) : Int) ∧ Kp lo hi w wr ∧ ∃ xs, Ow wr lo hi 76 4 (.slice A n c) n xs ∧ ∀ i < k, ∀ j < 4, xs[i * 4 + j]? = some (fC j (k0 + ((i * 4 + j : Nat) : Int)))) (fun _ i _ => n - (intOf i).toNat)
  case atStart => exact ⟨0, k0, Nat.zero_le _, rfl, rfl, by simp, Kp.refl _ _ _, xs0, ho, fun i hi => absurd hi (by omega)⟩
  case round =>
    obtain ⟨k, q, hk, rfl, rfl, hq, hkp, ys, how, hall⟩ := hrel
    have HALL := Lib.hid hall
    clear hall
    have hzk := hkp.size
    by_cases hlt : k < n
    · obtain ⟨g, rfl, hg1, hg2, hc, hf⟩ := how.at_ (by omega)
      have hq0 : 0 ≤ q := by omega
      have hq1 : q + 4 ≤ 1152921504606846976 := by omega
      have hl := Lib.hid how.1.1
      have HQ := Lib.hid hq
      clear hq
      obtain ⟨x0, c0⟩ : ∃ u, wr.cell? ⟨g, k * 4, none⟩ = some u := ⟨_, hc (k * 4) (ys[k * 4]'(by have := hl.out; omega)) (by omega) (List.getElem?_eq_getElem _)⟩
      obtain ⟨x1, c1⟩ : ∃ u, wr.cell? ⟨g, k * 4 + 1, none⟩ = some u := ⟨_, hc (k * 4 + 1) (ys[k * 4 + 1]'(by have := hl.out; omega)) (by omega) (List.getElem?_eq_getElem _)⟩
      obtain ⟨x2, c2⟩ : ∃ u, wr.cell? ⟨g, k * 4 + 2, none⟩ = some u := ⟨_, hc (k * 4 + 2) (ys[k * 4 + 2]'(by have := hl.out; omega)) (by omega) (List.getElem?_eq_getElem _)⟩
      obtain ⟨x3, c3⟩ : ∃ u, wr.cell? ⟨g, k * 4 + 3, none⟩ = some u := ⟨_, hc (k * 4 + 3) (ys[k * 4 + 3]'(by have := hl.out; omega)) (by omega) (List.getElem?_eq_getElem _)⟩
      clear hc
      go_wp2_with (go_at_call 95; refine (markText_any _ _ (by omega)).mono ?_; rintro e w1 ⟨rfl, hb1⟩; have hz1 := hb1.size; have how1 := (((how.set (k * 4) (.int .i64 (q))).set (k * 4 + 1) (.int .i64 (q + 1))).set (k * 4 + 2) (.int .i64 (q + 1 + 1))).below hb1 (by first | omega | (simp; omega)); have hf := how1.frz; have hkp1 := (((hkp.set hg1 hg2 (.int .i64 (q))).set hg1 hg2 (.int .i64 (q + 1))).set hg1 hg2 (.int .i64 (q + 1 + 1))).trans (Kp.of_below hb1); have c3 : w1.cell? ⟨g, k * 4 + 3, none⟩ = some x3 := ((hb1.cell (p := ⟨g, k * 4 + 3, none⟩) (by first | omega | (simp; omega))).trans (by simp [go_sem, c3])))
      go_roundw
      case rel =>
        have e1 : q + 1 + 1 + 1 + 1 = k0 + (((k + 1) * 4 : Nat) : Int) := by have := HQ.out; omega
        exact ⟨k + 1, _, by omega, by go_num, rfl, e1, (hkp1.set hg1 hg2 (.string (markT (q + 1 + 1 + 1)))), _, (how1.set (k * 4 + 3) (.string (markT (q + 1 + 1 + 1)))), markCell_row HQ.out hl.out hlt HALL.out⟩
      case measure => simp [intOf]; omega
    · have hk' : k = n := by omega
      subst hk'
      go_wp2
      go_ret
      exact ⟨ri hq, ⟨ys, how, fun i j hi hj => HALL.out i hi j hj⟩, hkp⟩
set_option maxRecDepth 100000 in
set_option maxHeartbeats 1000000 in
theorem heldCellS_any (A : Option Addr) (c lo hi n : Nat) (k0 : Int) (w : World) (ho : Mk w lo hi 76 4 fC (.slice A n c) n k0) (hhi : hi ≤ w.heap.size) (h0 : 0 ≤ k0) (h1 : k0 + ((n * 4 : Nat) : Int) ≤ 1152921504606846976) :
    Calls Try.prog 87 #[.slice A n c, .int .i64 k0] w fun e w' => e = .returned (.int .i64 (k0 + ((n * 4 : Nat) : Int))) ∧ Below w.heap.size w w' := by
  go_enter Try.func87, Try.ntmps87
  go_wp2
  go_loopw [1, 5] (fun q i wr => ∃ (k : Nat) (q' : Int), k ≤ n ∧ i = .int .i64 k ∧ q = .int .i64 q' ∧ q' = k0 + ((k * 4 : Nat) : Int) ∧ Below w.heap.size w wr) (fun _ i _ => n - (intOf i).toNat)
  case atStart => exact ⟨0, k0, Nat.zero_le _, rfl, rfl, by simp, Below.refl _ _⟩
  case round =>
    obtain ⟨k, q, hk, rfl, rfl, hq, hb⟩ := hrel
    by_cases hlt : k < n
    · have ho' := ho.below hb hhi
      obtain ⟨g, rfl, _, hgh, hc⟩ := ho'.at_ hlt
      have hq0 : 0 ≤ q := by omega
      have hq1 : q + 4 ≤ 1152921504606846976 := by omega
      have hz := hb.size
      have hgl : g < wr.heap.size := by omega
      have e0 : k0 + ((k * 4 + 0 : Nat) : Int) = q := by omega
      have c0 : wr.cell? ⟨g, k * 4, none⟩ = some (.int .i64 (q)) := by
        have h := hc 0 (by omega)
        rw [e0] at h
        exact h
      clear e0
      have e1 : k0 + ((k * 4 + 1 : Nat) : Int) = q + 1 := by omega
      have c1 : wr.cell? ⟨g, k * 4 + 1, none⟩ = some (.int .i64 (q + 1)) := by
        have h := hc 1 (by omega)
        rw [e1] at h
        exact h
      clear e1
      have e2 : k0 + ((k * 4 + 2 : Nat) : Int) = q + 1 + 1 := by omega
      have c2 : wr.cell? ⟨g, k * 4 + 2, none⟩ = some (.int .i64 (q + 1 + 1)) := by
        have h := hc 2 (by omega)
        rw [e2] at h
        exact h
      clear e2
      have e3 : k0 + ((k * 4 + 3 : Nat) : Int) = q + 1 + 1 + 1 := by omega
      have c3 : wr.cell? ⟨g, k * 4 + 3, none⟩ = some (.string (markT (q + 1 + 1 + 1))) := by
        have h := hc 3 (by omega)
        rw [e3] at h
        exact h
      clear e3
      clear hc
      have HQ := Lib.hid hq
      clear hq
      go_wp2
      go_region_held3 (fun w' => w'.cell? ⟨g, k * 4 + 3, none⟩ = some (.string (markT (q + 1 + 1 + 1)))) (first | assumption | skip) ((go_at_call 95; refine (markText_any _ _ (by omega)).mono ?_; rintro e w1 ⟨rfl, hb1⟩; have hn1 := (hb1.cell (p := ⟨g, k * 4 + 3, none⟩) (by first | omega | (simp; omega))).trans (by assumption)))
      go_wp2
      go_roundw
      case rel => exact ⟨k + 1, _, by omega, by go_num, rfl, (by have := HQ.out; omega), by exact (by repeat (first | (with_reducible refine Below.setCell ?_ (by first | omega | (· simp) | (· (simp; omega))) _) | (with_reducible refine Below.alloc ?_ (by first | omega | (· simp) | (· (simp; omega))) _) | (with_reducible refine Below.drew ?_) | (with_reducible refine bdrewN ?_ _) | (with_reducible exact Below.refl _ _) | (with_reducible assumption) | (with_reducible refine Below.trans ?_ (Below.mono (by assumption) (by first | omega | (· simp) | (· (simp; omega))))) | (with_reducible refine Below.trans ?_ (Kp.below (by assumption) (by first | omega | (· simp) | (· (simp; omega))) (by first | omega | (· simp) | (· (simp; omega)))))))⟩
      case measure => simp [intOf]; omega
    · have hk' : k = n := by omega
      subst hk'
      go_wp2
      go_ret
      exact ⟨ri hq, hb⟩
theorem holdL_len (ds : List GCell) (i : Int) : (holdL ds i).length = ds.length := by unfold holdL; split <;> simp
theorem letL_len (ds : List GCell) (i : Int) : (letL ds i).length = ds.length := by unfold letL; split <;> simp
theorem markHeap_any (A : Option Addr) (c lo hi n : Nat) (k0 : Int) (ds : List GCell) (w : World) (ho : Own w lo hi 76 4 encC (.slice A n c) ds) (hhi : hi ≤ w.heap.size) (h0 : 0 ≤ k0) (h1 : k0 + ((n * 4 : Nat) : Int) ≤ 1152921504606846976) :
    Calls Try.prog 54 #[.agg #[.slice A n c], .int .i64 k0] w fun e w' => e = .returned (.int .i64 (k0 + ((n * 4 : Nat) : Int))) ∧ Mk w' lo hi 76 4 fC (.slice A n c) n k0 ∧ Kp lo hi w w' := by
  obtain ⟨how, hnl⟩ := ho.ow
  subst hnl
  have how1 := how.below (((Below.refl _ _).alloc (Nat.le_refl _) (.cells #[.slice A ds.length c] 54)) : Below w.heap.size w _) hhi
  go_enter Try.func54, Try.ntmps54
  go_wp2_with (go_at_call 86; refine (markCellS_own A c lo hi ds.length k0 _ _ how1 (by first | omega | (simp; omega)) h0 h1).mono ?_; rintro e w1 ⟨rfl, hm1, hk1⟩)
  go_ret
  exact ⟨rfl, hm1, (Kp.of_below ((Below.refl _ _).alloc (Nat.le_refl _) _)).trans hk1⟩
theorem heldHeap_any (A : Option Addr) (c lo hi n : Nat) (k0 : Int) (w : World) (ho : Mk w lo hi 76 4 fC (.slice A n c) n k0) (hhi : hi ≤ w.heap.size) (h0 : 0 ≤ k0) (h1 : k0 + ((n * 4 : Nat) : Int) ≤ 1152921504606846976) :
    Calls Try.prog 55 #[.agg #[.slice A n c], .int .i64 k0] w fun e w' => e = .returned (.int .i64 (k0 + ((n * 4 : Nat) : Int))) ∧ Below w.heap.size w w' := by
  have ho1 := ho.alloc hhi (.cells #[.slice A n c] 54)
  go_enter Try.func55, Try.ntmps55
  go_wp2_with (go_at_call 87; refine (heldCellS_any A c lo hi n k0 _ ho1 (by first | omega | (simp; omega)) h0 h1).mono ?_; rintro e w1 ⟨rfl, hb1⟩)
  go_ret
  exact ⟨rfl, (by repeat (first | (with_reducible refine Below.setCell ?_ (by first | omega | (· simp) | (· (simp; omega))) _) | (with_reducible refine Below.alloc ?_ (by first | omega | (· simp) | (· (simp; omega))) _) | (with_reducible refine Below.drew ?_) | (with_reducible refine bdrewN ?_ _) | (with_reducible exact Below.refl _ _) | (with_reducible assumption) | (with_reducible refine Below.trans ?_ (Below.mono (by assumption) (by first | omega | (· simp) | (· (simp; omega))))) | (with_reducible refine Below.trans ?_ (Kp.below (by assumption) (by first | omega | (· simp) | (· (simp; omega))) (by first | omega | (· simp) | (· (simp; omega)))))))⟩
end Go.Proofs.Ytjgmdbhbnpafgaa
