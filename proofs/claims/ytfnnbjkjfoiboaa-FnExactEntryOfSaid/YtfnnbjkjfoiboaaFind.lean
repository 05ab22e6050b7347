/- slices.IndexFunc with a closure that compares a name. -/
import Derived.Test.YtfnnbjkjfoiboaaEnvB
namespace Go.Proofs.Ytfnnbjkjfoiboaa
open Go.RowKit

theorem bytes_beq (a b : ByteArray) : (a.toList == b.toList) = decide (a = b) := by
  rw [ByteArray.toList_eq, ByteArray.toList_eq]
  by_cases h : a = b
  · subst h; simp
  · rw [decide_eq_false h, beq_eq_false_iff_ne]
    intro h2
    apply h
    obtain ⟨⟨l⟩⟩ := a
    obtain ⟨⟨m⟩⟩ := b
    simp at h2
    subst h2; rfl
def fAt {α : Type} (f : α → ByteArray) (ds : List α) (s : ByteArray) : Nat := ds.findIdx fun d => decide (f d = s)
def idxZ (i n : Nat) : Int := if i < n then i else -1
theorem fAt_le {α : Type} (f : α → ByteArray) (ds : List α) (s : ByteArray) : fAt f ds s ≤ ds.length := List.findIdx_le_length
theorem fAt_not {α : Type} {f : α → ByteArray} {ds : List α} {s : ByteArray} {k : Nat} (h : k < fAt f ds s) : f (ds[k]'(Nat.lt_of_lt_of_le h (fAt_le f ds s))) ≠ s := by
  have := List.not_of_lt_findIdx h
  simpa using this
theorem fAt_is {α : Type} {f : α → ByteArray} {ds : List α} {s : ByteArray} (h : fAt f ds s < ds.length) : f ds[fAt f ds s] = s := by
  have := List.findIdx_getElem (w := h)
  exact of_decide_eq_true this
theorem fAt_hit {α : Type} {f : α → ByteArray} {ds : List α} {s : ByteArray} {k : Nat} (hk : k < ds.length) (hle : k ≤ fAt f ds s) (h : f ds[k] = s) : k = fAt f ds s := by
  rcases Nat.lt_or_ge k (fAt f ds s) with h2 | h2
  · exact absurd h (fAt_not h2)
  · omega
theorem fAt_miss {α : Type} {f : α → ByteArray} {ds : List α} {s : ByteArray} {k : Nat} (hk : k < ds.length) (hle : k ≤ fAt f ds s) (h : f ds[k] ≠ s) : k + 1 ≤ fAt f ds s := by
  rcases Nat.lt_or_ge k (fAt f ds s) with h2 | h2
  · omega
  · have e : k = fAt f ds s := by omega
    subst e
    exact absurd (fAt_is hk) h
theorem findNamedClo (d : GNamed) (s : ByteArray) (p : Nat) (w : World) (hp : w.cell? ⟨p, 0, none⟩ = some (.string s)) (hpl : p < w.heap.size) : Calls Try.prog 140 #[.agg #[.string d.name, .int .i64 d.v.k, .int .i64 d.v.n, .string d.v.s], .pointer (some ⟨p, 0, none⟩)] w fun e w' => e = .returned (.bool (decide (d.name = s))) ∧ Below w.heap.size w w' := by
  have hp1 := cell_alloc (x := .cells #[.string d.name, .int .i64 d.v.k, .int .i64 d.v.n, .string d.v.s] 50) hp hpl
  go_enter Try.func140, Try.ntmps140
  go_wp2
  go_ret
  exact ⟨rb (bytes_beq _ _), by exact (by repeat (first | (with_reducible refine Below.setCell ?_ (by first | omega | (· simp) | (· (simp; omega))) _) | (with_reducible refine Below.alloc ?_ (by first | omega | (· simp) | (· (simp; omega))) _) | (with_reducible refine Below.drew ?_) | (with_reducible refine bdrewN ?_ _) | (with_reducible exact Below.refl _ _) | (with_reducible assumption) | (with_reducible refine Below.trans ?_ (Below.mono (by assumption) (by first | omega | (· simp) | (· (simp; omega))))) | (with_reducible refine Below.trans ?_ (Kp.below (by assumption) (by first | omega | (· simp) | (· (simp; omega))) (by first | omega | (· simp) | (· (simp; omega)))))))⟩
set_option maxRecDepth 100000 in
set_option maxHeartbeats 1000000 in
theorem findNamed_any (A : Option Addr) (ln c : Nat) (ds : List GNamed) (s : ByteArray) (p : Nat) (w : World) (hs : Rd w 4 encNamed (.slice A ln c) ds) (hp : w.cell? ⟨p, 0, none⟩ = some (.string s)) (hpl : p < w.heap.size) :
    Calls Try.prog 139 #[.slice A ln c, .func (.func 140) #[] #[.pointer (some ⟨p, 0, none⟩)]] w fun e w' => e = .returned (.int .i64 (idxZ (fAt (·.name) ds s) ds.length)) ∧ Below w.heap.size w w' := by
  obtain rfl := hs.len_eq
  have hlen := hs.len_le
  have hle := fAt_le (·.name) ds s
  obtain ⟨N, HN⟩ : ∃ N, Hid (fAt (·.name) ds s = N) := ⟨_, rfl⟩
  rw [HN.out] at hle ⊢
  go_enter Try.func139, Try.ntmps139
  go_wp2
  go_loopw [8] (fun i wr => ∃ k : Nat, k ≤ N ∧ i = .int .i64 k ∧ Below w.heap.size w wr) (fun i _ => ds.length - (intOf i).toNat)
  case atStart => exact ⟨0, Nat.zero_le _, rfl, Below.refl _ _⟩
  case round =>
    obtain ⟨k, hk, rfl, hb⟩ := hrel
    have hz0 := hb.size
    have hpr := cell_below hb hp hpl
    by_cases hlt : k < ds.length
    · have hs' : Rd wr 4 encNamed (.slice A ds.length c) ds := (by repeat (first | (with_reducible assumption) | (with_reducible refine Rd.drew ?_) | (with_reducible refine Rd.drewN ?_ _) | (with_reducible refine Rd.alloc ?_ _) | (exact Own.rd (fun _ => rfl) (by with_reducible assumption)) | (exact Sl.rd (by with_reducible assumption) (by first | omega | (· simp) | (· (simp; omega)))) | (refine Rd.below ?_ (by with_reducible assumption) ?_) | omega | (· simp) | (· (simp; omega))))
      obtain ⟨b, o, rfl, _, hc⟩ := hs'.at_ hlt
      have c0 := hc 0 _ rfl; have c1 := hc 1 _ rfl; have c2 := hc 2 _ rfl; have c3 := hc 3 _ rfl
      rw [Nat.add_zero] at c0
      clear hc
      obtain ⟨D, HD⟩ : ∃ D, Hid (ds[k] = D) := ⟨ds[k], Lib.hid rfl⟩
      rw [HD.out] at c0 c1 c2 c3
      by_cases hz : D.name = s
      · have HK := Lib.hid (show k = N by rw [← HN.out]; exact fAt_hit hlt (by rw [HN.out]; exact hk) (by rw [HD.out]; exact hz))
        have HZ := Lib.hid hz
        clear hz
        go_wp2_with (go_at_call 140; refine (findNamedClo D s p _ hpr (by omega)).mono ?_; rw [decide_eq_true HZ.out]; rintro e w1 ⟨rfl, hb1⟩; have hz1 := hb1.size)
        go_ret
        exact ⟨ri (by unfold idxZ; have := HK.out; rw [← this, if_pos hlt]), by exact (by repeat (first | (with_reducible refine Below.setCell ?_ (by first | omega | (· simp) | (· (simp; omega))) _) | (with_reducible refine Below.alloc ?_ (by first | omega | (· simp) | (· (simp; omega))) _) | (with_reducible refine Below.drew ?_) | (with_reducible refine bdrewN ?_ _) | (with_reducible exact Below.refl _ _) | (with_reducible assumption) | (with_reducible refine Below.trans ?_ (Below.mono (by assumption) (by first | omega | (· simp) | (· (simp; omega))))) | (with_reducible refine Below.trans ?_ (Kp.below (by assumption) (by first | omega | (· simp) | (· (simp; omega))) (by first | omega | (· simp) | (· (simp; omega)))))))⟩
      · have HK := Lib.hid (show k + 1 ≤ N by rw [← HN.out]; exact fAt_miss hlt (by rw [HN.out]; exact hk) (by rw [HD.out]; exact hz))
        have HZ := Lib.hid hz
        clear hz
        go_wp2_with (go_at_call 140; refine (findNamedClo D s p _ hpr (by omega)).mono ?_; rw [decide_eq_false HZ.out]; rintro e w1 ⟨rfl, hb1⟩; have hz1 := hb1.size)
        go_roundw
        case rel => exact ⟨k + 1, HK.out, by go_num, by exact (by repeat (first | (with_reducible refine Below.setCell ?_ (by first | omega | (· simp) | (· (simp; omega))) _) | (with_reducible refine Below.alloc ?_ (by first | omega | (· simp) | (· (simp; omega))) _) | (with_reducible refine Below.drew ?_) | (with_reducible refine bdrewN ?_ _) | (with_reducible exact Below.refl _ _) | (with_reducible assumption) | (with_reducible refine Below.trans ?_ (Below.mono (by assumption) (by first | omega | (· simp) | (· (simp; omega))))) | (with_reducible refine Below.trans ?_ (Kp.below (by assumption) (by first | omega | (· simp) | (· (simp; omega))) (by first | omega | (· simp) | (· (simp; omega)))))))⟩
        case measure => simp [intOf]; omega
    · have HK := Lib.hid (show ¬ N < ds.length by omega)
      go_wp2
      go_ret
      exact ⟨ri (by unfold idxZ; rw [if_neg HK.out]), hb⟩
theorem findEntryClo (d : GEntry) (s : ByteArray) (p : Nat) (w : World) (hp : w.cell? ⟨p, 0, none⟩ = some (.string s)) (hpl : p < w.heap.size) : Calls Try.prog 158 #[.agg #[.string d.key, .int .i64 d.v.k, .int .i64 d.v.n, .string d.v.s], .pointer (some ⟨p, 0, none⟩)] w fun e w' => e = .returned (.bool (decide (d.key = s))) ∧ Below w.heap.size w w' := by
  have hp1 := cell_alloc (x := .cells #[.string d.key, .int .i64 d.v.k, .int .i64 d.v.n, .string d.v.s] 116) hp hpl
  go_enter Try.func158, Try.ntmps158
  go_wp2
  go_ret
  exact ⟨rb (bytes_beq _ _), by exact (by repeat (first | (with_reducible refine Below.setCell ?_ (by first | omega | (· simp) | (· (simp; omega))) _) | (with_reducible refine Below.alloc ?_ (by first | omega | (· simp) | (· (simp; omega))) _) | (with_reducible refine Below.drew ?_) | (with_reducible refine bdrewN ?_ _) | (with_reducible exact Below.refl _ _) | (with_reducible assumption) | (with_reducible refine Below.trans ?_ (Below.mono (by assumption) (by first | omega | (· simp) | (· (simp; omega))))) | (with_reducible refine Below.trans ?_ (Kp.below (by assumption) (by first | omega | (· simp) | (· (simp; omega))) (by first | omega | (· simp) | (· (simp; omega)))))))⟩
set_option maxRecDepth 100000 in
set_option maxHeartbeats 1000000 in
theorem findEntry_any (A : Option Addr) (ln c : Nat) (ds : List GEntry) (s : ByteArray) (p : Nat) (w : World) (hs : Rd w 4 encEntry (.slice A ln c) ds) (hp : w.cell? ⟨p, 0, none⟩ = some (.string s)) (hpl : p < w.heap.size) :
    Calls Try.prog 157 #[.slice A ln c, .func (.func 158) #[] #[.pointer (some ⟨p, 0, none⟩)]] w fun e w' => e = .returned (.int .i64 (idxZ (fAt (·.key) ds s) ds.length)) ∧ Below w.heap.size w w' := by
  obtain rfl := hs.len_eq
  have hlen := hs.len_le
  have hle := fAt_le (·.key) ds s
  obtain ⟨N, HN⟩ : ∃ N, Hid (fAt (·.key) ds s = N) := ⟨_, rfl⟩
  rw [HN.out] at hle ⊢
  go_enter Try.func157, Try.ntmps157
  go_wp2
  go_loopw [8] (fun i wr => ∃ k : Nat, k ≤ N ∧ i = .int .i64 k ∧ Below w.heap.size w wr) (fun i _ => ds.length - (intOf i).toNat)
  case atStart => exact ⟨0, Nat.zero_le _, rfl, Below.refl _ _⟩
  case round =>
    obtain ⟨k, hk, rfl, hb⟩ := hrel
    have hz0 := hb.size
    have hpr := cell_below hb hp hpl
    by_cases hlt : k < ds.length
    · have hs' : Rd wr 4 encEntry (.slice A ds.length c) ds := (by repeat (first | (with_reducible assumption) | (with_reducible refine Rd.drew ?_) | (with_reducible refine Rd.drewN ?_ _) | (with_reducible refine Rd.alloc ?_ _) | (exact Own.rd (fun _ => rfl) (by with_reducible assumption)) | (exact Sl.rd (by with_reducible assumption) (by first | omega | (· simp) | (· (simp; omega)))) | (refine Rd.below ?_ (by with_reducible assumption) ?_) | omega | (· simp) | (· (simp; omega))))
      obtain ⟨b, o, rfl, _, hc⟩ := hs'.at_ hlt
      have c0 := hc 0 _ rfl; have c1 := hc 1 _ rfl; have c2 := hc 2 _ rfl; have c3 := hc 3 _ rfl
      rw [Nat.add_zero] at c0
      clear hc
      obtain ⟨D, HD⟩ : ∃ D, Hid (ds[k] = D) := ⟨ds[k], Lib.hid rfl⟩
      rw [HD.out] at c0 c1 c2 c3
      by_cases hz : D.key = s
      · have HK := Lib.hid (show k = N by rw [← HN.out]; exact fAt_hit hlt (by rw [HN.out]; exact hk) (by rw [HD.out]; exact hz))
        have HZ := Lib.hid hz
        clear hz
        go_wp2_with (go_at_call 158; refine (findEntryClo D s p _ hpr (by omega)).mono ?_; rw [decide_eq_true HZ.out]; rintro e w1 ⟨rfl, hb1⟩; have hz1 := hb1.size)
        go_ret
        exact ⟨ri (by unfold idxZ; have := HK.out; rw [← this, if_pos hlt]), by exact (by repeat (first | (with_reducible refine Below.setCell ?_ (by first | omega | (· simp) | (· (simp; omega))) _) | (with_reducible refine Below.alloc ?_ (by first | omega | (· simp) | (· (simp; omega))) _) | (with_reducible refine Below.drew ?_) | (with_reducible refine bdrewN ?_ _) | (with_reducible exact Below.refl _ _) | (with_reducible assumption) | (with_reducible refine Below.trans ?_ (Below.mono (by assumption) (by first | omega | (· simp) | (· (simp; omega))))) | (with_reducible refine Below.trans ?_ (Kp.below (by assumption) (by first | omega | (· simp) | (· (simp; omega))) (by first | omega | (· simp) | (· (simp; omega)))))))⟩
      · have HK := Lib.hid (show k + 1 ≤ N by rw [← HN.out]; exact fAt_miss hlt (by rw [HN.out]; exact hk) (by rw [HD.out]; exact hz))
        have HZ := Lib.hid hz
        clear hz
        go_wp2_with (go_at_call 158; refine (findEntryClo D s p _ hpr (by omega)).mono ?_; rw [decide_eq_false HZ.out]; rintro e w1 ⟨rfl, hb1⟩; have hz1 := hb1.size)
        go_roundw
        case rel => exact ⟨k + 1, HK.out, by go_num, by exact (by repeat (first | (with_reducible refine Below.setCell ?_ (by first | omega | (· simp) | (· (simp; omega))) _) | (with_reducible refine Below.alloc ?_ (by first | omega | (· simp) | (· (simp; omega))) _) | (with_reducible refine Below.drew ?_) | (with_reducible refine bdrewN ?_ _) | (with_reducible exact Below.refl _ _) | (with_reducible assumption) | (with_reducible refine Below.trans ?_ (Below.mono (by assumption) (by first | omega | (· simp) | (· (simp; omega))))) | (with_reducible refine Below.trans ?_ (Kp.below (by assumption) (by first | omega | (· simp) | (· (simp; omega))) (by first | omega | (· simp) | (· (simp; omega)))))))⟩
        case measure => simp [intOf]; omega
    · have HK := Lib.hid (show ¬ N < ds.length by omega)
      go_wp2
      go_ret
      exact ⟨ri (by unfold idxZ; rw [if_neg HK.out]), hb⟩
theorem findTableClo (d : GTab) (s : ByteArray) (p : Nat) (w : World) (hp : w.cell? ⟨p, 0, none⟩ = some (.string s)) (hpl : p < w.heap.size) : Calls Try.prog 156 #[.agg #[.string d.name, .slice d.A d.l.length d.c], .pointer (some ⟨p, 0, none⟩)] w fun e w' => e = .returned (.bool (decide (d.name = s))) ∧ Below w.heap.size w w' := by
  have hp1 := cell_alloc (x := .cells #[.string d.name, .slice d.A d.l.length d.c] 114) hp hpl
  go_enter Try.func156, Try.ntmps156
  go_wp2
  go_ret
  exact ⟨rb (bytes_beq _ _), by exact (by repeat (first | (with_reducible refine Below.setCell ?_ (by first | omega | (· simp) | (· (simp; omega))) _) | (with_reducible refine Below.alloc ?_ (by first | omega | (· simp) | (· (simp; omega))) _) | (with_reducible refine Below.drew ?_) | (with_reducible refine bdrewN ?_ _) | (with_reducible exact Below.refl _ _) | (with_reducible assumption) | (with_reducible refine Below.trans ?_ (Below.mono (by assumption) (by first | omega | (· simp) | (· (simp; omega))))) | (with_reducible refine Below.trans ?_ (Kp.below (by assumption) (by first | omega | (· simp) | (· (simp; omega))) (by first | omega | (· simp) | (· (simp; omega)))))))⟩
set_option maxRecDepth 100000 in
set_option maxHeartbeats 1000000 in
theorem findTable_any (A : Option Addr) (ln c : Nat) (ds : List GTab) (s : ByteArray) (p : Nat) (w : World) (hs : Rd w 2 encTab (.slice A ln c) ds) (hp : w.cell? ⟨p, 0, none⟩ = some (.string s)) (hpl : p < w.heap.size) :
    Calls Try.prog 155 #[.slice A ln c, .func (.func 156) #[] #[.pointer (some ⟨p, 0, none⟩)]] w fun e w' => e = .returned (.int .i64 (idxZ (fAt (·.name) ds s) ds.length)) ∧ Below w.heap.size w w' := by
  obtain rfl := hs.len_eq
  have hlen := hs.len_le
  have hle := fAt_le (·.name) ds s
  obtain ⟨N, HN⟩ : ∃ N, Hid (fAt (·.name) ds s = N) := ⟨_, rfl⟩
  rw [HN.out] at hle ⊢
  go_enter Try.func155, Try.ntmps155
  go_wp2
  go_loopw [8] (fun i wr => ∃ k : Nat, k ≤ N ∧ i = .int .i64 k ∧ Below w.heap.size w wr) (fun i _ => ds.length - (intOf i).toNat)
  case atStart => exact ⟨0, Nat.zero_le _, rfl, Below.refl _ _⟩
  case round =>
    obtain ⟨k, hk, rfl, hb⟩ := hrel
    have hz0 := hb.size
    have hpr := cell_below hb hp hpl
    by_cases hlt : k < ds.length
    · have hs' : Rd wr 2 encTab (.slice A ds.length c) ds := (by repeat (first | (with_reducible assumption) | (with_reducible refine Rd.drew ?_) | (with_reducible refine Rd.drewN ?_ _) | (with_reducible refine Rd.alloc ?_ _) | (exact Own.rd (fun _ => rfl) (by with_reducible assumption)) | (exact Sl.rd (by with_reducible assumption) (by first | omega | (· simp) | (· (simp; omega)))) | (refine Rd.below ?_ (by with_reducible assumption) ?_) | omega | (· simp) | (· (simp; omega))))
      obtain ⟨b, o, rfl, _, hc⟩ := hs'.at_ hlt
      have c0 := hc 0 _ rfl; have c1 := hc 1 _ rfl
      rw [Nat.add_zero] at c0
      clear hc
      obtain ⟨D, HD⟩ : ∃ D, Hid (ds[k] = D) := ⟨ds[k], Lib.hid rfl⟩
      rw [HD.out] at c0 c1
      by_cases hz : D.name = s
      · have HK := Lib.hid (show k = N by rw [← HN.out]; exact fAt_hit hlt (by rw [HN.out]; exact hk) (by rw [HD.out]; exact hz))
        have HZ := Lib.hid hz
        clear hz
        go_wp2_with (go_at_call 156; refine (findTableClo D s p _ hpr (by omega)).mono ?_; rw [decide_eq_true HZ.out]; rintro e w1 ⟨rfl, hb1⟩; have hz1 := hb1.size)
        go_ret
        exact ⟨ri (by unfold idxZ; have := HK.out; rw [← this, if_pos hlt]), by exact (by repeat (first | (with_reducible refine Below.setCell ?_ (by first | omega | (· simp) | (· (simp; omega))) _) | (with_reducible refine Below.alloc ?_ (by first | omega | (· simp) | (· (simp; omega))) _) | (with_reducible refine Below.drew ?_) | (with_reducible refine bdrewN ?_ _) | (with_reducible exact Below.refl _ _) | (with_reducible assumption) | (with_reducible refine Below.trans ?_ (Below.mono (by assumption) (by first | omega | (· simp) | (· (simp; omega))))) | (with_reducible refine Below.trans ?_ (Kp.below (by assumption) (by first | omega | (· simp) | (· (simp; omega))) (by first | omega | (· simp) | (· (simp; omega)))))))⟩
      · have HK := Lib.hid (show k + 1 ≤ N by rw [← HN.out]; exact fAt_miss hlt (by rw [HN.out]; exact hk) (by rw [HD.out]; exact hz))
        have HZ := Lib.hid hz
        clear hz
        go_wp2_with (go_at_call 156; refine (findTableClo D s p _ hpr (by omega)).mono ?_; rw [decide_eq_false HZ.out]; rintro e w1 ⟨rfl, hb1⟩; have hz1 := hb1.size)
        go_roundw
        case rel => exact ⟨k + 1, HK.out, by go_num, by exact (by repeat (first | (with_reducible refine Below.setCell ?_ (by first | omega | (· simp) | (· (simp; omega))) _) | (with_reducible refine Below.alloc ?_ (by first | omega | (· simp) | (· (simp; omega))) _) | (with_reducible refine Below.drew ?_) | (with_reducible refine bdrewN ?_ _) | (with_reducible exact Below.refl _ _) | (with_reducible assumption) | (with_reducible refine Below.trans ?_ (Below.mono (by assumption) (by first | omega | (· simp) | (· (simp; omega))))) | (with_reducible refine Below.trans ?_ (Kp.below (by assumption) (by first | omega | (· simp) | (· (simp; omega))) (by first | omega | (· simp) | (· (simp; omega)))))))⟩
        case measure => simp [intOf]; omega
    · have HK := Lib.hid (show ¬ N < ds.length by omega)
      go_wp2
      go_ret
      exact ⟨ri (by unfold idxZ; rw [if_neg HK.out]), hb⟩
end Go.Proofs.Ytfnnbjkjfoiboaa
