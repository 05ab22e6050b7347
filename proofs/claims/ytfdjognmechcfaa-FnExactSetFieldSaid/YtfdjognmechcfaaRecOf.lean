/- RecOf of both sides. -/
import Derived.Test.YtfdjognmechcfaaFields
import Derived.Test.YtfdjognmechcfaaRec
namespace Go.Proofs.Ytfdjognmechcfaa
open Go.RowKit

def recT (s : ByteArray) : ByteArray := if 200 < s.size then s.extract 0 200 else s
def recF (s : ByteArray) : List ByteArray := (splitT (recT s)).take 20
theorem recT_size (s : ByteArray) : (recT s).size ≤ 200 := by
  unfold recT
  by_cases h : 200 < s.size
  · rw [if_pos h, ByteArray.size_extract]; omega
  · rw [if_neg h]; omega
theorem flat_take {α : Type} {enc : α → List Value} {k : Nat} (hk : ∀ d, (enc d).length = k) : ∀ (ds : List α) (m : Nat), (ds.take m).flatMap enc = (ds.flatMap enc).take (m * k)
  | [], m => by simp
  | d :: ds, 0 => by simp
  | d :: ds, m + 1 => by
    rw [List.take_succ_cons, List.flatMap_cons, List.flatMap_cons, flat_take hk ds m, show (m + 1) * k = (enc d).length + m * k by rw [hk, Nat.add_mul]; omega, List.take_length_add_append]
theorem Own.take {α : Type} {w : World} {lo hi k n c : Nat} {A : Option Addr} {e : TypeId} {enc : α → List Value} {ds : List α} (hlen : ∀ d, (enc d).length = k) (h : Own w lo hi e k enc (.slice A n c) ds) (m : Nat) (hm : m ≤ n) : Own w lo hi e k enc (.slice A m c) (ds.take m) := by
  obtain ⟨⟨⟨hl, h⟩, hb⟩, hn⟩ := h.ow
  have e2 : (ds.take m).length = m := by simp; omega
  unfold Own
  rw [e2]
  refine ⟨⟨by rw [flat_len hlen, e2], ?_⟩, fun b hbb => hb b (by cases A <;> exact hbb)⟩
  rcases h with ⟨hv, h0⟩ | ⟨g, cap, cur, hv, hg, hh, h1, h2, h3, h4⟩
  · obtain rfl : m = 0 := by omega
    injection hv with v1 v2 v3
    exact .inl ⟨by rw [v1, v3], rfl⟩
  · injection hv with v1 v2 v3
    refine .inr ⟨g, cap, cur, by rw [v1, v3], hg, hh, by omega, h2, h3, ?_⟩
    rw [flat_take hlen, ← h4, List.take_take]
    congr 1
    have := Nat.mul_le_mul_right k hm
    omega
theorem own_cap {α : Type} {w : World} {lo hi k n c : Nat} {A : Option Addr} {e : TypeId} {enc : α → List Value} {ds : List α} (h : Own w lo hi e k enc (.slice A n c) ds) : n ≤ c := by
  obtain ⟨⟨⟨hl, h⟩, hb⟩, hn⟩ := h.ow
  rcases h with ⟨hv, h0⟩ | ⟨g, cap, cur, hv, hg, hh, h1, h2, h3, h4⟩
  · omega
  · injection hv with v1 v2 v3; omega
set_option maxRecDepth 100000 in
set_option maxHeartbeats 2000000 in
theorem specRecOf_any (s : ByteArray) (w : World) :
    Calls Try.prog 21 #[.string s] w fun e w' => ∃ v, e = .returned (.agg #[.string (recT s), v]) ∧ Own w' w.heap.size w'.heap.size 9 1 encS v (recF s) ∧ Below w.heap.size w w' := by
  have hr := recT_size s
  obtain ⟨T, hT⟩ : ∃ T, recT s = T := ⟨_, rfl⟩
  unfold recF
  rw [hT] at hr ⊢
  obtain ⟨L, hL⟩ : ∃ L, splitT T = L := ⟨_, rfl⟩
  have HL := Lib.hid hL
  rw [hL]
  clear hL
  by_cases h200 : 200 < s.size
  · have e : s.extract 0 200 = T := by rw [← hT]; unfold recT; rw [if_pos h200]
    clear hT
    by_cases h20 : 20 < L.length
    · go_enter Try.func21, Try.ntmps21
      go_wp2_with (go_at_call 50; refine (specSplitText_any T _ (by omega)).mono ?_; rw [HL.out]; rintro e w1 ⟨v1, rfl, ho1, hb1⟩; obtain ⟨A1, n1, c1, rfl, HN1⟩ := ho1.form'; have hz1 := hb1.size; simp only [World.size_alloc] at hz1 ho1 hb1; have g1 : w1.heap[w.heap.size]? = some (.cells #[.string ByteArray.empty, .slice none 0 0] 26 (0, 0)) := ((hb1.block w.heap.size (by omega)).trans (heap_alloc_new w _)); have f1 : ∀ j, w1.frozen? ⟨w.heap.size, j, none⟩ = false := (by simp [World.frozen?, g1]); have k0 : w1.cell? ⟨w.heap.size, 0, none⟩ = some (.string ByteArray.empty) := (by simp [World.cell?, g1]); have k1 : w1.cell? ⟨w.heap.size, 1, none⟩ = some (.slice none 0 0) := (by simp [World.cell?, g1]); have hn1 : 20 < n1 := (by rw [HN1.out]; exact h20); have hc1 : n1 ≤ c1 := own_cap ho1)
      refine bodyPost_ret (v := .agg #[.string T, .slice A1 20 c1]) (ret_cell (t := 26) (fr := (0, 0)) rfl rfl Try.underlying26 (by kernel_rfl) ?_) rfl ⟨_, rfl, ?_, ?_⟩
      · simp only [heap_set, g1]; simp [setAt]
      · exact (((ho1.take encS_len 20 (by omega)).setCellAny (p := ⟨w.heap.size, 0, none⟩) (.inl (by simp)) _).setCellAny (p := ⟨w.heap.size, 1, none⟩) (.inl (by simp)) _).wider (by omega) (by simp)
      · have hB : Below w.heap.size w w1 := ((by exact (by repeat (first | (with_reducible refine Below.setCell ?_ (by first | omega | (· simp) | (· (simp; omega))) _) | (with_reducible refine Below.alloc ?_ (by first | omega | (· simp) | (· (simp; omega))) _) | (with_reducible refine Below.drew ?_) | (with_reducible refine bdrewN ?_ _) | (with_reducible exact Below.refl _ _) | (with_reducible assumption) | (with_reducible refine Below.trans ?_ (Below.mono (by assumption) (by first | omega | (· simp) | (· (simp; omega))))) | (with_reducible refine Below.trans ?_ (Kp.below (by assumption) (by first | omega | (· simp) | (· (simp; omega))) (by first | omega | (· simp) | (· (simp; omega))))))) : Below w.heap.size w _).trans (hb1.mono (by omega)))
        exact (by repeat (first | (with_reducible refine Below.setCell ?_ (by first | omega | (· simp) | (· (simp; omega))) _) | (with_reducible refine Below.alloc ?_ (by first | omega | (· simp) | (· (simp; omega))) _) | (with_reducible refine Below.drew ?_) | (with_reducible refine bdrewN ?_ _) | (with_reducible exact Below.refl _ _) | (with_reducible assumption) | (with_reducible refine Below.trans ?_ (Below.mono (by assumption) (by first | omega | (· simp) | (· (simp; omega))))) | (with_reducible refine Below.trans ?_ (Kp.below (by assumption) (by first | omega | (· simp) | (· (simp; omega))) (by first | omega | (· simp) | (· (simp; omega)))))))
    · go_enter Try.func21, Try.ntmps21
      go_wp2_with (go_at_call 50; refine (specSplitText_any T _ (by omega)).mono ?_; rw [HL.out]; rintro e w1 ⟨v1, rfl, ho1, hb1⟩; obtain ⟨A1, n1, c1, rfl, HN1⟩ := ho1.form'; have hz1 := hb1.size; simp only [World.size_alloc] at hz1 ho1 hb1; have g1 : w1.heap[w.heap.size]? = some (.cells #[.string ByteArray.empty, .slice none 0 0] 26 (0, 0)) := ((hb1.block w.heap.size (by omega)).trans (heap_alloc_new w _)); have f1 : ∀ j, w1.frozen? ⟨w.heap.size, j, none⟩ = false := (by simp [World.frozen?, g1]); have k0 : w1.cell? ⟨w.heap.size, 0, none⟩ = some (.string ByteArray.empty) := (by simp [World.cell?, g1]); have k1 : w1.cell? ⟨w.heap.size, 1, none⟩ = some (.slice none 0 0) := (by simp [World.cell?, g1]); have hn1 : ¬ 20 < n1 := (by rw [HN1.out]; exact h20); have hc1 : n1 ≤ c1 := own_cap ho1)
      refine bodyPost_ret (v := .agg #[.string T, .slice A1 n1 c1]) (ret_cell (t := 26) (fr := (0, 0)) rfl rfl Try.underlying26 (by kernel_rfl) ?_) rfl ⟨_, rfl, ?_, ?_⟩
      · simp only [heap_set, g1]; simp [setAt]
      · rw [List.take_of_length_le (by omega)]; exact ((ho1.setCellAny (p := ⟨w.heap.size, 0, none⟩) (.inl (by simp)) _).setCellAny (p := ⟨w.heap.size, 1, none⟩) (.inl (by simp)) _).wider (by omega) (by simp)
      · have hB : Below w.heap.size w w1 := ((by exact (by repeat (first | (with_reducible refine Below.setCell ?_ (by first | omega | (· simp) | (· (simp; omega))) _) | (with_reducible refine Below.alloc ?_ (by first | omega | (· simp) | (· (simp; omega))) _) | (with_reducible refine Below.drew ?_) | (with_reducible refine bdrewN ?_ _) | (with_reducible exact Below.refl _ _) | (with_reducible assumption) | (with_reducible refine Below.trans ?_ (Below.mono (by assumption) (by first | omega | (· simp) | (· (simp; omega))))) | (with_reducible refine Below.trans ?_ (Kp.below (by assumption) (by first | omega | (· simp) | (· (simp; omega))) (by first | omega | (· simp) | (· (simp; omega))))))) : Below w.heap.size w _).trans (hb1.mono (by omega)))
        exact (by repeat (first | (with_reducible refine Below.setCell ?_ (by first | omega | (· simp) | (· (simp; omega))) _) | (with_reducible refine Below.alloc ?_ (by first | omega | (· simp) | (· (simp; omega))) _) | (with_reducible refine Below.drew ?_) | (with_reducible refine bdrewN ?_ _) | (with_reducible exact Below.refl _ _) | (with_reducible assumption) | (with_reducible refine Below.trans ?_ (Below.mono (by assumption) (by first | omega | (· simp) | (· (simp; omega))))) | (with_reducible refine Below.trans ?_ (Kp.below (by assumption) (by first | omega | (· simp) | (· (simp; omega))) (by first | omega | (· simp) | (· (simp; omega)))))))
  · have e : T = s := by rw [← hT]; unfold recT; rw [if_neg h200]
    clear hT
    subst e
    by_cases h20 : 20 < L.length
    · go_enter Try.func21, Try.ntmps21
      go_wp2_with (go_at_call 50; refine (specSplitText_any T _ (by omega)).mono ?_; rw [HL.out]; rintro e w1 ⟨v1, rfl, ho1, hb1⟩; obtain ⟨A1, n1, c1, rfl, HN1⟩ := ho1.form'; have hz1 := hb1.size; simp only [World.size_alloc] at hz1 ho1 hb1; have g1 : w1.heap[w.heap.size]? = some (.cells #[.string ByteArray.empty, .slice none 0 0] 26 (0, 0)) := ((hb1.block w.heap.size (by omega)).trans (heap_alloc_new w _)); have f1 : ∀ j, w1.frozen? ⟨w.heap.size, j, none⟩ = false := (by simp [World.frozen?, g1]); have k0 : w1.cell? ⟨w.heap.size, 0, none⟩ = some (.string ByteArray.empty) := (by simp [World.cell?, g1]); have k1 : w1.cell? ⟨w.heap.size, 1, none⟩ = some (.slice none 0 0) := (by simp [World.cell?, g1]); have hn1 : 20 < n1 := (by rw [HN1.out]; exact h20); have hc1 : n1 ≤ c1 := own_cap ho1)
      refine bodyPost_ret (v := .agg #[.string T, .slice A1 20 c1]) (ret_cell (t := 26) (fr := (0, 0)) rfl rfl Try.underlying26 (by kernel_rfl) ?_) rfl ⟨_, rfl, ?_, ?_⟩
      · simp only [heap_set, g1]; simp [setAt]
      · exact (((ho1.take encS_len 20 (by omega)).setCellAny (p := ⟨w.heap.size, 0, none⟩) (.inl (by simp)) _).setCellAny (p := ⟨w.heap.size, 1, none⟩) (.inl (by simp)) _).wider (by omega) (by simp)
      · have hB : Below w.heap.size w w1 := ((by exact (by repeat (first | (with_reducible refine Below.setCell ?_ (by first | omega | (· simp) | (· (simp; omega))) _) | (with_reducible refine Below.alloc ?_ (by first | omega | (· simp) | (· (simp; omega))) _) | (with_reducible refine Below.drew ?_) | (with_reducible refine bdrewN ?_ _) | (with_reducible exact Below.refl _ _) | (with_reducible assumption) | (with_reducible refine Below.trans ?_ (Below.mono (by assumption) (by first | omega | (· simp) | (· (simp; omega))))) | (with_reducible refine Below.trans ?_ (Kp.below (by assumption) (by first | omega | (· simp) | (· (simp; omega))) (by first | omega | (· simp) | (· (simp; omega))))))) : Below w.heap.size w _).trans (hb1.mono (by omega)))
        exact (by repeat (first | (with_reducible refine Below.setCell ?_ (by first | omega | (· simp) | (· (simp; omega))) _) | (with_reducible refine Below.alloc ?_ (by first | omega | (· simp) | (· (simp; omega))) _) | (with_reducible refine Below.drew ?_) | (with_reducible refine bdrewN ?_ _) | (with_reducible exact Below.refl _ _) | (with_reducible assumption) | (with_reducible refine Below.trans ?_ (Below.mono (by assumption) (by first | omega | (· simp) | (· (simp; omega))))) | (with_reducible refine Below.trans ?_ (Kp.below (by assumption) (by first | omega | (· simp) | (· (simp; omega))) (by first | omega | (· simp) | (· (simp; omega)))))))
    · go_enter Try.func21, Try.ntmps21
      go_wp2_with (go_at_call 50; refine (specSplitText_any T _ (by omega)).mono ?_; rw [HL.out]; rintro e w1 ⟨v1, rfl, ho1, hb1⟩; obtain ⟨A1, n1, c1, rfl, HN1⟩ := ho1.form'; have hz1 := hb1.size; simp only [World.size_alloc] at hz1 ho1 hb1; have g1 : w1.heap[w.heap.size]? = some (.cells #[.string ByteArray.empty, .slice none 0 0] 26 (0, 0)) := ((hb1.block w.heap.size (by omega)).trans (heap_alloc_new w _)); have f1 : ∀ j, w1.frozen? ⟨w.heap.size, j, none⟩ = false := (by simp [World.frozen?, g1]); have k0 : w1.cell? ⟨w.heap.size, 0, none⟩ = some (.string ByteArray.empty) := (by simp [World.cell?, g1]); have k1 : w1.cell? ⟨w.heap.size, 1, none⟩ = some (.slice none 0 0) := (by simp [World.cell?, g1]); have hn1 : ¬ 20 < n1 := (by rw [HN1.out]; exact h20); have hc1 : n1 ≤ c1 := own_cap ho1)
      refine bodyPost_ret (v := .agg #[.string T, .slice A1 n1 c1]) (ret_cell (t := 26) (fr := (0, 0)) rfl rfl Try.underlying26 (by kernel_rfl) ?_) rfl ⟨_, rfl, ?_, ?_⟩
      · simp only [heap_set, g1]; simp [setAt]
      · rw [List.take_of_length_le (by omega)]; exact ((ho1.setCellAny (p := ⟨w.heap.size, 0, none⟩) (.inl (by simp)) _).setCellAny (p := ⟨w.heap.size, 1, none⟩) (.inl (by simp)) _).wider (by omega) (by simp)
      · have hB : Below w.heap.size w w1 := ((by exact (by repeat (first | (with_reducible refine Below.setCell ?_ (by first | omega | (· simp) | (· (simp; omega))) _) | (with_reducible refine Below.alloc ?_ (by first | omega | (· simp) | (· (simp; omega))) _) | (with_reducible refine Below.drew ?_) | (with_reducible refine bdrewN ?_ _) | (with_reducible exact Below.refl _ _) | (with_reducible assumption) | (with_reducible refine Below.trans ?_ (Below.mono (by assumption) (by first | omega | (· simp) | (· (simp; omega))))) | (with_reducible refine Below.trans ?_ (Kp.below (by assumption) (by first | omega | (· simp) | (· (simp; omega))) (by first | omega | (· simp) | (· (simp; omega))))))) : Below w.heap.size w _).trans (hb1.mono (by omega)))
        exact (by repeat (first | (with_reducible refine Below.setCell ?_ (by first | omega | (· simp) | (· (simp; omega))) _) | (with_reducible refine Below.alloc ?_ (by first | omega | (· simp) | (· (simp; omega))) _) | (with_reducible refine Below.drew ?_) | (with_reducible refine bdrewN ?_ _) | (with_reducible exact Below.refl _ _) | (with_reducible assumption) | (with_reducible refine Below.trans ?_ (Below.mono (by assumption) (by first | omega | (· simp) | (· (simp; omega))))) | (with_reducible refine Below.trans ?_ (Kp.below (by assumption) (by first | omega | (· simp) | (· (simp; omega))) (by first | omega | (· simp) | (· (simp; omega)))))))
end Go.Proofs.Ytfdjognmechcfaa
