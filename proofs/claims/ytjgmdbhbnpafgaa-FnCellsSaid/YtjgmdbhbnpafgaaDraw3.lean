/- A drawn value. -/
import Derived.Test.YtjgmdbhbnpafgaaDraw2
import Derived.Test.YtjgmdbhbnpafgaaHeap3
namespace Go.Proofs.Ytjgmdbhbnpafgaa
open Go.RowKit

def okV (v : GVal) : Prop := valOk v.k v.n v.s = true ∧ goodV v
theorem wrapI_idem (n : Int) : wrapI (wrapI n) = wrapI n := by unfold wrapI; omega
theorem okV_zero : okV gzero := ⟨valOk0, by unfold goodV i64r gzero maxLen; decide⟩
theorem okV_int (n : Int) : okV ⟨1, wrapI n, ByteArray.empty⟩ := by
  refine ⟨?_, ?_⟩
  · simp [valOk, wrapI_idem]
  · have h : (ByteArray.empty).size = 0 := rfl
    unfold goodV i64r maxLen
    simp only [h]
    unfold wrapI; omega
theorem okV_text (s : ByteArray) (h : s.size ≤ 200) : okV ⟨2, 0, s⟩ := by
  refine ⟨?_, ?_⟩
  · simp [valOk, h]
  · unfold goodV i64r maxLen
    simp only
    omega
theorem l2Int_any (n : Int) (w : World) (hn : -9223372036854775808 ≤ n ∧ n ≤ 9223372036854775807) :
    Calls Try.prog 100 #[.int .i64 n] w fun e w' => e = .returned (.agg #[.int .i64 1, .int .i64 (wrapI n), .string ByteArray.empty]) ∧ Below w.heap.size w w' := by
  go_enter Try.func100, Try.ntmps100
  go_wp2_with (go_at_call 96; refine (specWrap_any _ _ hn).mono ?_; rintro e w1 ⟨rfl, rfl⟩)
  refine bodyPost_ret (v := .agg #[.int .i64 1, .int .i64 (wrapI n), .string ⟨#[]⟩]) (ret_cell (t := 50) (fr := (0, 0)) rfl rfl Try.underlying50 (by kernel_rfl) ?_) rfl ⟨rfl, ?_⟩
  · simp only [heap_set, heap_new]; simp [setAt]
  · exact (by repeat (first | (with_reducible refine Below.setCell ?_ (by first | omega | (· simp) | (· (simp; omega))) _) | (with_reducible refine Below.alloc ?_ (by first | omega | (· simp) | (· (simp; omega))) _) | (with_reducible refine Below.drew ?_) | (with_reducible refine bdrewN ?_ _) | (with_reducible exact Below.refl _ _) | (with_reducible assumption) | (with_reducible refine Below.trans ?_ (Below.mono (by assumption) (by first | omega | (· simp) | (· (simp; omega))))) | (with_reducible refine Below.trans ?_ (Kp.below (by assumption) (by first | omega | (· simp) | (· (simp; omega))) (by first | omega | (· simp) | (· (simp; omega)))))))
theorem l2Text_any (s : ByteArray) (w : World) :
    Calls Try.prog 102 #[.string s] w fun e w' => e = .returned (.agg #[.int .i64 2, .int .i64 0, .string s]) ∧ Below w.heap.size w w' := by
  go_enter Try.func102, Try.ntmps102
  go_wp2
  refine bodyPost_ret (v := .agg #[.int .i64 2, .int .i64 0, .string s]) (ret_cell (t := 50) (fr := (0, 0)) rfl rfl Try.underlying50 (by kernel_rfl) ?_) rfl ⟨rfl, ?_⟩
  · simp only [heap_set, heap_new]; simp [setAt]
  · exact (by repeat (first | (with_reducible refine Below.setCell ?_ (by first | omega | (· simp) | (· (simp; omega))) _) | (with_reducible refine Below.alloc ?_ (by first | omega | (· simp) | (· (simp; omega))) _) | (with_reducible refine Below.drew ?_) | (with_reducible refine bdrewN ?_ _) | (with_reducible exact Below.refl _ _) | (with_reducible assumption) | (with_reducible refine Below.trans ?_ (Below.mono (by assumption) (by first | omega | (· simp) | (· (simp; omega))))) | (with_reducible refine Below.trans ?_ (Kp.below (by assumption) (by first | omega | (· simp) | (· (simp; omega))) (by first | omega | (· simp) | (· (simp; omega)))))))
def drawTexts : List ByteArray := [⟨#[]⟩, ⟨#[97]⟩, ⟨#[97, 98]⟩, ⟨#[49, 50]⟩, ⟨#[45, 51, 120]⟩, ⟨#[48]⟩, ⟨#[119, 111, 114, 100]⟩, ⟨#[45]⟩, ⟨#[57, 57, 57, 57, 57, 57, 57, 57, 57, 57, 57]⟩]
theorem drawTexts_size : ∀ s ∈ drawTexts, s.size ≤ 200 := by
  intro s hs
  simp only [drawTexts, List.mem_cons, List.not_mem_nil, or_false] at hs
  rcases hs with rfl | rfl | rfl | rfl | rfl | rfl | rfl | rfl | rfl <;> decide
def drawInts : List Int := [0, 1, 2, 3, -1, 7, 10, 2147483647, -2147483648]
set_option maxRecDepth 100000 in
set_option maxHeartbeats 1000000 in
theorem l2Draw_any (b : Nat) (w : World) (hc : Cur w b) :
    Calls Try.prog 79 #[.pointer (some ⟨b, 0, none⟩)] w fun e w' => ∃ v : GVal, e = .returned (.agg #[.int .i64 v.k, .int .i64 v.n, .string v.s]) ∧ okV v ∧ Cur w' b ∧ Kp b (b + 1) w w' := by
  have hbl := hc.1
  have hc0 := hc.alloc (.cells #[.int .i64 0, .int .i64 0, .string ByteArray.empty] 50)
  go_enter Try.func79, Try.ntmps79
  go_wp2_with fail
  go_at_call 98
  refine (l1Below_any b _ _ hc0 (by omega) (by omega)).mono ?_; rintro e w1 ⟨x, rfl, hx1, hc1, hk1⟩
  have hz1 := hk1.size
  simp only [World.size_alloc] at hz1
  have g1 : w1.heap[w.heap.size]? = some (.cells #[.int .i64 0, .int .i64 0, .string ByteArray.empty] 50 (0, 0)) := (hk1.block w.heap.size (by simp) (.inr (by omega))).trans (heap_alloc_new w _)
  have f1 : ∀ j, w1.frozen? ⟨w.heap.size, j, none⟩ = false := by intro j; simp [World.frozen?, g1]
  have k0 : w1.cell? ⟨w.heap.size, 0, none⟩ = some (.int .i64 0) := by rw [cell_of_row _ _ _ _ _ _ g1]; rfl
  have k1 : w1.cell? ⟨w.heap.size, 1, none⟩ = some (.int .i64 0) := by rw [cell_of_row _ _ _ _ _ _ g1]; rfl
  have k2 : w1.cell? ⟨w.heap.size, 2, none⟩ = some (.string ByteArray.empty) := by rw [cell_of_row _ _ _ _ _ _ g1]; rfl
  have hK : Kp b (b + 1) w w1 := (Kp.of_below ((Below.refl _ w).alloc (Nat.le_refl _) _)).trans hk1
  have hge : b ≤ w.heap.size ∧ w.heap.size < b + 1 ∨ w.heap.size ≤ w.heap.size := .inr (Nat.le_refl _)
  obtain h | h | h : x = 0 ∨ (x = 1 ∨ x = 2) ∨ (x = 3 ∨ x = 4) := by omega
  · subst h
    go_wp2
    refine bodyPost_ret (v := .agg #[.int .i64 0, .int .i64 0, .string ⟨#[]⟩]) (ret_cell (t := 50) (fr := (0, 0)) rfl rfl Try.underlying50 (by kernel_rfl) ?_) rfl ⟨gzero, rfl, okV_zero, ?_, ?_⟩
    · simp only [heap_set, g1]; simp [setAt]
    · exact ((hc1.setb hbl).setb hbl).setb hbl
    · exact ((hK.setAny hge _).setAny hge _).setAny hge _
  · have hs1 : Sl (w1.alloc (.cells #[.int .i64 0, .int .i64 1, .int .i64 2, .int .i64 3, .int .i64 (-1), .int .i64 7, .int .i64 10, .int .i64 2147483647, .int .i64 (-2147483648)] 3)) (b + 1) (w1.heap.size + 1) 1 encI (.slice (some ⟨w1.heap.size, 0, none⟩) 9 9) drawInts :=
      (own_lit (k := 1) (n := 9) (e := 3) (enc := encI) (ds := drawInts) (by omega) (fun _ => rfl) rfl (by unfold maxLen; decide) rfl).sl (fun _ => rfl)
    have hcur := hc1.alloc (.cells #[.int .i64 0, .int .i64 1, .int .i64 2, .int .i64 3, .int .i64 (-1), .int .i64 7, .int .i64 10, .int .i64 2147483647, .int .i64 (-2147483648)] 3)
    obtain rfl | rfl := h
    all_goals (
      go_wp2_with (first
        | (go_at_call 101; refine (l1Int_any b _ _ _ drawInts _ hcur (by rw [World.size_alloc]; exact hs1) (by decide)).mono ?_; rintro e w2 ⟨y, hy, rfl, hc2, hk2⟩; have hz2 := hk2.size; simp only [World.size_alloc] at hz2; have hyr : -9223372036854775808 ≤ y ∧ y ≤ 9223372036854775807 := (by simp [drawInts] at hy; omega); clear hy)
        | (go_at_call 100; refine (l2Int_any y _ hyr).mono ?_; rintro e w3 ⟨rfl, hb3⟩; have hz3 := hb3.size; have hK3 : Kp b (b + 1) w w3 := ((hK.trans (Kp.of_below ((Below.refl _ w1).alloc (Nat.le_refl _) _))).trans hk2).trans (Kp.of_below hb3); have g3 : w3.heap[w.heap.size]? = some (.cells #[.int .i64 0, .int .i64 0, .string ByteArray.empty] 50 (0, 0)) := (hb3.block w.heap.size (by omega)).trans ((hk2.block w.heap.size (by simp; omega) (.inr (by omega))).trans ((Below.heap_alloc w1 _ w.heap.size (by omega)).trans g1)); have f3 : ∀ j, w3.frozen? ⟨w.heap.size, j, none⟩ = false := (by intro j; simp [World.frozen?, g3]); have k3 : w3.cell? ⟨w.heap.size, 0, none⟩ = some (.int .i64 0) := (by rw [cell_of_row _ _ _ _ _ _ g3]; rfl); have k4 : w3.cell? ⟨w.heap.size, 1, none⟩ = some (.int .i64 0) := (by rw [cell_of_row _ _ _ _ _ _ g3]; rfl); have k5 : w3.cell? ⟨w.heap.size, 2, none⟩ = some (.string ByteArray.empty) := (by rw [cell_of_row _ _ _ _ _ _ g3]; rfl)))
      refine bodyPost_ret (v := .agg #[.int .i64 1, .int .i64 (wrapI y), .string ByteArray.empty]) (ret_cell (t := 50) (fr := (0, 0)) rfl rfl Try.underlying50 (by kernel_rfl) ?_) rfl ⟨⟨1, wrapI y, ByteArray.empty⟩, rfl, okV_int y, ?_, ?_⟩
      · simp only [heap_set, g3]; simp [setAt]
      · exact (((hc2.below hb3 (by omega)).setb hbl).setb hbl).setb hbl
      · exact ((hK3.setAny hge _).setAny hge _).setAny hge _)
  · have hs1 : Sl (w1.alloc (.cells #[.string ⟨#[]⟩, .string ⟨#[97]⟩, .string ⟨#[97, 98]⟩, .string ⟨#[49, 50]⟩, .string ⟨#[45, 51, 120]⟩, .string ⟨#[48]⟩, .string ⟨#[119, 111, 114, 100]⟩, .string ⟨#[45]⟩, .string ⟨#[57, 57, 57, 57, 57, 57, 57, 57, 57, 57, 57]⟩] 9)) (b + 1) (w1.heap.size + 1) 1 encS (.slice (some ⟨w1.heap.size, 0, none⟩) 9 9) drawTexts :=
      (own_lit (k := 1) (n := 9) (e := 9) (enc := encS) (ds := drawTexts) (by omega) (fun _ => rfl) rfl (by unfold maxLen; decide) rfl).sl (fun _ => rfl)
    have hcur := hc1.alloc (.cells #[.string ⟨#[]⟩, .string ⟨#[97]⟩, .string ⟨#[97, 98]⟩, .string ⟨#[49, 50]⟩, .string ⟨#[45, 51, 120]⟩, .string ⟨#[48]⟩, .string ⟨#[119, 111, 114, 100]⟩, .string ⟨#[45]⟩, .string ⟨#[57, 57, 57, 57, 57, 57, 57, 57, 57, 57, 57]⟩] 9)
    obtain rfl | rfl := h
    all_goals (
      go_wp2_with (first
        | (go_at_call 103; refine (l1Str_any b _ _ _ drawTexts _ hcur (by rw [World.size_alloc]; exact hs1) (by decide)).mono ?_; rintro e w2 ⟨y, hy, rfl, hc2, hk2⟩; have hz2 := hk2.size; simp only [World.size_alloc] at hz2; have hyr : y.size ≤ 200 := (drawTexts_size y hy); clear hy)
        | (go_at_call 102; refine (l2Text_any y _).mono ?_; rintro e w3 ⟨rfl, hb3⟩; have hz3 := hb3.size; have hK3 : Kp b (b + 1) w w3 := ((hK.trans (Kp.of_below ((Below.refl _ w1).alloc (Nat.le_refl _) _))).trans hk2).trans (Kp.of_below hb3); have g3 : w3.heap[w.heap.size]? = some (.cells #[.int .i64 0, .int .i64 0, .string ByteArray.empty] 50 (0, 0)) := (hb3.block w.heap.size (by omega)).trans ((hk2.block w.heap.size (by simp; omega) (.inr (by omega))).trans ((Below.heap_alloc w1 _ w.heap.size (by omega)).trans g1)); have f3 : ∀ j, w3.frozen? ⟨w.heap.size, j, none⟩ = false := (by intro j; simp [World.frozen?, g3]); have k3 : w3.cell? ⟨w.heap.size, 0, none⟩ = some (.int .i64 0) := (by rw [cell_of_row _ _ _ _ _ _ g3]; rfl); have k4 : w3.cell? ⟨w.heap.size, 1, none⟩ = some (.int .i64 0) := (by rw [cell_of_row _ _ _ _ _ _ g3]; rfl); have k5 : w3.cell? ⟨w.heap.size, 2, none⟩ = some (.string ByteArray.empty) := (by rw [cell_of_row _ _ _ _ _ _ g3]; rfl)))
      refine bodyPost_ret (v := .agg #[.int .i64 2, .int .i64 0, .string y]) (ret_cell (t := 50) (fr := (0, 0)) rfl rfl Try.underlying50 (by kernel_rfl) ?_) rfl ⟨⟨2, 0, y⟩, rfl, okV_text y hyr, ?_, ?_⟩
      · simp only [heap_set, g3]; simp [setAt]
      · exact (((hc2.below hb3 (by omega)).setb hbl).setb hbl).setb hbl
      · exact ((hK3.setAny hge _).setAny hge _).setAny hge _)
end Go.Proofs.Ytjgmdbhbnpafgaa
