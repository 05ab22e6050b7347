/- The drawing of a heap, walked. -/
import Derived.Test.YtjgmdbhbnpafgaaDraw4
namespace Go.Proofs.Ytjgmdbhbnpafgaa
open Go.RowKit

def HeapAt (w wr : World) (b : Nat) (n : Nat) (ds : List GCell) : Prop := invH n ds ∧ Cur wr b ∧ Kp b (b + 1) w wr ∧ w.heap.size + 1 + 1 ≤ wr.heap.size ∧ wr.heap[w.heap.size]? = some (.cells #[.slice none 0 0] 54 (0, 0)) ∧ wr.frozen? ⟨w.heap.size + 1, 0, none⟩ = false ∧
  ∃ A ln c, wr.cell? ⟨w.heap.size + 1, 0, none⟩ = some (.slice A ln c) ∧ Own wr (w.heap.size + 1 + 1) wr.heap.size 76 4 encC (.slice A ln c) ds
theorem HeapAt.cur {w wr w1 : World} {b n : Nat} {ds : List GCell} (h : HeapAt w wr b n ds) (hk : Kp b (b + 1) wr w1) (hc : Cur w1 b) (hb : b < w.heap.size) : HeapAt w w1 b n ds := by
  obtain ⟨h1, h2, h3, h4, h5, h6, A, ln, c, h7, h8⟩ := h
  have hz := hk.size
  exact ⟨h1, hc, h3.trans hk, by omega, (hk.block _ (by omega) (.inr (by omega))).trans h5, frz_kp hk h6 (by omega) (.inr (by omega)), A, ln, c, cell_kp hk h7 (.inr (by omega)), (h8.kp hk (.inr (by omega))).wider (Nat.le_refl _) hz⟩
set_option maxRecDepth 100000 in
set_option maxHeartbeats 2000000 in
theorem l20Draw_any (b : Nat) (w : World) (hc : Cur w b) :
    Calls Try.prog 78 #[.pointer (some ⟨b, 0, none⟩)] w fun e w' => ∃ v ds, e = .returned (.agg #[v]) ∧ Own w' w.heap.size w'.heap.size 76 4 encC v ds ∧ invH 0 ds ∧ Cur w' b ∧ Kp b (b + 1) w w' := by
  have hbl := hc.1
  have hc0 := (hc.alloc (.cells #[.slice none 0 0] 54)).alloc (.cells #[.slice none 0 0] 54)
  go_enter Try.func78, Try.ntmps78
  go_wp2_with fail
  go_at_call 98
  refine (l1Below_any b _ _ hc0 (by omega) (by omega)).mono ?_; rintro e w1 ⟨x, rfl, hx1, hc1, hk1⟩
  have H0 : HeapAt w w1 b x [] := by
    have hz := hk1.size
    simp only [World.size_alloc] at hz
    refine ⟨⟨by simp; omega, fun d hd => by cases hd⟩, hc1, (Kp.of_below (by exact (by repeat (first | (with_reducible refine Below.setCell ?_ (by first | omega | (· simp) | (· (simp; omega))) _) | (with_reducible refine Below.alloc ?_ (by first | omega | (· simp) | (· (simp; omega))) _) | (with_reducible refine Below.drew ?_) | (with_reducible refine bdrewN ?_ _) | (with_reducible exact Below.refl _ _) | (with_reducible assumption) | (with_reducible refine Below.trans ?_ (Below.mono (by assumption) (by first | omega | (· simp) | (· (simp; omega))))) | (with_reducible refine Below.trans ?_ (Kp.below (by assumption) (by first | omega | (· simp) | (· (simp; omega))) (by first | omega | (· simp) | (· (simp; omega))))))))).trans hk1, hz, (hk1.block _ (by simp; omega) (.inr (by omega))).trans ?_, frz_kp hk1 ?_ (by simp) (.inr (by omega)), none, 0, 0, cell_kp hk1 ?_ (.inr (by omega)), own_nil _ _ _ _ _ _⟩
    · exact (Below.heap_alloc _ _ _ (by simp)).trans (heap_alloc_new w _)
    · have := frz_new (w := w.alloc (.cells #[.slice none 0 0] 54)) (cs := #[.slice none 0 0]) (t := 54) (o := 0)
      rw [World.size_alloc] at this; exact this
    · have := cell_new (w := w.alloc (.cells #[.slice none 0 0] 54)) (cs := #[.slice none 0 0]) (t := 54) (o := 0) (u := .slice none 0 0) rfl
      rw [World.size_alloc] at this; exact this
  clear hk1 hc1 hc0
  go_wp2
  go_loopw [4] (fun i wr => ∃ (n : Nat) (ds : List GCell), i = .int .i64 n ∧ HeapAt w wr b n ds) (fun i _ => (intOf i).toNat)
  case atStart => exact ⟨x, [], rfl, H0⟩
  case round =>
    clear H0
    obtain ⟨n, ds, rfl, hH⟩ := hrel
    have hn7 : n ≤ 7 := by have := hH.1.1; omega
    rcases n with _ | n
    · obtain ⟨h1, h2, h3, h4, h5, h6, A, ln, c, h7, h8⟩ := hH
      have f5 : ∀ j, wr.frozen? ⟨w.heap.size, j, none⟩ = false := by intro j; simp [World.frozen?, h5]
      have k5 : wr.cell? ⟨w.heap.size, 0, none⟩ = some (.slice none 0 0) := by rw [cell_of_row _ _ _ _ _ _ h5]; rfl
      go_wp2
      refine bodyPost_ret (v := .agg #[.slice A ln c]) (ret_cell (t := 54) (fr := (0, 0)) rfl rfl Try.underlying54 (by kernel_rfl) ?_) rfl ⟨_, ds, rfl, ?_, h1, ?_, ?_⟩
      · simp only [heap_set, h5]; simp [setAt]
      · exact (h8.setCellAny (p := ⟨w.heap.size, 0, none⟩) (.inl (by simp; omega)) _).wider (by omega) (by simp)
      · exact h2.setb hbl
      · exact h3.setAny (.inr (Nat.le_refl _)) _
    · have hcr := hH.2.1
      go_wp2_with fail
      go_at_call 98
      refine (l1Below_any b _ _ hcr (by omega) (by omega)).mono ?_; rintro e w1 ⟨y, rfl, hy1, hc1, hk1⟩
      replace hH := hH.cur hk1 hc1 hbl
      clear hcr hk1
      obtain h | h | h : (y = 0 ∨ y = 1) ∨ y = 2 ∨ y = 3 := by omega
      · obtain rfl | rfl := h
        all_goals (
          go_wp2_with fail
          go_at_call 79
          refine (l2Draw_any b _ hc1).mono ?_; rintro e w2 ⟨v, rfl, hv, hc2, hk2⟩
          replace hH := hH.cur hk2 hc2 hbl
          clear hc1 hk2
          obtain ⟨h1, h2, h3, h4, h5, h6, A, ln, c, h7, h8⟩ := hH
          go_wp2_with fail
          go_at_call 99
          refine (specAllocIn_any A ln c (w.heap.size + 1 + 1) w2.heap.size (w.heap.size + 1) w2.heap.size (w.heap.size + 1) ds v _ h8 h7 h6 (.inl (by omega)) (by omega) (Nat.le_refl _) (by omega) (by omega) (Nat.le_refl _) (Nat.le_refl _) (by omega) (by have := h1.1; omega)).mono ?_
          rintro e w3 ⟨rfl, A3, n3, c3, hp3, hf3, ho3, hk3⟩
          go_wp2
          go_roundw
          case rel => exact ⟨n, _, by go_num, invH_alloc h1 hv, hc2.kp hk3 (by omega), h3.fresh hk3 (by omega), by have := hk3.size; omega, (hk3.block _ (by omega) (.inl (by omega))).trans h5, hf3, A3, n3, c3, hp3, ho3⟩
          case measure => simp [intOf])
      · subst h
        go_wp2_with fail
        go_at_call 98
        refine (l1Below_any b _ _ hc1 (by omega) (by omega)).mono ?_; rintro e w2 ⟨k, rfl, hk2', hc2, hk2⟩
        replace hH := hH.cur hk2 hc2 hbl
        clear hc1 hk2
        obtain ⟨h1, h2, h3, h4, h5, h6, A, ln, c, h7, h8⟩ := hH
        go_wp2_with fail
        go_at_call 85
        refine (specHoldIn_any A ln c (w.heap.size + 1 + 1) w2.heap.size (w.heap.size + 1) ds k _ h8 h7 (.inl (by omega)) (by omega) (Nat.le_refl _)).mono ?_
        rintro e w3 ⟨rfl, ho3, hk3⟩
        go_wp2
        go_roundw
        case rel => exact ⟨n, _, by go_num, invH_hold h1, hc2.kp hk3 (by omega), h3.fresh hk3 (by omega), by have := hk3.size; omega, (hk3.block _ (by omega) (.inl (by omega))).trans h5, frz_kp hk3 h6 (by omega) (.inl (by omega)), A, ln, c, cell_kp hk3 h7 (.inl (by omega)), ho3.wider (Nat.le_refl _) hk3.size⟩
        case measure => simp [intOf]
      · subst h
        go_wp2_with fail
        go_at_call 98
        refine (l1Below_any b _ _ hc1 (by omega) (by omega)).mono ?_; rintro e w2 ⟨k, rfl, hk2', hc2, hk2⟩
        replace hH := hH.cur hk2 hc2 hbl
        clear hc1 hk2
        obtain ⟨h1, h2, h3, h4, h5, h6, A, ln, c, h7, h8⟩ := hH
        go_wp2_with fail
        go_at_call 88
        refine (specLetIn_any A ln c (w.heap.size + 1 + 1) w2.heap.size (w.heap.size + 1) ds k _ h8 h7 (.inl (by omega)) (by omega) (Nat.le_refl _)).mono ?_
        rintro e w3 ⟨rfl, ho3, hk3⟩
        go_wp2
        go_roundw
        case rel => exact ⟨n, _, by go_num, invH_let h1, hc2.kp hk3 (by omega), h3.fresh hk3 (by omega), by have := hk3.size; omega, (hk3.block _ (by omega) (.inl (by omega))).trans h5, frz_kp hk3 h6 (by omega) (.inl (by omega)), A, ln, c, cell_kp hk3 h7 (.inl (by omega)), ho3.wider (Nat.le_refl _) hk3.size⟩
        case measure => simp [intOf]
end Go.Proofs.Ytjgmdbhbnpafgaa
