/- The cursor of a draw: what it gives is in its bounds; only the cursor's block turns. -/
import Derived.Test.YtjgmdbhbnpafgaaAlloc
namespace Go.Proofs.Ytjgmdbhbnpafgaa
open Go.RowKit

theorem and255 (n : Int) : bits .and .i64 n 255 = n % 256 := by
  have h1 : (BitVec.ofInt 64 n).toNat = (n % 18446744073709551616).toNat := by rw [BitVec.toNat_ofInt]; rfl
  have h2 : (BitVec.ofInt 64 255).toNat = 2 ^ 8 - 1 := by rfl
  show IntKind.i64.wrap ((BitVec.ofInt 64 n &&& BitVec.ofInt 64 255).toNat : Int) = _
  rw [BitVec.toNat_and, h1, h2, Nat.and_two_pow_sub_one_eq_mod, IntKind.wrap_i64]
  omega
/-- A cursor in block b: the drawn bytes lie below it. -/
def Cur (w : World) (b : Nat) : Prop := b < w.heap.size ∧ ∃ (A : Option Addr) (c : Nat) (bs : List UInt8) (i : Nat) (h : Int), i ≤ bs.length ∧ Sl w 0 b 1 encB (.slice A bs.length c) bs ∧
  w.heap[b]? = some (.cells #[.slice A bs.length c, .int .i64 i, .int .i64 h] 113 (0, 0))
theorem Cur.keep {w w' : World} {b : Nat} (h : Cur w b) (hb : ∀ g, g ≤ b → w'.heap[g]? = w.heap[g]?) : Cur w' b := by
  obtain ⟨h0, A, c, bs, i, x, h1, h2, h3⟩ := h
  refine ⟨?_, A, c, bs, i, x, h1, h2.keep fun p _ hp => World.cell?_of_block (hb _ (by omega)), (hb b (Nat.le_refl _)).trans h3⟩
  rcases Nat.lt_or_ge b w'.heap.size with h | h
  · exact h
  · have := (hb b (Nat.le_refl _)).trans h3
    rw [Array.getElem?_eq_none h] at this; cases this
theorem Cur.below {w w' : World} {b B : Nat} (h : Cur w b) (hb : Below B w w') (hB : b < B) : Cur w' b := h.keep fun g hg => hb.block g (by omega)
theorem Cur.kp {w w' : World} {b lo hi : Nat} (h : Cur w b) (hb : Kp lo hi w w') (hB : b < lo) : Cur w' b := h.keep fun g hg => hb.block g (by have := h.1; omega) (.inl (by omega))
theorem Cur.drew {w : World} {b : Nat} (h : Cur w b) : Cur w.drew b := h
theorem Cur.drewN {w : World} {b n : Nat} (h : Cur w b) : Cur (w.drewN n) b := h
theorem Cur.alloc {w : World} {b : Nat} (h : Cur w b) (o : Obj) : Cur (w.alloc o) b := h.keep fun g hg => Below.heap_alloc w o g (by have := h.1; omega)
theorem Cur.setb {w : World} {b p j : Nat} {u : Value} (h : Cur w b) (hp : b < p) : Cur (w.setCell ⟨p, j, none⟩ u) b := h.keep fun g hg => Below.heap_setCell w ⟨p, j, none⟩ u g (by show g ≠ p; omega)
theorem Kp.drewN_ {lo hi : Nat} {a b : World} (h : Kp lo hi a b) (n : Nat) : Kp lo hi a (b.drewN n) := ⟨h.os, h.tape, h.output, h.size, h.block⟩
/-- What lies beyond what was there. -/
theorem Kp.fresh {lo hi lo' hi' : Nat} {a b c : World} (h : Kp lo hi a b) (k : Kp lo' hi' b c) (hn : a.heap.size ≤ lo') : Kp lo hi a c :=
  ⟨k.os.trans h.os, k.tape.trans h.tape, k.output.trans h.output, Nat.le_trans h.size k.size, fun g hg hh => (k.block g (Nat.lt_of_lt_of_le hg h.size) (.inl (by omega))).trans (h.block g hg hh)⟩
set_option maxRecDepth 100000 in
set_option maxHeartbeats 1000000 in
theorem l1Byte_any (b : Nat) (w : World) (hc : Cur w b) :
    Calls Try.prog 110 #[.pointer (some ⟨b, 0, none⟩)] w fun e w' => ∃ x : Int, e = .returned (.int .i64 x) ∧ 0 ≤ x ∧ x < 256 ∧ Cur w' b ∧ Kp b (b + 1) w w' := by
  obtain ⟨h0, A, c, bs, i, h, h1, h2, h3⟩ := hc
  have k0 : w.cell? ⟨b, 0, none⟩ = some (.slice A bs.length c) := by rw [cell_of_row _ _ _ _ _ _ h3]; rfl
  have k1 : w.cell? ⟨b, 1, none⟩ = some (.int .i64 i) := by rw [cell_of_row _ _ _ _ _ _ h3]; rfl
  have k2 : w.cell? ⟨b, 2, none⟩ = some (.int .i64 h) := by rw [cell_of_row _ _ _ _ _ _ h3]; rfl
  have f : ∀ j, w.frozen? ⟨b, j, none⟩ = false := by intro j; simp [World.frozen?, h3]
  have h255 := and255
  go_enter Try.func110, Try.ntmps110
  go_wp2
  obtain ⟨HH, EH⟩ : ∃ HH, Hid (wrap64 (wrap64 (h * 6364136223846793005) + 1442695040888963407) = HH) := ⟨_, rfl⟩
  rw [EH.out]
  have g1 : (w.setCell ⟨b, 2, none⟩ (.int .i64 HH)).heap[b]? = some (.cells #[.slice A bs.length c, .int .i64 i, .int .i64 HH] 113 (0, 0)) := by simp only [heap_set, h3]; simp [setAt]
  have hk1 : Kp b (b + 1) w (w.setCell ⟨b, 2, none⟩ (.int .i64 HH)) := (Kp.refl b (b + 1) w).set (p := ⟨b, 2, none⟩) (Nat.le_refl b) (Nat.lt_succ_self b) _
  have s1 : Sl (w.setCell ⟨b, 2, none⟩ (.int .i64 HH)) 0 b 1 encB (.slice A bs.length c) bs := h2.setCell (Nat.le_refl _) _
  clear k0 k1 k2 f EH
  generalize w.setCell ⟨b, 2, none⟩ (.int .i64 HH) = w1 at *
  have k0 : w1.cell? ⟨b, 0, none⟩ = some (.slice A bs.length c) := by rw [cell_of_row _ _ _ _ _ _ g1]; rfl
  have k1 : w1.cell? ⟨b, 1, none⟩ = some (.int .i64 i) := by rw [cell_of_row _ _ _ _ _ _ g1]; rfl
  have k2 : w1.cell? ⟨b, 2, none⟩ = some (.int .i64 HH) := by rw [cell_of_row _ _ _ _ _ _ g1]; rfl
  have f : ∀ j, w1.frozen? ⟨b, j, none⟩ = false := by intro j; simp [World.frozen?, g1]
  have hz1 := hk1.size
  have hlen := s1.len_le
  by_cases hlt : i < bs.length
  · obtain ⟨g, o, rfl, _, hgb, hcell⟩ := s1.at1 hlt
    have c0 := hcell _ rfl
    clear hcell
    go_quiet (fail)
    go_wp2
    go_quiet (fail)
    go_wp2
    go_quiet (fail)
    go_wp2
    go_ret
    refine ⟨_, rfl, Int.emod_nonneg _ (by decide), Int.emod_lt_of_pos _ (by decide), ⟨by simp; omega, _, _, bs, i + 1, HH, hlt, (s1.drewN _).setCell (Nat.le_refl b) _, ?_⟩, (hk1.drewN_ _).set (p := ⟨b, 1, none⟩) (Nat.le_refl b) (Nat.lt_succ_self b) _⟩
    simp only [heap_set, World.heap_drewN, g1]
    simp [setAt]
  · go_quiet (fail)
    go_wp2
    go_quiet (fail)
    go_wp2
    go_ret
    exact ⟨_, rfl, Int.emod_nonneg _ (by decide), Int.emod_lt_of_pos _ (by decide), ⟨by simp; omega, _, _, bs, i, HH, h1, (s1.drewN _).drewN _, g1⟩, (hk1.drewN_ _).drewN_ _⟩
end Go.Proofs.Ytjgmdbhbnpafgaa
