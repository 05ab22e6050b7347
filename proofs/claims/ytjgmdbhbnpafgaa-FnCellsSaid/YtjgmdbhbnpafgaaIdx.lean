/- slices.IndexFunc at cells, with alloc's closure: the first cell that nobody holds. -/
import Derived.Test.YtjgmdbhbnpafgaaAlloc
namespace Go.Proofs.Ytjgmdbhbnpafgaa
open Go.RowKit

theorem allocClo (r k n : Int) (s : ByteArray) (w : World) : Calls Try.prog 105 #[.agg #[.int .i64 r, .int .i64 k, .int .i64 n, .string s]] w fun e w' => e = .returned (.bool (r == 0)) ∧ Below w.heap.size w w' := by
  go_enter Try.func105, Try.ntmps105
  go_wp2
  go_ret
  exact ⟨rb rfl, (by repeat (first | (with_reducible refine Below.setCell ?_ (by first | omega | (· simp) | (· (simp; omega))) _) | (with_reducible refine Below.alloc ?_ (by first | omega | (· simp) | (· (simp; omega))) _) | (with_reducible refine Below.drew ?_) | (with_reducible refine bdrewN ?_ _) | (with_reducible exact Below.refl _ _) | (with_reducible assumption) | (with_reducible refine Below.trans ?_ (Below.mono (by assumption) (by first | omega | (· simp) | (· (simp; omega))))) | (with_reducible refine Below.trans ?_ (Kp.below (by assumption) (by first | omega | (· simp) | (· (simp; omega))) (by first | omega | (· simp) | (· (simp; omega)))))))⟩
def idxI (i n : Nat) : Int := if i < n then i else -1
set_option maxRecDepth 100000 in
set_option maxHeartbeats 1000000 in
theorem idxCell_any (A : Option Addr) (ln c : Nat) (ds : List GCell) (w : World) (hs : Rd w 4 encC (.slice A ln c) ds) :
    Calls Try.prog 104 #[.slice A ln c, .func (.func 105) #[] #[]] w fun e w' => e = .returned (.int .i64 (idxI (allocAt ds) ds.length)) ∧ Below w.heap.size w w' := by
  obtain rfl := hs.len_eq
  have hlen := hs.len_le
  have hle := allocAt_le ds
  go_enter Try.func104, Try.ntmps104
  go_wp2
  go_loopw [8] (fun i wr => ∃ k : Nat, k ≤ allocAt ds ∧ i = .int .i64 k ∧ Below w.heap.size w wr) (fun i _ => ds.length - (intOf i).toNat)
  case atStart => exact ⟨0, Nat.zero_le _, rfl, Below.refl _ _⟩
  case round =>
    obtain ⟨k, hk, rfl, hb⟩ := hrel
    have hz0 := hb.size
    by_cases hlt : k < ds.length
    · have hs' : Rd wr 4 encC (.slice A ds.length c) ds := (by repeat (first | (with_reducible assumption) | (with_reducible refine Rd.drew ?_) | (with_reducible refine Rd.drewN ?_ _) | (with_reducible refine Rd.alloc ?_ _) | (exact Own.rd (fun _ => rfl) (by with_reducible assumption)) | (exact Sl.rd (by with_reducible assumption) (by first | omega | (· simp) | (· (simp; omega)))) | (refine Rd.below ?_ (by with_reducible assumption) ?_) | omega | (· simp) | (· (simp; omega))))
      obtain ⟨b, o, rfl, _, hc⟩ := hs'.at_ hlt
      have c0 := hc 0 _ rfl; have c1 := hc 1 _ rfl; have c2 := hc 2 _ rfl; have c3 := hc 3 _ rfl
      rw [Nat.add_zero] at c0
      clear hc
      by_cases hz : ds[k].refs = 0
      · have HK := Lib.hid (show k = allocAt ds by
          rcases Nat.lt_or_ge k (allocAt ds) with h | h
          · exact absurd hz (allocAt_not h)
          · omega)
        have HZ := Lib.hid hz
        clear hz
        go_wp2_with (go_at_call 105; refine (allocClo _ _ _ _ _).mono ?_; rintro e w1 ⟨rfl, hb1⟩; have hz1 := hb1.size; rw [show (ds[k].refs == 0) = true from beq_iff_eq.2 HZ.out])
        go_ret
        exact ⟨ri (by unfold idxI; have := HK.out; rw [← this, if_pos hlt]), by exact (by repeat (first | (with_reducible refine Below.setCell ?_ (by first | omega | (· simp) | (· (simp; omega))) _) | (with_reducible refine Below.alloc ?_ (by first | omega | (· simp) | (· (simp; omega))) _) | (with_reducible refine Below.drew ?_) | (with_reducible refine bdrewN ?_ _) | (with_reducible exact Below.refl _ _) | (with_reducible assumption) | (with_reducible refine Below.trans ?_ (Below.mono (by assumption) (by first | omega | (· simp) | (· (simp; omega))))) | (with_reducible refine Below.trans ?_ (Kp.below (by assumption) (by first | omega | (· simp) | (· (simp; omega))) (by first | omega | (· simp) | (· (simp; omega)))))))⟩
      · go_wp2_with (go_at_call 105; refine (allocClo _ _ _ _ _).mono ?_; rintro e w1 ⟨rfl, hb1⟩; have hz1 := hb1.size; rw [show (ds[k].refs == 0) = false from beq_eq_false_iff_ne.2 hz])
        go_roundw
        case rel => exact ⟨k + 1, (by
          rcases Nat.lt_or_ge k (allocAt ds) with h | h
          · omega
          · exact absurd (by have e : k = allocAt ds := by omega
                             subst e; exact allocAt_is hlt) hz), by go_num, by exact (by repeat (first | (with_reducible refine Below.setCell ?_ (by first | omega | (· simp) | (· (simp; omega))) _) | (with_reducible refine Below.alloc ?_ (by first | omega | (· simp) | (· (simp; omega))) _) | (with_reducible refine Below.drew ?_) | (with_reducible refine bdrewN ?_ _) | (with_reducible exact Below.refl _ _) | (with_reducible assumption) | (with_reducible refine Below.trans ?_ (Below.mono (by assumption) (by first | omega | (· simp) | (· (simp; omega))))) | (with_reducible refine Below.trans ?_ (Kp.below (by assumption) (by first | omega | (· simp) | (· (simp; omega))) (by first | omega | (· simp) | (· (simp; omega)))))))⟩
        case measure => simp [intOf]; omega
    · have HK := Lib.hid (show ¬ allocAt ds < ds.length by omega)
      go_wp2
      go_ret
      exact ⟨ri (by unfold idxI; rw [if_neg HK.out]), hb⟩
end Go.Proofs.Ytjgmdbhbnpafgaa
