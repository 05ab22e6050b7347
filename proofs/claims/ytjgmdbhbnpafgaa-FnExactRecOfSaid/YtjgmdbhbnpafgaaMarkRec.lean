/- The marks of a record. -/
import Derived.Test.YtjgmdbhbnpafgaaRecOf2
import Derived.Test.YtjgmdbhbnpafgaaMark
import Derived.Test.YtjgmdbhbnpafgaaRecOk
namespace Go.Proofs.Ytjgmdbhbnpafgaa
open Go.RowKit

theorem recF_len (s : ByteArray) : (recF s).length ≤ 20 := by unfold recF; rw [List.length_take]; omega
theorem markRec_any (s : ByteArray) (A : Option Addr) (c lo hi n : Nat) (k0 : Int) (ds : List ByteArray) (w : World) (ho : Own w lo hi 9 1 encS (.slice A n c) ds) (hhi : hi ≤ w.heap.size) (h0 : 0 ≤ k0) (h1 : k0 + n ≤ 1152921504606846976) :
    Calls Try.prog 44 #[.agg #[.string s, .slice A n c], .int .i64 k0] w fun e w' => e = .returned (.int .i64 (k0 + n)) ∧ Mk w' lo hi 9 1 fS (.slice A n c) n k0 ∧ Kp lo hi w w' := by
  have how1 := ho.below (((Below.refl _ _).alloc (Nat.le_refl _) (.cells #[.string s, .slice A n c] 33)) : Below w.heap.size w _) hhi
  go_enter Try.func44, Try.ntmps44
  go_wp2_with (go_at_call 73; refine (markStringS_own A c lo hi n k0 ds _ how1 (by first | omega | (simp; omega)) h0 h1).mono ?_; rintro e w1 ⟨rfl, hm1, hk1⟩)
  go_ret
  exact ⟨rfl, hm1, (Kp.of_below ((Below.refl _ _).alloc (Nat.le_refl _) _)).trans hk1⟩
theorem heldRec_any (s : ByteArray) (A : Option Addr) (c lo hi n : Nat) (k0 : Int) (w : World) (ho : Mk w lo hi 9 1 fS (.slice A n c) n k0) (hhi : hi ≤ w.heap.size) (h0 : 0 ≤ k0) (h1 : k0 + n ≤ 1152921504606846976) :
    Calls Try.prog 45 #[.agg #[.string s, .slice A n c], .int .i64 k0] w fun e w' => e = .returned (.int .i64 (k0 + n)) ∧ Below w.heap.size w w' := by
  have ho1 := ho.alloc hhi (.cells #[.string s, .slice A n c] 33)
  go_enter Try.func45, Try.ntmps45
  go_wp2_with (go_at_call 74; refine (heldStringS_any A c lo hi n k0 _ ho1 (by first | omega | (simp; omega)) h0 h1).mono ?_; rintro e w1 ⟨rfl, hb1⟩)
  go_ret
  exact ⟨rfl, (by repeat (first | (with_reducible refine Below.setCell ?_ (by first | omega | (· simp) | (· (simp; omega))) _) | (with_reducible refine Below.alloc ?_ (by first | omega | (· simp) | (· (simp; omega))) _) | (with_reducible refine Below.drew ?_) | (with_reducible refine bdrewN ?_ _) | (with_reducible exact Below.refl _ _) | (with_reducible assumption) | (with_reducible refine Below.trans ?_ (Below.mono (by assumption) (by first | omega | (· simp) | (· (simp; omega))))) | (with_reducible refine Below.trans ?_ (Kp.below (by assumption) (by first | omega | (· simp) | (· (simp; omega))) (by first | omega | (· simp) | (· (simp; omega)))))))⟩
end Go.Proofs.Ytjgmdbhbnpafgaa
