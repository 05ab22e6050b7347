/- to and eq of slices of one-cell elements. -/
import Derived.Test.YtfdjognmechcfaaMark
namespace Go.Proofs.Ytfdjognmechcfaa
open Go.RowKit

theorem enc1B (d : UInt8) : (encB d).length = 1 := rfl
theorem enc1S (d : ByteArray) : (encS d).length = 1 := rfl
theorem enc1I (d : Int) : (encI d).length = 1 := rfl

set_option maxHeartbeats 400000 in
theorem eqStringS_same (A B : Option Addr) (ln ln' c c' : Nat) (ds : List ByteArray) (w : World) (hs : Rd w 1 encS (.slice A ln c) ds) (ht : Rd w 1 encS (.slice B ln' c') ds) :
    Calls Try.prog 29 #[.slice A ln c, .slice B ln' c'] w fun e w' => e = .returned (.bool true) ∧ ∃ n, w' = w.drewN n := by
  obtain rfl := hs.len_eq
  obtain rfl := ht.len_eq
  have hlen := hs.len_le
  go_enter Try.func29, Try.ntmps29
  go_wp2
  go_loopw [5] (fun i wr => ∃ (k n : Nat), k ≤ ds.length ∧ i = .int .i64 k ∧ wr = w.drewN n) (fun i _ => ds.length - (intOf i).toNat)
  case atStart => exact ⟨0, 0, Nat.zero_le _, rfl, rfl⟩
  case round =>
    obtain ⟨k, n, hk, rfl, rfl⟩ := hrel
    by_cases hlt : k < ds.length
    · obtain ⟨b, o, rfl, _, hcell⟩ := hs.at1 hlt
      have hcell := hcell _ rfl
      obtain ⟨b', o', rfl, _, hcell'⟩ := ht.at1 hlt
      have hcell' := hcell' _ rfl
      go_wp2
      go_quiet (fail)
      go_wp2
      go_roundw
      case rel => exact ⟨k + 1, _, by omega, by go_num, (by first | rfl | exact World.drewN_drewN _ _ _)⟩
      case measure => simp [intOf]; omega
    · go_wp2
      go_ret
      exact ⟨rfl, n, rfl⟩
end Go.Proofs.Ytfdjognmechcfaa
