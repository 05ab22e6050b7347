/- VarOf of both sides. -/
import Derived.Test.YtfnnbjkjfoiboaaFind
namespace Go.Proofs.Ytfnnbjkjfoiboaa
open Go.RowKit

def varOf (vs : List GNamed) (s : ByteArray) : GVal := if h : fAt (·.name) vs s < vs.length then vs[fAt (·.name) vs s].v else gzero
set_option maxHeartbeats 1000000 in
theorem l14Var_any (A B : Option Addr) (c d m : Nat) (vs : List GNamed) (s : ByteArray) (w : World) (hv : Rd w 4 encNamed (.slice A vs.length c) vs) :
    Calls Try.prog 84 #[.agg #[.slice A vs.length c, .slice B m d], .string s] w fun e w' => e = .returned (.int .i64 (idxZ (fAt (·.name) vs s) vs.length)) ∧ Below w.heap.size w w' := by
  have hlen := hv.len_le
  have hle := fAt_le (·.name) vs s
  have hv1 : Rd (w.alloc (.cells #[.slice A vs.length c, .slice B m d] 45)) 4 encNamed (.slice A vs.length c) vs := (by repeat (first | (with_reducible assumption) | (with_reducible refine Rd.drew ?_) | (with_reducible refine Rd.drewN ?_ _) | (with_reducible refine Rd.alloc ?_ _) | (exact Own.rd (fun _ => rfl) (by with_reducible assumption)) | (exact Sl.rd (by with_reducible assumption) (by first | omega | (· simp) | (· (simp; omega)))) | (refine Rd.below ?_ (by with_reducible assumption) ?_) | omega | (· simp) | (· (simp; omega))))
  obtain ⟨N, HN⟩ : ∃ N, Hid (fAt (·.name) vs s = N) := ⟨_, rfl⟩
  rw [HN.out] at hle ⊢
  go_enter Try.func84, Try.ntmps84
  go_wp2
  go_loopw [5] (fun i wr => ∃ k : Nat, k ≤ N ∧ i = .int .i64 k ∧ wr = w.alloc (.cells #[.slice A vs.length c, .slice B m d] 45)) (fun i _ => vs.length - (intOf i).toNat)
  case atStart => exact ⟨0, Nat.zero_le _, rfl, rfl⟩
  case round =>
    obtain ⟨k, hk, rfl, rfl⟩ := hrel
    by_cases hlt : k < vs.length
    · obtain ⟨b, o, rfl, _, hc⟩ := hv1.at_ hlt
      have c0 := hc 0 _ rfl
      rw [Nat.add_zero] at c0
      clear hc
      by_cases hz : vs[k].name = s
      · have HK := Lib.hid (show k = N by rw [← HN.out]; exact fAt_hit hlt (by rw [HN.out]; exact hk) hz)
        have hq : (vs[k].name.toList == s.toList) = true := by rw [bytes_beq, decide_eq_true hz]
        clear hz
        go_wp2
        go_ret
        exact ⟨ri (by unfold idxZ; have := HK.out; rw [← this, if_pos hlt]), by exact (by repeat (first | (with_reducible refine Below.setCell ?_ (by first | omega | (· simp) | (· (simp; omega))) _) | (with_reducible refine Below.alloc ?_ (by first | omega | (· simp) | (· (simp; omega))) _) | (with_reducible refine Below.drew ?_) | (with_reducible refine bdrewN ?_ _) | (with_reducible exact Below.refl _ _) | (with_reducible assumption) | (with_reducible refine Below.trans ?_ (Below.mono (by assumption) (by first | omega | (· simp) | (· (simp; omega))))) | (with_reducible refine Below.trans ?_ (Kp.below (by assumption) (by first | omega | (· simp) | (· (simp; omega))) (by first | omega | (· simp) | (· (simp; omega)))))))⟩
      · have HK := Lib.hid (show k + 1 ≤ N by rw [← HN.out]; exact fAt_miss hlt (by rw [HN.out]; exact hk) hz)
        have hq : (vs[k].name.toList == s.toList) = false := by rw [bytes_beq, decide_eq_false hz]
        clear hz
        go_wp2
        go_roundw
        case rel => exact ⟨k + 1, HK.out, by go_num, trivial⟩
        case measure => simp [intOf]; omega
    · have HK := Lib.hid (show ¬ N < vs.length by omega)
      go_wp2
      go_ret
      exact ⟨ri (by unfold idxZ; rw [if_neg HK.out]), by exact (by repeat (first | (with_reducible refine Below.setCell ?_ (by first | omega | (· simp) | (· (simp; omega))) _) | (with_reducible refine Below.alloc ?_ (by first | omega | (· simp) | (· (simp; omega))) _) | (with_reducible refine Below.drew ?_) | (with_reducible refine bdrewN ?_ _) | (with_reducible exact Below.refl _ _) | (with_reducible assumption) | (with_reducible refine Below.trans ?_ (Below.mono (by assumption) (by first | omega | (· simp) | (· (simp; omega))))) | (with_reducible refine Below.trans ?_ (Kp.below (by assumption) (by first | omega | (· simp) | (· (simp; omega))) (by first | omega | (· simp) | (· (simp; omega)))))))⟩
set_option maxHeartbeats 1000000 in
theorem varAt_any (A B : Option Addr) (c d m : Nat) (vs : List GNamed) (s : ByteArray) (w : World) (hv : Rd w 4 encNamed (.slice A vs.length c) vs) :
    Calls Try.prog 82 #[.agg #[.slice A vs.length c, .slice B m d], .string s] w fun e w' => e = .returned (.int .i64 (idxZ (fAt (·.name) vs s) vs.length)) ∧ Below w.heap.size w w' := by
  have hlen := hv.len_le
  have hv1 : Rd ((w.alloc (.cells #[.slice A vs.length c, .slice B m d] 45)).alloc (.cells #[.string s] 9)) 4 encNamed (.slice A vs.length c) vs := (by repeat (first | (with_reducible assumption) | (with_reducible refine Rd.drew ?_) | (with_reducible refine Rd.drewN ?_ _) | (with_reducible refine Rd.alloc ?_ _) | (exact Own.rd (fun _ => rfl) (by with_reducible assumption)) | (exact Sl.rd (by with_reducible assumption) (by first | omega | (· simp) | (· (simp; omega)))) | (refine Rd.below ?_ (by with_reducible assumption) ?_) | omega | (· simp) | (· (simp; omega))))
  have hp : ((w.alloc (.cells #[.slice A vs.length c, .slice B m d] 45)).alloc (.cells #[.string s] 9)).cell? ⟨w.heap.size + 1, 0, none⟩ = some (.string s) := (by repeat (first | (with_reducible assumption) | (with_reducible refine cell_drew ?_) | (with_reducible refine cell_drewN ?_) | (with_reducible exact cell_new rfl) | (exact cell_new' rfl (by first | rfl | (simp; done))) | (with_reducible refine cell_alloc ?_ ?_) | (refine cell_below (by with_reducible assumption) ?_ ?_) | (refine cell_kp (by with_reducible assumption) ?_ ?_) | omega | (· simp) | (· (simp; omega))))
  go_enter Try.func82, Try.ntmps82
  go_wp2_with (go_at_call 139; refine (findNamed_any _ _ _ vs s (w.heap.size + 1) _ hv1 hp (by simp)).mono ?_; rintro e w1 ⟨rfl, hb1⟩)
  go_ret
  exact ⟨rfl, by exact (by repeat (first | (with_reducible refine Below.setCell ?_ (by first | omega | (· simp) | (· (simp; omega))) _) | (with_reducible refine Below.alloc ?_ (by first | omega | (· simp) | (· (simp; omega))) _) | (with_reducible refine Below.drew ?_) | (with_reducible refine bdrewN ?_ _) | (with_reducible exact Below.refl _ _) | (with_reducible assumption) | (with_reducible refine Below.trans ?_ (Below.mono (by assumption) (by first | omega | (· simp) | (· (simp; omega))))) | (with_reducible refine Below.trans ?_ (Kp.below (by assumption) (by first | omega | (· simp) | (· (simp; omega))) (by first | omega | (· simp) | (· (simp; omega)))))))⟩
set_option maxHeartbeats 1000000 in
theorem specVarOf_any (A B : Option Addr) (c d m : Nat) (vs : List GNamed) (s : ByteArray) (w : World) (hv : Rd w 4 encNamed (.slice A vs.length c) vs) :
    Calls Try.prog 42 #[.agg #[.slice A vs.length c, .slice B m d], .string s] w fun e w' => e = .returned (.agg #[.int .i64 (varOf vs s).k, .int .i64 (varOf vs s).n, .string (varOf vs s).s]) ∧ Below w.heap.size w w' := by
  have hlen := hv.len_le
  have hv1 : Rd ((w.alloc (.cells #[.slice A vs.length c, .slice B m d] 45)).alloc (.cells #[.int .i64 0, .int .i64 0, .string ByteArray.empty] 35)) 4 encNamed (.slice A vs.length c) vs := (by repeat (first | (with_reducible assumption) | (with_reducible refine Rd.drew ?_) | (with_reducible refine Rd.drewN ?_ _) | (with_reducible refine Rd.alloc ?_ _) | (exact Own.rd (fun _ => rfl) (by with_reducible assumption)) | (exact Sl.rd (by with_reducible assumption) (by first | omega | (· simp) | (· (simp; omega)))) | (refine Rd.below ?_ (by with_reducible assumption) ?_) | omega | (· simp) | (· (simp; omega))))
  have x0 : ((w.alloc (.cells #[.slice A vs.length c, .slice B m d] 45)).alloc (.cells #[.int .i64 0, .int .i64 0, .string ByteArray.empty] 35)).cell? ⟨w.heap.size, 0, none⟩ = some (.slice A vs.length c) := (by repeat (first | (with_reducible assumption) | (with_reducible refine cell_drew ?_) | (with_reducible refine cell_drewN ?_) | (with_reducible exact cell_new rfl) | (exact cell_new' rfl (by first | rfl | (simp; done))) | (with_reducible refine cell_alloc ?_ ?_) | (refine cell_below (by with_reducible assumption) ?_ ?_) | (refine cell_kp (by with_reducible assumption) ?_ ?_) | omega | (· simp) | (· (simp; omega))))
  have x1 : ((w.alloc (.cells #[.slice A vs.length c, .slice B m d] 45)).alloc (.cells #[.int .i64 0, .int .i64 0, .string ByteArray.empty] 35)).heap[w.heap.size + 1]? = some (.cells #[.int .i64 0, .int .i64 0, .string ByteArray.empty] 35 (0, 0)) := by simp only [heap_new, World.size_alloc]; simp
  by_cases hlt : fAt (·.name) vs s < vs.length
  · obtain ⟨N, HN⟩ : ∃ N, Hid (fAt (·.name) vs s = N) := ⟨_, rfl⟩
    have hN : N < vs.length := by have := HN.out; omega
    have HE := Lib.hid (show idxZ (fAt (·.name) vs s) vs.length = (N : Int) by unfold idxZ; rw [if_pos hlt, HN.out])
    have e : varOf vs s = vs[N].v := by unfold varOf; rw [dif_pos hlt]; simp only [HN.out]
    rw [e]
    clear e hlt
    go_enter Try.func42, Try.ntmps42
    go_wp2_with (go_at_call 84; refine (l14Var_any _ _ _ _ _ vs s _ hv1).mono ?_; rw [HE.out]; rintro e w1 ⟨rfl, hb1⟩; have hz1 := hb1.size; simp only [World.size_alloc] at hz1 hb1; have y0 := cell_below hb1 x0 (by omega); have g1 := (hb1.block (w.heap.size + 1) (by omega)).trans x1; have f1 : ∀ j, w1.frozen? ⟨w.heap.size + 1, j, none⟩ = false := (by intro j; simp [World.frozen?, g1]); have k0 : w1.cell? ⟨w.heap.size + 1, 0, none⟩ = some (.int .i64 0) := (by rw [cell_of_row _ _ _ _ _ _ g1]; rfl); have k1 : w1.cell? ⟨w.heap.size + 1, 1, none⟩ = some (.int .i64 0) := (by rw [cell_of_row _ _ _ _ _ _ g1]; rfl); have k2 : w1.cell? ⟨w.heap.size + 1, 2, none⟩ = some (.string ByteArray.empty) := (by rw [cell_of_row _ _ _ _ _ _ g1]; rfl); have hv2 : Rd w1 4 encNamed (.slice A vs.length c) vs := (by repeat (first | (with_reducible assumption) | (with_reducible refine Rd.drew ?_) | (with_reducible refine Rd.drewN ?_ _) | (with_reducible refine Rd.alloc ?_ _) | (exact Own.rd (fun _ => rfl) (by with_reducible assumption)) | (exact Sl.rd (by with_reducible assumption) (by first | omega | (· simp) | (· (simp; omega)))) | (refine Rd.below ?_ (by with_reducible assumption) ?_) | omega | (· simp) | (· (simp; omega)))); obtain ⟨b, o, rfl, _, hc⟩ := hv2.at_ hN; have c1 := hc 1 _ rfl; have c2 := hc 2 _ rfl; have c3 := hc 3 _ rfl; clear hc)
    refine bodyPost_ret (v := .agg #[.int .i64 vs[N].v.k, .int .i64 vs[N].v.n, .string vs[N].v.s]) (ret_cell (t := 35) (fr := (0, 0)) rfl rfl Try.underlying35 (by kernel_rfl) ?_) rfl ⟨rfl, ?_⟩
    · simp only [heap_set, g1]; simp [setAt]
    · exact (by repeat (first | (with_reducible refine Below.setCell ?_ (by first | omega | (· simp) | (· (simp; omega))) _) | (with_reducible refine Below.alloc ?_ (by first | omega | (· simp) | (· (simp; omega))) _) | (with_reducible refine Below.drew ?_) | (with_reducible refine bdrewN ?_ _) | (with_reducible exact Below.refl _ _) | (with_reducible assumption) | (with_reducible refine Below.trans ?_ (Below.mono (by assumption) (by first | omega | (· simp) | (· (simp; omega))))) | (with_reducible refine Below.trans ?_ (Kp.below (by assumption) (by first | omega | (· simp) | (· (simp; omega))) (by first | omega | (· simp) | (· (simp; omega)))))))
  · have HE := Lib.hid (show idxZ (fAt (·.name) vs s) vs.length = -1 by unfold idxZ; rw [if_neg hlt])
    have e : varOf vs s = gzero := by unfold varOf; rw [dif_neg hlt]
    rw [e]
    clear e hlt
    go_enter Try.func42, Try.ntmps42
    go_wp2_with (go_at_call 84; refine (l14Var_any _ _ _ _ _ vs s _ hv1).mono ?_; rw [HE.out]; rintro e w1 ⟨rfl, hb1⟩; have hz1 := hb1.size; simp only [World.size_alloc] at hz1 hb1; have g1 := (hb1.block (w.heap.size + 1) (by omega)).trans x1; have f1 : ∀ j, w1.frozen? ⟨w.heap.size + 1, j, none⟩ = false := (by intro j; simp [World.frozen?, g1]); have k0 : w1.cell? ⟨w.heap.size + 1, 0, none⟩ = some (.int .i64 0) := (by rw [cell_of_row _ _ _ _ _ _ g1]; rfl); have k1 : w1.cell? ⟨w.heap.size + 1, 1, none⟩ = some (.int .i64 0) := (by rw [cell_of_row _ _ _ _ _ _ g1]; rfl); have k2 : w1.cell? ⟨w.heap.size + 1, 2, none⟩ = some (.string ByteArray.empty) := (by rw [cell_of_row _ _ _ _ _ _ g1]; rfl))
    refine bodyPost_ret (v := .agg #[.int .i64 0, .int .i64 0, .string ⟨#[]⟩]) (ret_cell (t := 35) (fr := (0, 0)) rfl rfl Try.underlying35 (by kernel_rfl) ?_) rfl ⟨rfl, ?_⟩
    · simp only [heap_set, g1]; simp [setAt]
    · exact (by repeat (first | (with_reducible refine Below.setCell ?_ (by first | omega | (· simp) | (· (simp; omega))) _) | (with_reducible refine Below.alloc ?_ (by first | omega | (· simp) | (· (simp; omega))) _) | (with_reducible refine Below.drew ?_) | (with_reducible refine bdrewN ?_ _) | (with_reducible exact Below.refl _ _) | (with_reducible assumption) | (with_reducible refine Below.trans ?_ (Below.mono (by assumption) (by first | omega | (· simp) | (· (simp; omega))))) | (with_reducible refine Below.trans ?_ (Kp.below (by assumption) (by first | omega | (· simp) | (· (simp; omega))) (by first | omega | (· simp) | (· (simp; omega)))))))
set_option maxHeartbeats 1000000 in
theorem implVarOf_any (A B : Option Addr) (c d m : Nat) (vs : List GNamed) (s : ByteArray) (w : World) (hv : Rd w 4 encNamed (.slice A vs.length c) vs) :
    Calls Try.prog 27 #[.agg #[.slice A vs.length c, .slice B m d], .string s] w fun e w' => e = .returned (.agg #[.int .i64 (varOf vs s).k, .int .i64 (varOf vs s).n, .string (varOf vs s).s]) ∧ Below w.heap.size w w' := by
  have hlen := hv.len_le
  have hv1 : Rd ((w.alloc (.cells #[.slice A vs.length c, .slice B m d] 45)).alloc (.cells #[.int .i64 0, .int .i64 0, .string ByteArray.empty] 35)) 4 encNamed (.slice A vs.length c) vs := (by repeat (first | (with_reducible assumption) | (with_reducible refine Rd.drew ?_) | (with_reducible refine Rd.drewN ?_ _) | (with_reducible refine Rd.alloc ?_ _) | (exact Own.rd (fun _ => rfl) (by with_reducible assumption)) | (exact Sl.rd (by with_reducible assumption) (by first | omega | (· simp) | (· (simp; omega)))) | (refine Rd.below ?_ (by with_reducible assumption) ?_) | omega | (· simp) | (· (simp; omega))))
  have x0 : ((w.alloc (.cells #[.slice A vs.length c, .slice B m d] 45)).alloc (.cells #[.int .i64 0, .int .i64 0, .string ByteArray.empty] 35)).cell? ⟨w.heap.size, 0, none⟩ = some (.slice A vs.length c) := (by repeat (first | (with_reducible assumption) | (with_reducible refine cell_drew ?_) | (with_reducible refine cell_drewN ?_) | (with_reducible exact cell_new rfl) | (exact cell_new' rfl (by first | rfl | (simp; done))) | (with_reducible refine cell_alloc ?_ ?_) | (refine cell_below (by with_reducible assumption) ?_ ?_) | (refine cell_kp (by with_reducible assumption) ?_ ?_) | omega | (· simp) | (· (simp; omega))))
  have x1 : ((w.alloc (.cells #[.slice A vs.length c, .slice B m d] 45)).alloc (.cells #[.int .i64 0, .int .i64 0, .string ByteArray.empty] 35)).heap[w.heap.size + 1]? = some (.cells #[.int .i64 0, .int .i64 0, .string ByteArray.empty] 35 (0, 0)) := by simp only [heap_new, World.size_alloc]; simp
  by_cases hlt : fAt (·.name) vs s < vs.length
  · obtain ⟨N, HN⟩ : ∃ N, Hid (fAt (·.name) vs s = N) := ⟨_, rfl⟩
    have hN : N < vs.length := by have := HN.out; omega
    have HE := Lib.hid (show idxZ (fAt (·.name) vs s) vs.length = (N : Int) by unfold idxZ; rw [if_pos hlt, HN.out])
    have e : varOf vs s = vs[N].v := by unfold varOf; rw [dif_pos hlt]; simp only [HN.out]
    rw [e]
    clear e hlt
    go_enter Try.func27, Try.ntmps27
    go_wp2_with (go_at_call 82; refine (varAt_any _ _ _ _ _ vs s _ hv1).mono ?_; rw [HE.out]; rintro e w1 ⟨rfl, hb1⟩; have hz1 := hb1.size; simp only [World.size_alloc] at hz1 hb1; have y0 := cell_below hb1 x0 (by omega); have g1 := (hb1.block (w.heap.size + 1) (by omega)).trans x1; have f1 : ∀ j, w1.frozen? ⟨w.heap.size + 1, j, none⟩ = false := (by intro j; simp [World.frozen?, g1]); have k0 : w1.cell? ⟨w.heap.size + 1, 0, none⟩ = some (.int .i64 0) := (by rw [cell_of_row _ _ _ _ _ _ g1]; rfl); have k1 : w1.cell? ⟨w.heap.size + 1, 1, none⟩ = some (.int .i64 0) := (by rw [cell_of_row _ _ _ _ _ _ g1]; rfl); have k2 : w1.cell? ⟨w.heap.size + 1, 2, none⟩ = some (.string ByteArray.empty) := (by rw [cell_of_row _ _ _ _ _ _ g1]; rfl); have hv2 : Rd w1 4 encNamed (.slice A vs.length c) vs := (by repeat (first | (with_reducible assumption) | (with_reducible refine Rd.drew ?_) | (with_reducible refine Rd.drewN ?_ _) | (with_reducible refine Rd.alloc ?_ _) | (exact Own.rd (fun _ => rfl) (by with_reducible assumption)) | (exact Sl.rd (by with_reducible assumption) (by first | omega | (· simp) | (· (simp; omega)))) | (refine Rd.below ?_ (by with_reducible assumption) ?_) | omega | (· simp) | (· (simp; omega)))); obtain ⟨b, o, rfl, _, hc⟩ := hv2.at_ hN; have c1 := hc 1 _ rfl; have c2 := hc 2 _ rfl; have c3 := hc 3 _ rfl; clear hc)
    refine bodyPost_ret (v := .agg #[.int .i64 vs[N].v.k, .int .i64 vs[N].v.n, .string vs[N].v.s]) (ret_cell (t := 35) (fr := (0, 0)) rfl rfl Try.underlying35 (by kernel_rfl) ?_) rfl ⟨rfl, ?_⟩
    · simp only [heap_set, g1]; simp [setAt]
    · exact (by repeat (first | (with_reducible refine Below.setCell ?_ (by first | omega | (· simp) | (· (simp; omega))) _) | (with_reducible refine Below.alloc ?_ (by first | omega | (· simp) | (· (simp; omega))) _) | (with_reducible refine Below.drew ?_) | (with_reducible refine bdrewN ?_ _) | (with_reducible exact Below.refl _ _) | (with_reducible assumption) | (with_reducible refine Below.trans ?_ (Below.mono (by assumption) (by first | omega | (· simp) | (· (simp; omega))))) | (with_reducible refine Below.trans ?_ (Kp.below (by assumption) (by first | omega | (· simp) | (· (simp; omega))) (by first | omega | (· simp) | (· (simp; omega)))))))
  · have HE := Lib.hid (show idxZ (fAt (·.name) vs s) vs.length = -1 by unfold idxZ; rw [if_neg hlt])
    have e : varOf vs s = gzero := by unfold varOf; rw [dif_neg hlt]
    rw [e]
    clear e hlt
    go_enter Try.func27, Try.ntmps27
    go_wp2_with (go_at_call 82; refine (varAt_any _ _ _ _ _ vs s _ hv1).mono ?_; rw [HE.out]; rintro e w1 ⟨rfl, hb1⟩; have hz1 := hb1.size; simp only [World.size_alloc] at hz1 hb1; have g1 := (hb1.block (w.heap.size + 1) (by omega)).trans x1; have f1 : ∀ j, w1.frozen? ⟨w.heap.size + 1, j, none⟩ = false := (by intro j; simp [World.frozen?, g1]); have k0 : w1.cell? ⟨w.heap.size + 1, 0, none⟩ = some (.int .i64 0) := (by rw [cell_of_row _ _ _ _ _ _ g1]; rfl); have k1 : w1.cell? ⟨w.heap.size + 1, 1, none⟩ = some (.int .i64 0) := (by rw [cell_of_row _ _ _ _ _ _ g1]; rfl); have k2 : w1.cell? ⟨w.heap.size + 1, 2, none⟩ = some (.string ByteArray.empty) := (by rw [cell_of_row _ _ _ _ _ _ g1]; rfl))
    refine bodyPost_ret (v := .agg #[.int .i64 0, .int .i64 0, .string ⟨#[]⟩]) (ret_cell (t := 35) (fr := (0, 0)) rfl rfl Try.underlying35 (by kernel_rfl) ?_) rfl ⟨rfl, ?_⟩
    · simp only [heap_set, g1]; simp [setAt]
    · exact (by repeat (first | (with_reducible refine Below.setCell ?_ (by first | omega | (· simp) | (· (simp; omega))) _) | (with_reducible refine Below.alloc ?_ (by first | omega | (· simp) | (· (simp; omega))) _) | (with_reducible refine Below.drew ?_) | (with_reducible refine bdrewN ?_ _) | (with_reducible exact Below.refl _ _) | (with_reducible assumption) | (with_reducible refine Below.trans ?_ (Below.mono (by assumption) (by first | omega | (· simp) | (· (simp; omega))))) | (with_reducible refine Below.trans ?_ (Kp.below (by assumption) (by first | omega | (· simp) | (· (simp; omega))) (by first | omega | (· simp) | (· (simp; omega)))))))
end Go.Proofs.Ytfnnbjkjfoiboaa
