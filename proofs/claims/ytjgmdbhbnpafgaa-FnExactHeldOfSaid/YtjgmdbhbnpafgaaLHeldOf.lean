/- The law FnExactHeldOf, walked. -/
import Derived.Test.YtjgmdbhbnpafgaaHeap3
import Derived.Deep.RegionHeld3
namespace Go.Proofs.Ytjgmdbhbnpafgaa
open Go.RowKit

set_option maxRecDepth 100000 in
set_option maxHeartbeats 2000000 in
theorem heldOf_law (w : World) (A : Option Addr) (c : Nat) (ds : List GCell) (hs : Rd w 4 encC (.slice A ds.length c) ds) (hg : ∀ d ∈ ds, goodC d) :
    Calls Try.prog 8 #[.agg #[.slice A ds.length c]] w fun e w' => e = .returned (.bool true) ∧ Below w.heap.size w w' := by
  have hsz : ∀ d ∈ ds, d.v.s.size ≤ maxLen := fun d hd => (hg d hd).2.2.2
  by_cases hneg : szHeap ds 1048576 < 0
  · go_enter Try.func8, Try.ntmps8
    go_wp2_with (go_at_call 31; refine (szHeap_any _ _ _ ds _ _ (by repeat (first | (with_reducible assumption) | (with_reducible refine Rd.drew ?_) | (with_reducible refine Rd.drewN ?_ _) | (with_reducible refine Rd.alloc ?_ _) | (exact Own.rd (fun _ => rfl) (by with_reducible assumption)) | (exact Sl.rd (by with_reducible assumption) (by first | omega | (· simp) | (· (simp; omega)))) | (refine Rd.below ?_ (by with_reducible assumption) ?_) | omega | (· simp) | (· (simp; omega)))) hsz (by omega) (by omega)).mono ?_; rintro e w1 ⟨rfl, hb1⟩)
    go_ret
    exact ⟨rfl, (by repeat (first | (with_reducible refine Below.setCell ?_ (by first | omega | (· simp) | (· (simp; omega))) _) | (with_reducible refine Below.alloc ?_ (by first | omega | (· simp) | (· (simp; omega))) _) | (with_reducible refine Below.drew ?_) | (with_reducible refine bdrewN ?_ _) | (with_reducible exact Below.refl _ _) | (with_reducible assumption) | (with_reducible refine Below.trans ?_ (Below.mono (by assumption) (by first | omega | (· simp) | (· (simp; omega))))) | (with_reducible refine Below.trans ?_ (Kp.below (by assumption) (by first | omega | (· simp) | (· (simp; omega))) (by first | omega | (· simp) | (· (simp; omega)))))))⟩
  · have hn := szHeap_bound hneg
    have sB : Sl w 0 w.heap.size 4 encC (.slice A ds.length c) ds := hs
    go_enter Try.func8, Try.ntmps8
    go_wp2_with fail
    refine (szHeap_any _ _ _ ds _ _ (by repeat (first | (with_reducible assumption) | (with_reducible refine Rd.drew ?_) | (with_reducible refine Rd.drewN ?_ _) | (with_reducible refine Rd.alloc ?_ _) | (exact Own.rd (fun _ => rfl) (by with_reducible assumption)) | (exact Sl.rd (by with_reducible assumption) (by first | omega | (· simp) | (· (simp; omega)))) | (refine Rd.below ?_ (by with_reducible assumption) ?_) | omega | (· simp) | (· (simp; omega)))) hsz (by omega) (by omega)).mono ?_; rintro e w1 ⟨rfl, hb1⟩
    have hz1 := hb1.size; (try simp only [World.size_alloc, World.size_drew, World.heap_drewN, World.size_setCell] at hz1)
    have x1b0c0 : w1.cell? ⟨w.heap.size, 0, none⟩ = some (.slice A ds.length c) := (by repeat (first | (with_reducible assumption) | (with_reducible refine cell_drew ?_) | (with_reducible refine cell_drewN ?_) | (with_reducible exact cell_new rfl) | (with_reducible refine cell_alloc ?_ ?_) | (refine cell_below (by with_reducible assumption) ?_ ?_) | (refine cell_kp (by with_reducible assumption) ?_ ?_) | omega | (· simp) | (· (simp; omega))))
    have l1b0 : w.heap.size < w1.heap.size := by omega
    go_wp2_with fail
    refine (toHeap_any _ _ _ (ds) _ (by repeat (first | (with_reducible assumption) | (with_reducible refine Rd.drew ?_) | (with_reducible refine Rd.drewN ?_ _) | (with_reducible refine Rd.alloc ?_ _) | (exact Own.rd (fun _ => rfl) (by with_reducible assumption)) | (exact Sl.rd (by with_reducible assumption) (by first | omega | (· simp) | (· (simp; omega)))) | (refine Rd.below ?_ (by with_reducible assumption) ?_) | omega | (· simp) | (· (simp; omega)))) (by omega)).mono ?_; rintro e w2 ⟨v2, rfl, ho2, hb2⟩
    have hz2 := hb2.size; (try simp only [World.size_alloc, World.size_drew, World.heap_drewN, World.size_setCell] at hz2)
    obtain ⟨A2, n2, c2, rfl, HN2⟩ := ho2.form'; have ho2 := ho2.wider (lo' := w1.heap.size) (by first | omega | (· simp) | (· (simp; omega))) (Nat.le_refl _)
    have x2b0c0 : w2.cell? ⟨w.heap.size, 0, none⟩ = some (.slice A ds.length c) := (by repeat (first | (with_reducible assumption) | (with_reducible refine cell_drew ?_) | (with_reducible refine cell_drewN ?_) | (with_reducible exact cell_new rfl) | (with_reducible refine cell_alloc ?_ ?_) | (refine cell_below (by with_reducible assumption) ?_ ?_) | (refine cell_kp (by with_reducible assumption) ?_ ?_) | omega | (· simp) | (· (simp; omega))))
    have l2b0 : w.heap.size < w2.heap.size := by omega
    clear x1b0c0
    go_wp2_with fail
    refine (specHeldOf_any _ _ _ (ds) _ (by repeat (first | (with_reducible assumption) | (with_reducible refine Rd.drew ?_) | (with_reducible refine Rd.drewN ?_ _) | (with_reducible refine Rd.alloc ?_ _) | (exact Own.rd (fun _ => rfl) (by with_reducible assumption)) | (exact Sl.rd (by with_reducible assumption) (by first | omega | (· simp) | (· (simp; omega)))) | (refine Rd.below ?_ (by with_reducible assumption) ?_) | omega | (· simp) | (· (simp; omega))))).mono ?_; rintro e w3 ⟨rfl, hb3⟩
    have hz3 := hb3.size; (try simp only [World.size_alloc, World.size_drew, World.heap_drewN, World.size_setCell] at hz3)
    have x3b0c0 : w3.cell? ⟨w.heap.size, 0, none⟩ = some (.slice A ds.length c) := (by repeat (first | (with_reducible assumption) | (with_reducible refine cell_drew ?_) | (with_reducible refine cell_drewN ?_) | (with_reducible exact cell_new rfl) | (with_reducible refine cell_alloc ?_ ?_) | (refine cell_below (by with_reducible assumption) ?_ ?_) | (refine cell_kp (by with_reducible assumption) ?_ ?_) | omega | (· simp) | (· (simp; omega))))
    have l3b0 : w.heap.size < w3.heap.size := by omega
    clear x2b0c0
    go_wp2_with fail
    refine (toHeap_any _ _ _ (ds) _ (by repeat (first | (with_reducible assumption) | (with_reducible refine Rd.drew ?_) | (with_reducible refine Rd.drewN ?_ _) | (with_reducible refine Rd.alloc ?_ _) | (exact Own.rd (fun _ => rfl) (by with_reducible assumption)) | (exact Sl.rd (by with_reducible assumption) (by first | omega | (· simp) | (· (simp; omega)))) | (refine Rd.below ?_ (by with_reducible assumption) ?_) | omega | (· simp) | (· (simp; omega)))) (by omega)).mono ?_; rintro e w4 ⟨v4, rfl, ho4, hb4⟩
    have hz4 := hb4.size; (try simp only [World.size_alloc, World.size_drew, World.heap_drewN, World.size_setCell] at hz4)
    obtain ⟨A4, n4, c4, rfl, HN4⟩ := ho4.form'; have ho4 := ho4.wider (lo' := w3.heap.size) (by first | omega | (· simp) | (· (simp; omega))) (Nat.le_refl _)
    have x4b0c0 : w4.cell? ⟨w.heap.size, 0, none⟩ = some (.slice A ds.length c) := (by repeat (first | (with_reducible assumption) | (with_reducible refine cell_drew ?_) | (with_reducible refine cell_drewN ?_) | (with_reducible exact cell_new rfl) | (with_reducible refine cell_alloc ?_ ?_) | (refine cell_below (by with_reducible assumption) ?_ ?_) | (refine cell_kp (by with_reducible assumption) ?_ ?_) | omega | (· simp) | (· (simp; omega))))
    have l4b0 : w.heap.size < w4.heap.size := by omega
    clear x3b0c0
    go_wp2_with fail
    refine (implHeldOf_any _ _ _ (ds) _ (by repeat (first | (with_reducible assumption) | (with_reducible refine Rd.drew ?_) | (with_reducible refine Rd.drewN ?_ _) | (with_reducible refine Rd.alloc ?_ _) | (exact Own.rd (fun _ => rfl) (by with_reducible assumption)) | (exact Sl.rd (by with_reducible assumption) (by first | omega | (· simp) | (· (simp; omega)))) | (refine Rd.below ?_ (by with_reducible assumption) ?_) | omega | (· simp) | (· (simp; omega))))).mono ?_; rintro e w5 ⟨rfl, hb5⟩
    have hz5 := hb5.size; (try simp only [World.size_alloc, World.size_drew, World.heap_drewN, World.size_setCell] at hz5)
    have x5b0c0 : w5.cell? ⟨w.heap.size, 0, none⟩ = some (.slice A ds.length c) := (by repeat (first | (with_reducible assumption) | (with_reducible refine cell_drew ?_) | (with_reducible refine cell_drewN ?_) | (with_reducible exact cell_new rfl) | (with_reducible refine cell_alloc ?_ ?_) | (refine cell_below (by with_reducible assumption) ?_ ?_) | (refine cell_kp (by with_reducible assumption) ?_ ?_) | omega | (· simp) | (· (simp; omega))))
    have x5b1c0 : w5.cell? ⟨w4.heap.size, 0, none⟩ = some (.slice A4 n4 c4) := (by repeat (first | (with_reducible assumption) | (with_reducible refine cell_drew ?_) | (with_reducible refine cell_drewN ?_) | (with_reducible exact cell_new rfl) | (with_reducible refine cell_alloc ?_ ?_) | (refine cell_below (by with_reducible assumption) ?_ ?_) | (refine cell_kp (by with_reducible assumption) ?_ ?_) | omega | (· simp) | (· (simp; omega))))
    have l5b0 : w.heap.size < w5.heap.size := by omega
    have l5b1 : w4.heap.size < w5.heap.size := by omega
    clear x4b0c0
    go_wp2_with fail
    go_region_held3 (fun w' => w'.cell? ⟨w.heap.size, 0, none⟩ = some (.slice A ds.length c) ∧ w'.cell? ⟨w4.heap.size, 0, none⟩ = some (.slice A4 n4 c4))
      (first | exact ⟨x5b0c0, x5b1c0⟩ | (refine ⟨?_, ?_⟩ <;> assumption) | skip)
      ((first
        | (go_at_call 33; refine (toHeap_any _ _ _ (ds) _ (by repeat (first | (with_reducible assumption) | (with_reducible refine Rd.drew ?_) | (with_reducible refine Rd.drewN ?_ _) | (with_reducible refine Rd.alloc ?_ _) | (exact Own.rd (fun _ => rfl) (by with_reducible assumption)) | (exact Sl.rd (by with_reducible assumption) (by first | omega | (· simp) | (· (simp; omega)))) | (refine Rd.below ?_ (by with_reducible assumption) ?_) | omega | (· simp) | (· (simp; omega)))) (by omega)).mono ?_; rintro e w6 ⟨v6, rfl, ho6, hb6⟩; have hz6 := hb6.size; (try simp only [World.size_alloc, World.size_drew, World.heap_drewN, World.size_setCell] at hz6); obtain ⟨A6, n6, c6, rfl, HN6⟩ := ho6.form'; have ho6 := ho6.wider (lo' := w5.heap.size) (by first | omega | (· simp) | (· (simp; omega))) (Nat.le_refl _); have z6_0 := cell_below hb6 (by assumption) (b := w.heap.size) (o := 0) (by first | omega | (· simp) | (· (simp; omega))); have z6_1 := cell_below hb6 (by assumption) (b := w4.heap.size) (o := 0) (by first | omega | (· simp) | (· (simp; omega))))
        | (go_at_call 36; refine (eqHeap_same _ _ _ _ _ _ (ds) _ (by repeat (first | (with_reducible assumption) | (with_reducible refine Rd.drew ?_) | (with_reducible refine Rd.drewN ?_ _) | (with_reducible refine Rd.alloc ?_ _) | (exact Own.rd (fun _ => rfl) (by with_reducible assumption)) | (exact Sl.rd (by with_reducible assumption) (by first | omega | (· simp) | (· (simp; omega)))) | (refine Rd.below ?_ (by with_reducible assumption) ?_) | omega | (· simp) | (· (simp; omega)))) (by repeat (first | (with_reducible assumption) | (with_reducible refine Rd.drew ?_) | (with_reducible refine Rd.drewN ?_ _) | (with_reducible refine Rd.alloc ?_ _) | (exact Own.rd (fun _ => rfl) (by with_reducible assumption)) | (exact Sl.rd (by with_reducible assumption) (by first | omega | (· simp) | (· (simp; omega)))) | (refine Rd.below ?_ (by with_reducible assumption) ?_) | omega | (· simp) | (· (simp; omega))))).mono ?_; rintro e w7 ⟨rfl, hb7⟩; have hz7 := hb7.size; (try simp only [World.size_alloc, World.size_drew, World.heap_drewN, World.size_setCell] at hz7); have z7_0 := cell_below hb7 (by assumption) (b := w.heap.size) (o := 0) (by first | omega | (· simp) | (· (simp; omega))); have z7_1 := cell_below hb7 (by assumption) (b := w4.heap.size) (o := 0) (by first | omega | (· simp) | (· (simp; omega))))))
    have x7b0c0 : w7.cell? ⟨w.heap.size, 0, none⟩ = some (.slice A ds.length c) := (by repeat (first | (with_reducible assumption) | (with_reducible refine cell_drew ?_) | (with_reducible refine cell_drewN ?_) | (with_reducible exact cell_new rfl) | (with_reducible refine cell_alloc ?_ ?_) | (refine cell_below (by with_reducible assumption) ?_ ?_) | (refine cell_kp (by with_reducible assumption) ?_ ?_) | omega | (· simp) | (· (simp; omega))))
    have x7b1c0 : w7.cell? ⟨w4.heap.size, 0, none⟩ = some (.slice A4 n4 c4) := (by repeat (first | (with_reducible assumption) | (with_reducible refine cell_drew ?_) | (with_reducible refine cell_drewN ?_) | (with_reducible exact cell_new rfl) | (with_reducible refine cell_alloc ?_ ?_) | (refine cell_below (by with_reducible assumption) ?_ ?_) | (refine cell_kp (by with_reducible assumption) ?_ ?_) | omega | (· simp) | (· (simp; omega))))
    have l7b0 : w.heap.size < w7.heap.size := by omega
    have l7b1 : w4.heap.size < w7.heap.size := by omega
    clear x5b0c0 x5b1c0
    go_wp2
    go_ret
    exact ⟨rfl, (by repeat (first | (with_reducible refine Below.setCell ?_ (by first | omega | (· simp) | (· (simp; omega))) _) | (with_reducible refine Below.alloc ?_ (by first | omega | (· simp) | (· (simp; omega))) _) | (with_reducible refine Below.drew ?_) | (with_reducible refine bdrewN ?_ _) | (with_reducible exact Below.refl _ _) | (with_reducible assumption) | (with_reducible refine Below.trans ?_ (Below.mono (by assumption) (by first | omega | (· simp) | (· (simp; omega))))) | (with_reducible refine Below.trans ?_ (Kp.below (by assumption) (by first | omega | (· simp) | (· (simp; omega))) (by first | omega | (· simp) | (· (simp; omega)))))))⟩
end Go.Proofs.Ytjgmdbhbnpafgaa
