/- The law FnExactGetIns. -/
import Derived.Test.YtjgmdbhbnpafgaaGetIns
import Derived.Test.YtjgmdbhbnpafgaaPrim
namespace Go.Proofs.Ytjgmdbhbnpafgaa
open Go.RowKit

theorem eqIns_same (o n : Int) (w : World) :
    Calls Try.prog 41 #[.agg #[.int .i64 o, .int .i64 n], .agg #[.int .i64 o, .int .i64 n]] w fun e w' => e = .returned (.bool true) ∧ Below w.heap.size w w' := by
  go_enter Try.func41, Try.ntmps41
  go_wp2
  go_ret
  exact ⟨rfl, (by repeat (first | (with_reducible refine Below.setCell ?_ (by first | omega | (· simp) | (· (simp; omega))) _) | (with_reducible refine Below.alloc ?_ (by first | omega | (· simp) | (· (simp; omega))) _) | (with_reducible refine Below.drew ?_) | (with_reducible refine bdrewN ?_ _) | (with_reducible exact Below.refl _ _) | (with_reducible assumption) | (with_reducible refine Below.trans ?_ (Below.mono (by assumption) (by first | omega | (· simp) | (· (simp; omega))))) | (with_reducible refine Below.trans ?_ (Kp.below (by assumption) (by first | omega | (· simp) | (· (simp; omega))) (by first | omega | (· simp) | (· (simp; omega)))))))⟩
theorem specGetIns_is {o n p : Nat} {ok : Bool} (A : Option Addr) (ln c : Nat) (bs : List UInt8) (at_ : Int) (w : World) (hG : getIns bs at_ = ⟨o, n, p, ok⟩) (hs : Rd w 1 encB (.slice A ln c) bs) (hat : -9223372036854775808 ≤ at_ ∧ at_ ≤ 9223372036854775807) (hln : bs.length ≤ 1073741824) :
    Calls Try.prog 39 #[.slice A ln c, .int .i64 at_] w fun e w' => e = .returned (.tuple #[.agg #[.int .i64 (o : Int), .int .i64 (n : Int)], .int .i64 (p : Int), .bool ok]) ∧ Below w.heap.size w w' :=
  (specGetIns_any A ln c bs at_ w hs hat hln).mono fun e w' h => by rw [hG] at h; exact h
theorem implGetIns_is {o n p : Nat} {ok : Bool} (A : Option Addr) (ln c : Nat) (bs : List UInt8) (at_ : Int) (w : World) (hG : getIns bs at_ = ⟨o, n, p, ok⟩) (hs : Rd w 1 encB (.slice A ln c) bs) (hat : -9223372036854775808 ≤ at_ ∧ at_ ≤ 9223372036854775807) (hln : bs.length ≤ 1073741824) :
    Calls Try.prog 40 #[.slice A ln c, .int .i64 at_] w fun e w' => e = .returned (.tuple #[.agg #[.int .i64 (o : Int), .int .i64 (n : Int)], .int .i64 (p : Int), .bool ok]) ∧ Below w.heap.size w w' :=
  (implGetIns_any A ln c bs at_ w hs hat hln).mono fun e w' h => by rw [hG] at h; exact h
set_option maxRecDepth 100000 in
set_option maxHeartbeats 2000000 in
theorem getIns_law (w : World) (A : Option Addr) (c : Nat) (ds : List UInt8) (hs : Rd w 1 encB (.slice A ds.length c) ds) (at_ : Int) (hat : -9223372036854775808 ≤ at_ ∧ at_ ≤ 9223372036854775807) :
    Calls Try.prog 9 #[.slice A ds.length c, .int .i64 at_] w fun e w' => e = .returned (.bool true) ∧ Below w.heap.size w w' := by
  by_cases hbig : (1048576 : Int) < ds.length
  · go_enter Try.func9, Try.ntmps9
    go_wp2
    go_ret
    exact ⟨rfl, (by repeat (first | (with_reducible refine Below.setCell ?_ (by first | omega | (· simp) | (· (simp; omega))) _) | (with_reducible refine Below.alloc ?_ (by first | omega | (· simp) | (· (simp; omega))) _) | (with_reducible refine Below.drew ?_) | (with_reducible refine bdrewN ?_ _) | (with_reducible exact Below.refl _ _) | (with_reducible assumption) | (with_reducible refine Below.trans ?_ (Below.mono (by assumption) (by first | omega | (· simp) | (· (simp; omega))))) | (with_reducible refine Below.trans ?_ (Kp.below (by assumption) (by first | omega | (· simp) | (· (simp; omega))) (by first | omega | (· simp) | (· (simp; omega)))))))⟩
  · have hlen : ds.length ≤ 1048576 := by omega
    have sB : Sl w 0 w.heap.size 1 encB (.slice A ds.length c) ds := hs
    rcases hG : getIns ds at_ with ⟨o, n, p, ok⟩
    have HG := Lib.hid hG
    clear hG
    cases ok <;>
    · go_enter Try.func9, Try.ntmps9
      go_wp2_with fail
      refine (toByteS_any _ _ _ ds _ (by repeat (first | (with_reducible assumption) | (with_reducible refine Rd.drew ?_) | (with_reducible refine Rd.drewN ?_ _) | (with_reducible refine Rd.alloc ?_ _) | (exact Own.rd (fun _ => rfl) (by with_reducible assumption)) | (exact Sl.rd (by with_reducible assumption) (by first | omega | (· simp) | (· (simp; omega)))) | (refine Rd.below ?_ (by with_reducible assumption) ?_) | omega | (· simp) | (· (simp; omega)))) (by omega)).mono ?_; rintro e w1 ⟨v1, rfl, ho1, hb1⟩; obtain ⟨A1, n1, c1, rfl, HN1⟩ := ho1.form'; have hz1 := hb1.size
      go_wp2_with fail
      refine (specGetIns_is _ _ _ ds at_ _ HG.out (by repeat (first | (with_reducible assumption) | (with_reducible refine Rd.drew ?_) | (with_reducible refine Rd.drewN ?_ _) | (with_reducible refine Rd.alloc ?_ _) | (exact Own.rd (fun _ => rfl) (by with_reducible assumption)) | (exact Sl.rd (by with_reducible assumption) (by first | omega | (· simp) | (· (simp; omega)))) | (refine Rd.below ?_ (by with_reducible assumption) ?_) | omega | (· simp) | (· (simp; omega)))) hat (by omega)).mono ?_; rintro e w2 ⟨rfl, hb2⟩; have hz2 := hb2.size
      go_wp2_with fail
      refine (toByteS_any _ _ _ ds _ (by repeat (first | (with_reducible assumption) | (with_reducible refine Rd.drew ?_) | (with_reducible refine Rd.drewN ?_ _) | (with_reducible refine Rd.alloc ?_ _) | (exact Own.rd (fun _ => rfl) (by with_reducible assumption)) | (exact Sl.rd (by with_reducible assumption) (by first | omega | (· simp) | (· (simp; omega)))) | (refine Rd.below ?_ (by with_reducible assumption) ?_) | omega | (· simp) | (· (simp; omega)))) (by omega)).mono ?_; rintro e w3 ⟨v3, rfl, ho3, hb3⟩; obtain ⟨A3, n3, c3, rfl, HN3⟩ := ho3.form'; have hz3 := hb3.size; (try simp only [World.size_alloc] at hz3)
      have p0 : w3.cell? ⟨w2.heap.size, 0, none⟩ = some (.int .i64 (o : Int)) := (by repeat (first | (with_reducible assumption) | (with_reducible refine cell_drew ?_) | (with_reducible refine cell_drewN ?_) | (with_reducible exact cell_new rfl) | (with_reducible refine cell_alloc ?_ ?_) | (refine cell_below (by with_reducible assumption) ?_ ?_) | (refine cell_kp (by with_reducible assumption) ?_ ?_) | omega | (· simp) | (· (simp; omega))))
      have p1 : w3.cell? ⟨w2.heap.size, 1, none⟩ = some (.int .i64 (n : Int)) := (by repeat (first | (with_reducible assumption) | (with_reducible refine cell_drew ?_) | (with_reducible refine cell_drewN ?_) | (with_reducible exact cell_new rfl) | (with_reducible refine cell_alloc ?_ ?_) | (refine cell_below (by with_reducible assumption) ?_ ?_) | (refine cell_kp (by with_reducible assumption) ?_ ?_) | omega | (· simp) | (· (simp; omega))))
      go_wp2_with fail
      refine (implGetIns_is _ _ _ ds at_ _ HG.out (by repeat (first | (with_reducible assumption) | (with_reducible refine Rd.drew ?_) | (with_reducible refine Rd.drewN ?_ _) | (with_reducible refine Rd.alloc ?_ _) | (exact Own.rd (fun _ => rfl) (by with_reducible assumption)) | (exact Sl.rd (by with_reducible assumption) (by first | omega | (· simp) | (· (simp; omega)))) | (refine Rd.below ?_ (by with_reducible assumption) ?_) | omega | (· simp) | (· (simp; omega)))) hat (by omega)).mono ?_; rintro e w4 ⟨rfl, hb4⟩; have hz4 := hb4.size
      have q0 : w4.cell? ⟨w2.heap.size, 0, none⟩ = some (.int .i64 (o : Int)) := (by repeat (first | (with_reducible assumption) | (with_reducible refine cell_drew ?_) | (with_reducible refine cell_drewN ?_) | (with_reducible exact cell_new rfl) | (with_reducible refine cell_alloc ?_ ?_) | (refine cell_below (by with_reducible assumption) ?_ ?_) | (refine cell_kp (by with_reducible assumption) ?_ ?_) | omega | (· simp) | (· (simp; omega))))
      have q1 : w4.cell? ⟨w2.heap.size, 1, none⟩ = some (.int .i64 (n : Int)) := (by repeat (first | (with_reducible assumption) | (with_reducible refine cell_drew ?_) | (with_reducible refine cell_drewN ?_) | (with_reducible exact cell_new rfl) | (with_reducible refine cell_alloc ?_ ?_) | (refine cell_below (by with_reducible assumption) ?_ ?_) | (refine cell_kp (by with_reducible assumption) ?_ ?_) | omega | (· simp) | (· (simp; omega))))
      have l4 : w2.heap.size < w4.heap.size := by omega
      clear p0 p1
      go_wp2_with fail
      refine (eqIns_same _ _ _).mono ?_; rintro e w5 ⟨rfl, hb5⟩; have hz5 := hb5.size; (try simp only [World.size_alloc] at hz5)
      go_wp2_with fail
      refine (toByteS_any _ _ _ ds _ (by repeat (first | (with_reducible assumption) | (with_reducible refine Rd.drew ?_) | (with_reducible refine Rd.drewN ?_ _) | (with_reducible refine Rd.alloc ?_ _) | (exact Own.rd (fun _ => rfl) (by with_reducible assumption)) | (exact Sl.rd (by with_reducible assumption) (by first | omega | (· simp) | (· (simp; omega)))) | (refine Rd.below ?_ (by with_reducible assumption) ?_) | omega | (· simp) | (· (simp; omega)))) (by omega)).mono ?_; rintro e w6 ⟨v6, rfl, ho6, hb6⟩; obtain ⟨A6, n6, c6, rfl, HN6⟩ := ho6.form'; have hz6 := hb6.size
      go_wp2_with fail
      refine (eqByteS_same _ _ _ _ _ _ ds _ (by repeat (first | (with_reducible assumption) | (with_reducible refine Rd.drew ?_) | (with_reducible refine Rd.drewN ?_ _) | (with_reducible refine Rd.alloc ?_ _) | (exact Own.rd (fun _ => rfl) (by with_reducible assumption)) | (exact Sl.rd (by with_reducible assumption) (by first | omega | (· simp) | (· (simp; omega)))) | (refine Rd.below ?_ (by with_reducible assumption) ?_) | omega | (· simp) | (· (simp; omega)))) (by repeat (first | (with_reducible assumption) | (with_reducible refine Rd.drew ?_) | (with_reducible refine Rd.drewN ?_ _) | (with_reducible refine Rd.alloc ?_ _) | (exact Own.rd (fun _ => rfl) (by with_reducible assumption)) | (exact Sl.rd (by with_reducible assumption) (by first | omega | (· simp) | (· (simp; omega)))) | (refine Rd.below ?_ (by with_reducible assumption) ?_) | omega | (· simp) | (· (simp; omega))))).mono ?_; rintro e w7 ⟨rfl, d7, rfl⟩
      go_wp2
      go_ret
      exact ⟨rfl, (by repeat (first | (with_reducible refine Below.setCell ?_ (by first | omega | (· simp) | (· (simp; omega))) _) | (with_reducible refine Below.alloc ?_ (by first | omega | (· simp) | (· (simp; omega))) _) | (with_reducible refine Below.drew ?_) | (with_reducible refine bdrewN ?_ _) | (with_reducible exact Below.refl _ _) | (with_reducible assumption) | (with_reducible refine Below.trans ?_ (Below.mono (by assumption) (by first | omega | (· simp) | (· (simp; omega))))) | (with_reducible refine Below.trans ?_ (Kp.below (by assumption) (by first | omega | (· simp) | (· (simp; omega))) (by first | omega | (· simp) | (· (simp; omega)))))))⟩
end Go.Proofs.Ytjgmdbhbnpafgaa
