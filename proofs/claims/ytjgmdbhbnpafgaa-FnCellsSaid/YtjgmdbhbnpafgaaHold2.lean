/- Let's inner function, and Hold and Let, of both sides. -/
import Derived.Test.YtjgmdbhbnpafgaaHold
namespace Go.Proofs.Ytjgmdbhbnpafgaa
open Go.RowKit

theorem Own.putZ {w : World} {lo hi g n c : Nat} {ds : List GCell} (h : Own w lo hi 76 4 encC (.slice (some ⟨g, 0, none⟩) n c) ds) (i : Nat) (hi_ : i < ds.length) :
    Own (((w.setCell ⟨g, i * 4 + 1, none⟩ (.int .i64 0)).setCell ⟨g, i * 4 + 2, none⟩ (.int .i64 0)).setCell ⟨g, i * 4 + 3, none⟩ (.string ByteArray.empty)) lo hi 76 4 encC (.slice (some ⟨g, 0, none⟩) n c) (ds.set i ⟨ds[i].refs, gzero⟩) := by
  have h1 := h.put encC_len i hi_ 1 (by omega) (.int .i64 0) ⟨ds[i].refs, ⟨0, ds[i].v.n, ds[i].v.s⟩⟩ rfl
  have h2 := h1.put encC_len i (by simpa using hi_) 2 (by omega) (.int .i64 0) ⟨ds[i].refs, ⟨0, 0, ds[i].v.s⟩⟩ (by rw [List.getElem_set_self]; rfl)
  have h3 := h2.put encC_len i (by simpa using hi_) 3 (by omega) (.string ByteArray.empty) ⟨ds[i].refs, gzero⟩ (by rw [List.getElem_set_self]; rfl)
  rw [List.set_set, List.set_set] at h3
  exact h3
set_option maxRecDepth 100000 in
set_option maxHeartbeats 1000000 in
theorem specLetIn_any (A : Option Addr) (ln c lo hi p : Nat) (ds : List GCell) (at_ : Int) (w : World) (ho : Own w lo hi 76 4 encC (.slice A ln c) ds) (hp : w.cell? ⟨p, 0, none⟩ = some (.slice A ln c)) (hpo : p < lo ∨ hi ≤ p) (hps : p < w.heap.size) (hhi : hi ≤ w.heap.size) :
    Calls Try.prog 88 #[.pointer (some ⟨p, 0, none⟩), .int .i64 at_] w fun e w' => e = .returned (.tuple #[]) ∧ Own w' lo hi 76 4 encC (.slice A ln c) (letL ds at_) ∧ Kp lo hi w w' := by
  have hs : Rd w 4 encC (.slice A ln c) ds := ho.rd encC_len
  cases hh : heldB ds at_
  · have e : letL ds at_ = ds := by unfold letL; rw [if_neg (by rw [hh]; decide)]
    rw [e]
    have HH := Lib.hid hh
    clear hh e
    go_enter Try.func88, Try.ntmps88
    go_wp2_with (go_at_call 107; refine (specHeld_any _ _ _ ds _ _ (by repeat (first | (with_reducible assumption) | (with_reducible refine Rd.drew ?_) | (with_reducible refine Rd.drewN ?_ _) | (with_reducible refine Rd.alloc ?_ _) | (exact Own.rd (fun _ => rfl) (by with_reducible assumption)) | (exact Sl.rd (by with_reducible assumption) (by first | omega | (· simp) | (· (simp; omega)))) | (refine Rd.below ?_ (by with_reducible assumption) ?_) | omega | (· simp) | (· (simp; omega))))).mono ?_; rw [HH.out]; rintro e w1 ⟨rfl, hb1⟩)
    refine bodyPost_ret (results_none rfl _ _ _) rfl ?_
    exact ⟨rfl, ho.below hb1 hhi, Kp.of_below hb1⟩
  · have h1 : 0 ≤ at_ ∧ at_ < ds.length := by
      unfold heldB at hh; rw [Bool.and_eq_true] at hh; exact of_decide_eq_true hh.1
    obtain ⟨i, rfl⟩ : ∃ i : Nat, at_ = (i : Int) := ⟨at_.toNat, by omega⟩
    have hi_ : i < ds.length := by omega
    have e : letL ds (i : Int) = ds.set i (subRef ds[i]) := by
      unfold letL; rw [if_pos hh, Int.toNat_natCast, List.getD, List.getElem?_eq_getElem hi_]; rfl
    rw [e]
    have hnl := ho.ow.2
    have hlt2 : i < ln := by omega
    have HH := Lib.hid hh
    have HN := Lib.hid hnl
    clear h1 e hh hnl
    have e2 : encC ⟨wrap64 (ds[i].refs - 1), ds[i].v⟩ = (encC ds[i]).set 0 (.int .i64 (wrap64 (ds[i].refs - 1))) := rfl
    have E2 := Lib.hid e2
    clear e2
    by_cases hz : wrap64 (ds[i].refs - 1) = 0
    · go_enter Try.func88, Try.ntmps88
      go_wp2_with (go_at_call 107; refine (specHeld_any _ _ _ ds _ _ (by repeat (first | (with_reducible assumption) | (with_reducible refine Rd.drew ?_) | (with_reducible refine Rd.drewN ?_ _) | (with_reducible refine Rd.alloc ?_ _) | (exact Own.rd (fun _ => rfl) (by with_reducible assumption)) | (exact Sl.rd (by with_reducible assumption) (by first | omega | (· simp) | (· (simp; omega)))) | (refine Rd.below ?_ (by with_reducible assumption) ?_) | omega | (· simp) | (· (simp; omega))))).mono ?_; rw [HH.out]; rintro e w1 ⟨rfl, hb1⟩; have hz1 := hb1.size; have ho1 := ho.below hb1 hhi; have hp1 := cell_below hb1 hp hps; obtain ⟨g, rfl, hg1, hg2, hc, hf⟩ := ho1.at_ encC_len hi_; have c0 := hc 0 _ rfl; have c1 := hc 1 _ rfl; have c2 := hc 2 _ rfl; have c3 := hc 3 _ rfl; rw [Nat.add_zero] at c0; clear hc; have hgp : g ≠ p := by omega)
      go_still_tail 16, (by kernel_rfl)
      change wpList _ _ _ _ _ w1.drew
      go_wp2
      go_end0
      have e3 : subRef ds[i] = ⟨0, gzero⟩ := by unfold subRef; rw [if_pos hz, hz]
      rw [e3]
      have hw := (ho1.put encC_len i hi_ 0 (by omega) (.int .i64 0) ⟨0, ds[i].v⟩ rfl).putZ i (by simpa using hi_)
      rw [Nat.add_zero, List.set_set, List.getElem_set_self] at hw
      exact ⟨rfl, hw.drew, ((((Kp.of_below hb1).set hg1 hg2 _).set hg1 hg2 _).set hg1 hg2 _).set hg1 hg2 _ |>.drew_⟩
    · have e3 : subRef ds[i] = ⟨wrap64 (ds[i].refs - 1), ds[i].v⟩ := by unfold subRef; rw [if_neg hz]
      rw [e3]
      clear e3
      go_enter Try.func88, Try.ntmps88
      go_wp2_with (go_at_call 107; refine (specHeld_any _ _ _ ds _ _ (by repeat (first | (with_reducible assumption) | (with_reducible refine Rd.drew ?_) | (with_reducible refine Rd.drewN ?_ _) | (with_reducible refine Rd.alloc ?_ _) | (exact Own.rd (fun _ => rfl) (by with_reducible assumption)) | (exact Sl.rd (by with_reducible assumption) (by first | omega | (· simp) | (· (simp; omega)))) | (refine Rd.below ?_ (by with_reducible assumption) ?_) | omega | (· simp) | (· (simp; omega))))).mono ?_; rw [HH.out]; rintro e w1 ⟨rfl, hb1⟩; have hz1 := hb1.size; have ho1 := ho.below hb1 hhi; have hp1 := cell_below hb1 hp hps; obtain ⟨g, rfl, hg1, hg2, hc, hf⟩ := ho1.at_ encC_len hi_; have c0 := hc 0 _ rfl; rw [Nat.add_zero] at c0; clear hc; have hgp : g ≠ p := by omega)
      go_still_tail 16, (by kernel_rfl)
      change wpList _ _ _ _ _ w1.drew
      go_wp2
      go_end0
      have hw := ho1.put encC_len i hi_ 0 (by omega) _ _ E2.out
      rw [Nat.add_zero] at hw
      exact ⟨rfl, hw.drew, ((Kp.of_below hb1).set hg1 hg2 _).drew_⟩
set_option maxRecDepth 100000 in
set_option maxHeartbeats 1000000 in
theorem implLetIn_any (A : Option Addr) (ln c lo hi p : Nat) (ds : List GCell) (at_ : Int) (w : World) (ho : Own w lo hi 76 4 encC (.slice A ln c) ds) (hp : w.cell? ⟨p, 0, none⟩ = some (.slice A ln c)) (hpo : p < lo ∨ hi ≤ p) (hps : p < w.heap.size) (hhi : hi ≤ w.heap.size) :
    Calls Try.prog 82 #[.pointer (some ⟨p, 0, none⟩), .int .i64 at_] w fun e w' => e = .returned (.tuple #[]) ∧ Own w' lo hi 76 4 encC (.slice A ln c) (letL ds at_) ∧ Kp lo hi w w' := by
  have hs : Rd w 4 encC (.slice A ln c) ds := ho.rd encC_len
  cases hh : heldB ds at_
  · have e : letL ds at_ = ds := by unfold letL; rw [if_neg (by rw [hh]; decide)]
    rw [e]
    have HH := Lib.hid hh
    clear hh e
    go_enter Try.func82, Try.ntmps82
    go_wp2_with (go_at_call 106; refine (implHeld_any _ _ _ ds _ _ (by repeat (first | (with_reducible assumption) | (with_reducible refine Rd.drew ?_) | (with_reducible refine Rd.drewN ?_ _) | (with_reducible refine Rd.alloc ?_ _) | (exact Own.rd (fun _ => rfl) (by with_reducible assumption)) | (exact Sl.rd (by with_reducible assumption) (by first | omega | (· simp) | (· (simp; omega)))) | (refine Rd.below ?_ (by with_reducible assumption) ?_) | omega | (· simp) | (· (simp; omega))))).mono ?_; rw [HH.out]; rintro e w1 ⟨rfl, hb1⟩)
    refine bodyPost_ret (results_none rfl _ _ _) rfl ?_
    exact ⟨rfl, ho.below hb1 hhi, Kp.of_below hb1⟩
  · have h1 : 0 ≤ at_ ∧ at_ < ds.length := by
      unfold heldB at hh; rw [Bool.and_eq_true] at hh; exact of_decide_eq_true hh.1
    obtain ⟨i, rfl⟩ : ∃ i : Nat, at_ = (i : Int) := ⟨at_.toNat, by omega⟩
    have hi_ : i < ds.length := by omega
    have e : letL ds (i : Int) = ds.set i (subRef ds[i]) := by
      unfold letL; rw [if_pos hh, Int.toNat_natCast, List.getD, List.getElem?_eq_getElem hi_]; rfl
    rw [e]
    have hnl := ho.ow.2
    have hlt2 : i < ln := by omega
    have HH := Lib.hid hh
    have HN := Lib.hid hnl
    clear h1 e hh hnl
    have e2 : encC ⟨wrap64 (ds[i].refs - 1), ds[i].v⟩ = (encC ds[i]).set 0 (.int .i64 (wrap64 (ds[i].refs - 1))) := rfl
    have E2 := Lib.hid e2
    clear e2
    by_cases hz : wrap64 (ds[i].refs - 1) = 0
    · go_enter Try.func82, Try.ntmps82
      go_wp2_with (go_at_call 106; refine (implHeld_any _ _ _ ds _ _ (by repeat (first | (with_reducible assumption) | (with_reducible refine Rd.drew ?_) | (with_reducible refine Rd.drewN ?_ _) | (with_reducible refine Rd.alloc ?_ _) | (exact Own.rd (fun _ => rfl) (by with_reducible assumption)) | (exact Sl.rd (by with_reducible assumption) (by first | omega | (· simp) | (· (simp; omega)))) | (refine Rd.below ?_ (by with_reducible assumption) ?_) | omega | (· simp) | (· (simp; omega))))).mono ?_; rw [HH.out]; rintro e w1 ⟨rfl, hb1⟩; have hz1 := hb1.size; have ho1 := ho.below hb1 hhi; have hp1 := cell_below hb1 hp hps; obtain ⟨g, rfl, hg1, hg2, hc, hf⟩ := ho1.at_ encC_len hi_; have c0 := hc 0 _ rfl; have c1 := hc 1 _ rfl; have c2 := hc 2 _ rfl; have c3 := hc 3 _ rfl; rw [Nat.add_zero] at c0; clear hc; have hgp : g ≠ p := by omega)

      go_end0
      have e3 : subRef ds[i] = ⟨0, gzero⟩ := by unfold subRef; rw [if_pos hz, hz]
      rw [e3]
      have hw := (ho1.put encC_len i hi_ 0 (by omega) (.int .i64 0) ⟨0, ds[i].v⟩ rfl).putZ i (by simpa using hi_)
      rw [Nat.add_zero, List.set_set, List.getElem_set_self] at hw
      exact ⟨rfl, hw, ((((Kp.of_below hb1).set hg1 hg2 _).set hg1 hg2 _).set hg1 hg2 _).set hg1 hg2 _⟩
    · have e3 : subRef ds[i] = ⟨wrap64 (ds[i].refs - 1), ds[i].v⟩ := by unfold subRef; rw [if_neg hz]
      rw [e3]
      clear e3
      go_enter Try.func82, Try.ntmps82
      go_wp2_with (go_at_call 106; refine (implHeld_any _ _ _ ds _ _ (by repeat (first | (with_reducible assumption) | (with_reducible refine Rd.drew ?_) | (with_reducible refine Rd.drewN ?_ _) | (with_reducible refine Rd.alloc ?_ _) | (exact Own.rd (fun _ => rfl) (by with_reducible assumption)) | (exact Sl.rd (by with_reducible assumption) (by first | omega | (· simp) | (· (simp; omega)))) | (refine Rd.below ?_ (by with_reducible assumption) ?_) | omega | (· simp) | (· (simp; omega))))).mono ?_; rw [HH.out]; rintro e w1 ⟨rfl, hb1⟩; have hz1 := hb1.size; have ho1 := ho.below hb1 hhi; have hp1 := cell_below hb1 hp hps; obtain ⟨g, rfl, hg1, hg2, hc, hf⟩ := ho1.at_ encC_len hi_; have c0 := hc 0 _ rfl; rw [Nat.add_zero] at c0; clear hc; have hgp : g ≠ p := by omega)

      go_end0
      have hw := ho1.put encC_len i hi_ 0 (by omega) _ _ E2.out
      rw [Nat.add_zero] at hw
      exact ⟨rfl, hw, ((Kp.of_below hb1).set hg1 hg2 _)⟩
set_option maxHeartbeats 1000000 in
theorem specHold_any (A : Option Addr) (ln c : Nat) (ds : List GCell) (at_ : Int) (w : World) (hs : Rd w 4 encC (.slice A ln c) ds) (hn : ds.length ≤ 1073741824) :
    Calls Try.prog 53 #[.agg #[.slice A ln c], .int .i64 at_] w fun e w' => ∃ v, e = .returned (.agg #[v]) ∧ Own w' w.heap.size w'.heap.size 76 4 encC v (holdL ds at_) ∧ Below w.heap.size w w' := by
  obtain rfl := hs.len_eq
  have hs1 : Rd ((w.alloc (.cells #[.slice A ds.length c] 54)).alloc (.cells #[.slice none 0 0] 54)) 4 encC (.slice A ds.length c) ds := (by repeat (first | (with_reducible assumption) | (with_reducible refine Rd.drew ?_) | (with_reducible refine Rd.drewN ?_ _) | (with_reducible refine Rd.alloc ?_ _) | (exact Own.rd (fun _ => rfl) (by with_reducible assumption)) | (exact Sl.rd (by with_reducible assumption) (by first | omega | (· simp) | (· (simp; omega)))) | (refine Rd.below ?_ (by with_reducible assumption) ?_) | omega | (· simp) | (· (simp; omega))))
  go_enter Try.func53, Try.ntmps53
  go_wp2_with (go_at_call 84; refine (specCopy_any A ds.length c ds _ hs1 hn).mono ?_; rintro e w1 ⟨v1, rfl, ho1, hb1⟩; obtain ⟨A1, n1, c1, rfl, HN1⟩ := ho1.form'; have hz1 := hb1.size; simp only [World.size_alloc] at hz1 ho1 hb1; have g1 : w1.heap[w.heap.size + 1]? = some (.cells #[.slice none 0 0] 54 (0, 0)) := (hb1.block (w.heap.size + 1) (by simp)).trans (by simp only [heap_new, World.size_alloc]; simp); have hc1 : (w1.alloc (.cells #[.slice A1 n1 c1] 54)).cell? ⟨w1.heap.size, 0, none⟩ = some (.slice A1 n1 c1) := cell_new rfl)
  go_at_call 85
  refine (specHoldIn_any A1 n1 c1 (w.heap.size + 1 + 1) w1.heap.size w1.heap.size ds at_ _ (by repeat (first | (with_reducible assumption) | (with_reducible refine Own.drew ?_) | (with_reducible refine Own.drewN ?_ _) | (with_reducible refine Own.alloc ?_ ?_ _) | (with_reducible refine Own.setCell ?_ ?_ _) | (refine Own.below ?_ (by with_reducible assumption) ?_) | (refine Own.kp ?_ (by with_reducible assumption) ?_) | omega | (· simp) | (· (simp; omega)))) hc1 (.inr (Nat.le_refl _)) (by simp) (by simp)).mono ?_; rintro e w2 ⟨rfl, ho2, hk2⟩; have hz2 := hk2.size; have hc2 := cell_kp hk2 hc1 (.inr (Nat.le_refl _)); have g2 := (hk2.block (w.heap.size + 1) (by first | omega | (· simp) | (· (simp; omega))) (.inl (by first | omega | (· simp) | (· (simp; omega))))).trans ((Below.heap_alloc w1 _ (w.heap.size + 1) (by first | omega | (· simp) | (· (simp; omega)))).trans g1); have f2 : w2.frozen? ⟨w.heap.size + 1, 0, none⟩ = false := (by simp [World.frozen?, g2]); have k2 : w2.cell? ⟨w.heap.size + 1, 0, none⟩ = some (.slice none 0 0) := (by simp [World.cell?, g2])
  go_wp2
  simp only [World.size_alloc] at hz2
  refine bodyPost_ret (v := .agg #[.slice A1 n1 c1]) (ret_cell (t := 54) (fr := (0, 0)) rfl rfl Try.underlying54 (by kernel_rfl) ?_) rfl ⟨_, rfl, ?_, ?_⟩
  · simp only [heap_set, g2]; simp [setAt]
  · exact (ho2.setCellAny (p := ⟨w.heap.size + 1, 0, none⟩) (.inl (by simp)) _).wider (by first | omega | (· simp) | (· (simp; omega))) (by first | omega | (· simp) | (· (simp; omega)))
  · have hB : Below w.heap.size w w1 := ((by exact (by repeat (first | (with_reducible refine Below.setCell ?_ (by first | omega | (· simp) | (· (simp; omega))) _) | (with_reducible refine Below.alloc ?_ (by first | omega | (· simp) | (· (simp; omega))) _) | (with_reducible refine Below.drew ?_) | (with_reducible refine bdrewN ?_ _) | (with_reducible exact Below.refl _ _) | (with_reducible assumption) | (with_reducible refine Below.trans ?_ (Below.mono (by assumption) (by first | omega | (· simp) | (· (simp; omega))))) | (with_reducible refine Below.trans ?_ (Kp.below (by assumption) (by first | omega | (· simp) | (· (simp; omega))) (by first | omega | (· simp) | (· (simp; omega))))))) : Below w.heap.size w _).trans (hb1.mono (by omega)))
    have hB2 : Below w.heap.size w w2 := (hB.alloc (by omega) _).trans (hk2.below (by first | omega | (· simp) | (· (simp; omega))) (by first | omega | (· simp) | (· (simp; omega))))
    exact (by repeat (first | (with_reducible refine Below.setCell ?_ (by first | omega | (· simp) | (· (simp; omega))) _) | (with_reducible refine Below.alloc ?_ (by first | omega | (· simp) | (· (simp; omega))) _) | (with_reducible refine Below.drew ?_) | (with_reducible refine bdrewN ?_ _) | (with_reducible exact Below.refl _ _) | (with_reducible assumption) | (with_reducible refine Below.trans ?_ (Below.mono (by assumption) (by first | omega | (· simp) | (· (simp; omega))))) | (with_reducible refine Below.trans ?_ (Kp.below (by assumption) (by first | omega | (· simp) | (· (simp; omega))) (by first | omega | (· simp) | (· (simp; omega)))))))
set_option maxHeartbeats 1000000 in
theorem implHold_any (A : Option Addr) (ln c : Nat) (ds : List GCell) (at_ : Int) (w : World) (hs : Rd w 4 encC (.slice A ln c) ds) (hn : ds.length ≤ 1073741824) :
    Calls Try.prog 52 #[.agg #[.slice A ln c], .int .i64 at_] w fun e w' => ∃ v, e = .returned (.agg #[v]) ∧ Own w' w.heap.size w'.heap.size 76 4 encC v (holdL ds at_) ∧ Below w.heap.size w w' := by
  obtain rfl := hs.len_eq
  have hs1 : Rd ((w.alloc (.cells #[.slice A ds.length c] 54)).alloc (.cells #[.slice none 0 0] 54)) 4 encC (.slice A ds.length c) ds := (by repeat (first | (with_reducible assumption) | (with_reducible refine Rd.drew ?_) | (with_reducible refine Rd.drewN ?_ _) | (with_reducible refine Rd.alloc ?_ _) | (exact Own.rd (fun _ => rfl) (by with_reducible assumption)) | (exact Sl.rd (by with_reducible assumption) (by first | omega | (· simp) | (· (simp; omega)))) | (refine Rd.below ?_ (by with_reducible assumption) ?_) | omega | (· simp) | (· (simp; omega))))
  go_enter Try.func52, Try.ntmps52
  go_wp2_with (go_at_call 80; refine (implCopy_any A ds.length c ds _ hs1 hn).mono ?_; rintro e w1 ⟨v1, rfl, ho1, hb1⟩; obtain ⟨A1, n1, c1, rfl, HN1⟩ := ho1.form'; have hz1 := hb1.size; simp only [World.size_alloc] at hz1 ho1 hb1; have g1 : w1.heap[w.heap.size + 1]? = some (.cells #[.slice none 0 0] 54 (0, 0)) := (hb1.block (w.heap.size + 1) (by simp)).trans (by simp only [heap_new, World.size_alloc]; simp); have hc1 : (w1.alloc (.cells #[.slice A1 n1 c1] 54)).cell? ⟨w1.heap.size, 0, none⟩ = some (.slice A1 n1 c1) := cell_new rfl)
  go_at_call 83
  refine (implHoldIn_any A1 n1 c1 (w.heap.size + 1 + 1) w1.heap.size w1.heap.size ds at_ _ (by repeat (first | (with_reducible assumption) | (with_reducible refine Own.drew ?_) | (with_reducible refine Own.drewN ?_ _) | (with_reducible refine Own.alloc ?_ ?_ _) | (with_reducible refine Own.setCell ?_ ?_ _) | (refine Own.below ?_ (by with_reducible assumption) ?_) | (refine Own.kp ?_ (by with_reducible assumption) ?_) | omega | (· simp) | (· (simp; omega)))) hc1 (.inr (Nat.le_refl _)) (by simp) (by simp)).mono ?_; rintro e w2 ⟨rfl, ho2, hk2⟩; have hz2 := hk2.size; have hc2 := cell_kp hk2 hc1 (.inr (Nat.le_refl _)); have g2 := (hk2.block (w.heap.size + 1) (by first | omega | (· simp) | (· (simp; omega))) (.inl (by first | omega | (· simp) | (· (simp; omega))))).trans ((Below.heap_alloc w1 _ (w.heap.size + 1) (by first | omega | (· simp) | (· (simp; omega)))).trans g1); have f2 : w2.frozen? ⟨w.heap.size + 1, 0, none⟩ = false := (by simp [World.frozen?, g2]); have k2 : w2.cell? ⟨w.heap.size + 1, 0, none⟩ = some (.slice none 0 0) := (by simp [World.cell?, g2])
  go_wp2
  simp only [World.size_alloc] at hz2
  refine bodyPost_ret (v := .agg #[.slice A1 n1 c1]) (ret_cell (t := 54) (fr := (0, 0)) rfl rfl Try.underlying54 (by kernel_rfl) ?_) rfl ⟨_, rfl, ?_, ?_⟩
  · simp only [heap_set, g2]; simp [setAt]
  · exact (ho2.setCellAny (p := ⟨w.heap.size + 1, 0, none⟩) (.inl (by simp)) _).wider (by first | omega | (· simp) | (· (simp; omega))) (by first | omega | (· simp) | (· (simp; omega)))
  · have hB : Below w.heap.size w w1 := ((by exact (by repeat (first | (with_reducible refine Below.setCell ?_ (by first | omega | (· simp) | (· (simp; omega))) _) | (with_reducible refine Below.alloc ?_ (by first | omega | (· simp) | (· (simp; omega))) _) | (with_reducible refine Below.drew ?_) | (with_reducible refine bdrewN ?_ _) | (with_reducible exact Below.refl _ _) | (with_reducible assumption) | (with_reducible refine Below.trans ?_ (Below.mono (by assumption) (by first | omega | (· simp) | (· (simp; omega))))) | (with_reducible refine Below.trans ?_ (Kp.below (by assumption) (by first | omega | (· simp) | (· (simp; omega))) (by first | omega | (· simp) | (· (simp; omega))))))) : Below w.heap.size w _).trans (hb1.mono (by omega)))
    have hB2 : Below w.heap.size w w2 := (hB.alloc (by omega) _).trans (hk2.below (by first | omega | (· simp) | (· (simp; omega))) (by first | omega | (· simp) | (· (simp; omega))))
    exact (by repeat (first | (with_reducible refine Below.setCell ?_ (by first | omega | (· simp) | (· (simp; omega))) _) | (with_reducible refine Below.alloc ?_ (by first | omega | (· simp) | (· (simp; omega))) _) | (with_reducible refine Below.drew ?_) | (with_reducible refine bdrewN ?_ _) | (with_reducible exact Below.refl _ _) | (with_reducible assumption) | (with_reducible refine Below.trans ?_ (Below.mono (by assumption) (by first | omega | (· simp) | (· (simp; omega))))) | (with_reducible refine Below.trans ?_ (Kp.below (by assumption) (by first | omega | (· simp) | (· (simp; omega))) (by first | omega | (· simp) | (· (simp; omega)))))))
set_option maxHeartbeats 1000000 in
theorem specLet_any (A : Option Addr) (ln c : Nat) (ds : List GCell) (at_ : Int) (w : World) (hs : Rd w 4 encC (.slice A ln c) ds) (hn : ds.length ≤ 1073741824) :
    Calls Try.prog 56 #[.agg #[.slice A ln c], .int .i64 at_] w fun e w' => ∃ v, e = .returned (.agg #[v]) ∧ Own w' w.heap.size w'.heap.size 76 4 encC v (letL ds at_) ∧ Below w.heap.size w w' := by
  obtain rfl := hs.len_eq
  have hs1 : Rd ((w.alloc (.cells #[.slice A ds.length c] 54)).alloc (.cells #[.slice none 0 0] 54)) 4 encC (.slice A ds.length c) ds := (by repeat (first | (with_reducible assumption) | (with_reducible refine Rd.drew ?_) | (with_reducible refine Rd.drewN ?_ _) | (with_reducible refine Rd.alloc ?_ _) | (exact Own.rd (fun _ => rfl) (by with_reducible assumption)) | (exact Sl.rd (by with_reducible assumption) (by first | omega | (· simp) | (· (simp; omega)))) | (refine Rd.below ?_ (by with_reducible assumption) ?_) | omega | (· simp) | (· (simp; omega))))
  go_enter Try.func56, Try.ntmps56
  go_wp2_with (go_at_call 84; refine (specCopy_any A ds.length c ds _ hs1 hn).mono ?_; rintro e w1 ⟨v1, rfl, ho1, hb1⟩; obtain ⟨A1, n1, c1, rfl, HN1⟩ := ho1.form'; have hz1 := hb1.size; simp only [World.size_alloc] at hz1 ho1 hb1; have g1 : w1.heap[w.heap.size + 1]? = some (.cells #[.slice none 0 0] 54 (0, 0)) := (hb1.block (w.heap.size + 1) (by simp)).trans (by simp only [heap_new, World.size_alloc]; simp); have hc1 : (w1.alloc (.cells #[.slice A1 n1 c1] 54)).cell? ⟨w1.heap.size, 0, none⟩ = some (.slice A1 n1 c1) := cell_new rfl)
  go_at_call 88
  refine (specLetIn_any A1 n1 c1 (w.heap.size + 1 + 1) w1.heap.size w1.heap.size ds at_ _ (by repeat (first | (with_reducible assumption) | (with_reducible refine Own.drew ?_) | (with_reducible refine Own.drewN ?_ _) | (with_reducible refine Own.alloc ?_ ?_ _) | (with_reducible refine Own.setCell ?_ ?_ _) | (refine Own.below ?_ (by with_reducible assumption) ?_) | (refine Own.kp ?_ (by with_reducible assumption) ?_) | omega | (· simp) | (· (simp; omega)))) hc1 (.inr (Nat.le_refl _)) (by simp) (by simp)).mono ?_; rintro e w2 ⟨rfl, ho2, hk2⟩; have hz2 := hk2.size; have hc2 := cell_kp hk2 hc1 (.inr (Nat.le_refl _)); have g2 := (hk2.block (w.heap.size + 1) (by first | omega | (· simp) | (· (simp; omega))) (.inl (by first | omega | (· simp) | (· (simp; omega))))).trans ((Below.heap_alloc w1 _ (w.heap.size + 1) (by first | omega | (· simp) | (· (simp; omega)))).trans g1); have f2 : w2.frozen? ⟨w.heap.size + 1, 0, none⟩ = false := (by simp [World.frozen?, g2]); have k2 : w2.cell? ⟨w.heap.size + 1, 0, none⟩ = some (.slice none 0 0) := (by simp [World.cell?, g2])
  go_wp2
  simp only [World.size_alloc] at hz2
  refine bodyPost_ret (v := .agg #[.slice A1 n1 c1]) (ret_cell (t := 54) (fr := (0, 0)) rfl rfl Try.underlying54 (by kernel_rfl) ?_) rfl ⟨_, rfl, ?_, ?_⟩
  · simp only [heap_set, g2]; simp [setAt]
  · exact (ho2.setCellAny (p := ⟨w.heap.size + 1, 0, none⟩) (.inl (by simp)) _).wider (by first | omega | (· simp) | (· (simp; omega))) (by first | omega | (· simp) | (· (simp; omega)))
  · have hB : Below w.heap.size w w1 := ((by exact (by repeat (first | (with_reducible refine Below.setCell ?_ (by first | omega | (· simp) | (· (simp; omega))) _) | (with_reducible refine Below.alloc ?_ (by first | omega | (· simp) | (· (simp; omega))) _) | (with_reducible refine Below.drew ?_) | (with_reducible refine bdrewN ?_ _) | (with_reducible exact Below.refl _ _) | (with_reducible assumption) | (with_reducible refine Below.trans ?_ (Below.mono (by assumption) (by first | omega | (· simp) | (· (simp; omega))))) | (with_reducible refine Below.trans ?_ (Kp.below (by assumption) (by first | omega | (· simp) | (· (simp; omega))) (by first | omega | (· simp) | (· (simp; omega))))))) : Below w.heap.size w _).trans (hb1.mono (by omega)))
    have hB2 : Below w.heap.size w w2 := (hB.alloc (by omega) _).trans (hk2.below (by first | omega | (· simp) | (· (simp; omega))) (by first | omega | (· simp) | (· (simp; omega))))
    exact (by repeat (first | (with_reducible refine Below.setCell ?_ (by first | omega | (· simp) | (· (simp; omega))) _) | (with_reducible refine Below.alloc ?_ (by first | omega | (· simp) | (· (simp; omega))) _) | (with_reducible refine Below.drew ?_) | (with_reducible refine bdrewN ?_ _) | (with_reducible exact Below.refl _ _) | (with_reducible assumption) | (with_reducible refine Below.trans ?_ (Below.mono (by assumption) (by first | omega | (· simp) | (· (simp; omega))))) | (with_reducible refine Below.trans ?_ (Kp.below (by assumption) (by first | omega | (· simp) | (· (simp; omega))) (by first | omega | (· simp) | (· (simp; omega)))))))
set_option maxHeartbeats 1000000 in
theorem implLet_any (A : Option Addr) (ln c : Nat) (ds : List GCell) (at_ : Int) (w : World) (hs : Rd w 4 encC (.slice A ln c) ds) (hn : ds.length ≤ 1073741824) :
    Calls Try.prog 51 #[.agg #[.slice A ln c], .int .i64 at_] w fun e w' => ∃ v, e = .returned (.agg #[v]) ∧ Own w' w.heap.size w'.heap.size 76 4 encC v (letL ds at_) ∧ Below w.heap.size w w' := by
  obtain rfl := hs.len_eq
  have hs1 : Rd ((w.alloc (.cells #[.slice A ds.length c] 54)).alloc (.cells #[.slice none 0 0] 54)) 4 encC (.slice A ds.length c) ds := (by repeat (first | (with_reducible assumption) | (with_reducible refine Rd.drew ?_) | (with_reducible refine Rd.drewN ?_ _) | (with_reducible refine Rd.alloc ?_ _) | (exact Own.rd (fun _ => rfl) (by with_reducible assumption)) | (exact Sl.rd (by with_reducible assumption) (by first | omega | (· simp) | (· (simp; omega)))) | (refine Rd.below ?_ (by with_reducible assumption) ?_) | omega | (· simp) | (· (simp; omega))))
  go_enter Try.func51, Try.ntmps51
  go_wp2_with (go_at_call 80; refine (implCopy_any A ds.length c ds _ hs1 hn).mono ?_; rintro e w1 ⟨v1, rfl, ho1, hb1⟩; obtain ⟨A1, n1, c1, rfl, HN1⟩ := ho1.form'; have hz1 := hb1.size; simp only [World.size_alloc] at hz1 ho1 hb1; have g1 : w1.heap[w.heap.size + 1]? = some (.cells #[.slice none 0 0] 54 (0, 0)) := (hb1.block (w.heap.size + 1) (by simp)).trans (by simp only [heap_new, World.size_alloc]; simp); have hc1 : (w1.alloc (.cells #[.slice A1 n1 c1] 54)).cell? ⟨w1.heap.size, 0, none⟩ = some (.slice A1 n1 c1) := cell_new rfl)
  go_at_call 82
  refine (implLetIn_any A1 n1 c1 (w.heap.size + 1 + 1) w1.heap.size w1.heap.size ds at_ _ (by repeat (first | (with_reducible assumption) | (with_reducible refine Own.drew ?_) | (with_reducible refine Own.drewN ?_ _) | (with_reducible refine Own.alloc ?_ ?_ _) | (with_reducible refine Own.setCell ?_ ?_ _) | (refine Own.below ?_ (by with_reducible assumption) ?_) | (refine Own.kp ?_ (by with_reducible assumption) ?_) | omega | (· simp) | (· (simp; omega)))) hc1 (.inr (Nat.le_refl _)) (by simp) (by simp)).mono ?_; rintro e w2 ⟨rfl, ho2, hk2⟩; have hz2 := hk2.size; have hc2 := cell_kp hk2 hc1 (.inr (Nat.le_refl _)); have g2 := (hk2.block (w.heap.size + 1) (by first | omega | (· simp) | (· (simp; omega))) (.inl (by first | omega | (· simp) | (· (simp; omega))))).trans ((Below.heap_alloc w1 _ (w.heap.size + 1) (by first | omega | (· simp) | (· (simp; omega)))).trans g1); have f2 : w2.frozen? ⟨w.heap.size + 1, 0, none⟩ = false := (by simp [World.frozen?, g2]); have k2 : w2.cell? ⟨w.heap.size + 1, 0, none⟩ = some (.slice none 0 0) := (by simp [World.cell?, g2])
  go_wp2
  simp only [World.size_alloc] at hz2
  refine bodyPost_ret (v := .agg #[.slice A1 n1 c1]) (ret_cell (t := 54) (fr := (0, 0)) rfl rfl Try.underlying54 (by kernel_rfl) ?_) rfl ⟨_, rfl, ?_, ?_⟩
  · simp only [heap_set, g2]; simp [setAt]
  · exact (ho2.setCellAny (p := ⟨w.heap.size + 1, 0, none⟩) (.inl (by simp)) _).wider (by first | omega | (· simp) | (· (simp; omega))) (by first | omega | (· simp) | (· (simp; omega)))
  · have hB : Below w.heap.size w w1 := ((by exact (by repeat (first | (with_reducible refine Below.setCell ?_ (by first | omega | (· simp) | (· (simp; omega))) _) | (with_reducible refine Below.alloc ?_ (by first | omega | (· simp) | (· (simp; omega))) _) | (with_reducible refine Below.drew ?_) | (with_reducible refine bdrewN ?_ _) | (with_reducible exact Below.refl _ _) | (with_reducible assumption) | (with_reducible refine Below.trans ?_ (Below.mono (by assumption) (by first | omega | (· simp) | (· (simp; omega))))) | (with_reducible refine Below.trans ?_ (Kp.below (by assumption) (by first | omega | (· simp) | (· (simp; omega))) (by first | omega | (· simp) | (· (simp; omega))))))) : Below w.heap.size w _).trans (hb1.mono (by omega)))
    have hB2 : Below w.heap.size w w2 := (hB.alloc (by omega) _).trans (hk2.below (by first | omega | (· simp) | (· (simp; omega))) (by first | omega | (· simp) | (· (simp; omega))))
    exact (by repeat (first | (with_reducible refine Below.setCell ?_ (by first | omega | (· simp) | (· (simp; omega))) _) | (with_reducible refine Below.alloc ?_ (by first | omega | (· simp) | (· (simp; omega))) _) | (with_reducible refine Below.drew ?_) | (with_reducible refine bdrewN ?_ _) | (with_reducible exact Below.refl _ _) | (with_reducible assumption) | (with_reducible refine Below.trans ?_ (Below.mono (by assumption) (by first | omega | (· simp) | (· (simp; omega))))) | (with_reducible refine Below.trans ?_ (Kp.below (by assumption) (by first | omega | (· simp) | (· (simp; omega))) (by first | omega | (· simp) | (· (simp; omega)))))))
end Go.Proofs.Ytjgmdbhbnpafgaa
