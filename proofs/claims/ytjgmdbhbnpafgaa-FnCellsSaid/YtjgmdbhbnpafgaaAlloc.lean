/- Alloc's inner function of the reference. -/
import Derived.Test.YtjgmdbhbnpafgaaHold2
import Derived.Test.YtjgmdbhbnpafgaaApp
import Derived.Deep.RegionLaw
namespace Go.Proofs.Ytjgmdbhbnpafgaa
open Go.RowKit

def allocAt (ds : List GCell) : Nat := ds.findIdx fun c => c.refs == 0
def allocL (ds : List GCell) (v : GVal) : List GCell := if allocAt ds < ds.length then ds.set (allocAt ds) ⟨1, v⟩ else ds ++ [⟨1, v⟩]
theorem allocAt_le (ds : List GCell) : allocAt ds ≤ ds.length := List.findIdx_le_length
theorem allocAt_not {ds : List GCell} {k : Nat} (h : k < allocAt ds) : (ds[k]'(Nat.lt_of_lt_of_le h (allocAt_le ds))).refs ≠ 0 := by
  have := List.not_of_lt_findIdx h
  simpa using this
theorem allocAt_is {ds : List GCell} (h : allocAt ds < ds.length) : ds[allocAt ds].refs = 0 := by
  have := List.findIdx_getElem (w := h)
  exact eq_of_beq this
theorem Own.put4 {w : World} {lo hi g n c : Nat} {ds : List GCell} (h : Own w lo hi 76 4 encC (.slice (some ⟨g, 0, none⟩) n c) ds) (i : Nat) (hi_ : i < ds.length) (d : GCell) :
    Own ((((w.setCell ⟨g, i * 4, none⟩ (.int .i64 d.refs)).setCell ⟨g, i * 4 + 1, none⟩ (.int .i64 d.v.k)).setCell ⟨g, i * 4 + 2, none⟩ (.int .i64 d.v.n)).setCell ⟨g, i * 4 + 3, none⟩ (.string d.v.s)) lo hi 76 4 encC (.slice (some ⟨g, 0, none⟩) n c) (ds.set i d) := by
  have h0 := h.put encC_len i hi_ 0 (by omega) (.int .i64 d.refs) ⟨d.refs, ds[i].v⟩ rfl
  have h1 := h0.put encC_len i (by simpa using hi_) 1 (by omega) (.int .i64 d.v.k) ⟨d.refs, ⟨d.v.k, ds[i].v.n, ds[i].v.s⟩⟩ (by rw [List.getElem_set_self]; rfl)
  have h2 := h1.put encC_len i (by simpa using hi_) 2 (by omega) (.int .i64 d.v.n) ⟨d.refs, ⟨d.v.k, d.v.n, ds[i].v.s⟩⟩ (by rw [List.getElem_set_self]; rfl)
  have h3 := h2.put encC_len i (by simpa using hi_) 3 (by omega) (.string d.v.s) d (by rw [List.getElem_set_self]; rfl)
  rw [List.set_set, List.set_set, List.set_set] at h3
  exact h3
set_option maxRecDepth 100000 in
set_option maxHeartbeats 1000000 in
theorem specAllocIn_any (A : Option Addr) (ln c lo hi lf hf p : Nat) (ds : List GCell) (v : GVal) (w : World) (ho : Own w lo hi 76 4 encC (.slice A ln c) ds) (hp : w.cell? ⟨p, 0, none⟩ = some (.slice A ln c)) (hpf : w.frozen? ⟨p, 0, none⟩ = false) (hpo : p < lo ∨ hi ≤ p) (hps : p < w.heap.size) (hhi : hi ≤ w.heap.size) (hlo : lo ≤ w.heap.size)
    (hf1 : lf ≤ lo) (hf2 : hi ≤ hf) (hf3 : lf ≤ p) (hf4 : p < hf) (hn : ds.length ≤ 1073741824) :
    Calls Try.prog 99 #[.pointer (some ⟨p, 0, none⟩), .agg #[.int .i64 v.k, .int .i64 v.n, .string v.s]] w fun e w' => e = .returned (.int .i64 (allocAt ds)) ∧ ∃ A' n' c', w'.cell? ⟨p, 0, none⟩ = some (.slice A' n' c') ∧ w'.frozen? ⟨p, 0, none⟩ = false ∧ Own w' lo w'.heap.size 76 4 encC (.slice A' n' c') (allocL ds v) ∧ Kp lf hf w w' := by
  have hnl := ho.ow.2
  subst hnl
  have hle := allocAt_le ds
  have ho1 := ho.alloc hhi (.cells #[.int .i64 v.k, .int .i64 v.n, .string v.s] 50)
  have hp1 := cell_alloc (x := .cells #[.int .i64 v.k, .int .i64 v.n, .string v.s] 50) hp hps
  have hk1 : Kp lf hf w (w.alloc (.cells #[.int .i64 v.k, .int .i64 v.n, .string v.s] 50)) := Kp.of_below ((Below.refl _ w).alloc (Nat.le_refl _) _)
  have hpf1 : (w.alloc (.cells #[.int .i64 v.k, .int .i64 v.n, .string v.s] 50)).frozen? ⟨p, 0, none⟩ = false := by rw [((Below.refl _ w).alloc (Nat.le_refl _) _ : Below w.heap.size w _).frozen (p := ⟨p, 0, none⟩) hps]; exact hpf
  have hx0 : (w.alloc (.cells #[.int .i64 v.k, .int .i64 v.n, .string v.s] 50)).cell? ⟨w.heap.size, 0, none⟩ = some (.int .i64 v.k) := cell_new rfl
  have hx1 : (w.alloc (.cells #[.int .i64 v.k, .int .i64 v.n, .string v.s] 50)).cell? ⟨w.heap.size, 1, none⟩ = some (.int .i64 v.n) := cell_new rfl
  have hx2 : (w.alloc (.cells #[.int .i64 v.k, .int .i64 v.n, .string v.s] 50)).cell? ⟨w.heap.size, 2, none⟩ = some (.string v.s) := cell_new rfl
  have hk4 : ds.length * 4 ≤ 4294967296 := by omega
  go_enter Try.func99, Try.ntmps99
  go_wp2
  go_loopw [5] (fun i wr => ∃ k : Nat, k ≤ allocAt ds ∧ i = .int .i64 k ∧ Hid (wr.heap.size = w.heap.size + 1) ∧ w.heap.size + 1 ≤ wr.heap.size ∧ Own wr lo hi 76 4 encC (.slice A ds.length c) ds ∧ wr.cell? ⟨p, 0, none⟩ = some (.slice A ds.length c) ∧ Kp lf hf w wr ∧ wr.frozen? ⟨p, 0, none⟩ = false ∧ wr.cell? ⟨w.heap.size, 0, none⟩ = some (.int .i64 v.k) ∧ wr.cell? ⟨w.heap.size, 1, none⟩ = some (.int .i64 v.n) ∧ wr.cell? ⟨w.heap.size, 2, none⟩ = some (.string v.s)) (fun i _ => ds.length - (intOf i).toNat)
  case atStart => exact ⟨0, Nat.zero_le _, rfl, (by simp : _ = _), by simp, ho1, hp1, hk1, hpf1, hx0, hx1, hx2⟩
  case round =>
    clear ho1 hp1 hk1 hpf1 hx0 hx1 hx2
    obtain ⟨k, hk, rfl, hz1, hl1, ho1, hp1, hk1, hpf1, hx0, hx1, hx2⟩ := hrel
    by_cases hlt : k < ds.length
    · obtain ⟨g, rfl, hg1, hg2, hc, hfz⟩ := ho1.at_ encC_len hlt
      have c0 := hc 0 _ rfl; have c1 := hc 1 _ rfl; have c2 := hc 2 _ rfl; have c3 := hc 3 _ rfl
      rw [Nat.add_zero] at c0
      have hgp : g ≠ p := by omega
      clear hc
      by_cases hz : ds[k].refs = 0
      · have HK := Lib.hid (show k = allocAt ds by
          rcases Nat.lt_or_ge k (allocAt ds) with h | h
          · exact absurd hz (allocAt_not h)
          · omega)
        go_wp2
        go_still_tail 8, (by kernel_rfl)
        change wpList _ _ _ _ _ wr.drew
        go_wp2
        go_ret
        have hw := (ho1.put4 k hlt ⟨1, v⟩).drew
        have e : allocL ds v = ds.set k ⟨1, v⟩ := by unfold allocL; have := HK.out; rw [← this, if_pos hlt]
        rw [e]
        have hpg : p ≠ g := fun h => hgp h.symm
        refine ⟨ri (by have := HK.out; omega), some ⟨g, 0, none⟩, ds.length, c, cell_setb (cell_setb (cell_setb (cell_setb (cell_drew hp1) hpg) hpg) hpg) hpg, frz_setb (frz_setb (frz_setb (frz_setb (frz_drew hpf1) hpg) hpg) hpg) hpg, hw.wider (Nat.le_refl _) (by first | omega | (· simp) | (· (simp; omega))), ?_⟩
        have hlg : lf ≤ g := by omega
        have hgh : g < hf := by omega
        exact (((hk1.drew_.set hlg hgh _).set hlg hgh _).set hlg hgh _).set hlg hgh _
      · go_wp2
        go_roundw
        case rel => exact ⟨k + 1, (by
          rcases Nat.lt_or_ge k (allocAt ds) with h | h
          · omega
          · exact absurd (by have e : k = allocAt ds := by omega
                             subst e; exact allocAt_is hlt) hz), by go_num, hz1, hl1, ho1, hp1, hk1, hpf1, hx0, hx1, hx2⟩
        case measure => simp [intOf]; omega
    · have HK := Lib.hid (show allocAt ds = ds.length by omega)
      have hk0 : k = ds.length := by omega
      subst hk0
      have hpw : p < wr.heap.size := by omega
      have hxw : w.heap.size < wr.heap.size := by omega
      go_wp2
      go_region_law ((refine step_app1 (lo := lo) (hi := hi) (H := wr.heap.size + 1) (B := wr.heap.size) (cs := #[.int .i64 1, .int .i64 v.k, .int .i64 v.n, .string v.s]) elC encC_len encC_one (by rfl) (.tmp 37) (.tmp 40) (by rfl) (.slice A ds.length c) ds ⟨1, v⟩ (by rfl) (by repeat (first | (with_reducible assumption) | (with_reducible refine Own.drew ?_) | (with_reducible refine Own.drewN ?_ _) | (with_reducible refine Own.alloc ?_ ?_ _) | (with_reducible refine Own.setCell ?_ ?_ _) | (refine Own.below ?_ (by with_reducible assumption) ?_) | (refine Own.kp ?_ (by with_reducible assumption) ?_) | omega | (· simp) | (· (simp; omega)))) (by rfl) (heap_alloc_new _ _) rfl (by omega) (by first | omega | (simp; omega)) (by simp) ?_; intro g2 n2 c2 w2 ho2 HN2 hk2 hg2 hgl2; have hz2 := hk2.size; have hpf2 := frz_kp hk2 (b := p) (o := 0) (by repeat (first | (with_reducible assumption) | (with_reducible refine frz_drew ?_) | (with_reducible refine frz_drewN ?_) | (with_reducible exact frz_new) | (with_reducible refine frz_alloc ?_ ?_) | (refine frz_below (by with_reducible assumption) ?_ ?_) | (refine frz_kp (by with_reducible assumption) ?_ ?_ ?_) | omega | (· simp) | (· (simp; omega)))) (by first | omega | (· simp) | (· (simp; omega))) hpo; have hp2 : w2.cell? ⟨p, 0, none⟩ = some (.slice A ds.length c) := cell_kp hk2 (by repeat (first | (with_reducible assumption) | (with_reducible refine cell_drew ?_) | (with_reducible refine cell_drewN ?_) | (with_reducible exact cell_new rfl) | (exact cell_new' rfl (by first | rfl | (simp; done))) | (with_reducible refine cell_alloc ?_ ?_) | (refine cell_below (by with_reducible assumption) ?_ ?_) | (refine cell_kp (by with_reducible assumption) ?_ ?_) | omega | (· simp) | (· (simp; omega)))) hpo; have hy0 := cell_kp hk2 (b := w.heap.size) (o := 0) (u := .int .i64 v.k) (by repeat (first | (with_reducible assumption) | (with_reducible refine cell_drew ?_) | (with_reducible refine cell_drewN ?_) | (with_reducible exact cell_new rfl) | (exact cell_new' rfl (by first | rfl | (simp; done))) | (with_reducible refine cell_alloc ?_ ?_) | (refine cell_below (by with_reducible assumption) ?_ ?_) | (refine cell_kp (by with_reducible assumption) ?_ ?_) | omega | (· simp) | (· (simp; omega)))) (by first | omega | (· simp) | (· (simp; omega))); have hy1 := cell_kp hk2 (b := w.heap.size) (o := 1) (u := .int .i64 v.n) (by repeat (first | (with_reducible assumption) | (with_reducible refine cell_drew ?_) | (with_reducible refine cell_drewN ?_) | (with_reducible exact cell_new rfl) | (exact cell_new' rfl (by first | rfl | (simp; done))) | (with_reducible refine cell_alloc ?_ ?_) | (refine cell_below (by with_reducible assumption) ?_ ?_) | (refine cell_kp (by with_reducible assumption) ?_ ?_) | omega | (· simp) | (· (simp; omega)))) (by first | omega | (· simp) | (· (simp; omega))); have hy2 := cell_kp hk2 (b := w.heap.size) (o := 2) (u := .string v.s) (by repeat (first | (with_reducible assumption) | (with_reducible refine cell_drew ?_) | (with_reducible refine cell_drewN ?_) | (with_reducible exact cell_new rfl) | (exact cell_new' rfl (by first | rfl | (simp; done))) | (with_reducible refine cell_alloc ?_ ?_) | (refine cell_below (by with_reducible assumption) ?_ ?_) | (refine cell_kp (by with_reducible assumption) ?_ ?_) | omega | (· simp) | (· (simp; omega)))) (by first | omega | (· simp) | (· (simp; omega)))))
      all_goals (
        have hn2 : n2 ≤ 1073741825 := by have := HN2.out; omega
        have hge : g2 ≠ p := by omega
        go_wp2
        go_ret
        have e : allocL ds v = ds ++ [⟨1, v⟩] := by unfold allocL; rw [if_neg (by have := HK.out; omega)]
        rw [e]
        refine ⟨ri (by have := HN2.out; have := HK.out; omega), some ⟨g2, 0, none⟩, n2, c2, ?_, ?_, ?_, ?_⟩
        · simp [go_sem, hp2]
        · rw [frz_set]; exact hpf2
        · exact (ho2.setOther hge _).wider (Nat.le_refl _) (by simp)
        · refine (hk1.trans (Kp.trans (Kp.of_below ?_) (hk2.wider hf1 hf2))).set hf3 hf4 _
          exact (by repeat (first | (with_reducible refine Below.setCell ?_ (by first | omega | (· simp) | (· (simp; omega))) _) | (with_reducible refine Below.alloc ?_ (by first | omega | (· simp) | (· (simp; omega))) _) | (with_reducible refine Below.drew ?_) | (with_reducible refine bdrewN ?_ _) | (with_reducible exact Below.refl _ _) | (with_reducible assumption) | (with_reducible refine Below.trans ?_ (Below.mono (by assumption) (by first | omega | (· simp) | (· (simp; omega))))) | (with_reducible refine Below.trans ?_ (Kp.below (by assumption) (by first | omega | (· simp) | (· (simp; omega))) (by first | omega | (· simp) | (· (simp; omega))))))))
end Go.Proofs.Ytjgmdbhbnpafgaa
