/- Alloc's inner function of the program. -/
import Derived.Test.YtjgmdbhbnpafgaaIdx
namespace Go.Proofs.Ytjgmdbhbnpafgaa
open Go.RowKit

set_option maxRecDepth 100000 in
set_option maxHeartbeats 1000000 in
theorem implAllocIn_any (A : Option Addr) (ln c lo hi lf hf p : Nat) (ds : List GCell) (v : GVal) (w : World) (ho : Own w lo hi 76 4 encC (.slice A ln c) ds) (hp : w.cell? ⟨p, 0, none⟩ = some (.slice A ln c)) (hpf : w.frozen? ⟨p, 0, none⟩ = false) (hpo : p < lo ∨ hi ≤ p) (hps : p < w.heap.size) (hhi : hi ≤ w.heap.size) (hlo : lo ≤ w.heap.size)
    (hf1 : lf ≤ lo) (hf2 : hi ≤ hf) (hf3 : lf ≤ p) (hf4 : p < hf) (hn : ds.length ≤ 1073741824) :
    Calls Try.prog 81 #[.pointer (some ⟨p, 0, none⟩), .agg #[.int .i64 v.k, .int .i64 v.n, .string v.s]] w fun e w' => e = .returned (.int .i64 (allocAt ds)) ∧ ∃ A' n' c', w'.cell? ⟨p, 0, none⟩ = some (.slice A' n' c') ∧ w'.frozen? ⟨p, 0, none⟩ = false ∧ Own w' lo w'.heap.size 76 4 encC (.slice A' n' c') (allocL ds v) ∧ Kp lf hf w w' := by
  have hnl := ho.ow.2
  subst hnl
  have hle := allocAt_le ds
  have ho1 := ho.alloc hhi (.cells #[.int .i64 v.k, .int .i64 v.n, .string v.s] 50)
  have hp1 := cell_alloc (x := .cells #[.int .i64 v.k, .int .i64 v.n, .string v.s] 50) hp hps
  have hpf1 := frz_alloc (x := .cells #[.int .i64 v.k, .int .i64 v.n, .string v.s] 50) hpf hps
  have hx0 : (w.alloc (.cells #[.int .i64 v.k, .int .i64 v.n, .string v.s] 50)).cell? ⟨w.heap.size, 0, none⟩ = some (.int .i64 v.k) := cell_new rfl
  have hx1 : (w.alloc (.cells #[.int .i64 v.k, .int .i64 v.n, .string v.s] 50)).cell? ⟨w.heap.size, 1, none⟩ = some (.int .i64 v.n) := cell_new rfl
  have hx2 : (w.alloc (.cells #[.int .i64 v.k, .int .i64 v.n, .string v.s] 50)).cell? ⟨w.heap.size, 2, none⟩ = some (.string v.s) := cell_new rfl
  have hs1 := ho1.rd encC_len
  by_cases hlt : allocAt ds < ds.length
  · obtain ⟨i, HK⟩ : ∃ i, Hid (i = allocAt ds) := ⟨_, rfl⟩
    have hlt' : i < ds.length := by have := HK.out; omega
    have e : idxI (allocAt ds) ds.length = (i : Int) := by have := HK.out; unfold idxI; rw [if_pos hlt, this]
    have E := Lib.hid e
    have HE := Lib.hid (show allocL ds v = ds.set i ⟨1, v⟩ by unfold allocL; have := HK.out; rw [← this, if_pos hlt'])
    clear e hlt hle
    go_enter Try.func81, Try.ntmps81
    go_wp2_with (go_at_call 104; refine (idxCell_any A ds.length c ds _ hs1).mono ?_; rw [E.out]; rintro e w1 ⟨rfl, hb1⟩; have hz1 := hb1.size; simp only [World.size_alloc] at hz1 hb1; have ho1 := ho1.below hb1 (by omega); have hp1 := cell_below hb1 hp1 (by omega); have hpf1 := frz_below hb1 hpf1 (by omega); have hx0 := cell_below hb1 hx0 (by omega); have hx1 := cell_below hb1 hx1 (by omega); have hx2 := cell_below hb1 hx2 (by omega); obtain ⟨g, rfl, hg1, hg2, hc, hfz⟩ := ho1.at_ encC_len hlt'; have c0 := hc 0 _ rfl; have c1 := hc 1 _ rfl; have c2 := hc 2 _ rfl; have c3 := hc 3 _ rfl; rw [Nat.add_zero] at c0; clear hc; have hpg : p ≠ g := (by omega))
    go_still_tail 8, (by kernel_rfl)
    change wpList _ _ _ _ _ w1.drew
    go_wp2
    go_ret
    have hw := (ho1.put4 i hlt' ⟨1, v⟩).drew
    rw [HE.out]
    have hk1 : Kp lf hf w w1 := Kp.of_below (by exact (by repeat (first | (with_reducible refine Below.setCell ?_ (by first | omega | (· simp) | (· (simp; omega))) _) | (with_reducible refine Below.alloc ?_ (by first | omega | (· simp) | (· (simp; omega))) _) | (with_reducible refine Below.drew ?_) | (with_reducible refine bdrewN ?_ _) | (with_reducible exact Below.refl _ _) | (with_reducible assumption) | (with_reducible refine Below.trans ?_ (Below.mono (by assumption) (by first | omega | (· simp) | (· (simp; omega))))) | (with_reducible refine Below.trans ?_ (Kp.below (by assumption) (by first | omega | (· simp) | (· (simp; omega))) (by first | omega | (· simp) | (· (simp; omega))))))))
    refine ⟨ri (by have := HK.out; omega), some ⟨g, 0, none⟩, ds.length, c, cell_setb (cell_setb (cell_setb (cell_setb (cell_drew hp1) hpg) hpg) hpg) hpg, frz_setb (frz_setb (frz_setb (frz_setb (frz_drew hpf1) hpg) hpg) hpg) hpg, hw.wider (Nat.le_refl _) (by first | omega | (· simp) | (· (simp; omega))), ?_⟩
    have hlg : lf ≤ g := by omega
    have hgh : g < hf := by omega
    exact (((hk1.drew_.set hlg hgh _).set hlg hgh _).set hlg hgh _).set hlg hgh _
  · have e : idxI (allocAt ds) ds.length = -1 := by unfold idxI; rw [if_neg hlt]
    have E := Lib.hid e
    have HK := Lib.hid (show allocAt ds = ds.length by omega)
    have HE := Lib.hid (show allocL ds v = (ds ++ [(⟨0, gzero⟩ : GCell)]).set ds.length ⟨1, v⟩ by unfold allocL; rw [if_neg hlt]; simp)
    clear e hlt hle
    go_enter Try.func81, Try.ntmps81
    go_wp2_with (first
      | (go_at_call 104; refine (idxCell_any A ds.length c ds _ hs1).mono ?_; rw [E.out]; rintro e w1 ⟨rfl, hb1⟩; have hz1 := hb1.size; simp only [World.size_alloc] at hz1 hb1; have ho1 := ho1.below hb1 (by omega); have hp1 := cell_below hb1 hp1 (by omega); have hpf1 := frz_below hb1 hpf1 (by omega); have hx0 := cell_below hb1 hx0 (by omega); have hx1 := cell_below hb1 hx1 (by omega); have hx2 := cell_below hb1 hx2 (by omega))
      | (at_builtin; refine list_app1 (lo := lo) (hi := hi) (H := w1.heap.size + 1) (B := w1.heap.size) (cs := #[.int .i64 0, .int .i64 0, .int .i64 0, .string ByteArray.empty]) elC encC_len encC_one (by rfl) (.tmp 22) (.tmp 24) (by rfl) (.slice A ds.length c) ds ⟨0, gzero⟩ (by rfl) (by repeat (first | (with_reducible assumption) | (with_reducible refine Own.drew ?_) | (with_reducible refine Own.drewN ?_ _) | (with_reducible refine Own.alloc ?_ ?_ _) | (with_reducible refine Own.setCell ?_ ?_ _) | (refine Own.below ?_ (by with_reducible assumption) ?_) | (refine Own.kp ?_ (by with_reducible assumption) ?_) | omega | (· simp) | (· (simp; omega)))) (by rfl) (heap_alloc_new _ _) rfl (by omega) (by first | omega | (simp; omega)) (by simp) ?_; intro g2 n2 c2 w2 ho2 HN2 hk2 hg2 hgl2; have hz2 := hk2.size; simp only [World.size_alloc] at hz2; have hpf2 := frz_kp hk2 (b := p) (o := 0) (by repeat (first | (with_reducible assumption) | (with_reducible refine frz_drew ?_) | (with_reducible refine frz_drewN ?_) | (with_reducible exact frz_new) | (with_reducible refine frz_alloc ?_ ?_) | (refine frz_below (by with_reducible assumption) ?_ ?_) | (refine frz_kp (by with_reducible assumption) ?_ ?_ ?_) | omega | (· simp) | (· (simp; omega)))) (by first | omega | (· simp) | (· (simp; omega))) hpo; have hp2 : w2.cell? ⟨p, 0, none⟩ = some (.slice A ds.length c) := cell_kp hk2 (by repeat (first | (with_reducible assumption) | (with_reducible refine cell_drew ?_) | (with_reducible refine cell_drewN ?_) | (with_reducible exact cell_new rfl) | (exact cell_new' rfl (by first | rfl | (simp; done))) | (with_reducible refine cell_alloc ?_ ?_) | (refine cell_below (by with_reducible assumption) ?_ ?_) | (refine cell_kp (by with_reducible assumption) ?_ ?_) | omega | (· simp) | (· (simp; omega)))) hpo; have hy0 := cell_kp hk2 (b := w.heap.size) (o := 0) (u := .int .i64 v.k) (by repeat (first | (with_reducible assumption) | (with_reducible refine cell_drew ?_) | (with_reducible refine cell_drewN ?_) | (with_reducible exact cell_new rfl) | (exact cell_new' rfl (by first | rfl | (simp; done))) | (with_reducible refine cell_alloc ?_ ?_) | (refine cell_below (by with_reducible assumption) ?_ ?_) | (refine cell_kp (by with_reducible assumption) ?_ ?_) | omega | (· simp) | (· (simp; omega)))) (by first | omega | (· simp) | (· (simp; omega))); have hy1 := cell_kp hk2 (b := w.heap.size) (o := 1) (u := .int .i64 v.n) (by repeat (first | (with_reducible assumption) | (with_reducible refine cell_drew ?_) | (with_reducible refine cell_drewN ?_) | (with_reducible exact cell_new rfl) | (exact cell_new' rfl (by first | rfl | (simp; done))) | (with_reducible refine cell_alloc ?_ ?_) | (refine cell_below (by with_reducible assumption) ?_ ?_) | (refine cell_kp (by with_reducible assumption) ?_ ?_) | omega | (· simp) | (· (simp; omega)))) (by first | omega | (· simp) | (· (simp; omega))); have hy2 := cell_kp hk2 (b := w.heap.size) (o := 2) (u := .string v.s) (by repeat (first | (with_reducible assumption) | (with_reducible refine cell_drew ?_) | (with_reducible refine cell_drewN ?_) | (with_reducible exact cell_new rfl) | (exact cell_new' rfl (by first | rfl | (simp; done))) | (with_reducible refine cell_alloc ?_ ?_) | (refine cell_below (by with_reducible assumption) ?_ ?_) | (refine cell_kp (by with_reducible assumption) ?_ ?_) | omega | (· simp) | (· (simp; omega)))) (by first | omega | (· simp) | (· (simp; omega)))))
    have hge : g2 ≠ p := by omega
    have hxp : w.heap.size ≠ p := by omega
    have hn2 : n2 ≤ 1073741825 := by have := HN2.out; omega
    have hltn : ds.length < n2 := by have := HN2.out; omega
    have p0 : (w2.setCell ⟨p, 0, none⟩ (.slice (some ⟨g2, 0, none⟩) n2 c2)).cell? ⟨p, 0, none⟩ = some (.slice (some ⟨g2, 0, none⟩) n2 c2) := by simp [go_sem, hp2]
    have pf : (w2.setCell ⟨p, 0, none⟩ (.slice (some ⟨g2, 0, none⟩) n2 c2)).frozen? ⟨p, 0, none⟩ = false := by rw [frz_set]; exact hpf2
    have q0 := cell_setb (j := 0) (v := .slice (some ⟨g2, 0, none⟩) n2 c2) hy0 hxp
    have q1 := cell_setb (j := 0) (v := .slice (some ⟨g2, 0, none⟩) n2 c2) hy1 hxp
    have q2 := cell_setb (j := 0) (v := .slice (some ⟨g2, 0, none⟩) n2 c2) hy2 hxp
    have ho3 := ho2.setOther (j := 0) hge (.slice (some ⟨g2, 0, none⟩) n2 c2)
    have hk3 : Kp lf hf w (w2.setCell ⟨p, 0, none⟩ (.slice (some ⟨g2, 0, none⟩) n2 c2)) := by
      refine (Kp.trans (Kp.of_below ?_) (hk2.wider hf1 hf2)).set hf3 hf4 _
      exact (by repeat (first | (with_reducible refine Below.setCell ?_ (by first | omega | (· simp) | (· (simp; omega))) _) | (with_reducible refine Below.alloc ?_ (by first | omega | (· simp) | (· (simp; omega))) _) | (with_reducible refine Below.drew ?_) | (with_reducible refine bdrewN ?_ _) | (with_reducible exact Below.refl _ _) | (with_reducible assumption) | (with_reducible refine Below.trans ?_ (Below.mono (by assumption) (by first | omega | (· simp) | (· (simp; omega))))) | (with_reducible refine Below.trans ?_ (Kp.below (by assumption) (by first | omega | (· simp) | (· (simp; omega))) (by first | omega | (· simp) | (· (simp; omega)))))))
    have hz3 : (w2.setCell ⟨p, 0, none⟩ (.slice (some ⟨g2, 0, none⟩) n2 c2)).heap.size = w2.heap.size := by simp
    rw [← hz3] at ho3
    clear hz3 hk2 hpf2 hp2 hy0 hy1 hy2 ho2
    generalize w2.setCell ⟨p, 0, none⟩ (.slice (some ⟨g2, 0, none⟩) n2 c2) = w3 at *
    obtain ⟨g3, hg3, hg1, hg2', hc, hfz⟩ := ho3.at_ encC_len (i := ds.length) (by simp)
    obtain rfl : g2 = g3 := by injection hg3 with h; injection h
    have c0 := hc 0 _ rfl; have c1 := hc 1 _ rfl; have c2 := hc 2 _ rfl; have c3 := hc 3 _ rfl
    rw [Nat.add_zero] at c0
    clear hc hg3
    go_still_tail 8, (by kernel_rfl)
    change wpList _ _ _ _ _ w3.drew
    go_wp2
    go_ret
    have hw := (ho3.put4 ds.length (by simp) ⟨1, v⟩).drew
    rw [HE.out]
    have hpg : p ≠ g2 := fun h => hge h.symm
    refine ⟨ri (by have := HN2.out; have := HK.out; omega), some ⟨g2, 0, none⟩, n2, _, cell_setb (cell_setb (cell_setb (cell_setb (cell_drew p0) hpg) hpg) hpg) hpg, frz_setb (frz_setb (frz_setb (frz_setb (frz_drew pf) hpg) hpg) hpg) hpg, hw.wider (Nat.le_refl _) (by first | omega | (· simp) | (· (simp; omega))), ?_⟩
    have hgg : lf ≤ g2 ∧ g2 < hf ∨ w.heap.size ≤ g2 := by omega
    exact (((hk3.drew_.setAny hgg _).setAny hgg _).setAny hgg _).setAny hgg _
end Go.Proofs.Ytjgmdbhbnpafgaa
