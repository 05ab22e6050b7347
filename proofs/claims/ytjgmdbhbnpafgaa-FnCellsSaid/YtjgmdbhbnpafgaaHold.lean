/- Hold, Let and what they call, of both sides. -/
import Derived.Test.YtjgmdbhbnpafgaaHeap3
namespace Go.Proofs.Ytjgmdbhbnpafgaa
open Go.RowKit

theorem encC_one (d : GCell) (u : Value) (h : u ∈ encC d) : u.oneCell' = true := by
  simp [encC] at h; rcases h with rfl | rfl | rfl | rfl <;> rfl
theorem Kp.drew_ {lo hi : Nat} {a b : World} (h : Kp lo hi a b) : Kp lo hi a b.drew := ⟨h.os, h.tape, h.output, h.size, h.block⟩
theorem elC : El Try.prog 52 76 4 40 := El.mk (z := .agg #[.int .i64 0, .int .i64 0, .int .i64 0, .string ByteArray.empty]) Try.underlying52 infoC rfl (by omega) (by omega)
theorem flat_set {α : Type} {enc : α → List Value} {k : Nat} (hk : ∀ d, (enc d).length = k) : ∀ (ds : List α) (i : Nat) (hi : i < ds.length) (j : Nat) (_hj : j < k) (u : Value) (d' : α), enc d' = (enc ds[i]).set j u → (ds.flatMap enc).set (i * k + j) u = (ds.set i d').flatMap enc
  | [], i, hi, _, _, _, _, _ => absurd hi (by simp)
  | d :: ds, 0, hi, j, hj, u, d', he => by
    have he' : enc d' = (enc d).set j u := he
    rw [List.set_cons_zero, List.flatMap_cons, List.flatMap_cons, Nat.zero_mul, Nat.zero_add, List.set_append_left _ _ (by rw [hk]; exact hj), he']
  | d :: ds, i + 1, hi, j, hj, u, d', he => by
    have e1 : (i + 1) * k + j = k + (i * k + j) := by rw [Nat.add_mul]; omega
    rw [List.set_cons_succ, List.flatMap_cons, List.flatMap_cons, e1, List.set_append_right _ _ (by rw [hk]; omega), hk, Nat.add_sub_cancel_left, flat_set hk ds i (by simpa using hi) j hj u d' he]
/-- A store into field j of element i of a slice of the call's own. -/
theorem Own.put {α : Type} {enc : α → List Value} {k : Nat} (hk : ∀ d, (enc d).length = k) {w : World} {lo hi g n c : Nat} {e : TypeId} {ds : List α} (h : Own w lo hi e k enc (.slice (some ⟨g, 0, none⟩) n c) ds) (i : Nat) (hi_ : i < ds.length) (j : Nat) (hj : j < k) (u : Value) (d' : α) (he : enc d' = (enc ds[i]).set j u) :
    Own (w.setCell ⟨g, i * k + j, none⟩ u) lo hi e k enc (.slice (some ⟨g, 0, none⟩) n c) (ds.set i d') := by
  obtain ⟨h1, rfl⟩ := h.ow
  have h2 := h1.set (i * k + j) u
  rw [flat_set hk ds i hi_ j hj u d' he] at h2
  unfold Own
  rw [List.length_set]
  exact h2
theorem Own.at_ {α : Type} {enc : α → List Value} {k : Nat} (hk : ∀ d, (enc d).length = k) {w : World} {lo hi n c : Nat} {A : Option Addr} {e : TypeId} {ds : List α} (h : Own w lo hi e k enc (.slice A n c) ds) {i : Nat} (hi_ : i < ds.length) :
    ∃ g, A = some ⟨g, 0, none⟩ ∧ lo ≤ g ∧ g < hi ∧ (∀ j u, (enc ds[i])[j]? = some u → w.cell? ⟨g, i * k + j, none⟩ = some u) ∧ (∀ j, w.frozen? ⟨g, j, none⟩ = false) := by
  obtain ⟨h1, rfl⟩ := h.ow
  obtain ⟨g, hA, hl, hh, hc, hf⟩ := Ow.at_ h1 (by omega)
  refine ⟨g, hA, hl, hh, fun j u hu => ?_, hf⟩
  have hj : j < k := by
    rcases Nat.lt_or_ge j k with h | h
    · exact h
    · rw [List.getElem?_eq_none (by rw [hk]; exact h)] at hu; cases hu
  refine hc _ u ?_ ((flat_at hk ds i hi_ j hj).trans hu)
  have := Nat.mul_le_mul_right k (show i + 1 ≤ ds.length from hi_)
  rw [Nat.add_mul] at this; omega
def heldB (ds : List GCell) (at_ : Int) : Bool := decide (0 ≤ at_ ∧ at_ < ds.length) && decide (0 < (ds.getD at_.toNat ⟨0, gzero⟩).refs)
def addRef (c : GCell) : GCell := ⟨wrap64 (c.refs + 1), c.v⟩
def subRef (c : GCell) : GCell := ⟨wrap64 (c.refs - 1), if wrap64 (c.refs - 1) = 0 then gzero else c.v⟩
def holdL (ds : List GCell) (at_ : Int) : List GCell := if heldB ds at_ = true then ds.set at_.toNat (addRef (ds.getD at_.toNat ⟨0, gzero⟩)) else ds
def letL (ds : List GCell) (at_ : Int) : List GCell := if heldB ds at_ = true then ds.set at_.toNat (subRef (ds.getD at_.toNat ⟨0, gzero⟩)) else ds
set_option maxHeartbeats 400000 in
theorem specCopy_any (A : Option Addr) (ln c : Nat) (ds : List GCell) (w : World) (hs : Rd w 4 encC (.slice A ln c) ds) (hn : ds.length ≤ 1073741824) :
    Calls Try.prog 84 #[.agg #[.slice A ln c]] w fun e w' => ∃ v, e = .returned (.agg #[v]) ∧ Own w' w.heap.size w'.heap.size 76 4 encC v ds ∧ Below w.heap.size w w' := by
  obtain rfl := hs.len_eq
  have hz0 : (([] : List GCell).length + ds.length) * 40 ≤ 140737488355328 := by simp; omega
  go_enter Try.func84, Try.ntmps84
  have hs1 : Rd (((w.alloc (.cells #[.slice A ds.length c] 54)).alloc (.cells #[.slice none 0 0] 54)).alloc (.cells #[] 76)) 4 encC (.slice A ds.length c) ds := (by repeat (first | (with_reducible assumption) | (with_reducible refine Rd.drew ?_) | (with_reducible refine Rd.drewN ?_ _) | (with_reducible refine Rd.alloc ?_ _) | (exact Own.rd (fun _ => rfl) (by with_reducible assumption)) | (exact Sl.rd (by with_reducible assumption) (by first | omega | (· simp) | (· (simp; omega)))) | (refine Rd.below ?_ (by with_reducible assumption) ?_) | omega | (· simp) | (· (simp; omega))))
  have ho0 : Own (((w.alloc (.cells #[.slice A ds.length c] 54)).alloc (.cells #[.slice none 0 0] 54)).alloc (.cells #[] 76)) (w.heap.size + 1 + 1) (w.heap.size + 1 + 1 + 1) 76 4 encC (.slice (some ⟨w.heap.size + 1 + 1, 0, none⟩) 0 0) ([] : List GCell) := by
    have h := own_lit (α := GCell) (w := (w.alloc (.cells #[.slice A ds.length c] 54)).alloc (.cells #[.slice none 0 0] 54)) (lo := w.heap.size + 1 + 1) (k := 4) (n := 0) (e := 76) (enc := encC) (cs := #[]) (ds := []) (by simp) encC_len rfl (by unfold maxLen; omega) rfl
    simp only [World.size_alloc] at h
    exact h
  have hb0 : w.heap.size + 1 + 1 ≤ (((w.alloc (.cells #[.slice A ds.length c] 54)).alloc (.cells #[.slice none 0 0] 54)).alloc (.cells #[] 76)).heap.size := by simp
  go_wp2_with (at_builtin; refine wp_app elC encC_len encC_one rfl (.tmp 3) (.tmp 5) rfl _ [] rfl ho0 A c ds rfl hs1 hz0 hb0 ?_; intro v1 w1 ho1 hb1; obtain ⟨A1, n1, c1, rfl, HN1⟩ := ho1.form'; have hz1 := hb1.size; have k0 : w1.cell? ⟨w.heap.size + 1, 0, none⟩ = some (.slice none 0 0) := cell_below hb1 (by simp [go_sem]) (by simp); have f0 : w1.frozen? ⟨w.heap.size + 1, 0, none⟩ = false := (hb1.frozen (p := ⟨w.heap.size + 1, 0, none⟩) (by simp)).trans (by simp [go_sem]))
  have g1 : w1.heap[w.heap.size + 1]? = some (.cells #[.slice none 0 0] 54 (0, 0)) := (hb1.block (w.heap.size + 1) (by simp)).trans (by simp only [heap_new, World.size_alloc]; simp)
  simp only [World.size_alloc] at hz1
  refine bodyPost_ret (v := .agg #[.slice A1 n1 c1]) (ret_cell (t := 54) (fr := (0, 0)) rfl rfl Try.underlying54 (by kernel_rfl) ?_) rfl ⟨_, rfl, ?_, ?_⟩
  · simp only [heap_set, g1]; simp [setAt]
  · exact (ho1.setCellAny (p := ⟨w.heap.size + 1, 0, none⟩) (.inl (by simp)) _).wider (by omega) (by simp)
  · have hB : Below w.heap.size w w1 := ((by exact (by repeat (first | (with_reducible refine Below.setCell ?_ (by first | omega | (· simp) | (· (simp; omega))) _) | (with_reducible refine Below.alloc ?_ (by first | omega | (· simp) | (· (simp; omega))) _) | (with_reducible refine Below.drew ?_) | (with_reducible refine bdrewN ?_ _) | (with_reducible exact Below.refl _ _) | (with_reducible assumption) | (with_reducible refine Below.trans ?_ (Below.mono (by assumption) (by first | omega | (· simp) | (· (simp; omega))))) | (with_reducible refine Below.trans ?_ (Kp.below (by assumption) (by first | omega | (· simp) | (· (simp; omega))) (by first | omega | (· simp) | (· (simp; omega))))))) : Below w.heap.size w _).trans (hb1.mono (by omega)))
    exact (by repeat (first | (with_reducible refine Below.setCell ?_ (by first | omega | (· simp) | (· (simp; omega))) _) | (with_reducible refine Below.alloc ?_ (by first | omega | (· simp) | (· (simp; omega))) _) | (with_reducible refine Below.drew ?_) | (with_reducible refine bdrewN ?_ _) | (with_reducible exact Below.refl _ _) | (with_reducible assumption) | (with_reducible refine Below.trans ?_ (Below.mono (by assumption) (by first | omega | (· simp) | (· (simp; omega))))) | (with_reducible refine Below.trans ?_ (Kp.below (by assumption) (by first | omega | (· simp) | (· (simp; omega))) (by first | omega | (· simp) | (· (simp; omega)))))))
set_option maxHeartbeats 400000 in
theorem implCopy_any (A : Option Addr) (ln c : Nat) (ds : List GCell) (w : World) (hs : Rd w 4 encC (.slice A ln c) ds) (hn : ds.length ≤ 1073741824) :
    Calls Try.prog 80 #[.agg #[.slice A ln c]] w fun e w' => ∃ v, e = .returned (.agg #[v]) ∧ Own w' w.heap.size w'.heap.size 76 4 encC v ds ∧ Below w.heap.size w w' := by
  obtain rfl := hs.len_eq
  have hz0 : (([] : List GCell).length + ds.length) * 40 ≤ 140737488355328 := by simp; omega
  go_enter Try.func80, Try.ntmps80
  have hs1 : Rd ((w.alloc (.cells #[.slice A ds.length c] 54)).alloc (.cells #[.slice none 0 0] 54)) 4 encC (.slice A ds.length c) ds := (by repeat (first | (with_reducible assumption) | (with_reducible refine Rd.drew ?_) | (with_reducible refine Rd.drewN ?_ _) | (with_reducible refine Rd.alloc ?_ _) | (exact Own.rd (fun _ => rfl) (by with_reducible assumption)) | (exact Sl.rd (by with_reducible assumption) (by first | omega | (· simp) | (· (simp; omega)))) | (refine Rd.below ?_ (by with_reducible assumption) ?_) | omega | (· simp) | (· (simp; omega))))
  have ho0 : Own ((w.alloc (.cells #[.slice A ds.length c] 54)).alloc (.cells #[.slice none 0 0] 54)) (w.heap.size + 1 + 1) (w.heap.size + 1 + 1) 76 4 encC (.slice none 0 0) ([] : List GCell) := own_nil _ _ _ _ _ _
  have hb0 : w.heap.size + 1 + 1 ≤ ((w.alloc (.cells #[.slice A ds.length c] 54)).alloc (.cells #[.slice none 0 0] 54)).heap.size := by simp
  go_wp2_with (at_builtin; refine wp_app elC encC_len encC_one rfl (.const (.slice none 0 0)) (.tmp 4) rfl _ [] rfl ho0 A c ds rfl hs1 hz0 hb0 ?_; intro v1 w1 ho1 hb1; obtain ⟨A1, n1, c1, rfl, HN1⟩ := ho1.form'; have hz1 := hb1.size; have k0 : w1.cell? ⟨w.heap.size + 1, 0, none⟩ = some (.slice none 0 0) := cell_below hb1 (by simp [go_sem]) (by simp); have f0 : w1.frozen? ⟨w.heap.size + 1, 0, none⟩ = false := (hb1.frozen (p := ⟨w.heap.size + 1, 0, none⟩) (by simp)).trans (by simp [go_sem]))
  have g1 : w1.heap[w.heap.size + 1]? = some (.cells #[.slice none 0 0] 54 (0, 0)) := (hb1.block (w.heap.size + 1) (by simp)).trans (by simp only [heap_new, World.size_alloc]; simp)
  simp only [World.size_alloc] at hz1
  refine bodyPost_ret (v := .agg #[.slice A1 n1 c1]) (ret_cell (t := 54) (fr := (0, 0)) rfl rfl Try.underlying54 (by kernel_rfl) ?_) rfl ⟨_, rfl, ?_, ?_⟩
  · simp only [heap_set, g1]; simp [setAt]
  · exact (ho1.setCellAny (p := ⟨w.heap.size + 1, 0, none⟩) (.inl (by simp)) _).wider (by omega) (by simp)
  · have hB : Below w.heap.size w w1 := ((by exact (by repeat (first | (with_reducible refine Below.setCell ?_ (by first | omega | (· simp) | (· (simp; omega))) _) | (with_reducible refine Below.alloc ?_ (by first | omega | (· simp) | (· (simp; omega))) _) | (with_reducible refine Below.drew ?_) | (with_reducible refine bdrewN ?_ _) | (with_reducible exact Below.refl _ _) | (with_reducible assumption) | (with_reducible refine Below.trans ?_ (Below.mono (by assumption) (by first | omega | (· simp) | (· (simp; omega))))) | (with_reducible refine Below.trans ?_ (Kp.below (by assumption) (by first | omega | (· simp) | (· (simp; omega))) (by first | omega | (· simp) | (· (simp; omega))))))) : Below w.heap.size w _).trans (hb1.mono (by omega)))
    exact (by repeat (first | (with_reducible refine Below.setCell ?_ (by first | omega | (· simp) | (· (simp; omega))) _) | (with_reducible refine Below.alloc ?_ (by first | omega | (· simp) | (· (simp; omega))) _) | (with_reducible refine Below.drew ?_) | (with_reducible refine bdrewN ?_ _) | (with_reducible exact Below.refl _ _) | (with_reducible assumption) | (with_reducible refine Below.trans ?_ (Below.mono (by assumption) (by first | omega | (· simp) | (· (simp; omega))))) | (with_reducible refine Below.trans ?_ (Kp.below (by assumption) (by first | omega | (· simp) | (· (simp; omega))) (by first | omega | (· simp) | (· (simp; omega)))))))
theorem specHeld_any (A : Option Addr) (ln c : Nat) (ds : List GCell) (at_ : Int) (w : World) (hs : Rd w 4 encC (.slice A ln c) ds) :
    Calls Try.prog 107 #[.agg #[.slice A ln c], .int .i64 at_] w fun e w' => e = .returned (.bool (heldB ds at_)) ∧ Below w.heap.size w w' := by
  obtain rfl := hs.len_eq
  have hlen := hs.len_le
  have hs' : Rd (w.alloc (.cells #[.slice A ds.length c] 54)) 4 encC (.slice A ds.length c) ds := (by repeat (first | (with_reducible assumption) | (with_reducible refine Rd.drew ?_) | (with_reducible refine Rd.drewN ?_ _) | (with_reducible refine Rd.alloc ?_ _) | (exact Own.rd (fun _ => rfl) (by with_reducible assumption)) | (exact Sl.rd (by with_reducible assumption) (by first | omega | (· simp) | (· (simp; omega)))) | (refine Rd.below ?_ (by with_reducible assumption) ?_) | omega | (· simp) | (· (simp; omega))))
  by_cases h1 : 0 ≤ at_ ∧ at_ < ds.length
  · obtain ⟨i, rfl⟩ : ∃ i : Nat, at_ = (i : Int) := ⟨at_.toNat, by omega⟩
    have hi : i < ds.length := by omega
    have e : heldB ds (i : Int) = decide (0 < ds[i].refs) := by
      unfold heldB
      rw [decide_eq_true h1, Bool.true_and, Int.toNat_natCast, List.getD, List.getElem?_eq_getElem hi]; rfl
    rw [e]
    obtain ⟨b, o, rfl, _, hc⟩ := hs'.at_ hi
    have c0 := hc 0 _ rfl; have c1 := hc 1 _ rfl; have c2 := hc 2 _ rfl; have c3 := hc 3 _ rfl
    rw [Nat.add_zero] at c0
    clear hc h1 e
    have hin : inB (i : Int) 0 (ds.length - 1) = true := by simp [inB]; omega
    by_cases hr : 0 < ds[i].refs
    · rw [decide_eq_true hr]
      go_enter Try.func107, Try.ntmps107
      go_wp2_with (go_at_call 59; refine (within_any _ _ _ _).mono ?_; rintro e w1 ⟨rfl, rfl⟩)
      go_ret
      exact ⟨rfl, (by repeat (first | (with_reducible refine Below.setCell ?_ (by first | omega | (· simp) | (· (simp; omega))) _) | (with_reducible refine Below.alloc ?_ (by first | omega | (· simp) | (· (simp; omega))) _) | (with_reducible refine Below.drew ?_) | (with_reducible refine bdrewN ?_ _) | (with_reducible exact Below.refl _ _) | (with_reducible assumption) | (with_reducible refine Below.trans ?_ (Below.mono (by assumption) (by first | omega | (· simp) | (· (simp; omega))))) | (with_reducible refine Below.trans ?_ (Kp.below (by assumption) (by first | omega | (· simp) | (· (simp; omega))) (by first | omega | (· simp) | (· (simp; omega)))))))⟩
    · rw [decide_eq_false hr]
      go_enter Try.func107, Try.ntmps107
      go_wp2_with (go_at_call 59; refine (within_any _ _ _ _).mono ?_; rintro e w1 ⟨rfl, rfl⟩)
      go_ret
      exact ⟨rfl, (by repeat (first | (with_reducible refine Below.setCell ?_ (by first | omega | (· simp) | (· (simp; omega))) _) | (with_reducible refine Below.alloc ?_ (by first | omega | (· simp) | (· (simp; omega))) _) | (with_reducible refine Below.drew ?_) | (with_reducible refine bdrewN ?_ _) | (with_reducible exact Below.refl _ _) | (with_reducible assumption) | (with_reducible refine Below.trans ?_ (Below.mono (by assumption) (by first | omega | (· simp) | (· (simp; omega))))) | (with_reducible refine Below.trans ?_ (Kp.below (by assumption) (by first | omega | (· simp) | (· (simp; omega))) (by first | omega | (· simp) | (· (simp; omega)))))))⟩
  · have e : heldB ds at_ = false := by unfold heldB; rw [decide_eq_false h1, Bool.false_and]
    rw [e]
    have hin : inB at_ 0 (ds.length - 1) = false := by simp [inB]; omega
    by_cases h2 : at_ < 0
    · clear h1 e
      go_enter Try.func107, Try.ntmps107
      go_wp2_with (go_at_call 59; refine (within_any _ _ _ _).mono ?_; rintro e w1 ⟨rfl, rfl⟩)
      go_ret
      exact ⟨rfl, (by repeat (first | (with_reducible refine Below.setCell ?_ (by first | omega | (· simp) | (· (simp; omega))) _) | (with_reducible refine Below.alloc ?_ (by first | omega | (· simp) | (· (simp; omega))) _) | (with_reducible refine Below.drew ?_) | (with_reducible refine bdrewN ?_ _) | (with_reducible exact Below.refl _ _) | (with_reducible assumption) | (with_reducible refine Below.trans ?_ (Below.mono (by assumption) (by first | omega | (· simp) | (· (simp; omega))))) | (with_reducible refine Below.trans ?_ (Kp.below (by assumption) (by first | omega | (· simp) | (· (simp; omega))) (by first | omega | (· simp) | (· (simp; omega)))))))⟩
    · have h3 : (ds.length : Int) ≤ at_ := by omega
      clear h1 e
      go_enter Try.func107, Try.ntmps107
      go_wp2_with (go_at_call 59; refine (within_any _ _ _ _).mono ?_; rintro e w1 ⟨rfl, rfl⟩)
      go_ret
      exact ⟨rfl, (by repeat (first | (with_reducible refine Below.setCell ?_ (by first | omega | (· simp) | (· (simp; omega))) _) | (with_reducible refine Below.alloc ?_ (by first | omega | (· simp) | (· (simp; omega))) _) | (with_reducible refine Below.drew ?_) | (with_reducible refine bdrewN ?_ _) | (with_reducible exact Below.refl _ _) | (with_reducible assumption) | (with_reducible refine Below.trans ?_ (Below.mono (by assumption) (by first | omega | (· simp) | (· (simp; omega))))) | (with_reducible refine Below.trans ?_ (Kp.below (by assumption) (by first | omega | (· simp) | (· (simp; omega))) (by first | omega | (· simp) | (· (simp; omega)))))))⟩
set_option maxRecDepth 100000 in
set_option maxHeartbeats 1000000 in
theorem specHoldIn_any (A : Option Addr) (ln c lo hi p : Nat) (ds : List GCell) (at_ : Int) (w : World) (ho : Own w lo hi 76 4 encC (.slice A ln c) ds) (hp : w.cell? ⟨p, 0, none⟩ = some (.slice A ln c)) (hpo : p < lo ∨ hi ≤ p) (hps : p < w.heap.size) (hhi : hi ≤ w.heap.size) :
    Calls Try.prog 85 #[.pointer (some ⟨p, 0, none⟩), .int .i64 at_] w fun e w' => e = .returned (.tuple #[]) ∧ Own w' lo hi 76 4 encC (.slice A ln c) (holdL ds at_) ∧ Kp lo hi w w' := by
  have hs : Rd w 4 encC (.slice A ln c) ds := ho.rd encC_len
  cases hh : heldB ds at_
  · have e : holdL ds at_ = ds := by unfold holdL; rw [if_neg (by rw [hh]; decide)]
    rw [e]
    go_enter Try.func85, Try.ntmps85
    go_wp2_with (go_at_call 107; refine (specHeld_any _ _ _ ds _ _ (by repeat (first | (with_reducible assumption) | (with_reducible refine Rd.drew ?_) | (with_reducible refine Rd.drewN ?_ _) | (with_reducible refine Rd.alloc ?_ _) | (exact Own.rd (fun _ => rfl) (by with_reducible assumption)) | (exact Sl.rd (by with_reducible assumption) (by first | omega | (· simp) | (· (simp; omega)))) | (refine Rd.below ?_ (by with_reducible assumption) ?_) | omega | (· simp) | (· (simp; omega))))).mono ?_; rintro e w1 ⟨rfl, hb1⟩)
    go_end0
    exact ⟨rfl, ho.below hb1 hhi, Kp.of_below hb1⟩
  · have h1 : 0 ≤ at_ ∧ at_ < ds.length := by
      unfold heldB at hh; rw [Bool.and_eq_true] at hh; exact of_decide_eq_true hh.1
    obtain ⟨i, rfl⟩ : ∃ i : Nat, at_ = (i : Int) := ⟨at_.toNat, by omega⟩
    have hi_ : i < ds.length := by omega
    have e : holdL ds (i : Int) = ds.set i (addRef ds[i]) := by
      unfold holdL; rw [if_pos hh, Int.toNat_natCast, List.getD, List.getElem?_eq_getElem hi_]; rfl
    rw [e]
    have hnl := ho.ow.2
    have hlt2 : i < ln := by omega
    have HH := Lib.hid hh
    have HN := Lib.hid hnl
    clear h1 e hh hnl
    go_enter Try.func85, Try.ntmps85
    go_wp2_with (go_at_call 107; refine (specHeld_any _ _ _ ds _ _ (by repeat (first | (with_reducible assumption) | (with_reducible refine Rd.drew ?_) | (with_reducible refine Rd.drewN ?_ _) | (with_reducible refine Rd.alloc ?_ _) | (exact Own.rd (fun _ => rfl) (by with_reducible assumption)) | (exact Sl.rd (by with_reducible assumption) (by first | omega | (· simp) | (· (simp; omega)))) | (refine Rd.below ?_ (by with_reducible assumption) ?_) | omega | (· simp) | (· (simp; omega))))).mono ?_; rw [HH.out]; rintro e w1 ⟨rfl, hb1⟩; have hz1 := hb1.size; have ho1 := ho.below hb1 hhi; have hp1 := cell_below hb1 hp hps; obtain ⟨g, rfl, hg1, hg2, hc, hf⟩ := ho1.at_ encC_len hi_; have c0 := hc 0 _ rfl; rw [Nat.add_zero] at c0; clear hc; have hgp : g ≠ p := by omega)
    go_still_tail 16, (by kernel_rfl)
    change wpList _ _ _ _ _ w1.drew
    go_wp2
    go_end0
    have e2 : (encC (addRef ds[i])) = (encC ds[i]).set 0 (.int .i64 (wrap64 (ds[i].refs + 1))) := rfl
    have hw := ho1.put encC_len i hi_ 0 (by omega) (.int .i64 (wrap64 (ds[i].refs + 1))) (addRef ds[i]) e2
    rw [Nat.add_zero] at hw
    exact ⟨rfl, hw.drew, ((Kp.of_below hb1).set hg1 hg2 _).drew_⟩
theorem implHeld_any (A : Option Addr) (ln c : Nat) (ds : List GCell) (at_ : Int) (w : World) (hs : Rd w 4 encC (.slice A ln c) ds) :
    Calls Try.prog 106 #[.agg #[.slice A ln c], .int .i64 at_] w fun e w' => e = .returned (.bool (heldB ds at_)) ∧ Below w.heap.size w w' := by
  obtain rfl := hs.len_eq
  have hlen := hs.len_le
  have hs' : Rd (w.alloc (.cells #[.slice A ds.length c] 54)) 4 encC (.slice A ds.length c) ds := (by repeat (first | (with_reducible assumption) | (with_reducible refine Rd.drew ?_) | (with_reducible refine Rd.drewN ?_ _) | (with_reducible refine Rd.alloc ?_ _) | (exact Own.rd (fun _ => rfl) (by with_reducible assumption)) | (exact Sl.rd (by with_reducible assumption) (by first | omega | (· simp) | (· (simp; omega)))) | (refine Rd.below ?_ (by with_reducible assumption) ?_) | omega | (· simp) | (· (simp; omega))))
  by_cases h1 : 0 ≤ at_ ∧ at_ < ds.length
  · obtain ⟨i, rfl⟩ : ∃ i : Nat, at_ = (i : Int) := ⟨at_.toNat, by omega⟩
    have hi : i < ds.length := by omega
    have e : heldB ds (i : Int) = decide (0 < ds[i].refs) := by
      unfold heldB
      rw [decide_eq_true h1, Bool.true_and, Int.toNat_natCast, List.getD, List.getElem?_eq_getElem hi]; rfl
    rw [e]
    obtain ⟨b, o, rfl, _, hc⟩ := hs'.at_ hi
    have c0 := hc 0 _ rfl; have c1 := hc 1 _ rfl; have c2 := hc 2 _ rfl; have c3 := hc 3 _ rfl
    rw [Nat.add_zero] at c0
    clear hc h1 e
    have hin : inB (i : Int) 0 (ds.length - 1) = true := by simp [inB]; omega
    by_cases hr : 0 < ds[i].refs
    · rw [decide_eq_true hr]
      go_enter Try.func106, Try.ntmps106
      go_wp2_with (go_at_call 59; refine (within_any _ _ _ _).mono ?_; rintro e w1 ⟨rfl, rfl⟩)
      go_ret
      exact ⟨rfl, (by repeat (first | (with_reducible refine Below.setCell ?_ (by first | omega | (· simp) | (· (simp; omega))) _) | (with_reducible refine Below.alloc ?_ (by first | omega | (· simp) | (· (simp; omega))) _) | (with_reducible refine Below.drew ?_) | (with_reducible refine bdrewN ?_ _) | (with_reducible exact Below.refl _ _) | (with_reducible assumption) | (with_reducible refine Below.trans ?_ (Below.mono (by assumption) (by first | omega | (· simp) | (· (simp; omega))))) | (with_reducible refine Below.trans ?_ (Kp.below (by assumption) (by first | omega | (· simp) | (· (simp; omega))) (by first | omega | (· simp) | (· (simp; omega)))))))⟩
    · rw [decide_eq_false hr]
      go_enter Try.func106, Try.ntmps106
      go_wp2_with (go_at_call 59; refine (within_any _ _ _ _).mono ?_; rintro e w1 ⟨rfl, rfl⟩)
      go_ret
      exact ⟨rb (by simp [hr]), (by repeat (first | (with_reducible refine Below.setCell ?_ (by first | omega | (· simp) | (· (simp; omega))) _) | (with_reducible refine Below.alloc ?_ (by first | omega | (· simp) | (· (simp; omega))) _) | (with_reducible refine Below.drew ?_) | (with_reducible refine bdrewN ?_ _) | (with_reducible exact Below.refl _ _) | (with_reducible assumption) | (with_reducible refine Below.trans ?_ (Below.mono (by assumption) (by first | omega | (· simp) | (· (simp; omega))))) | (with_reducible refine Below.trans ?_ (Kp.below (by assumption) (by first | omega | (· simp) | (· (simp; omega))) (by first | omega | (· simp) | (· (simp; omega)))))))⟩
  · have e : heldB ds at_ = false := by unfold heldB; rw [decide_eq_false h1, Bool.false_and]
    rw [e]
    have hin : inB at_ 0 (ds.length - 1) = false := by simp [inB]; omega
    by_cases h2 : at_ < 0
    · clear h1 e
      go_enter Try.func106, Try.ntmps106
      go_wp2_with (go_at_call 59; refine (within_any _ _ _ _).mono ?_; rintro e w1 ⟨rfl, rfl⟩)
      go_ret
      exact ⟨rfl, (by repeat (first | (with_reducible refine Below.setCell ?_ (by first | omega | (· simp) | (· (simp; omega))) _) | (with_reducible refine Below.alloc ?_ (by first | omega | (· simp) | (· (simp; omega))) _) | (with_reducible refine Below.drew ?_) | (with_reducible refine bdrewN ?_ _) | (with_reducible exact Below.refl _ _) | (with_reducible assumption) | (with_reducible refine Below.trans ?_ (Below.mono (by assumption) (by first | omega | (· simp) | (· (simp; omega))))) | (with_reducible refine Below.trans ?_ (Kp.below (by assumption) (by first | omega | (· simp) | (· (simp; omega))) (by first | omega | (· simp) | (· (simp; omega)))))))⟩
    · have h3 : (ds.length : Int) ≤ at_ := by omega
      clear h1 e
      go_enter Try.func106, Try.ntmps106
      go_wp2_with (go_at_call 59; refine (within_any _ _ _ _).mono ?_; rintro e w1 ⟨rfl, rfl⟩)
      go_ret
      exact ⟨rfl, (by repeat (first | (with_reducible refine Below.setCell ?_ (by first | omega | (· simp) | (· (simp; omega))) _) | (with_reducible refine Below.alloc ?_ (by first | omega | (· simp) | (· (simp; omega))) _) | (with_reducible refine Below.drew ?_) | (with_reducible refine bdrewN ?_ _) | (with_reducible exact Below.refl _ _) | (with_reducible assumption) | (with_reducible refine Below.trans ?_ (Below.mono (by assumption) (by first | omega | (· simp) | (· (simp; omega))))) | (with_reducible refine Below.trans ?_ (Kp.below (by assumption) (by first | omega | (· simp) | (· (simp; omega))) (by first | omega | (· simp) | (· (simp; omega)))))))⟩
set_option maxHeartbeats 1000000 in
theorem implHoldIn_any (A : Option Addr) (ln c lo hi p : Nat) (ds : List GCell) (at_ : Int) (w : World) (ho : Own w lo hi 76 4 encC (.slice A ln c) ds) (hp : w.cell? ⟨p, 0, none⟩ = some (.slice A ln c)) (hpo : p < lo ∨ hi ≤ p) (hps : p < w.heap.size) (hhi : hi ≤ w.heap.size) :
    Calls Try.prog 83 #[.pointer (some ⟨p, 0, none⟩), .int .i64 at_] w fun e w' => e = .returned (.tuple #[]) ∧ Own w' lo hi 76 4 encC (.slice A ln c) (holdL ds at_) ∧ Kp lo hi w w' := by
  have hs : Rd w 4 encC (.slice A ln c) ds := ho.rd encC_len
  cases hh : heldB ds at_
  · have e : holdL ds at_ = ds := by unfold holdL; rw [if_neg (by rw [hh]; decide)]
    rw [e]
    go_enter Try.func83, Try.ntmps83
    go_wp2_with (go_at_call 106; refine (implHeld_any _ _ _ ds _ _ (by repeat (first | (with_reducible assumption) | (with_reducible refine Rd.drew ?_) | (with_reducible refine Rd.drewN ?_ _) | (with_reducible refine Rd.alloc ?_ _) | (exact Own.rd (fun _ => rfl) (by with_reducible assumption)) | (exact Sl.rd (by with_reducible assumption) (by first | omega | (· simp) | (· (simp; omega)))) | (refine Rd.below ?_ (by with_reducible assumption) ?_) | omega | (· simp) | (· (simp; omega))))).mono ?_; rintro e w1 ⟨rfl, hb1⟩)
    go_end0
    exact ⟨rfl, ho.below hb1 hhi, Kp.of_below hb1⟩
  · have h1 : 0 ≤ at_ ∧ at_ < ds.length := by
      unfold heldB at hh; rw [Bool.and_eq_true] at hh; exact of_decide_eq_true hh.1
    obtain ⟨i, rfl⟩ : ∃ i : Nat, at_ = (i : Int) := ⟨at_.toNat, by omega⟩
    have hi_ : i < ds.length := by omega
    have e : holdL ds (i : Int) = ds.set i (addRef ds[i]) := by
      unfold holdL; rw [if_pos hh, Int.toNat_natCast, List.getD, List.getElem?_eq_getElem hi_]; rfl
    rw [e]
    have hnl := ho.ow.2
    have hlt2 : i < ln := by omega
    have HH := Lib.hid hh
    have HN := Lib.hid hnl
    clear h1 e hh hnl
    go_enter Try.func83, Try.ntmps83
    go_wp2_with (go_at_call 106; refine (implHeld_any _ _ _ ds _ _ (by repeat (first | (with_reducible assumption) | (with_reducible refine Rd.drew ?_) | (with_reducible refine Rd.drewN ?_ _) | (with_reducible refine Rd.alloc ?_ _) | (exact Own.rd (fun _ => rfl) (by with_reducible assumption)) | (exact Sl.rd (by with_reducible assumption) (by first | omega | (· simp) | (· (simp; omega)))) | (refine Rd.below ?_ (by with_reducible assumption) ?_) | omega | (· simp) | (· (simp; omega))))).mono ?_; rw [HH.out]; rintro e w1 ⟨rfl, hb1⟩; have hz1 := hb1.size; have ho1 := ho.below hb1 hhi; have hp1 := cell_below hb1 hp hps; obtain ⟨g, rfl, hg1, hg2, hc, hf⟩ := ho1.at_ encC_len hi_; have c0 := hc 0 _ rfl; rw [Nat.add_zero] at c0; clear hc; have hgp : g ≠ p := by omega)
    go_end0
    have e2 : (encC (addRef ds[i])) = (encC ds[i]).set 0 (.int .i64 (wrap64 (ds[i].refs + 1))) := rfl
    have hw := ho1.put encC_len i hi_ 0 (by omega) (.int .i64 (wrap64 (ds[i].refs + 1))) (addRef ds[i]) e2
    rw [Nat.add_zero] at hw
    exact ⟨rfl, hw, (Kp.of_below hb1).set hg1 hg2 _⟩
end Go.Proofs.Ytjgmdbhbnpafgaa
