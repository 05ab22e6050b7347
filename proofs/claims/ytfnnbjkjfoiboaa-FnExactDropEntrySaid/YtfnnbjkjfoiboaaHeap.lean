/- Heaps: ValAt, HeldOf, HeapOk of both sides. -/
import Derived.Test.YtfnnbjkjfoiboaaCell
import Derived.Test.YtfnnbjkjfoiboaaIns
namespace Go.Proofs.Ytfnnbjkjfoiboaa
open Go.RowKit

def szHeap (ds : List GCell) (left : Int) : Int := if szS szCellF ds left < 0 then -1 else szS szCellF ds left
theorem szHeap_any (A : Option Addr) (ln c : Nat) (ds : List GCell) (left : Int) (w : World) (hs : Rd w 4 encC (.slice A ln c) ds) (hsz : ∀ d ∈ ds, d.v.s.size ≤ maxLen) (h0 : 0 ≤ left) (h1 : left ≤ 1048576) :
    Calls Try.prog 15 #[.agg #[.slice A ln c], .int .i64 left] w fun e w' => e = .returned (.int .i64 (szHeap ds left)) ∧ Below w.heap.size w w' := by
  by_cases h : szS szCellF ds left < 0
  · have e : szHeap ds left = -1 := if_pos h
    rw [e]
    clear e
    go_enter Try.func15, Try.ntmps15
    go_wp2_with (go_at_call 68; refine (szCellS_any _ _ _ ds _ _ (by repeat (first | (with_reducible assumption) | (with_reducible refine Rd.drew ?_) | (with_reducible refine Rd.drewN ?_ _) | (with_reducible refine Rd.alloc ?_ _) | (exact Own.rd (fun _ => rfl) (by with_reducible assumption)) | (exact Sl.rd (by with_reducible assumption) (by first | omega | (· simp) | (· (simp; omega)))) | (refine Rd.below ?_ (by with_reducible assumption) ?_) | omega | (· simp) | (· (simp; omega)))) hsz h0 h1).mono ?_; rintro e w1 ⟨rfl, hb1⟩)
    go_ret
    exact ⟨rfl, (by repeat (first | (with_reducible refine Below.setCell ?_ (by first | omega | (· simp) | (· (simp; omega))) _) | (with_reducible refine Below.alloc ?_ (by first | omega | (· simp) | (· (simp; omega))) _) | (with_reducible refine Below.drew ?_) | (with_reducible refine bdrewN ?_ _) | (with_reducible exact Below.refl _ _) | (with_reducible assumption) | (with_reducible refine Below.trans ?_ (Below.mono (by assumption) (by first | omega | (· simp) | (· (simp; omega))))) | (with_reducible refine Below.trans ?_ (Kp.below (by assumption) (by first | omega | (· simp) | (· (simp; omega))) (by first | omega | (· simp) | (· (simp; omega)))))))⟩
  · have e : szHeap ds left = szS szCellF ds left := if_neg h
    rw [e]
    clear e
    go_enter Try.func15, Try.ntmps15
    go_wp2_with (go_at_call 68; refine (szCellS_any _ _ _ ds _ _ (by repeat (first | (with_reducible assumption) | (with_reducible refine Rd.drew ?_) | (with_reducible refine Rd.drewN ?_ _) | (with_reducible refine Rd.alloc ?_ _) | (exact Own.rd (fun _ => rfl) (by with_reducible assumption)) | (exact Sl.rd (by with_reducible assumption) (by first | omega | (· simp) | (· (simp; omega)))) | (refine Rd.below ?_ (by with_reducible assumption) ?_) | omega | (· simp) | (· (simp; omega)))) hsz h0 h1).mono ?_; rintro e w1 ⟨rfl, hb1⟩)
    go_ret
    exact ⟨rfl, (by repeat (first | (with_reducible refine Below.setCell ?_ (by first | omega | (· simp) | (· (simp; omega))) _) | (with_reducible refine Below.alloc ?_ (by first | omega | (· simp) | (· (simp; omega))) _) | (with_reducible refine Below.drew ?_) | (with_reducible refine bdrewN ?_ _) | (with_reducible exact Below.refl _ _) | (with_reducible assumption) | (with_reducible refine Below.trans ?_ (Below.mono (by assumption) (by first | omega | (· simp) | (· (simp; omega))))) | (with_reducible refine Below.trans ?_ (Kp.below (by assumption) (by first | omega | (· simp) | (· (simp; omega))) (by first | omega | (· simp) | (· (simp; omega)))))))⟩
theorem szHeap_bound {ds : List GCell} (h : ¬ szHeap ds 1048576 < 0) : ds.length ≤ 1048576 := by
  unfold szHeap at h
  by_cases h2 : szS szCellF ds 1048576 < 0
  · rw [if_pos h2] at h; omega
  · unfold szS at h2
    split at h2 <;> omega
theorem toHeap_any (A : Option Addr) (ln c : Nat) (ds : List GCell) (w : World) (hs : Rd w 4 encC (.slice A ln c) ds) (hn : ds.length ≤ 1073741824) :
    Calls Try.prog 18 #[.agg #[.slice A ln c]] w fun e w' => ∃ v, e = .returned (.agg #[v]) ∧ Own w' w.heap.size w'.heap.size 58 4 encC v ds ∧ Below w.heap.size w w' := by
  go_enter Try.func18, Try.ntmps18
  go_wp2_with (go_at_call 71; refine (toCellS_any _ _ _ ds _ (by repeat (first | (with_reducible assumption) | (with_reducible refine Rd.drew ?_) | (with_reducible refine Rd.drewN ?_ _) | (with_reducible refine Rd.alloc ?_ _) | (exact Own.rd (fun _ => rfl) (by with_reducible assumption)) | (exact Sl.rd (by with_reducible assumption) (by first | omega | (· simp) | (· (simp; omega)))) | (refine Rd.below ?_ (by with_reducible assumption) ?_) | omega | (· simp) | (· (simp; omega)))) hn).mono ?_; rintro e w1 ⟨v1, rfl, ho1, hb1⟩; obtain ⟨A1, n1, c1, rfl, HN1⟩ := ho1.form'; have hza := hb1.size; (try simp only [World.size_alloc, World.size_drew, World.size_setCell] at hza); have ka0 := blk hb1 (b := w.heap.size + 1) (by first | omega | (· simp) | (· (simp; omega))); have ka1 := blk hb1 (b := w.heap.size + 1 + 1) (by first | omega | (· simp) | (· (simp; omega))); have fa0 := bfz hb1 (b := w.heap.size + 1) (by first | omega | (· simp) | (· (simp; omega))); have fa1 := bfz hb1 (b := w.heap.size + 1 + 1) (by first | omega | (· simp) | (· (simp; omega))))
  have g1 : w1.heap[w.heap.size + 1]? = some (.cells #[.slice none 0 0] 31 (0, 0)) := (hb1.block (w.heap.size + 1) (by simp)).trans (by simp only [heap_new, World.size_alloc]; simp)
  refine bodyPost_ret (v := .agg #[.slice A1 n1 c1]) (ret_cell (t := 31) (fr := (0, 0)) rfl rfl Try.underlying31 (by kernel_rfl) ?_) rfl ⟨_, rfl, ?_, ?_⟩
  · simp only [heap_set, g1]; simp [setAt]
  · refine Own.wider (Ow.of_block ho1 fun g hg _ _ => ?_) (by simp; omega) (by simp)
    simp only [World.size_alloc] at hg
    simp only [heap_set]
    repeat rw [if_neg (by omega)]
  · exact (by repeat (first | (with_reducible refine Below.setCell ?_ (by first | omega | (· simp) | (· (simp; omega))) _) | (with_reducible refine Below.alloc ?_ (by first | omega | (· simp) | (· (simp; omega))) _) | (with_reducible refine Below.drew ?_) | (with_reducible refine bdrewN ?_ _) | (with_reducible exact Below.refl _ _) | (with_reducible assumption) | (with_reducible refine Below.trans ?_ (Below.mono (by assumption) (by first | omega | (· simp) | (· (simp; omega))))) | (with_reducible refine Below.trans ?_ (Kp.below (by assumption) (by first | omega | (· simp) | (· (simp; omega))) (by first | omega | (· simp) | (· (simp; omega)))))))
theorem eqHeap_same (A B : Option Addr) (ln ln' c c' : Nat) (ds : List GCell) (w : World) (hs : Rd w 4 encC (.slice A ln c) ds) (ht : Rd w 4 encC (.slice B ln' c') ds) :
    Calls Try.prog 21 #[.agg #[.slice A ln c], .agg #[.slice B ln' c']] w fun e w' => e = .returned (.bool true) ∧ Below w.heap.size w w' := by
  go_enter Try.func21, Try.ntmps21
  go_wp2_with (go_at_call 74; refine (eqCellS_same _ _ _ _ _ _ ds _ (by repeat (first | (with_reducible assumption) | (with_reducible refine Rd.drew ?_) | (with_reducible refine Rd.drewN ?_ _) | (with_reducible refine Rd.alloc ?_ _) | (exact Own.rd (fun _ => rfl) (by with_reducible assumption)) | (exact Sl.rd (by with_reducible assumption) (by first | omega | (· simp) | (· (simp; omega)))) | (refine Rd.below ?_ (by with_reducible assumption) ?_) | omega | (· simp) | (· (simp; omega)))) (by repeat (first | (with_reducible assumption) | (with_reducible refine Rd.drew ?_) | (with_reducible refine Rd.drewN ?_ _) | (with_reducible refine Rd.alloc ?_ _) | (exact Own.rd (fun _ => rfl) (by with_reducible assumption)) | (exact Sl.rd (by with_reducible assumption) (by first | omega | (· simp) | (· (simp; omega)))) | (refine Rd.below ?_ (by with_reducible assumption) ?_) | omega | (· simp) | (· (simp; omega))))).mono ?_; rintro e w1 ⟨rfl, hb1⟩)
  go_ret
  exact ⟨rfl, (by repeat (first | (with_reducible refine Below.setCell ?_ (by first | omega | (· simp) | (· (simp; omega))) _) | (with_reducible refine Below.alloc ?_ (by first | omega | (· simp) | (· (simp; omega))) _) | (with_reducible refine Below.drew ?_) | (with_reducible refine bdrewN ?_ _) | (with_reducible exact Below.refl _ _) | (with_reducible assumption) | (with_reducible refine Below.trans ?_ (Below.mono (by assumption) (by first | omega | (· simp) | (· (simp; omega))))) | (with_reducible refine Below.trans ?_ (Kp.below (by assumption) (by first | omega | (· simp) | (· (simp; omega))) (by first | omega | (· simp) | (· (simp; omega)))))))⟩
def gzero : GVal := ⟨0, 0, ⟨#[]⟩⟩
def valAt (ds : List GCell) (at_ : Int) : GVal := if 0 ≤ at_ ∧ at_ < ds.length then (ds.getD at_.toNat ⟨0, gzero⟩).v else gzero
set_option maxHeartbeats 400000 in
theorem specValAt_any (A : Option Addr) (ln c : Nat) (ds : List GCell) (at_ : Int) (w : World) (hs : Rd w 4 encC (.slice A ln c) ds) :
    Calls Try.prog 40 #[.agg #[.slice A ln c], .int .i64 at_] w fun e w' => e = .returned (.agg #[.int .i64 (valAt ds at_).k, .int .i64 (valAt ds at_).n, .string (valAt ds at_).s]) ∧ Below w.heap.size w w' := by
  obtain rfl := hs.len_eq
  have hlen := hs.len_le
  have hs' : Rd ((w.alloc (.cells #[.slice A ds.length c] 31)).alloc (.cells #[.int .i64 0, .int .i64 0, .string ⟨#[]⟩] 35)) 4 encC (.slice A ds.length c) ds := (by repeat (first | (with_reducible assumption) | (with_reducible refine Rd.drew ?_) | (with_reducible refine Rd.drewN ?_ _) | (with_reducible refine Rd.alloc ?_ _) | (exact Own.rd (fun _ => rfl) (by with_reducible assumption)) | (exact Sl.rd (by with_reducible assumption) (by first | omega | (· simp) | (· (simp; omega)))) | (refine Rd.below ?_ (by with_reducible assumption) ?_) | omega | (· simp) | (· (simp; omega))))
  by_cases h1 : 0 ≤ at_ ∧ at_ < ds.length
  · obtain ⟨i, rfl⟩ : ∃ i : Nat, at_ = (i : Int) := ⟨at_.toNat, by omega⟩
    have hi : i < ds.length := by omega
    have e : valAt ds (i : Int) = ds[i].v := by
      unfold valAt
      rw [if_pos h1, Int.toNat_natCast, List.getD, List.getElem?_eq_getElem hi]; rfl
    rw [e]
    obtain ⟨b, o, rfl, _, hc⟩ := hs'.at_ hi
    have c0 := hc 0 _ rfl; have c1 := hc 1 _ rfl; have c2 := hc 2 _ rfl; have c3 := hc 3 _ rfl
    rw [Nat.add_zero] at c0
    clear hc h1 e
    have hin : inB (i : Int) 0 (ds.length - 1) = true := by simp [inB]; omega
    go_enter Try.func40, Try.ntmps40
    go_wp2_with (go_at_call 93; refine (within_any _ _ _ _).mono ?_; rintro e w1 ⟨rfl, rfl⟩)
    refine bodyPost_ret (v := .agg #[.int .i64 ds[i].v.k, .int .i64 ds[i].v.n, .string ds[i].v.s]) (ret_cell (t := 35) (fr := (0, 0)) rfl rfl Try.underlying35 (by kernel_rfl) ?_) rfl ⟨rfl, ?_⟩
    · skip
      simp only [heap_set, heap_new]; simp [setAt]
    · exact (by repeat (first | (with_reducible refine Below.setCell ?_ (by first | omega | (· simp) | (· (simp; omega))) _) | (with_reducible refine Below.alloc ?_ (by first | omega | (· simp) | (· (simp; omega))) _) | (with_reducible refine Below.drew ?_) | (with_reducible refine bdrewN ?_ _) | (with_reducible exact Below.refl _ _) | (with_reducible assumption) | (with_reducible refine Below.trans ?_ (Below.mono (by assumption) (by first | omega | (· simp) | (· (simp; omega))))) | (with_reducible refine Below.trans ?_ (Kp.below (by assumption) (by first | omega | (· simp) | (· (simp; omega))) (by first | omega | (· simp) | (· (simp; omega)))))))
  · have e : valAt ds at_ = gzero := if_neg h1
    rw [e]
    have hin : inB at_ 0 (ds.length - 1) = false := by simp [inB]; omega
    by_cases h2 : at_ < 0
    · clear h1 e
      go_enter Try.func40, Try.ntmps40
      go_wp2_with (go_at_call 93; refine (within_any _ _ _ _).mono ?_; rintro e w1 ⟨rfl, rfl⟩)
      refine bodyPost_ret (v := .agg #[.int .i64 0, .int .i64 0, .string ⟨#[]⟩]) (ret_cell (t := 35) (fr := (0, 0)) rfl rfl Try.underlying35 (by kernel_rfl) ?_) rfl ⟨rfl, ?_⟩
      · simp only [heap_set, heap_new]; simp [setAt]
      · exact (by repeat (first | (with_reducible refine Below.setCell ?_ (by first | omega | (· simp) | (· (simp; omega))) _) | (with_reducible refine Below.alloc ?_ (by first | omega | (· simp) | (· (simp; omega))) _) | (with_reducible refine Below.drew ?_) | (with_reducible refine bdrewN ?_ _) | (with_reducible exact Below.refl _ _) | (with_reducible assumption) | (with_reducible refine Below.trans ?_ (Below.mono (by assumption) (by first | omega | (· simp) | (· (simp; omega))))) | (with_reducible refine Below.trans ?_ (Kp.below (by assumption) (by first | omega | (· simp) | (· (simp; omega))) (by first | omega | (· simp) | (· (simp; omega)))))))
    · have h3 : (ds.length : Int) ≤ at_ := by omega
      clear h1 e
      go_enter Try.func40, Try.ntmps40
      go_wp2_with (go_at_call 93; refine (within_any _ _ _ _).mono ?_; rintro e w1 ⟨rfl, rfl⟩)
      refine bodyPost_ret (v := .agg #[.int .i64 0, .int .i64 0, .string ⟨#[]⟩]) (ret_cell (t := 35) (fr := (0, 0)) rfl rfl Try.underlying35 (by kernel_rfl) ?_) rfl ⟨rfl, ?_⟩
      · simp only [heap_set, heap_new]; simp [setAt]
      · exact (by repeat (first | (with_reducible refine Below.setCell ?_ (by first | omega | (· simp) | (· (simp; omega))) _) | (with_reducible refine Below.alloc ?_ (by first | omega | (· simp) | (· (simp; omega))) _) | (with_reducible refine Below.drew ?_) | (with_reducible refine bdrewN ?_ _) | (with_reducible exact Below.refl _ _) | (with_reducible assumption) | (with_reducible refine Below.trans ?_ (Below.mono (by assumption) (by first | omega | (· simp) | (· (simp; omega))))) | (with_reducible refine Below.trans ?_ (Kp.below (by assumption) (by first | omega | (· simp) | (· (simp; omega))) (by first | omega | (· simp) | (· (simp; omega)))))))
set_option maxHeartbeats 400000 in
theorem implValAt_any (A : Option Addr) (ln c : Nat) (ds : List GCell) (at_ : Int) (w : World) (hs : Rd w 4 encC (.slice A ln c) ds) :
    Calls Try.prog 39 #[.agg #[.slice A ln c], .int .i64 at_] w fun e w' => e = .returned (.agg #[.int .i64 (valAt ds at_).k, .int .i64 (valAt ds at_).n, .string (valAt ds at_).s]) ∧ Below w.heap.size w w' := by
  obtain rfl := hs.len_eq
  have hlen := hs.len_le
  have hs' : Rd ((w.alloc (.cells #[.slice A ds.length c] 31)).alloc (.cells #[.int .i64 0, .int .i64 0, .string ⟨#[]⟩] 35)) 4 encC (.slice A ds.length c) ds := (by repeat (first | (with_reducible assumption) | (with_reducible refine Rd.drew ?_) | (with_reducible refine Rd.drewN ?_ _) | (with_reducible refine Rd.alloc ?_ _) | (exact Own.rd (fun _ => rfl) (by with_reducible assumption)) | (exact Sl.rd (by with_reducible assumption) (by first | omega | (· simp) | (· (simp; omega)))) | (refine Rd.below ?_ (by with_reducible assumption) ?_) | omega | (· simp) | (· (simp; omega))))
  by_cases h1 : 0 ≤ at_ ∧ at_ < ds.length
  · obtain ⟨i, rfl⟩ : ∃ i : Nat, at_ = (i : Int) := ⟨at_.toNat, by omega⟩
    have hi : i < ds.length := by omega
    have e : valAt ds (i : Int) = ds[i].v := by
      unfold valAt
      rw [if_pos h1, Int.toNat_natCast, List.getD, List.getElem?_eq_getElem hi]; rfl
    rw [e]
    obtain ⟨b, o, rfl, _, hc⟩ := hs'.at_ hi
    have c0 := hc 0 _ rfl; have c1 := hc 1 _ rfl; have c2 := hc 2 _ rfl; have c3 := hc 3 _ rfl
    rw [Nat.add_zero] at c0
    clear hc h1 e
    have hin : inB (i : Int) 0 (ds.length - 1) = true := by simp [inB]; omega
    go_enter Try.func39, Try.ntmps39
    go_wp2_with (go_at_call 93; refine (within_any _ _ _ _).mono ?_; rintro e w1 ⟨rfl, rfl⟩)
    refine bodyPost_ret (v := .agg #[.int .i64 ds[i].v.k, .int .i64 ds[i].v.n, .string ds[i].v.s]) (ret_cell (t := 35) (fr := (0, 0)) rfl rfl Try.underlying35 (by kernel_rfl) ?_) rfl ⟨rfl, ?_⟩
    · skip
      simp only [heap_set, heap_new]; simp [setAt]
    · exact (by repeat (first | (with_reducible refine Below.setCell ?_ (by first | omega | (· simp) | (· (simp; omega))) _) | (with_reducible refine Below.alloc ?_ (by first | omega | (· simp) | (· (simp; omega))) _) | (with_reducible refine Below.drew ?_) | (with_reducible refine bdrewN ?_ _) | (with_reducible exact Below.refl _ _) | (with_reducible assumption) | (with_reducible refine Below.trans ?_ (Below.mono (by assumption) (by first | omega | (· simp) | (· (simp; omega))))) | (with_reducible refine Below.trans ?_ (Kp.below (by assumption) (by first | omega | (· simp) | (· (simp; omega))) (by first | omega | (· simp) | (· (simp; omega)))))))
  · have e : valAt ds at_ = gzero := if_neg h1
    rw [e]
    have hin : inB at_ 0 (ds.length - 1) = false := by simp [inB]; omega
    by_cases h2 : at_ < 0
    · clear h1 e
      go_enter Try.func39, Try.ntmps39
      go_wp2_with (go_at_call 93; refine (within_any _ _ _ _).mono ?_; rintro e w1 ⟨rfl, rfl⟩)
      refine bodyPost_ret (v := .agg #[.int .i64 0, .int .i64 0, .string ⟨#[]⟩]) (ret_cell (t := 35) (fr := (0, 0)) rfl rfl Try.underlying35 (by kernel_rfl) ?_) rfl ⟨rfl, ?_⟩
      · simp only [heap_set, heap_new]; simp [setAt]
      · exact (by repeat (first | (with_reducible refine Below.setCell ?_ (by first | omega | (· simp) | (· (simp; omega))) _) | (with_reducible refine Below.alloc ?_ (by first | omega | (· simp) | (· (simp; omega))) _) | (with_reducible refine Below.drew ?_) | (with_reducible refine bdrewN ?_ _) | (with_reducible exact Below.refl _ _) | (with_reducible assumption) | (with_reducible refine Below.trans ?_ (Below.mono (by assumption) (by first | omega | (· simp) | (· (simp; omega))))) | (with_reducible refine Below.trans ?_ (Kp.below (by assumption) (by first | omega | (· simp) | (· (simp; omega))) (by first | omega | (· simp) | (· (simp; omega)))))))
    · have h3 : (ds.length : Int) ≤ at_ := by omega
      clear h1 e
      go_enter Try.func39, Try.ntmps39
      go_wp2_with (go_at_call 93; refine (within_any _ _ _ _).mono ?_; rintro e w1 ⟨rfl, rfl⟩)
      refine bodyPost_ret (v := .agg #[.int .i64 0, .int .i64 0, .string ⟨#[]⟩]) (ret_cell (t := 35) (fr := (0, 0)) rfl rfl Try.underlying35 (by kernel_rfl) ?_) rfl ⟨rfl, ?_⟩
      · simp only [heap_set, heap_new]; simp [setAt]
      · exact (by repeat (first | (with_reducible refine Below.setCell ?_ (by first | omega | (· simp) | (· (simp; omega))) _) | (with_reducible refine Below.alloc ?_ (by first | omega | (· simp) | (· (simp; omega))) _) | (with_reducible refine Below.drew ?_) | (with_reducible refine bdrewN ?_ _) | (with_reducible exact Below.refl _ _) | (with_reducible assumption) | (with_reducible refine Below.trans ?_ (Below.mono (by assumption) (by first | omega | (· simp) | (· (simp; omega))))) | (with_reducible refine Below.trans ?_ (Kp.below (by assumption) (by first | omega | (· simp) | (· (simp; omega))) (by first | omega | (· simp) | (· (simp; omega)))))))
def heldOf (ds : List GCell) : Int := (ds.filter fun c => decide (0 < c.refs)).length
theorem heldOf_step (ds : List GCell) (k : Nat) (h : k < ds.length) : heldOf (ds.take (k + 1)) = heldOf (ds.take k) + if 0 < ds[k].refs then 1 else 0 := by
  unfold heldOf
  rw [List.take_succ_eq_append_getElem h, List.filter_append]
  by_cases hr : 0 < ds[k].refs <;> simp [hr]
theorem heldOf_le (ds : List GCell) (k : Nat) : 0 ≤ heldOf (ds.take k) ∧ heldOf (ds.take k) ≤ k := by
  unfold heldOf
  have := List.length_filter_le (fun c : GCell => decide (0 < c.refs)) (ds.take k)
  have := List.length_take_le k ds
  omega
end Go.Proofs.Ytfnnbjkjfoiboaa
