/- EntryOf of both sides. -/
import Derived.Test.YtfnnbjkjfoiboaaVarOf
import Derived.Test.YtfnnbjkjfoiboaaEnvLaw
namespace Go.Proofs.Ytfnnbjkjfoiboaa
open Go.RowKit

theorem ret_cellt {P : Program} {fn : Func} {p u : Tmp} {ty t : TypeId} {tmps : Array Value} {w : World} {b : Nat} {cs : Array Value} {fr : Nat × Nat} {fs : Array Field}
    (h : fn.results = #[.cell p ty, .tmp u]) (ha : tmps.getD p undef = .pointer (some ⟨b, 0, none⟩)) (ht : P.underlying ty = some (.struct fs))
    (hc : (P.info? ty).map (·.size) = some cs.size)
    (hg : w.heap[b]? = some (.cells cs t fr)) : (results fn tmps).run P w = .ok (.tuple #[.agg cs, tmps.getD u undef]) w := by
  have ha' : tmps[p]?.getD undef = .pointer (some ⟨b, 0, none⟩) := by simpa using ha
  have hv := run_loadVar_row (P := P) w b t ty cs fr _ hg ht rfl hc
  simp only [results, h]
  simp [Sem.run_bind, Result.andThen, ha', asAddr, hv]
def entryD (D : List (ByteArray × List GEntry)) (s k : ByteArray) : GVal × Bool :=
  match D[fAt (·.1) D s]? with
  | none => (gzero, false)
  | some x => match x.2[fAt (·.key) x.2 k]? with
    | none => (gzero, false)
    | some e => (e.v, true)
theorem fAt_map (ts : List GTab) (s : ByteArray) : fAt (·.1) (ts.map GTab.d) s = fAt (·.name) ts s := by
  unfold fAt
  rw [List.findIdx_map]; rfl
def entryOf (ts : List GTab) (s k : ByteArray) : GVal × Bool := entryD (ts.map GTab.d) s k
theorem entryOf_same {ts us : List GTab} (h : Hid (SameT ts us)) (s k : ByteArray) : entryOf us s k = entryOf ts s k := by
  have h2 : ts.map GTab.d = us.map GTab.d := h.out
  unfold entryOf
  rw [h2]
theorem entryOf_none {ts : List GTab} {s k : ByteArray} (h : ¬ fAt (·.name) ts s < ts.length) : entryOf ts s k = (gzero, false) := by
  unfold entryOf entryD
  rw [fAt_map, List.getElem?_eq_none (by rw [List.length_map]; omega)]
theorem entryOf_some {ts : List GTab} {s k : ByteArray} {N : Nat} (hN : fAt (·.name) ts s = N) (h : N < ts.length) : entryOf ts s k = match ts[N].l[fAt (·.key) ts[N].l k]? with | none => (gzero, false) | some e => (e.v, true) := by
  unfold entryOf entryD
  rw [fAt_map, hN, List.getElem?_eq_getElem (by rw [List.length_map]; exact h), List.getElem_map]
  rfl
set_option maxHeartbeats 1000000 in
theorem l14At_any (A B : Option Addr) (c d m : Nat) (ts : List GTab) (s : ByteArray) (w : World) (hv : Rd w 2 encTab (.slice B ts.length d) ts) :
    Calls Try.prog 106 #[.agg #[.slice A m c, .slice B ts.length d], .string s] w fun e w' => e = .returned (.int .i64 (idxZ (fAt (·.name) ts s) ts.length)) ∧ Below w.heap.size w w' := by
  have hlen := hv.len_le
  have hle := fAt_le (·.name) ts s
  have hv1 : Rd (w.alloc (.cells #[.slice A m c, .slice B ts.length d] 45)) 2 encTab (.slice B ts.length d) ts := (by repeat (first | (with_reducible assumption) | (with_reducible refine Rd.drew ?_) | (with_reducible refine Rd.drewN ?_ _) | (with_reducible refine Rd.alloc ?_ _) | (exact Own.rd (fun _ => rfl) (by with_reducible assumption)) | (exact Sl.rd (by with_reducible assumption) (by first | omega | (· simp) | (· (simp; omega)))) | (refine Rd.below ?_ (by with_reducible assumption) ?_) | omega | (· simp) | (· (simp; omega))))
  obtain ⟨N, HN⟩ : ∃ N, Hid (fAt (·.name) ts s = N) := ⟨_, rfl⟩
  rw [HN.out] at hle ⊢
  go_enter Try.func106, Try.ntmps106
  go_wp2
  go_loopw [5] (fun i wr => ∃ k : Nat, k ≤ N ∧ i = .int .i64 k ∧ wr = (w.alloc (.cells #[.slice A m c, .slice B ts.length d] 45))) (fun i _ => ts.length - (intOf i).toNat)
  case atStart => exact ⟨0, Nat.zero_le _, rfl, rfl⟩
  case round =>
    obtain ⟨k, hk, rfl, rfl⟩ := hrel
    by_cases hlt : k < ts.length
    · obtain ⟨b, o, rfl, _, hc⟩ := hv1.at_ hlt
      have c0 := hc 0 _ rfl
      rw [Nat.add_zero] at c0
      clear hc
      by_cases hz : ts[k].name = s
      · have HK := Lib.hid (show k = N by rw [← HN.out]; exact fAt_hit hlt (by rw [HN.out]; exact hk) hz)
        have hq : (ts[k].name.toList == s.toList) = true := by rw [bytes_beq, decide_eq_true hz]
        clear hz
        go_wp2
        go_ret
        exact ⟨ri (by unfold idxZ; have := HK.out; rw [← this, if_pos hlt]), by exact (by repeat (first | (with_reducible refine Below.setCell ?_ (by first | omega | (· simp) | (· (simp; omega))) _) | (with_reducible refine Below.alloc ?_ (by first | omega | (· simp) | (· (simp; omega))) _) | (with_reducible refine Below.drew ?_) | (with_reducible refine bdrewN ?_ _) | (with_reducible exact Below.refl _ _) | (with_reducible assumption) | (with_reducible refine Below.trans ?_ (Below.mono (by assumption) (by first | omega | (· simp) | (· (simp; omega))))) | (with_reducible refine Below.trans ?_ (Kp.below (by assumption) (by first | omega | (· simp) | (· (simp; omega))) (by first | omega | (· simp) | (· (simp; omega)))))))⟩
      · have HK := Lib.hid (show k + 1 ≤ N by rw [← HN.out]; exact fAt_miss hlt (by rw [HN.out]; exact hk) hz)
        have hq : (ts[k].name.toList == s.toList) = false := by rw [bytes_beq, decide_eq_false hz]
        clear hz
        go_wp2
        go_roundw
        case rel => exact ⟨k + 1, HK.out, by go_num, trivial⟩
        case measure => simp [intOf]; omega
    · have HK := Lib.hid (show ¬ N < ts.length by omega)
      go_wp2
      go_ret
      exact ⟨ri (by unfold idxZ; rw [if_neg HK.out]), by exact (by repeat (first | (with_reducible refine Below.setCell ?_ (by first | omega | (· simp) | (· (simp; omega))) _) | (with_reducible refine Below.alloc ?_ (by first | omega | (· simp) | (· (simp; omega))) _) | (with_reducible refine Below.drew ?_) | (with_reducible refine bdrewN ?_ _) | (with_reducible exact Below.refl _ _) | (with_reducible assumption) | (with_reducible refine Below.trans ?_ (Below.mono (by assumption) (by first | omega | (· simp) | (· (simp; omega))))) | (with_reducible refine Below.trans ?_ (Kp.below (by assumption) (by first | omega | (· simp) | (· (simp; omega))) (by first | omega | (· simp) | (· (simp; omega)))))))⟩
set_option maxHeartbeats 1000000 in
theorem l14Key_any (nm : ByteArray) (A : Option Addr) (c : Nat) (ts : List GEntry) (s : ByteArray) (w : World) (hv : Rd w 4 encEntry (.slice A ts.length c) ts) :
    Calls Try.prog 107 #[.agg #[.string nm, .slice A ts.length c], .string s] w fun e w' => e = .returned (.int .i64 (idxZ (fAt (·.key) ts s) ts.length)) ∧ Below w.heap.size w w' := by
  have hlen := hv.len_le
  have hle := fAt_le (·.key) ts s
  have hv1 : Rd (w.alloc (.cells #[.string nm, .slice A ts.length c] 114)) 4 encEntry (.slice A ts.length c) ts := (by repeat (first | (with_reducible assumption) | (with_reducible refine Rd.drew ?_) | (with_reducible refine Rd.drewN ?_ _) | (with_reducible refine Rd.alloc ?_ _) | (exact Own.rd (fun _ => rfl) (by with_reducible assumption)) | (exact Sl.rd (by with_reducible assumption) (by first | omega | (· simp) | (· (simp; omega)))) | (refine Rd.below ?_ (by with_reducible assumption) ?_) | omega | (· simp) | (· (simp; omega))))
  obtain ⟨N, HN⟩ : ∃ N, Hid (fAt (·.key) ts s = N) := ⟨_, rfl⟩
  rw [HN.out] at hle ⊢
  go_enter Try.func107, Try.ntmps107
  go_wp2
  go_loopw [5] (fun i wr => ∃ k : Nat, k ≤ N ∧ i = .int .i64 k ∧ wr = (w.alloc (.cells #[.string nm, .slice A ts.length c] 114))) (fun i _ => ts.length - (intOf i).toNat)
  case atStart => exact ⟨0, Nat.zero_le _, rfl, rfl⟩
  case round =>
    obtain ⟨k, hk, rfl, rfl⟩ := hrel
    by_cases hlt : k < ts.length
    · obtain ⟨b, o, rfl, _, hc⟩ := hv1.at_ hlt
      have c0 := hc 0 _ rfl
      rw [Nat.add_zero] at c0
      clear hc
      by_cases hz : ts[k].key = s
      · have HK := Lib.hid (show k = N by rw [← HN.out]; exact fAt_hit hlt (by rw [HN.out]; exact hk) hz)
        have hq : (ts[k].key.toList == s.toList) = true := by rw [bytes_beq, decide_eq_true hz]
        clear hz
        go_wp2
        go_ret
        exact ⟨ri (by unfold idxZ; have := HK.out; rw [← this, if_pos hlt]), by exact (by repeat (first | (with_reducible refine Below.setCell ?_ (by first | omega | (· simp) | (· (simp; omega))) _) | (with_reducible refine Below.alloc ?_ (by first | omega | (· simp) | (· (simp; omega))) _) | (with_reducible refine Below.drew ?_) | (with_reducible refine bdrewN ?_ _) | (with_reducible exact Below.refl _ _) | (with_reducible assumption) | (with_reducible refine Below.trans ?_ (Below.mono (by assumption) (by first | omega | (· simp) | (· (simp; omega))))) | (with_reducible refine Below.trans ?_ (Kp.below (by assumption) (by first | omega | (· simp) | (· (simp; omega))) (by first | omega | (· simp) | (· (simp; omega)))))))⟩
      · have HK := Lib.hid (show k + 1 ≤ N by rw [← HN.out]; exact fAt_miss hlt (by rw [HN.out]; exact hk) hz)
        have hq : (ts[k].key.toList == s.toList) = false := by rw [bytes_beq, decide_eq_false hz]
        clear hz
        go_wp2
        go_roundw
        case rel => exact ⟨k + 1, HK.out, by go_num, trivial⟩
        case measure => simp [intOf]; omega
    · have HK := Lib.hid (show ¬ N < ts.length by omega)
      go_wp2
      go_ret
      exact ⟨ri (by unfold idxZ; rw [if_neg HK.out]), by exact (by repeat (first | (with_reducible refine Below.setCell ?_ (by first | omega | (· simp) | (· (simp; omega))) _) | (with_reducible refine Below.alloc ?_ (by first | omega | (· simp) | (· (simp; omega))) _) | (with_reducible refine Below.drew ?_) | (with_reducible refine bdrewN ?_ _) | (with_reducible exact Below.refl _ _) | (with_reducible assumption) | (with_reducible refine Below.trans ?_ (Below.mono (by assumption) (by first | omega | (· simp) | (· (simp; omega))))) | (with_reducible refine Below.trans ?_ (Kp.below (by assumption) (by first | omega | (· simp) | (· (simp; omega))) (by first | omega | (· simp) | (· (simp; omega)))))))⟩
set_option maxHeartbeats 1000000 in
theorem tableAt_any (A B : Option Addr) (c d m : Nat) (ts : List GTab) (s : ByteArray) (w : World) (hv : Rd w 2 encTab (.slice B ts.length d) ts) :
    Calls Try.prog 102 #[.agg #[.slice A m c, .slice B ts.length d], .string s] w fun e w' => e = .returned (.int .i64 (idxZ (fAt (·.name) ts s) ts.length)) ∧ Below w.heap.size w w' := by
  have hlen := hv.len_le
  have hv1 : Rd ((w.alloc (.cells #[.slice A m c, .slice B ts.length d] 45)).alloc (.cells #[.string s] 9)) 2 encTab (.slice B ts.length d) ts := (by repeat (first | (with_reducible assumption) | (with_reducible refine Rd.drew ?_) | (with_reducible refine Rd.drewN ?_ _) | (with_reducible refine Rd.alloc ?_ _) | (exact Own.rd (fun _ => rfl) (by with_reducible assumption)) | (exact Sl.rd (by with_reducible assumption) (by first | omega | (· simp) | (· (simp; omega)))) | (refine Rd.below ?_ (by with_reducible assumption) ?_) | omega | (· simp) | (· (simp; omega))))
  have hp : ((w.alloc (.cells #[.slice A m c, .slice B ts.length d] 45)).alloc (.cells #[.string s] 9)).cell? ⟨w.heap.size + 1, 0, none⟩ = some (.string s) := (by repeat (first | (with_reducible assumption) | (with_reducible refine cell_drew ?_) | (with_reducible refine cell_drewN ?_) | (with_reducible exact cell_new rfl) | (exact cell_new' rfl (by first | rfl | (simp; done))) | (with_reducible refine cell_alloc ?_ ?_) | (refine cell_below (by with_reducible assumption) ?_ ?_) | (refine cell_kp (by with_reducible assumption) ?_ ?_) | omega | (· simp) | (· (simp; omega))))
  go_enter Try.func102, Try.ntmps102
  go_wp2_with (go_at_call 155; refine (findTable_any _ _ _ ts s (w.heap.size + 1) _ hv1 hp (by simp)).mono ?_; rintro e w1 ⟨rfl, hb1⟩)
  go_ret
  exact ⟨rfl, by exact (by repeat (first | (with_reducible refine Below.setCell ?_ (by first | omega | (· simp) | (· (simp; omega))) _) | (with_reducible refine Below.alloc ?_ (by first | omega | (· simp) | (· (simp; omega))) _) | (with_reducible refine Below.drew ?_) | (with_reducible refine bdrewN ?_ _) | (with_reducible exact Below.refl _ _) | (with_reducible assumption) | (with_reducible refine Below.trans ?_ (Below.mono (by assumption) (by first | omega | (· simp) | (· (simp; omega))))) | (with_reducible refine Below.trans ?_ (Kp.below (by assumption) (by first | omega | (· simp) | (· (simp; omega))) (by first | omega | (· simp) | (· (simp; omega)))))))⟩
set_option maxHeartbeats 1000000 in
theorem keyAt_any (A : Option Addr) (c : Nat) (ts : List GEntry) (s : ByteArray) (w : World) (hv : Rd w 4 encEntry (.slice A ts.length c) ts) :
    Calls Try.prog 103 #[.slice A ts.length c, .string s] w fun e w' => e = .returned (.int .i64 (idxZ (fAt (·.key) ts s) ts.length)) ∧ Below w.heap.size w w' := by
  have hlen := hv.len_le
  have hv1 : Rd (w.alloc (.cells #[.string s] 9)) 4 encEntry (.slice A ts.length c) ts := (by repeat (first | (with_reducible assumption) | (with_reducible refine Rd.drew ?_) | (with_reducible refine Rd.drewN ?_ _) | (with_reducible refine Rd.alloc ?_ _) | (exact Own.rd (fun _ => rfl) (by with_reducible assumption)) | (exact Sl.rd (by with_reducible assumption) (by first | omega | (· simp) | (· (simp; omega)))) | (refine Rd.below ?_ (by with_reducible assumption) ?_) | omega | (· simp) | (· (simp; omega))))
  have hp : (w.alloc (.cells #[.string s] 9)).cell? ⟨w.heap.size, 0, none⟩ = some (.string s) := cell_new rfl
  go_enter Try.func103, Try.ntmps103
  go_wp2_with (go_at_call 157; refine (findEntry_any _ _ _ ts s w.heap.size _ hv1 hp (by simp)).mono ?_; rintro e w1 ⟨rfl, hb1⟩)
  go_ret
  exact ⟨rfl, by exact (by repeat (first | (with_reducible refine Below.setCell ?_ (by first | omega | (· simp) | (· (simp; omega))) _) | (with_reducible refine Below.alloc ?_ (by first | omega | (· simp) | (· (simp; omega))) _) | (with_reducible refine Below.drew ?_) | (with_reducible refine bdrewN ?_ _) | (with_reducible exact Below.refl _ _) | (with_reducible assumption) | (with_reducible refine Below.trans ?_ (Below.mono (by assumption) (by first | omega | (· simp) | (· (simp; omega))))) | (with_reducible refine Below.trans ?_ (Kp.below (by assumption) (by first | omega | (· simp) | (· (simp; omega))) (by first | omega | (· simp) | (· (simp; omega)))))))⟩
set_option maxRecDepth 100000 in
set_option maxHeartbeats 1000000 in
theorem specEntryOf_any (A B : Option Addr) (c d m : Nat) (ts : List GTab) (s k : ByteArray) (w : World) (hv : Rd w 2 encTab (.slice B ts.length d) ts) (hin : RdT w ts) :
    Calls Try.prog 53 #[.agg #[.slice A m c, .slice B ts.length d], .string s, .string k] w fun e w' => e = .returned (.tuple #[.agg #[.int .i64 (entryOf ts s k).1.k, .int .i64 (entryOf ts s k).1.n, .string (entryOf ts s k).1.s], .bool (entryOf ts s k).2]) ∧ Below w.heap.size w w' := by
  have hlen := hv.len_le
  have hv1 : Rd ((w.alloc (.cells #[.slice A m c, .slice B ts.length d] 45)).alloc (.cells #[.int .i64 0, .int .i64 0, .string ByteArray.empty] 35)) 2 encTab (.slice B ts.length d) ts := (by repeat (first | (with_reducible assumption) | (with_reducible refine Rd.drew ?_) | (with_reducible refine Rd.drewN ?_ _) | (with_reducible refine Rd.alloc ?_ _) | (exact Own.rd (fun _ => rfl) (by with_reducible assumption)) | (exact Sl.rd (by with_reducible assumption) (by first | omega | (· simp) | (· (simp; omega)))) | (refine Rd.below ?_ (by with_reducible assumption) ?_) | omega | (· simp) | (· (simp; omega))))
  have hi1 : RdT ((w.alloc (.cells #[.slice A m c, .slice B ts.length d] 45)).alloc (.cells #[.int .i64 0, .int .i64 0, .string ByteArray.empty] 35)) ts := (by show RdT _ _; repeat (first | (with_reducible assumption) | (with_reducible refine RdT.drew ?_) | (with_reducible refine RdT.drewN ?_ _) | (with_reducible refine RdT.alloc ?_ _) | (exact InT.rdT (by with_reducible assumption) (by first | omega | (· simp) | (· (simp; omega)))) | (refine RdT.below ?_ (by with_reducible assumption) ?_) | omega | (· simp) | (· (simp; omega))))
  have x0 : ((w.alloc (.cells #[.slice A m c, .slice B ts.length d] 45)).alloc (.cells #[.int .i64 0, .int .i64 0, .string ByteArray.empty] 35)).cell? ⟨w.heap.size, 1, none⟩ = some (.slice B ts.length d) := (by repeat (first | (with_reducible assumption) | (with_reducible refine cell_drew ?_) | (with_reducible refine cell_drewN ?_) | (with_reducible exact cell_new rfl) | (exact cell_new' rfl (by first | rfl | (simp; done))) | (with_reducible refine cell_alloc ?_ ?_) | (refine cell_below (by with_reducible assumption) ?_ ?_) | (refine cell_kp (by with_reducible assumption) ?_ ?_) | omega | (· simp) | (· (simp; omega))))
  have x1 : ((w.alloc (.cells #[.slice A m c, .slice B ts.length d] 45)).alloc (.cells #[.int .i64 0, .int .i64 0, .string ByteArray.empty] 35)).heap[w.heap.size + 1]? = some (.cells #[.int .i64 0, .int .i64 0, .string ByteArray.empty] 35 (0, 0)) := by simp only [heap_new, World.size_alloc]; simp
  by_cases hlt : fAt (·.name) ts s < ts.length
  · obtain ⟨N, HN⟩ : ∃ N, Hid (fAt (·.name) ts s = N) := ⟨_, rfl⟩
    have hN : N < ts.length := by have := HN.out; omega
    have HE := Lib.hid (show idxZ (fAt (·.name) ts s) ts.length = (N : Int) by unfold idxZ; rw [if_pos hlt, HN.out])
    rw [entryOf_some HN.out hN]
    clear hlt
    by_cases hk : fAt (·.key) ts[N].l k < ts[N].l.length
    · obtain ⟨M, HM⟩ : ∃ M, Hid (fAt (·.key) ts[N].l k = M) := ⟨_, Lib.hid rfl⟩
      have hM : M < ts[N].l.length := by have := HM.out; omega
      have HF := Lib.hid (show idxZ (fAt (·.key) ts[N].l k) ts[N].l.length = (M : Int) by unfold idxZ; rw [if_pos hk, HM.out])
      rw [HM.out, List.getElem?_eq_getElem hM]
      clear hk
      go_enter Try.func53, Try.ntmps53
      go_wp2_with fail
      go_at_call 106
      refine (l14At_any _ _ _ _ _ ts s _ hv1).mono ?_; rw [HE.out]; rintro e w1 ⟨rfl, hb1⟩
      have hz1 := hb1.size; simp only [World.size_alloc] at hz1 hb1
      have y0 := cell_below hb1 x0 (by omega)
      have g1 := (hb1.block (w.heap.size + 1) (by omega)).trans x1
      have hv2 : Rd w1 2 encTab (.slice B ts.length d) ts := (by repeat (first | (with_reducible assumption) | (with_reducible refine Rd.drew ?_) | (with_reducible refine Rd.drewN ?_ _) | (with_reducible refine Rd.alloc ?_ _) | (exact Own.rd (fun _ => rfl) (by with_reducible assumption)) | (exact Sl.rd (by with_reducible assumption) (by first | omega | (· simp) | (· (simp; omega)))) | (refine Rd.below ?_ (by with_reducible assumption) ?_) | omega | (· simp) | (· (simp; omega))))
      have hi2 : RdT w1 ts := (by show RdT _ _; repeat (first | (with_reducible assumption) | (with_reducible refine RdT.drew ?_) | (with_reducible refine RdT.drewN ?_ _) | (with_reducible refine RdT.alloc ?_ _) | (exact InT.rdT (by with_reducible assumption) (by first | omega | (· simp) | (· (simp; omega)))) | (refine RdT.below ?_ (by with_reducible assumption) ?_) | omega | (· simp) | (· (simp; omega))))
      have hr1 : Rd w1 4 encEntry (.slice ts[N].A ts[N].l.length ts[N].c) ts[N].l := hi2 _ (List.getElem_mem hN)
      have hlenl := hr1.len_le
      obtain ⟨b, o, rfl, _, hc⟩ := hv2.at_ hN
      have c0 := hc 0 _ rfl; have c1 := hc 1 _ rfl
      rw [Nat.add_zero] at c0
      clear hc
      go_wp2_with fail
      go_at_call 107
      refine (l14Key_any ts[N].name _ _ ts[N].l k _ hr1).mono ?_; rw [HF.out]; rintro e w2 ⟨rfl, hb2⟩
      have hz2 := hb2.size
      have y0 := cell_below hb2 y0 (by omega)
      have g2 := (hb2.block (w.heap.size + 1) (by omega)).trans g1
      have hv3 : Rd w2 2 encTab (.slice (some ⟨b, o, none⟩) ts.length d) ts := (by repeat (first | (with_reducible assumption) | (with_reducible refine Rd.drew ?_) | (with_reducible refine Rd.drewN ?_ _) | (with_reducible refine Rd.alloc ?_ _) | (exact Own.rd (fun _ => rfl) (by with_reducible assumption)) | (exact Sl.rd (by with_reducible assumption) (by first | omega | (· simp) | (· (simp; omega)))) | (refine Rd.below ?_ (by with_reducible assumption) ?_) | omega | (· simp) | (· (simp; omega))))
      have hi3 : RdT w2 ts := (by show RdT _ _; repeat (first | (with_reducible assumption) | (with_reducible refine RdT.drew ?_) | (with_reducible refine RdT.drewN ?_ _) | (with_reducible refine RdT.alloc ?_ _) | (exact InT.rdT (by with_reducible assumption) (by first | omega | (· simp) | (· (simp; omega)))) | (refine RdT.below ?_ (by with_reducible assumption) ?_) | omega | (· simp) | (· (simp; omega))))
      have hr2 : Rd w2 4 encEntry (.slice ts[N].A ts[N].l.length ts[N].c) ts[N].l := hi3 _ (List.getElem_mem hN)
      obtain ⟨b9, o9, hA, _, hc⟩ := hv3.at_ hN
      cases hA
      have c0 := hc 0 _ rfl; have c1 := hc 1 _ rfl
      rw [Nat.add_zero] at c0
      clear hc
      obtain ⟨b2, o2, hA2, _, hc⟩ := hr2.at_ hM
      rw [hA2] at c1
      have e1 := hc 1 _ rfl; have e2 := hc 2 _ rfl; have e3 := hc 3 _ rfl
      clear hc hA2
      have k0w2 : w2.cell? ⟨w.heap.size + 1, 0, none⟩ = some (.int .i64 0) := (by rw [cell_of_row _ _ _ _ _ _ g2]; rfl); have k1w2 : w2.cell? ⟨w.heap.size + 1, 1, none⟩ = some (.int .i64 0) := (by rw [cell_of_row _ _ _ _ _ _ g2]; rfl); have k2w2 : w2.cell? ⟨w.heap.size + 1, 2, none⟩ = some (.string ByteArray.empty) := (by rw [cell_of_row _ _ _ _ _ _ g2]; rfl); have fw2 : ∀ j, w2.frozen? ⟨w.heap.size + 1, j, none⟩ = false := (by intro j; simp [World.frozen?, g2])
      go_wp2
      refine bodyPost_ret (ret_cellt (cs := #[.int .i64 ts[N].l[M].v.k, .int .i64 ts[N].l[M].v.n, .string ts[N].l[M].v.s]) (t := 35) (fr := (0, 0)) rfl rfl Try.underlying35 (by kernel_rfl) ?_) rfl ⟨rfl, ?_⟩
      · simp only [heap_set, g2]; simp [setAt]
      · exact (by repeat (first | (with_reducible refine Below.setCell ?_ (by first | omega | (· simp) | (· (simp; omega))) _) | (with_reducible refine Below.alloc ?_ (by first | omega | (· simp) | (· (simp; omega))) _) | (with_reducible refine Below.drew ?_) | (with_reducible refine bdrewN ?_ _) | (with_reducible exact Below.refl _ _) | (with_reducible assumption) | (with_reducible refine Below.trans ?_ (Below.mono (by assumption) (by first | omega | (· simp) | (· (simp; omega))))) | (with_reducible refine Below.trans ?_ (Kp.below (by assumption) (by first | omega | (· simp) | (· (simp; omega))) (by first | omega | (· simp) | (· (simp; omega)))))))
    · have HF := Lib.hid (show idxZ (fAt (·.key) ts[N].l k) ts[N].l.length = -1 by unfold idxZ; rw [if_neg hk])
      rw [List.getElem?_eq_none (by omega)]
      clear hk
      go_enter Try.func53, Try.ntmps53
      go_wp2_with fail
      go_at_call 106
      refine (l14At_any _ _ _ _ _ ts s _ hv1).mono ?_; rw [HE.out]; rintro e w1 ⟨rfl, hb1⟩
      have hz1 := hb1.size; simp only [World.size_alloc] at hz1 hb1
      have y0 := cell_below hb1 x0 (by omega)
      have g1 := (hb1.block (w.heap.size + 1) (by omega)).trans x1
      have hv2 : Rd w1 2 encTab (.slice B ts.length d) ts := (by repeat (first | (with_reducible assumption) | (with_reducible refine Rd.drew ?_) | (with_reducible refine Rd.drewN ?_ _) | (with_reducible refine Rd.alloc ?_ _) | (exact Own.rd (fun _ => rfl) (by with_reducible assumption)) | (exact Sl.rd (by with_reducible assumption) (by first | omega | (· simp) | (· (simp; omega)))) | (refine Rd.below ?_ (by with_reducible assumption) ?_) | omega | (· simp) | (· (simp; omega))))
      have hi2 : RdT w1 ts := (by show RdT _ _; repeat (first | (with_reducible assumption) | (with_reducible refine RdT.drew ?_) | (with_reducible refine RdT.drewN ?_ _) | (with_reducible refine RdT.alloc ?_ _) | (exact InT.rdT (by with_reducible assumption) (by first | omega | (· simp) | (· (simp; omega)))) | (refine RdT.below ?_ (by with_reducible assumption) ?_) | omega | (· simp) | (· (simp; omega))))
      have hr1 : Rd w1 4 encEntry (.slice ts[N].A ts[N].l.length ts[N].c) ts[N].l := hi2 _ (List.getElem_mem hN)
      have hlenl := hr1.len_le
      obtain ⟨b, o, rfl, _, hc⟩ := hv2.at_ hN
      have c0 := hc 0 _ rfl; have c1 := hc 1 _ rfl
      rw [Nat.add_zero] at c0
      clear hc
      go_wp2_with fail
      go_at_call 107
      refine (l14Key_any ts[N].name _ _ ts[N].l k _ hr1).mono ?_; rw [HF.out]; rintro e w2 ⟨rfl, hb2⟩
      have hz2 := hb2.size
      have g2 := (hb2.block (w.heap.size + 1) (by omega)).trans g1
      have k0w2 : w2.cell? ⟨w.heap.size + 1, 0, none⟩ = some (.int .i64 0) := (by rw [cell_of_row _ _ _ _ _ _ g2]; rfl); have k1w2 : w2.cell? ⟨w.heap.size + 1, 1, none⟩ = some (.int .i64 0) := (by rw [cell_of_row _ _ _ _ _ _ g2]; rfl); have k2w2 : w2.cell? ⟨w.heap.size + 1, 2, none⟩ = some (.string ByteArray.empty) := (by rw [cell_of_row _ _ _ _ _ _ g2]; rfl); have fw2 : ∀ j, w2.frozen? ⟨w.heap.size + 1, j, none⟩ = false := (by intro j; simp [World.frozen?, g2])
      go_wp2
      refine bodyPost_ret (ret_cellt (cs := #[.int .i64 0, .int .i64 0, .string ⟨#[]⟩]) (t := 35) (fr := (0, 0)) rfl rfl Try.underlying35 (by kernel_rfl) ?_) rfl ⟨rfl, ?_⟩
      · simp only [heap_set, g2]; simp [setAt]
      · exact (by repeat (first | (with_reducible refine Below.setCell ?_ (by first | omega | (· simp) | (· (simp; omega))) _) | (with_reducible refine Below.alloc ?_ (by first | omega | (· simp) | (· (simp; omega))) _) | (with_reducible refine Below.drew ?_) | (with_reducible refine bdrewN ?_ _) | (with_reducible exact Below.refl _ _) | (with_reducible assumption) | (with_reducible refine Below.trans ?_ (Below.mono (by assumption) (by first | omega | (· simp) | (· (simp; omega))))) | (with_reducible refine Below.trans ?_ (Kp.below (by assumption) (by first | omega | (· simp) | (· (simp; omega))) (by first | omega | (· simp) | (· (simp; omega)))))))
  · have HE := Lib.hid (show idxZ (fAt (·.name) ts s) ts.length = -1 by unfold idxZ; rw [if_neg hlt])
    rw [entryOf_none hlt]
    clear hlt
    go_enter Try.func53, Try.ntmps53
    go_wp2_with fail
    go_at_call 106
    refine (l14At_any _ _ _ _ _ ts s _ hv1).mono ?_; rw [HE.out]; rintro e w1 ⟨rfl, hb1⟩
    have hz1 := hb1.size; simp only [World.size_alloc] at hz1 hb1
    have g1 := (hb1.block (w.heap.size + 1) (by omega)).trans x1
    have k0w1 : w1.cell? ⟨w.heap.size + 1, 0, none⟩ = some (.int .i64 0) := (by rw [cell_of_row _ _ _ _ _ _ g1]; rfl); have k1w1 : w1.cell? ⟨w.heap.size + 1, 1, none⟩ = some (.int .i64 0) := (by rw [cell_of_row _ _ _ _ _ _ g1]; rfl); have k2w1 : w1.cell? ⟨w.heap.size + 1, 2, none⟩ = some (.string ByteArray.empty) := (by rw [cell_of_row _ _ _ _ _ _ g1]; rfl); have fw1 : ∀ j, w1.frozen? ⟨w.heap.size + 1, j, none⟩ = false := (by intro j; simp [World.frozen?, g1])
    go_wp2
    refine bodyPost_ret (ret_cellt (cs := #[.int .i64 0, .int .i64 0, .string ⟨#[]⟩]) (t := 35) (fr := (0, 0)) rfl rfl Try.underlying35 (by kernel_rfl) ?_) rfl ⟨rfl, ?_⟩
    · simp only [heap_set, g1]; simp [setAt]
    · exact (by repeat (first | (with_reducible refine Below.setCell ?_ (by first | omega | (· simp) | (· (simp; omega))) _) | (with_reducible refine Below.alloc ?_ (by first | omega | (· simp) | (· (simp; omega))) _) | (with_reducible refine Below.drew ?_) | (with_reducible refine bdrewN ?_ _) | (with_reducible exact Below.refl _ _) | (with_reducible assumption) | (with_reducible refine Below.trans ?_ (Below.mono (by assumption) (by first | omega | (· simp) | (· (simp; omega))))) | (with_reducible refine Below.trans ?_ (Kp.below (by assumption) (by first | omega | (· simp) | (· (simp; omega))) (by first | omega | (· simp) | (· (simp; omega)))))))
set_option maxRecDepth 100000 in
set_option maxHeartbeats 1000000 in
theorem implEntryOf_any (A B : Option Addr) (c d m : Nat) (ts : List GTab) (s k : ByteArray) (w : World) (hv : Rd w 2 encTab (.slice B ts.length d) ts) (hin : RdT w ts) :
    Calls Try.prog 49 #[.agg #[.slice A m c, .slice B ts.length d], .string s, .string k] w fun e w' => e = .returned (.tuple #[.agg #[.int .i64 (entryOf ts s k).1.k, .int .i64 (entryOf ts s k).1.n, .string (entryOf ts s k).1.s], .bool (entryOf ts s k).2]) ∧ Below w.heap.size w w' := by
  have hlen := hv.len_le
  have hv1 : Rd ((w.alloc (.cells #[.slice A m c, .slice B ts.length d] 45)).alloc (.cells #[.int .i64 0, .int .i64 0, .string ByteArray.empty] 35)) 2 encTab (.slice B ts.length d) ts := (by repeat (first | (with_reducible assumption) | (with_reducible refine Rd.drew ?_) | (with_reducible refine Rd.drewN ?_ _) | (with_reducible refine Rd.alloc ?_ _) | (exact Own.rd (fun _ => rfl) (by with_reducible assumption)) | (exact Sl.rd (by with_reducible assumption) (by first | omega | (· simp) | (· (simp; omega)))) | (refine Rd.below ?_ (by with_reducible assumption) ?_) | omega | (· simp) | (· (simp; omega))))
  have hi1 : RdT ((w.alloc (.cells #[.slice A m c, .slice B ts.length d] 45)).alloc (.cells #[.int .i64 0, .int .i64 0, .string ByteArray.empty] 35)) ts := (by show RdT _ _; repeat (first | (with_reducible assumption) | (with_reducible refine RdT.drew ?_) | (with_reducible refine RdT.drewN ?_ _) | (with_reducible refine RdT.alloc ?_ _) | (exact InT.rdT (by with_reducible assumption) (by first | omega | (· simp) | (· (simp; omega)))) | (refine RdT.below ?_ (by with_reducible assumption) ?_) | omega | (· simp) | (· (simp; omega))))
  have x0 : ((w.alloc (.cells #[.slice A m c, .slice B ts.length d] 45)).alloc (.cells #[.int .i64 0, .int .i64 0, .string ByteArray.empty] 35)).cell? ⟨w.heap.size, 1, none⟩ = some (.slice B ts.length d) := (by repeat (first | (with_reducible assumption) | (with_reducible refine cell_drew ?_) | (with_reducible refine cell_drewN ?_) | (with_reducible exact cell_new rfl) | (exact cell_new' rfl (by first | rfl | (simp; done))) | (with_reducible refine cell_alloc ?_ ?_) | (refine cell_below (by with_reducible assumption) ?_ ?_) | (refine cell_kp (by with_reducible assumption) ?_ ?_) | omega | (· simp) | (· (simp; omega))))
  have x1 : ((w.alloc (.cells #[.slice A m c, .slice B ts.length d] 45)).alloc (.cells #[.int .i64 0, .int .i64 0, .string ByteArray.empty] 35)).heap[w.heap.size + 1]? = some (.cells #[.int .i64 0, .int .i64 0, .string ByteArray.empty] 35 (0, 0)) := by simp only [heap_new, World.size_alloc]; simp
  by_cases hlt : fAt (·.name) ts s < ts.length
  · obtain ⟨N, HN⟩ : ∃ N, Hid (fAt (·.name) ts s = N) := ⟨_, rfl⟩
    have hN : N < ts.length := by have := HN.out; omega
    have HE := Lib.hid (show idxZ (fAt (·.name) ts s) ts.length = (N : Int) by unfold idxZ; rw [if_pos hlt, HN.out])
    rw [entryOf_some HN.out hN]
    clear hlt
    by_cases hk : fAt (·.key) ts[N].l k < ts[N].l.length
    · obtain ⟨M, HM⟩ : ∃ M, Hid (fAt (·.key) ts[N].l k = M) := ⟨_, Lib.hid rfl⟩
      have hM : M < ts[N].l.length := by have := HM.out; omega
      have HF := Lib.hid (show idxZ (fAt (·.key) ts[N].l k) ts[N].l.length = (M : Int) by unfold idxZ; rw [if_pos hk, HM.out])
      rw [HM.out, List.getElem?_eq_getElem hM]
      clear hk
      go_enter Try.func49, Try.ntmps49
      go_wp2_with fail
      go_at_call 102
      refine (tableAt_any _ _ _ _ _ ts s _ hv1).mono ?_; rw [HE.out]; rintro e w1 ⟨rfl, hb1⟩
      have hz1 := hb1.size; simp only [World.size_alloc] at hz1 hb1
      have y0 := cell_below hb1 x0 (by omega)
      have g1 := (hb1.block (w.heap.size + 1) (by omega)).trans x1
      have hv2 : Rd w1 2 encTab (.slice B ts.length d) ts := (by repeat (first | (with_reducible assumption) | (with_reducible refine Rd.drew ?_) | (with_reducible refine Rd.drewN ?_ _) | (with_reducible refine Rd.alloc ?_ _) | (exact Own.rd (fun _ => rfl) (by with_reducible assumption)) | (exact Sl.rd (by with_reducible assumption) (by first | omega | (· simp) | (· (simp; omega)))) | (refine Rd.below ?_ (by with_reducible assumption) ?_) | omega | (· simp) | (· (simp; omega))))
      have hi2 : RdT w1 ts := (by show RdT _ _; repeat (first | (with_reducible assumption) | (with_reducible refine RdT.drew ?_) | (with_reducible refine RdT.drewN ?_ _) | (with_reducible refine RdT.alloc ?_ _) | (exact InT.rdT (by with_reducible assumption) (by first | omega | (· simp) | (· (simp; omega)))) | (refine RdT.below ?_ (by with_reducible assumption) ?_) | omega | (· simp) | (· (simp; omega))))
      have hr1 : Rd w1 4 encEntry (.slice ts[N].A ts[N].l.length ts[N].c) ts[N].l := hi2 _ (List.getElem_mem hN)
      have hlenl := hr1.len_le
      obtain ⟨b, o, rfl, _, hc⟩ := hv2.at_ hN
      have c0 := hc 0 _ rfl; have c1 := hc 1 _ rfl
      rw [Nat.add_zero] at c0
      clear hc
      go_wp2_with fail
      go_at_call 103
      refine (keyAt_any _ _ ts[N].l k _ hr1).mono ?_; rw [HF.out]; rintro e w2 ⟨rfl, hb2⟩
      have hz2 := hb2.size
      have y0 := cell_below hb2 y0 (by omega)
      have g2 := (hb2.block (w.heap.size + 1) (by omega)).trans g1
      have hv3 : Rd w2 2 encTab (.slice (some ⟨b, o, none⟩) ts.length d) ts := (by repeat (first | (with_reducible assumption) | (with_reducible refine Rd.drew ?_) | (with_reducible refine Rd.drewN ?_ _) | (with_reducible refine Rd.alloc ?_ _) | (exact Own.rd (fun _ => rfl) (by with_reducible assumption)) | (exact Sl.rd (by with_reducible assumption) (by first | omega | (· simp) | (· (simp; omega)))) | (refine Rd.below ?_ (by with_reducible assumption) ?_) | omega | (· simp) | (· (simp; omega))))
      have hi3 : RdT w2 ts := (by show RdT _ _; repeat (first | (with_reducible assumption) | (with_reducible refine RdT.drew ?_) | (with_reducible refine RdT.drewN ?_ _) | (with_reducible refine RdT.alloc ?_ _) | (exact InT.rdT (by with_reducible assumption) (by first | omega | (· simp) | (· (simp; omega)))) | (refine RdT.below ?_ (by with_reducible assumption) ?_) | omega | (· simp) | (· (simp; omega))))
      have hr2 : Rd w2 4 encEntry (.slice ts[N].A ts[N].l.length ts[N].c) ts[N].l := hi3 _ (List.getElem_mem hN)
      obtain ⟨b9, o9, hA, _, hc⟩ := hv3.at_ hN
      cases hA
      have c0 := hc 0 _ rfl; have c1 := hc 1 _ rfl
      rw [Nat.add_zero] at c0
      clear hc
      obtain ⟨b2, o2, hA2, _, hc⟩ := hr2.at_ hM
      rw [hA2] at c1
      have e1 := hc 1 _ rfl; have e2 := hc 2 _ rfl; have e3 := hc 3 _ rfl
      clear hc hA2
      have k0w2 : w2.cell? ⟨w.heap.size + 1, 0, none⟩ = some (.int .i64 0) := (by rw [cell_of_row _ _ _ _ _ _ g2]; rfl); have k1w2 : w2.cell? ⟨w.heap.size + 1, 1, none⟩ = some (.int .i64 0) := (by rw [cell_of_row _ _ _ _ _ _ g2]; rfl); have k2w2 : w2.cell? ⟨w.heap.size + 1, 2, none⟩ = some (.string ByteArray.empty) := (by rw [cell_of_row _ _ _ _ _ _ g2]; rfl); have fw2 : ∀ j, w2.frozen? ⟨w.heap.size + 1, j, none⟩ = false := (by intro j; simp [World.frozen?, g2])
      go_wp2
      refine bodyPost_ret (ret_cellt (cs := #[.int .i64 ts[N].l[M].v.k, .int .i64 ts[N].l[M].v.n, .string ts[N].l[M].v.s]) (t := 35) (fr := (0, 0)) rfl rfl Try.underlying35 (by kernel_rfl) ?_) rfl ⟨rfl, ?_⟩
      · simp only [heap_set, g2]; simp [setAt]
      · exact (by repeat (first | (with_reducible refine Below.setCell ?_ (by first | omega | (· simp) | (· (simp; omega))) _) | (with_reducible refine Below.alloc ?_ (by first | omega | (· simp) | (· (simp; omega))) _) | (with_reducible refine Below.drew ?_) | (with_reducible refine bdrewN ?_ _) | (with_reducible exact Below.refl _ _) | (with_reducible assumption) | (with_reducible refine Below.trans ?_ (Below.mono (by assumption) (by first | omega | (· simp) | (· (simp; omega))))) | (with_reducible refine Below.trans ?_ (Kp.below (by assumption) (by first | omega | (· simp) | (· (simp; omega))) (by first | omega | (· simp) | (· (simp; omega)))))))
    · have HF := Lib.hid (show idxZ (fAt (·.key) ts[N].l k) ts[N].l.length = -1 by unfold idxZ; rw [if_neg hk])
      rw [List.getElem?_eq_none (by omega)]
      clear hk
      go_enter Try.func49, Try.ntmps49
      go_wp2_with fail
      go_at_call 102
      refine (tableAt_any _ _ _ _ _ ts s _ hv1).mono ?_; rw [HE.out]; rintro e w1 ⟨rfl, hb1⟩
      have hz1 := hb1.size; simp only [World.size_alloc] at hz1 hb1
      have y0 := cell_below hb1 x0 (by omega)
      have g1 := (hb1.block (w.heap.size + 1) (by omega)).trans x1
      have hv2 : Rd w1 2 encTab (.slice B ts.length d) ts := (by repeat (first | (with_reducible assumption) | (with_reducible refine Rd.drew ?_) | (with_reducible refine Rd.drewN ?_ _) | (with_reducible refine Rd.alloc ?_ _) | (exact Own.rd (fun _ => rfl) (by with_reducible assumption)) | (exact Sl.rd (by with_reducible assumption) (by first | omega | (· simp) | (· (simp; omega)))) | (refine Rd.below ?_ (by with_reducible assumption) ?_) | omega | (· simp) | (· (simp; omega))))
      have hi2 : RdT w1 ts := (by show RdT _ _; repeat (first | (with_reducible assumption) | (with_reducible refine RdT.drew ?_) | (with_reducible refine RdT.drewN ?_ _) | (with_reducible refine RdT.alloc ?_ _) | (exact InT.rdT (by with_reducible assumption) (by first | omega | (· simp) | (· (simp; omega)))) | (refine RdT.below ?_ (by with_reducible assumption) ?_) | omega | (· simp) | (· (simp; omega))))
      have hr1 : Rd w1 4 encEntry (.slice ts[N].A ts[N].l.length ts[N].c) ts[N].l := hi2 _ (List.getElem_mem hN)
      have hlenl := hr1.len_le
      obtain ⟨b, o, rfl, _, hc⟩ := hv2.at_ hN
      have c0 := hc 0 _ rfl; have c1 := hc 1 _ rfl
      rw [Nat.add_zero] at c0
      clear hc
      go_wp2_with fail
      go_at_call 103
      refine (keyAt_any _ _ ts[N].l k _ hr1).mono ?_; rw [HF.out]; rintro e w2 ⟨rfl, hb2⟩
      have hz2 := hb2.size
      have g2 := (hb2.block (w.heap.size + 1) (by omega)).trans g1
      have k0w2 : w2.cell? ⟨w.heap.size + 1, 0, none⟩ = some (.int .i64 0) := (by rw [cell_of_row _ _ _ _ _ _ g2]; rfl); have k1w2 : w2.cell? ⟨w.heap.size + 1, 1, none⟩ = some (.int .i64 0) := (by rw [cell_of_row _ _ _ _ _ _ g2]; rfl); have k2w2 : w2.cell? ⟨w.heap.size + 1, 2, none⟩ = some (.string ByteArray.empty) := (by rw [cell_of_row _ _ _ _ _ _ g2]; rfl); have fw2 : ∀ j, w2.frozen? ⟨w.heap.size + 1, j, none⟩ = false := (by intro j; simp [World.frozen?, g2])
      go_wp2
      refine bodyPost_ret (ret_cellt (cs := #[.int .i64 0, .int .i64 0, .string ⟨#[]⟩]) (t := 35) (fr := (0, 0)) rfl rfl Try.underlying35 (by kernel_rfl) ?_) rfl ⟨rfl, ?_⟩
      · simp only [heap_set, g2]; simp [setAt]
      · exact (by repeat (first | (with_reducible refine Below.setCell ?_ (by first | omega | (· simp) | (· (simp; omega))) _) | (with_reducible refine Below.alloc ?_ (by first | omega | (· simp) | (· (simp; omega))) _) | (with_reducible refine Below.drew ?_) | (with_reducible refine bdrewN ?_ _) | (with_reducible exact Below.refl _ _) | (with_reducible assumption) | (with_reducible refine Below.trans ?_ (Below.mono (by assumption) (by first | omega | (· simp) | (· (simp; omega))))) | (with_reducible refine Below.trans ?_ (Kp.below (by assumption) (by first | omega | (· simp) | (· (simp; omega))) (by first | omega | (· simp) | (· (simp; omega)))))))
  · have HE := Lib.hid (show idxZ (fAt (·.name) ts s) ts.length = -1 by unfold idxZ; rw [if_neg hlt])
    rw [entryOf_none hlt]
    clear hlt
    go_enter Try.func49, Try.ntmps49
    go_wp2_with fail
    go_at_call 102
    refine (tableAt_any _ _ _ _ _ ts s _ hv1).mono ?_; rw [HE.out]; rintro e w1 ⟨rfl, hb1⟩
    have hz1 := hb1.size; simp only [World.size_alloc] at hz1 hb1
    have g1 := (hb1.block (w.heap.size + 1) (by omega)).trans x1
    have k0w1 : w1.cell? ⟨w.heap.size + 1, 0, none⟩ = some (.int .i64 0) := (by rw [cell_of_row _ _ _ _ _ _ g1]; rfl); have k1w1 : w1.cell? ⟨w.heap.size + 1, 1, none⟩ = some (.int .i64 0) := (by rw [cell_of_row _ _ _ _ _ _ g1]; rfl); have k2w1 : w1.cell? ⟨w.heap.size + 1, 2, none⟩ = some (.string ByteArray.empty) := (by rw [cell_of_row _ _ _ _ _ _ g1]; rfl); have fw1 : ∀ j, w1.frozen? ⟨w.heap.size + 1, j, none⟩ = false := (by intro j; simp [World.frozen?, g1])
    go_wp2
    refine bodyPost_ret (ret_cellt (cs := #[.int .i64 0, .int .i64 0, .string ⟨#[]⟩]) (t := 35) (fr := (0, 0)) rfl rfl Try.underlying35 (by kernel_rfl) ?_) rfl ⟨rfl, ?_⟩
    · simp only [heap_set, g1]; simp [setAt]
    · exact (by repeat (first | (with_reducible refine Below.setCell ?_ (by first | omega | (· simp) | (· (simp; omega))) _) | (with_reducible refine Below.alloc ?_ (by first | omega | (· simp) | (· (simp; omega))) _) | (with_reducible refine Below.drew ?_) | (with_reducible refine bdrewN ?_ _) | (with_reducible exact Below.refl _ _) | (with_reducible assumption) | (with_reducible refine Below.trans ?_ (Below.mono (by assumption) (by first | omega | (· simp) | (· (simp; omega))))) | (with_reducible refine Below.trans ?_ (Kp.below (by assumption) (by first | omega | (· simp) | (· (simp; omega))) (by first | omega | (· simp) | (· (simp; omega)))))))
end Go.Proofs.Ytfnnbjkjfoiboaa
