/- RecOk and FieldOf of both sides; szRec, toRec, eqRec. -/
import Derived.Test.YtjgmdbhbnpafgaaIns
import Derived.Test.YtjgmdbhbnpafgaaPrim
import Derived.Deep.RegionHeld3
namespace Go.Proofs.Ytjgmdbhbnpafgaa
open Go.RowKit

def szRec (s : ByteArray) (fs : List ByteArray) (left : Int) : Int := if left - s.size < 0 then -1 else if szS szStr fs (left - s.size) < 0 then -1 else szS szStr fs (left - s.size)
theorem szLoop_le {α : Type} (f : α → Int → Int) (hf : ∀ d l, f d l ≤ l) : ∀ (ds : List α) (l : Int), 0 ≤ l → szLoop f ds l ≤ l
  | [], l, _ => Int.le_refl _
  | d :: r, l, h => by
    rw [szLoop]
    split
    · omega
    · have := szLoop_le f hf r (f d l) (by omega); have := hf d l; omega
theorem szS_le {α : Type} (f : α → Int → Int) (hf : ∀ d l, f d l ≤ l) (ds : List α) (l : Int) (h : 0 ≤ l) : szS f ds l ≤ l ∧ (0 ≤ szS f ds l → ds.length ≤ l) := by
  unfold szS
  split
  · omega
  · have := szLoop_le f hf ds (l - ds.length) (by omega); omega
theorem szStr_le (d : ByteArray) (l : Int) : szStr d l ≤ l := by unfold szStr; omega

set_option maxHeartbeats 400000 in
theorem szRec_any (s : ByteArray) (A : Option Addr) (ln c : Nat) (ds : List ByteArray) (left : Int) (w : World) (hs : Rd w 1 encS (.slice A ln c) ds) (hsz : ∀ s ∈ ds, s.size ≤ maxLen) (hss : s.size ≤ 9223372036854775807) (h0 : 0 ≤ left) (h1 : left ≤ 1048576) :
    Calls Try.prog 18 #[.agg #[.string s, .slice A ln c], .int .i64 left] w fun e w' => e = .returned (.int .i64 (szRec s ds left)) ∧ Below w.heap.size w w' := by
  by_cases h2 : left - s.size < 0
  · have e : szRec s ds left = -1 := if_pos h2
    rw [e]
    go_enter Try.func18, Try.ntmps18
    go_wp2
    go_ret
    exact ⟨rfl, (by repeat (first | (with_reducible refine Below.setCell ?_ (by first | omega | (· simp) | (· (simp; omega))) _) | (with_reducible refine Below.alloc ?_ (by first | omega | (· simp) | (· (simp; omega))) _) | (with_reducible refine Below.drew ?_) | (with_reducible refine bdrewN ?_ _) | (with_reducible exact Below.refl _ _) | (with_reducible assumption) | (with_reducible refine Below.trans ?_ (Below.mono (by assumption) (by first | omega | (· simp) | (· (simp; omega))))) | (with_reducible refine Below.trans ?_ (Kp.below (by assumption) (by first | omega | (· simp) | (· (simp; omega))) (by first | omega | (· simp) | (· (simp; omega)))))))⟩
  · have e : szRec s ds left = if szS szStr ds (left - s.size) < 0 then -1 else szS szStr ds (left - s.size) := if_neg h2
    rw [e]
    clear e
    by_cases h3 : szS szStr ds (left - s.size) < 0
    · rw [if_pos h3]
      go_enter Try.func18, Try.ntmps18
      go_wp2_with (go_at_call 61; refine (szStringS_any _ _ _ ds _ _ (hs.alloc _) hsz (by omega) (by omega)).mono ?_; rintro e w1 ⟨rfl, rfl⟩)
      go_ret
      exact ⟨rfl, (by repeat (first | (with_reducible refine Below.setCell ?_ (by first | omega | (· simp) | (· (simp; omega))) _) | (with_reducible refine Below.alloc ?_ (by first | omega | (· simp) | (· (simp; omega))) _) | (with_reducible refine Below.drew ?_) | (with_reducible refine bdrewN ?_ _) | (with_reducible exact Below.refl _ _) | (with_reducible assumption) | (with_reducible refine Below.trans ?_ (Below.mono (by assumption) (by first | omega | (· simp) | (· (simp; omega))))) | (with_reducible refine Below.trans ?_ (Kp.below (by assumption) (by first | omega | (· simp) | (· (simp; omega))) (by first | omega | (· simp) | (· (simp; omega)))))))⟩
    · rw [if_neg h3]
      go_enter Try.func18, Try.ntmps18
      go_wp2_with (go_at_call 61; refine (szStringS_any _ _ _ ds _ _ (hs.alloc _) hsz (by omega) (by omega)).mono ?_; rintro e w1 ⟨rfl, rfl⟩)
      go_ret
      exact ⟨rfl, (by repeat (first | (with_reducible refine Below.setCell ?_ (by first | omega | (· simp) | (· (simp; omega))) _) | (with_reducible refine Below.alloc ?_ (by first | omega | (· simp) | (· (simp; omega))) _) | (with_reducible refine Below.drew ?_) | (with_reducible refine bdrewN ?_ _) | (with_reducible exact Below.refl _ _) | (with_reducible assumption) | (with_reducible refine Below.trans ?_ (Below.mono (by assumption) (by first | omega | (· simp) | (· (simp; omega))))) | (with_reducible refine Below.trans ?_ (Kp.below (by assumption) (by first | omega | (· simp) | (· (simp; omega))) (by first | omega | (· simp) | (· (simp; omega)))))))⟩
set_option maxHeartbeats 400000 in
theorem toRec_any (s : ByteArray) (A : Option Addr) (ln c : Nat) (ds : List ByteArray) (w : World) (hs : Rd w 1 encS (.slice A ln c) ds) (hn : ds.length ≤ 1073741824) :
    Calls Try.prog 20 #[.agg #[.string s, .slice A ln c]] w fun e w' => ∃ v, e = .returned (.agg #[.string s, v]) ∧ Own w' w.heap.size w'.heap.size 9 1 encS v ds ∧ Below w.heap.size w w' := by
  go_enter Try.func20, Try.ntmps20
  go_wp2_with (go_at_call 62; refine (toStringS_any _ _ _ ds _ (by repeat (first | (with_reducible assumption) | (with_reducible refine Rd.drew ?_) | (with_reducible refine Rd.drewN ?_ _) | (with_reducible refine Rd.alloc ?_ _) | (exact Own.rd (fun _ => rfl) (by with_reducible assumption)) | (exact Sl.rd (by with_reducible assumption) (by first | omega | (· simp) | (· (simp; omega)))) | (refine Rd.below ?_ (by with_reducible assumption) ?_) | omega | (· simp) | (· (simp; omega)))) hn).mono ?_; rintro e w1 ⟨v1, rfl, ho1, hb1⟩; obtain ⟨A1, n1, c1, rfl, HN1⟩ := ho1.form'; have hza := hb1.size; (try simp only [World.size_alloc, World.size_drew, World.size_setCell] at hza); have ka0 := blk hb1 (b := w.heap.size + 1) (by first | omega | (· simp) | (· (simp; omega))); have ka1 := blk hb1 (b := w.heap.size + 1 + 1) (by first | omega | (· simp) | (· (simp; omega))); have fa0 := bfz hb1 (b := w.heap.size + 1) (by first | omega | (· simp) | (· (simp; omega))); have fa1 := bfz hb1 (b := w.heap.size + 1 + 1) (by first | omega | (· simp) | (· (simp; omega))))
  have g1 : w1.heap[w.heap.size + 1]? = some (.cells #[.string ByteArray.empty, .slice none 0 0] 33 (0, 0)) := (hb1.block (w.heap.size + 1) (by simp)).trans (by simp only [heap_new, World.size_alloc]; simp; rfl)
  refine bodyPost_ret (v := .agg #[.string s, .slice A1 n1 c1]) (ret_cell (t := 33) (fr := (0, 0)) rfl rfl Try.underlying33 (by kernel_rfl) ?_) rfl ⟨_, rfl, ?_, ?_⟩
  · simp only [heap_set, g1]; simp [setAt]
  · refine Own.wider (Ow.of_block ho1 fun g hg _ _ => ?_) (by simp; omega) (by simp)
    simp only [World.size_alloc] at hg
    simp only [heap_set]
    rw [if_neg (by omega), if_neg (by omega), if_neg (by omega)]
  · exact (by repeat (first | (with_reducible refine Below.setCell ?_ (by first | omega | (· simp) | (· (simp; omega))) _) | (with_reducible refine Below.alloc ?_ (by first | omega | (· simp) | (· (simp; omega))) _) | (with_reducible refine Below.drew ?_) | (with_reducible refine bdrewN ?_ _) | (with_reducible exact Below.refl _ _) | (with_reducible assumption) | (with_reducible refine Below.trans ?_ (Below.mono (by assumption) (by first | omega | (· simp) | (· (simp; omega))))) | (with_reducible refine Below.trans ?_ (Kp.below (by assumption) (by first | omega | (· simp) | (· (simp; omega))) (by first | omega | (· simp) | (· (simp; omega)))))))
theorem eqRec_same (s : ByteArray) (A B : Option Addr) (ln ln' c c' : Nat) (ds : List ByteArray) (w : World) (hs : Rd w 1 encS (.slice A ln c) ds) (ht : Rd w 1 encS (.slice B ln' c') ds) :
    Calls Try.prog 22 #[.agg #[.string s, .slice A ln c], .agg #[.string s, .slice B ln' c']] w fun e w' => e = .returned (.bool true) ∧ Below w.heap.size w w' := by
  go_enter Try.func22, Try.ntmps22
  go_wp2_with (go_at_call 63; refine (eqStringS_same _ _ _ _ _ _ ds _ (by repeat (first | (with_reducible assumption) | (with_reducible refine Rd.drew ?_) | (with_reducible refine Rd.drewN ?_ _) | (with_reducible refine Rd.alloc ?_ _) | (exact Own.rd (fun _ => rfl) (by with_reducible assumption)) | (exact Sl.rd (by with_reducible assumption) (by first | omega | (· simp) | (· (simp; omega)))) | (refine Rd.below ?_ (by with_reducible assumption) ?_) | omega | (· simp) | (· (simp; omega)))) (by repeat (first | (with_reducible assumption) | (with_reducible refine Rd.drew ?_) | (with_reducible refine Rd.drewN ?_ _) | (with_reducible refine Rd.alloc ?_ _) | (exact Own.rd (fun _ => rfl) (by with_reducible assumption)) | (exact Sl.rd (by with_reducible assumption) (by first | omega | (· simp) | (· (simp; omega)))) | (refine Rd.below ?_ (by with_reducible assumption) ?_) | omega | (· simp) | (· (simp; omega))))).mono ?_; rintro e w1 ⟨rfl, n, rfl⟩)
  go_ret
  exact ⟨rfl, (by repeat (first | (with_reducible refine Below.setCell ?_ (by first | omega | (· simp) | (· (simp; omega))) _) | (with_reducible refine Below.alloc ?_ (by first | omega | (· simp) | (· (simp; omega))) _) | (with_reducible refine Below.drew ?_) | (with_reducible refine bdrewN ?_ _) | (with_reducible exact Below.refl _ _) | (with_reducible assumption) | (with_reducible refine Below.trans ?_ (Below.mono (by assumption) (by first | omega | (· simp) | (· (simp; omega))))) | (with_reducible refine Below.trans ?_ (Kp.below (by assumption) (by first | omega | (· simp) | (· (simp; omega))) (by first | omega | (· simp) | (· (simp; omega)))))))⟩
def recOk (s : ByteArray) (fs : List ByteArray) : Bool := fs.all (fun x => decide (x.size ≤ 200)) && (decide (s.size ≤ 200) && decide (fs.length ≤ 20))
theorem all_step {α : Type} {f : α → Bool} {l : List α} {k : Nat} (h : k < l.length) (hf : f l[k] = false) : l.all f = false := by
  rw [List.all_eq_false]; exact ⟨l[k], List.getElem_mem h, by simp [hf]⟩
theorem all_done {α : Type} {f : α → Bool} {l : List α} (h : ∀ i (hi : i < l.length), f l[i] = true) : l.all f = true := by
  rw [List.all_eq_true]; intro x hx
  obtain ⟨i, hi, rfl⟩ := List.getElem_of_mem hx
  exact h i hi
set_option maxHeartbeats 400000 in
theorem specRecOk_any (s : ByteArray) (A : Option Addr) (ln c : Nat) (ds : List ByteArray) (w : World) (hs : Rd w 1 encS (.slice A ln c) ds) :
    Calls Try.prog 19 #[.agg #[.string s, .slice A ln c]] w fun e w' => e = .returned (.bool (recOk s ds)) ∧ Below w.heap.size w w' := by
  obtain rfl := hs.len_eq
  have hlen := hs.len_le
  have hs' : Rd (w.alloc (.cells #[.string s, .slice A ds.length c] 33)) 1 encS (.slice A ds.length c) ds := hs.alloc _
  go_enter Try.func19, Try.ntmps19
  go_wp2
  go_loop [3] (fun i => ∃ (k : Nat), k ≤ ds.length ∧ i = .int .i64 k ∧ ∀ i (hi : i < ds.length), i < k → decide (ds[i].size ≤ 200) = true) (fun i => ds.length - (intOf i).toNat)
  case atStart => exact ⟨0, Nat.zero_le _, rfl, fun i _ h => absurd h (by omega)⟩
  case round =>
    obtain ⟨k, hk, rfl, hall⟩ := hrel
    have HALL := Lib.hid hall
    clear hall
    by_cases hlt : k < ds.length
    · obtain ⟨b, o, rfl, _, hcell⟩ := hs'.at1 hlt
      have hcell := hcell _ rfl
      go_wp2
      · have h : (200 : Int) < ds[k].size := by assumption
        go_ret
        exact ⟨rb (by unfold recOk; rw [all_step hlt (by simp; omega), Bool.false_and]), (by repeat (first | (with_reducible refine Below.setCell ?_ (by first | omega | (· simp) | (· (simp; omega))) _) | (with_reducible refine Below.alloc ?_ (by first | omega | (· simp) | (· (simp; omega))) _) | (with_reducible refine Below.drew ?_) | (with_reducible refine bdrewN ?_ _) | (with_reducible exact Below.refl _ _) | (with_reducible assumption) | (with_reducible refine Below.trans ?_ (Below.mono (by assumption) (by first | omega | (· simp) | (· (simp; omega))))) | (with_reducible refine Below.trans ?_ (Kp.below (by assumption) (by first | omega | (· simp) | (· (simp; omega))) (by first | omega | (· simp) | (· (simp; omega)))))))⟩
      · have h : (ds[k].size : Int) ≤ 200 := by assumption
        go_round
        case rel => exact ⟨k + 1, by omega, by go_num, fun i hi hik => by
          by_cases e : i = k
          · subst e; simp; omega
          · exact HALL.out i hi (by omega)⟩
        case measure => simp [intOf]; omega
    · have ha : ds.all (fun x => decide (x.size ≤ 200)) = true := all_done fun i hi => HALL.out i hi (by omega)
      by_cases h1 : (s.size : Int) ≤ 200
      · go_wp2
        go_ret
        exact ⟨rb (by unfold recOk; rw [ha, Bool.true_and, decide_eq_true (by omega : s.size ≤ 200), Bool.true_and]; congr 1; simp; omega), (by repeat (first | (with_reducible refine Below.setCell ?_ (by first | omega | (· simp) | (· (simp; omega))) _) | (with_reducible refine Below.alloc ?_ (by first | omega | (· simp) | (· (simp; omega))) _) | (with_reducible refine Below.drew ?_) | (with_reducible refine bdrewN ?_ _) | (with_reducible exact Below.refl _ _) | (with_reducible assumption) | (with_reducible refine Below.trans ?_ (Below.mono (by assumption) (by first | omega | (· simp) | (· (simp; omega))))) | (with_reducible refine Below.trans ?_ (Kp.below (by assumption) (by first | omega | (· simp) | (· (simp; omega))) (by first | omega | (· simp) | (· (simp; omega)))))))⟩
      · go_wp2
        go_ret
        exact ⟨rb (by unfold recOk; rw [ha, Bool.true_and, decide_eq_false (by omega : ¬ s.size ≤ 200), Bool.false_and]), (by repeat (first | (with_reducible refine Below.setCell ?_ (by first | omega | (· simp) | (· (simp; omega))) _) | (with_reducible refine Below.alloc ?_ (by first | omega | (· simp) | (· (simp; omega))) _) | (with_reducible refine Below.drew ?_) | (with_reducible refine bdrewN ?_ _) | (with_reducible exact Below.refl _ _) | (with_reducible assumption) | (with_reducible refine Below.trans ?_ (Below.mono (by assumption) (by first | omega | (· simp) | (· (simp; omega))))) | (with_reducible refine Below.trans ?_ (Kp.below (by assumption) (by first | omega | (· simp) | (· (simp; omega))) (by first | omega | (· simp) | (· (simp; omega)))))))⟩
set_option maxHeartbeats 400000 in
theorem implRecOk_any (s : ByteArray) (A : Option Addr) (ln c : Nat) (ds : List ByteArray) (w : World) (hs : Rd w 1 encS (.slice A ln c) ds) :
    Calls Try.prog 21 #[.agg #[.string s, .slice A ln c]] w fun e w' => e = .returned (.bool (recOk s ds)) ∧ Below w.heap.size w w' := by
  obtain rfl := hs.len_eq
  have hlen := hs.len_le
  have hs' : Rd (w.alloc (.cells #[.string s, .slice A ds.length c] 33)) 1 encS (.slice A ds.length c) ds := hs.alloc _
  go_enter Try.func21, Try.ntmps21
  go_wp2
  go_loop [8] (fun i => ∃ (k : Nat), k ≤ ds.length ∧ i = .int .i64 k ∧ ∀ i (hi : i < ds.length), i < k → decide (ds[i].size ≤ 200) = true) (fun i => ds.length - (intOf i).toNat)
  case atStart => exact ⟨0, Nat.zero_le _, rfl, fun i _ h => absurd h (by omega)⟩
  case round =>
    obtain ⟨k, hk, rfl, hall⟩ := hrel
    have HALL := Lib.hid hall
    clear hall
    by_cases hlt : k < ds.length
    · obtain ⟨b, o, rfl, _, hcell⟩ := hs'.at1 hlt
      have hcell := hcell _ rfl
      go_wp2
      · have h : (200 : Int) < ds[k].size := by assumption
        go_ret
        exact ⟨rb (by unfold recOk; rw [all_step hlt (by simp; omega), Bool.false_and]), (by repeat (first | (with_reducible refine Below.setCell ?_ (by first | omega | (· simp) | (· (simp; omega))) _) | (with_reducible refine Below.alloc ?_ (by first | omega | (· simp) | (· (simp; omega))) _) | (with_reducible refine Below.drew ?_) | (with_reducible refine bdrewN ?_ _) | (with_reducible exact Below.refl _ _) | (with_reducible assumption) | (with_reducible refine Below.trans ?_ (Below.mono (by assumption) (by first | omega | (· simp) | (· (simp; omega))))) | (with_reducible refine Below.trans ?_ (Kp.below (by assumption) (by first | omega | (· simp) | (· (simp; omega))) (by first | omega | (· simp) | (· (simp; omega)))))))⟩
      · have h : (ds[k].size : Int) ≤ 200 := by assumption
        go_round
        case rel => exact ⟨k + 1, by omega, by go_num, fun i hi hik => by
          by_cases e : i = k
          · subst e; simp; omega
          · exact HALL.out i hi (by omega)⟩
        case measure => simp [intOf]; omega
    · have ha : ds.all (fun x => decide (x.size ≤ 200)) = true := all_done fun i hi => HALL.out i hi (by omega)
      by_cases h1 : (s.size : Int) ≤ 200
      · go_wp2
        go_ret
        exact ⟨rb (by unfold recOk; rw [ha, Bool.true_and, decide_eq_true (by omega : s.size ≤ 200), Bool.true_and]; congr 1; simp; omega), (by repeat (first | (with_reducible refine Below.setCell ?_ (by first | omega | (· simp) | (· (simp; omega))) _) | (with_reducible refine Below.alloc ?_ (by first | omega | (· simp) | (· (simp; omega))) _) | (with_reducible refine Below.drew ?_) | (with_reducible refine bdrewN ?_ _) | (with_reducible exact Below.refl _ _) | (with_reducible assumption) | (with_reducible refine Below.trans ?_ (Below.mono (by assumption) (by first | omega | (· simp) | (· (simp; omega))))) | (with_reducible refine Below.trans ?_ (Kp.below (by assumption) (by first | omega | (· simp) | (· (simp; omega))) (by first | omega | (· simp) | (· (simp; omega)))))))⟩
      · go_wp2
        go_ret
        exact ⟨rb (by unfold recOk; rw [ha, Bool.true_and, decide_eq_false (by omega : ¬ s.size ≤ 200), Bool.false_and]), (by repeat (first | (with_reducible refine Below.setCell ?_ (by first | omega | (· simp) | (· (simp; omega))) _) | (with_reducible refine Below.alloc ?_ (by first | omega | (· simp) | (· (simp; omega))) _) | (with_reducible refine Below.drew ?_) | (with_reducible refine bdrewN ?_ _) | (with_reducible exact Below.refl _ _) | (with_reducible assumption) | (with_reducible refine Below.trans ?_ (Below.mono (by assumption) (by first | omega | (· simp) | (· (simp; omega))))) | (with_reducible refine Below.trans ?_ (Kp.below (by assumption) (by first | omega | (· simp) | (· (simp; omega))) (by first | omega | (· simp) | (· (simp; omega)))))))⟩

def fieldOf (s : ByteArray) (ds : List ByteArray) (n : Int) : ByteArray := if n = 0 then s else if 1 ≤ n ∧ n ≤ ds.length then ds.getD (n - 1).toNat ByteArray.empty else ByteArray.empty
set_option maxHeartbeats 400000 in
theorem specFieldOf_any (s : ByteArray) (A : Option Addr) (ln c : Nat) (ds : List ByteArray) (n : Int) (w : World) (hs : Rd w 1 encS (.slice A ln c) ds) :
    Calls Try.prog 23 #[.agg #[.string s, .slice A ln c], .int .i64 n] w fun e w' => e = .returned (.string (fieldOf s ds n)) ∧ Below w.heap.size w w' := by
  obtain rfl := hs.len_eq
  have hlen := hs.len_le
  have hs' : Rd (w.alloc (.cells #[.string s, .slice A ds.length c] 33)) 1 encS (.slice A ds.length c) ds := hs.alloc _
  by_cases h0 : n = 0
  · subst h0
    go_enter Try.func23, Try.ntmps23
    go_wp2
    go_ret
    exact ⟨rfl, (by repeat (first | (with_reducible refine Below.setCell ?_ (by first | omega | (· simp) | (· (simp; omega))) _) | (with_reducible refine Below.alloc ?_ (by first | omega | (· simp) | (· (simp; omega))) _) | (with_reducible refine Below.drew ?_) | (with_reducible refine bdrewN ?_ _) | (with_reducible exact Below.refl _ _) | (with_reducible assumption) | (with_reducible refine Below.trans ?_ (Below.mono (by assumption) (by first | omega | (· simp) | (· (simp; omega))))) | (with_reducible refine Below.trans ?_ (Kp.below (by assumption) (by first | omega | (· simp) | (· (simp; omega))) (by first | omega | (· simp) | (· (simp; omega)))))))⟩
  · have hb0 : (n == 0) = false := by simpa using h0
    by_cases h1 : 1 ≤ n ∧ n ≤ ds.length
    · obtain ⟨i, rfl⟩ : ∃ i : Nat, n = (i : Int) + 1 := ⟨(n - 1).toNat, by omega⟩
      have hi : i < ds.length := by omega
      have e : fieldOf s ds ((i : Int) + 1) = ds[i] := by
        unfold fieldOf
        rw [if_neg h0, if_pos h1, show ((i : Int) + 1 - 1).toNat = i from by omega, List.getD, List.getElem?_eq_getElem hi]; rfl
      rw [e]
      obtain ⟨b, o, rfl, _, hcell⟩ := hs'.at1 hi
      have hcell := hcell _ rfl
      clear h1 e
      have hin : inB ((i : Int) + 1) 1 ds.length = true := by simp [inB]; omega
      go_enter Try.func23, Try.ntmps23
      go_wp2_with (go_at_call 59; refine (within_any _ _ _ _).mono ?_; rintro e w1 ⟨rfl, rfl⟩)
      go_ret
      exact ⟨rfl, (by repeat (first | (with_reducible refine Below.setCell ?_ (by first | omega | (· simp) | (· (simp; omega))) _) | (with_reducible refine Below.alloc ?_ (by first | omega | (· simp) | (· (simp; omega))) _) | (with_reducible refine Below.drew ?_) | (with_reducible refine bdrewN ?_ _) | (with_reducible exact Below.refl _ _) | (with_reducible assumption) | (with_reducible refine Below.trans ?_ (Below.mono (by assumption) (by first | omega | (· simp) | (· (simp; omega))))) | (with_reducible refine Below.trans ?_ (Kp.below (by assumption) (by first | omega | (· simp) | (· (simp; omega))) (by first | omega | (· simp) | (· (simp; omega)))))))⟩
    · have e : fieldOf s ds n = ByteArray.empty := by
        unfold fieldOf
        rw [if_neg h0, if_neg h1]
      rw [e]
      have hin : inB n 1 ds.length = false := by simp [inB]; omega
      by_cases h2 : n < 1
      · clear h1 e
        go_enter Try.func23, Try.ntmps23
        go_wp2_with (go_at_call 59; refine (within_any _ _ _ _).mono ?_; rintro e w1 ⟨rfl, rfl⟩)
        go_ret
        exact ⟨rfl, (by repeat (first | (with_reducible refine Below.setCell ?_ (by first | omega | (· simp) | (· (simp; omega))) _) | (with_reducible refine Below.alloc ?_ (by first | omega | (· simp) | (· (simp; omega))) _) | (with_reducible refine Below.drew ?_) | (with_reducible refine bdrewN ?_ _) | (with_reducible exact Below.refl _ _) | (with_reducible assumption) | (with_reducible refine Below.trans ?_ (Below.mono (by assumption) (by first | omega | (· simp) | (· (simp; omega))))) | (with_reducible refine Below.trans ?_ (Kp.below (by assumption) (by first | omega | (· simp) | (· (simp; omega))) (by first | omega | (· simp) | (· (simp; omega)))))))⟩
      · have h3 : (ds.length : Int) < n := by omega
        clear h1 e
        go_enter Try.func23, Try.ntmps23
        go_wp2_with (go_at_call 59; refine (within_any _ _ _ _).mono ?_; rintro e w1 ⟨rfl, rfl⟩)
        go_ret
        exact ⟨rfl, (by repeat (first | (with_reducible refine Below.setCell ?_ (by first | omega | (· simp) | (· (simp; omega))) _) | (with_reducible refine Below.alloc ?_ (by first | omega | (· simp) | (· (simp; omega))) _) | (with_reducible refine Below.drew ?_) | (with_reducible refine bdrewN ?_ _) | (with_reducible exact Below.refl _ _) | (with_reducible assumption) | (with_reducible refine Below.trans ?_ (Below.mono (by assumption) (by first | omega | (· simp) | (· (simp; omega))))) | (with_reducible refine Below.trans ?_ (Kp.below (by assumption) (by first | omega | (· simp) | (· (simp; omega))) (by first | omega | (· simp) | (· (simp; omega)))))))⟩
set_option maxHeartbeats 400000 in
theorem implFieldOf_any (s : ByteArray) (A : Option Addr) (ln c : Nat) (ds : List ByteArray) (n : Int) (w : World) (hs : Rd w 1 encS (.slice A ln c) ds) :
    Calls Try.prog 24 #[.agg #[.string s, .slice A ln c], .int .i64 n] w fun e w' => e = .returned (.string (fieldOf s ds n)) ∧ Below w.heap.size w w' := by
  obtain rfl := hs.len_eq
  have hlen := hs.len_le
  have hs' : Rd (w.alloc (.cells #[.string s, .slice A ds.length c] 33)) 1 encS (.slice A ds.length c) ds := hs.alloc _
  by_cases h0 : n = 0
  · subst h0
    go_enter Try.func24, Try.ntmps24
    go_wp2
    go_ret
    exact ⟨rfl, (by repeat (first | (with_reducible refine Below.setCell ?_ (by first | omega | (· simp) | (· (simp; omega))) _) | (with_reducible refine Below.alloc ?_ (by first | omega | (· simp) | (· (simp; omega))) _) | (with_reducible refine Below.drew ?_) | (with_reducible refine bdrewN ?_ _) | (with_reducible exact Below.refl _ _) | (with_reducible assumption) | (with_reducible refine Below.trans ?_ (Below.mono (by assumption) (by first | omega | (· simp) | (· (simp; omega))))) | (with_reducible refine Below.trans ?_ (Kp.below (by assumption) (by first | omega | (· simp) | (· (simp; omega))) (by first | omega | (· simp) | (· (simp; omega)))))))⟩
  · have hb0 : (n == 0) = false := by simpa using h0
    by_cases h1 : 1 ≤ n ∧ n ≤ ds.length
    · obtain ⟨i, rfl⟩ : ∃ i : Nat, n = (i : Int) + 1 := ⟨(n - 1).toNat, by omega⟩
      have hi : i < ds.length := by omega
      have e : fieldOf s ds ((i : Int) + 1) = ds[i] := by
        unfold fieldOf
        rw [if_neg h0, if_pos h1, show ((i : Int) + 1 - 1).toNat = i from by omega, List.getD, List.getElem?_eq_getElem hi]; rfl
      rw [e]
      obtain ⟨b, o, rfl, _, hcell⟩ := hs'.at1 hi
      have hcell := hcell _ rfl
      clear h1 e
      have hin : inB ((i : Int) + 1) 1 ds.length = true := by simp [inB]; omega
      go_enter Try.func24, Try.ntmps24
      go_wp2_with (go_at_call 59; refine (within_any _ _ _ _).mono ?_; rintro e w1 ⟨rfl, rfl⟩)
      go_ret
      exact ⟨rfl, (by repeat (first | (with_reducible refine Below.setCell ?_ (by first | omega | (· simp) | (· (simp; omega))) _) | (with_reducible refine Below.alloc ?_ (by first | omega | (· simp) | (· (simp; omega))) _) | (with_reducible refine Below.drew ?_) | (with_reducible refine bdrewN ?_ _) | (with_reducible exact Below.refl _ _) | (with_reducible assumption) | (with_reducible refine Below.trans ?_ (Below.mono (by assumption) (by first | omega | (· simp) | (· (simp; omega))))) | (with_reducible refine Below.trans ?_ (Kp.below (by assumption) (by first | omega | (· simp) | (· (simp; omega))) (by first | omega | (· simp) | (· (simp; omega)))))))⟩
    · have e : fieldOf s ds n = ByteArray.empty := by
        unfold fieldOf
        rw [if_neg h0, if_neg h1]
      rw [e]
      have hin : inB n 1 ds.length = false := by simp [inB]; omega
      by_cases h2 : n < 1
      · clear h1 e
        go_enter Try.func24, Try.ntmps24
        go_wp2_with (go_at_call 59; refine (within_any _ _ _ _).mono ?_; rintro e w1 ⟨rfl, rfl⟩)
        go_ret
        exact ⟨rfl, (by repeat (first | (with_reducible refine Below.setCell ?_ (by first | omega | (· simp) | (· (simp; omega))) _) | (with_reducible refine Below.alloc ?_ (by first | omega | (· simp) | (· (simp; omega))) _) | (with_reducible refine Below.drew ?_) | (with_reducible refine bdrewN ?_ _) | (with_reducible exact Below.refl _ _) | (with_reducible assumption) | (with_reducible refine Below.trans ?_ (Below.mono (by assumption) (by first | omega | (· simp) | (· (simp; omega))))) | (with_reducible refine Below.trans ?_ (Kp.below (by assumption) (by first | omega | (· simp) | (· (simp; omega))) (by first | omega | (· simp) | (· (simp; omega)))))))⟩
      · have h3 : (ds.length : Int) < n := by omega
        clear h1 e
        go_enter Try.func24, Try.ntmps24
        go_wp2_with (go_at_call 59; refine (within_any _ _ _ _).mono ?_; rintro e w1 ⟨rfl, rfl⟩)
        go_ret
        exact ⟨rfl, (by repeat (first | (with_reducible refine Below.setCell ?_ (by first | omega | (· simp) | (· (simp; omega))) _) | (with_reducible refine Below.alloc ?_ (by first | omega | (· simp) | (· (simp; omega))) _) | (with_reducible refine Below.drew ?_) | (with_reducible refine bdrewN ?_ _) | (with_reducible exact Below.refl _ _) | (with_reducible assumption) | (with_reducible refine Below.trans ?_ (Below.mono (by assumption) (by first | omega | (· simp) | (· (simp; omega))))) | (with_reducible refine Below.trans ?_ (Kp.below (by assumption) (by first | omega | (· simp) | (· (simp; omega))) (by first | omega | (· simp) | (· (simp; omega)))))))⟩
end Go.Proofs.Ytjgmdbhbnpafgaa
