/- HeapOk of both sides. -/
import Derived.Test.YtjgmdbhbnpafgaaHeap2
import Derived.Test.YtjgmdbhbnpafgaaRecOk
namespace Go.Proofs.Ytjgmdbhbnpafgaa
open Go.RowKit

def i64r (n : Int) : Prop := -9223372036854775808 ≤ n ∧ n ≤ 9223372036854775807
def goodV (v : GVal) : Prop := i64r v.k ∧ i64r v.n ∧ v.s.size ≤ maxLen
def goodC (c : GCell) : Prop := i64r c.refs ∧ goodV c.v
def isZero (v : GVal) : Bool := v.k == 0 && (v.n == 0 && v.s.toList.isEmpty)
def cellOk (c : GCell) : Bool := decide (0 ≤ c.refs) && (valOk c.v.k c.v.n c.v.s && !(c.refs == 0 && !isZero c.v))
def heapOk (ds : List GCell) : Bool := ds.all cellOk
set_option maxHeartbeats 1000000 in
theorem specHeapOk_any (A : Option Addr) (ln c : Nat) (ds : List GCell) (w : World) (hs : Rd w 4 encC (.slice A ln c) ds) (hg : ∀ d ∈ ds, goodC d) :
    Calls Try.prog 46 #[.agg #[.slice A ln c]] w fun e w' => e = .returned (.bool (heapOk ds)) ∧ Below w.heap.size w w' := by
  obtain rfl := hs.len_eq
  have hlen := hs.len_le
  have HG := Lib.hid hg
  clear hg
  go_enter Try.func46, Try.ntmps46
  go_wp2
  go_loopw [3] (fun i wr => ∃ (k : Nat), k ≤ ds.length ∧ i = .int .i64 k ∧ (∀ i (hi : i < ds.length), i < k → cellOk ds[i] = true) ∧ Below (w.heap.size + 1) (w.alloc (.cells #[.slice A ds.length c] 54)) wr) (fun i _ => ds.length - (intOf i).toNat)
  case atStart => exact ⟨0, Nat.zero_le _, rfl, fun _ _ h => absurd h (by omega), Below.refl _ _⟩
  case round =>
    obtain ⟨k, hk, rfl, hall, hb⟩ := hrel
    have HALL := Lib.hid hall
    clear hall
    have hzb := hb.size
    rw [World.size_alloc] at hzb
    have hbox : wr.cell? ⟨w.heap.size, 0, none⟩ = some (.slice A ds.length c) := cell_below hb (cell_new rfl) (by omega)
    by_cases hlt : k < ds.length
    · have hs' : Rd wr 4 encC (.slice A ds.length c) ds := (hs.alloc _).below hb (by simp)
      obtain ⟨b, o, rfl, _, hc⟩ := hs'.at_ hlt
      have c0 := hc 0 _ rfl; have c1 := hc 1 _ rfl; have c2 := hc 2 _ rfl; have c3 := hc 3 _ rfl
      rw [Nat.add_zero] at c0
      clear hc
      have hgd := HG.out _ (List.getElem_mem hlt)
      rcases hd : ds[k] with ⟨r, ⟨a, n, s⟩⟩
      rw [hd] at c0 c1 c2 c3 hgd
      have hn : -9223372036854775808 ≤ n ∧ n ≤ 9223372036854775807 := hgd.2.2.1
      have HD := Lib.hid hd
      clear hd hgd
      have bad : cellOk ⟨r, ⟨a, n, s⟩⟩ = false → heapOk ds = false := fun h => all_step hlt (by rw [HD.out]; exact h)
      have BAD := Lib.hid bad
      clear bad
      by_cases h1 : r < 0
      · have e : cellOk ⟨r, ⟨a, n, s⟩⟩ = false := by simp [cellOk]; omega
        have E := Lib.hid (BAD.out e)
        clear e
        go_wp2_with (go_at_call 75; refine (specValOk_any _ _ _ _ hn).mono ?_; rintro e w1 ⟨rfl, hb1⟩)
        go_ret
        exact ⟨rb E.out.symm, (by repeat (first | (with_reducible refine Below.setCell ?_ (by first | omega | (· simp) | (· (simp; omega))) _) | (with_reducible refine Below.alloc ?_ (by first | omega | (· simp) | (· (simp; omega))) _) | (with_reducible refine Below.drew ?_) | (with_reducible refine bdrewN ?_ _) | (with_reducible exact Below.refl _ _) | (with_reducible assumption) | (with_reducible refine Below.trans ?_ (Below.mono (by assumption) (by first | omega | (· simp) | (· (simp; omega))))) | (with_reducible refine Below.trans ?_ (Kp.below (by assumption) (by first | omega | (· simp) | (· (simp; omega))) (by first | omega | (· simp) | (· (simp; omega)))))))⟩
      · cases hv : valOk a n s
        · have e : cellOk ⟨r, ⟨a, n, s⟩⟩ = false := by simp [cellOk, hv]
          have E := Lib.hid (BAD.out e)
          clear e
          go_wp2_with (go_at_call 75; refine (specValOk_any _ _ _ _ hn).mono ?_; rintro e w1 ⟨rfl, hb1⟩)
          go_ret
          exact ⟨rb E.out.symm, (by repeat (first | (with_reducible refine Below.setCell ?_ (by first | omega | (· simp) | (· (simp; omega))) _) | (with_reducible refine Below.alloc ?_ (by first | omega | (· simp) | (· (simp; omega))) _) | (with_reducible refine Below.drew ?_) | (with_reducible refine bdrewN ?_ _) | (with_reducible exact Below.refl _ _) | (with_reducible assumption) | (with_reducible refine Below.trans ?_ (Below.mono (by assumption) (by first | omega | (· simp) | (· (simp; omega))))) | (with_reducible refine Below.trans ?_ (Kp.below (by assumption) (by first | omega | (· simp) | (· (simp; omega))) (by first | omega | (· simp) | (· (simp; omega)))))))⟩
        · have good : cellOk ⟨r, ⟨a, n, s⟩⟩ = true → ∀ i (hi : i < ds.length), i < k + 1 → cellOk ds[i] = true := fun h i hi hik => by
            by_cases e : i = k
            · subst e; rw [HD.out]; exact h
            · exact HALL.out i hi (by omega)
          have GOOD := Lib.hid good
          clear good
          by_cases h0 : r = 0
          · subst h0
            by_cases ha : a = 0
            · subst ha
              by_cases hn0 : n = 0
              · subst hn0
                by_cases hs0 : s.toList = []
                · obtain rfl := bytes_empty hs0
                  clear hs0
                  have E := Lib.hid (GOOD.out (by
                    have : (ByteArray.mk #[]).toList = [] := by rw [ByteArray.toList_eq]
                    simp [cellOk, hv, isZero, this]))
                  go_wp2_with (go_at_call 75; refine (specValOk_any _ _ _ _ hn).mono ?_; rintro e w1 ⟨rfl, hb1⟩; have kb := blk hb1 (b := wr.heap.size) (by first | omega | (· simp) | (· (simp; omega))); have hz1 := hb1.size)
                  go_roundw
                  case rel => exact ⟨k + 1, by omega, by go_num, E.out, (by repeat (first | (with_reducible refine Below.setCell ?_ (by first | omega | (· simp) | (· (simp; omega))) _) | (with_reducible refine Below.alloc ?_ (by first | omega | (· simp) | (· (simp; omega))) _) | (with_reducible refine Below.drew ?_) | (with_reducible refine bdrewN ?_ _) | (with_reducible exact Below.refl _ _) | (with_reducible assumption) | (with_reducible refine Below.trans ?_ (Below.mono (by assumption) (by first | omega | (· simp) | (· (simp; omega))))) | (with_reducible refine Below.trans ?_ (Kp.below (by assumption) (by first | omega | (· simp) | (· (simp; omega))) (by first | omega | (· simp) | (· (simp; omega)))))))⟩
                  case measure => simp [intOf]; omega
                · have hs1 : s.toList.isEmpty = false := by simpa using hs0
                  have hs2 : (s.toList == []) = false := by simpa using hs0
                  have E := Lib.hid (BAD.out (by simp [cellOk, hv, isZero, hs1]))
                  clear hs0
                  go_wp2_with (go_at_call 75; refine (specValOk_any _ _ _ _ hn).mono ?_; rintro e w1 ⟨rfl, hb1⟩; have kb := blk hb1 (b := wr.heap.size) (by first | omega | (· simp) | (· (simp; omega))); have hz1 := hb1.size)
                  go_ret
                  exact ⟨rb E.out.symm, (by repeat (first | (with_reducible refine Below.setCell ?_ (by first | omega | (· simp) | (· (simp; omega))) _) | (with_reducible refine Below.alloc ?_ (by first | omega | (· simp) | (· (simp; omega))) _) | (with_reducible refine Below.drew ?_) | (with_reducible refine bdrewN ?_ _) | (with_reducible exact Below.refl _ _) | (with_reducible assumption) | (with_reducible refine Below.trans ?_ (Below.mono (by assumption) (by first | omega | (· simp) | (· (simp; omega))))) | (with_reducible refine Below.trans ?_ (Kp.below (by assumption) (by first | omega | (· simp) | (· (simp; omega))) (by first | omega | (· simp) | (· (simp; omega)))))))⟩
              · have hn1 : (n == 0) = false := by simpa using hn0
                have E := Lib.hid (BAD.out (by simp [cellOk, hv, isZero, hn1]))
                clear hn0
                go_wp2_with (go_at_call 75; refine (specValOk_any _ _ _ _ hn).mono ?_; rintro e w1 ⟨rfl, hb1⟩; have kb := blk hb1 (b := wr.heap.size) (by first | omega | (· simp) | (· (simp; omega))); have hz1 := hb1.size)
                go_ret
                exact ⟨rb E.out.symm, (by repeat (first | (with_reducible refine Below.setCell ?_ (by first | omega | (· simp) | (· (simp; omega))) _) | (with_reducible refine Below.alloc ?_ (by first | omega | (· simp) | (· (simp; omega))) _) | (with_reducible refine Below.drew ?_) | (with_reducible refine bdrewN ?_ _) | (with_reducible exact Below.refl _ _) | (with_reducible assumption) | (with_reducible refine Below.trans ?_ (Below.mono (by assumption) (by first | omega | (· simp) | (· (simp; omega))))) | (with_reducible refine Below.trans ?_ (Kp.below (by assumption) (by first | omega | (· simp) | (· (simp; omega))) (by first | omega | (· simp) | (· (simp; omega)))))))⟩
            · have ha1 : (a == 0) = false := by simpa using ha
              have E := Lib.hid (BAD.out (by simp [cellOk, hv, isZero, ha1]))
              clear ha
              go_wp2_with (go_at_call 75; refine (specValOk_any _ _ _ _ hn).mono ?_; rintro e w1 ⟨rfl, hb1⟩; have kb := blk hb1 (b := wr.heap.size) (by first | omega | (· simp) | (· (simp; omega))); have hz1 := hb1.size)
              go_ret
              exact ⟨rb E.out.symm, (by repeat (first | (with_reducible refine Below.setCell ?_ (by first | omega | (· simp) | (· (simp; omega))) _) | (with_reducible refine Below.alloc ?_ (by first | omega | (· simp) | (· (simp; omega))) _) | (with_reducible refine Below.drew ?_) | (with_reducible refine bdrewN ?_ _) | (with_reducible exact Below.refl _ _) | (with_reducible assumption) | (with_reducible refine Below.trans ?_ (Below.mono (by assumption) (by first | omega | (· simp) | (· (simp; omega))))) | (with_reducible refine Below.trans ?_ (Kp.below (by assumption) (by first | omega | (· simp) | (· (simp; omega))) (by first | omega | (· simp) | (· (simp; omega)))))))⟩
          · have h00 : (r == 0) = false := by simpa using h0
            have E := Lib.hid (GOOD.out (by simp [cellOk, hv, h00]; omega))
            clear h0
            go_wp2_with (go_at_call 75; refine (specValOk_any _ _ _ _ hn).mono ?_; rintro e w1 ⟨rfl, hb1⟩; have kb := blk hb1 (b := wr.heap.size) (by first | omega | (· simp) | (· (simp; omega))); have hz1 := hb1.size)
            go_roundw
            case rel => exact ⟨k + 1, by omega, by go_num, E.out, (by repeat (first | (with_reducible refine Below.setCell ?_ (by first | omega | (· simp) | (· (simp; omega))) _) | (with_reducible refine Below.alloc ?_ (by first | omega | (· simp) | (· (simp; omega))) _) | (with_reducible refine Below.drew ?_) | (with_reducible refine bdrewN ?_ _) | (with_reducible exact Below.refl _ _) | (with_reducible assumption) | (with_reducible refine Below.trans ?_ (Below.mono (by assumption) (by first | omega | (· simp) | (· (simp; omega))))) | (with_reducible refine Below.trans ?_ (Kp.below (by assumption) (by first | omega | (· simp) | (· (simp; omega))) (by first | omega | (· simp) | (· (simp; omega)))))))⟩
            case measure => simp [intOf]; omega
    · have hk' : k = ds.length := by omega
      subst hk'
      go_wp2
      go_ret
      exact ⟨rb (all_done fun i hi => HALL.out i hi hi).symm, (by repeat (first | (with_reducible refine Below.setCell ?_ (by first | omega | (· simp) | (· (simp; omega))) _) | (with_reducible refine Below.alloc ?_ (by first | omega | (· simp) | (· (simp; omega))) _) | (with_reducible refine Below.drew ?_) | (with_reducible refine bdrewN ?_ _) | (with_reducible exact Below.refl _ _) | (with_reducible assumption) | (with_reducible refine Below.trans ?_ (Below.mono (by assumption) (by first | omega | (· simp) | (· (simp; omega))))) | (with_reducible refine Below.trans ?_ (Kp.below (by assumption) (by first | omega | (· simp) | (· (simp; omega))) (by first | omega | (· simp) | (· (simp; omega)))))))⟩
set_option maxHeartbeats 1000000 in
theorem implHeapOk_any (A : Option Addr) (ln c : Nat) (ds : List GCell) (w : World) (hs : Rd w 4 encC (.slice A ln c) ds) (hg : ∀ d ∈ ds, goodC d) :
    Calls Try.prog 47 #[.agg #[.slice A ln c]] w fun e w' => e = .returned (.bool (heapOk ds)) ∧ Below w.heap.size w w' := by
  obtain rfl := hs.len_eq
  have hlen := hs.len_le
  have HG := Lib.hid hg
  clear hg
  go_enter Try.func47, Try.ntmps47
  go_wp2
  go_loopw [8] (fun i wr => ∃ (k : Nat), k ≤ ds.length ∧ i = .int .i64 k ∧ (∀ i (hi : i < ds.length), i < k → cellOk ds[i] = true) ∧ Below (w.heap.size + 1) (w.alloc (.cells #[.slice A ds.length c] 54)) wr) (fun i _ => ds.length - (intOf i).toNat)
  case atStart => exact ⟨0, Nat.zero_le _, rfl, fun _ _ h => absurd h (by omega), Below.refl _ _⟩
  case round =>
    obtain ⟨k, hk, rfl, hall, hb⟩ := hrel
    have HALL := Lib.hid hall
    clear hall
    have hzb := hb.size
    rw [World.size_alloc] at hzb
    have hbox : wr.cell? ⟨w.heap.size, 0, none⟩ = some (.slice A ds.length c) := cell_below hb (cell_new rfl) (by omega)
    by_cases hlt : k < ds.length
    · have hs' : Rd wr 4 encC (.slice A ds.length c) ds := (hs.alloc _).below hb (by simp)
      obtain ⟨b, o, rfl, _, hc⟩ := hs'.at_ hlt
      have c0 := hc 0 _ rfl; have c1 := hc 1 _ rfl; have c2 := hc 2 _ rfl; have c3 := hc 3 _ rfl
      rw [Nat.add_zero] at c0
      clear hc
      have hgd := HG.out _ (List.getElem_mem hlt)
      rcases hd : ds[k] with ⟨r, ⟨a, n, s⟩⟩
      rw [hd] at c0 c1 c2 c3 hgd
      have hn : -9223372036854775808 ≤ n ∧ n ≤ 9223372036854775807 := hgd.2.2.1
      have HD := Lib.hid hd
      clear hd hgd
      have bad : cellOk ⟨r, ⟨a, n, s⟩⟩ = false → heapOk ds = false := fun h => all_step hlt (by rw [HD.out]; exact h)
      have BAD := Lib.hid bad
      clear bad
      by_cases h1 : r < 0
      · have e : cellOk ⟨r, ⟨a, n, s⟩⟩ = false := by simp [cellOk]; omega
        have E := Lib.hid (BAD.out e)
        clear e
        go_wp2_with (go_at_call 76; refine (implValOk_any _ _ _ _ hn).mono ?_; rintro e w1 ⟨rfl, hb1⟩)
        go_ret
        exact ⟨rb E.out.symm, (by repeat (first | (with_reducible refine Below.setCell ?_ (by first | omega | (· simp) | (· (simp; omega))) _) | (with_reducible refine Below.alloc ?_ (by first | omega | (· simp) | (· (simp; omega))) _) | (with_reducible refine Below.drew ?_) | (with_reducible refine bdrewN ?_ _) | (with_reducible exact Below.refl _ _) | (with_reducible assumption) | (with_reducible refine Below.trans ?_ (Below.mono (by assumption) (by first | omega | (· simp) | (· (simp; omega))))) | (with_reducible refine Below.trans ?_ (Kp.below (by assumption) (by first | omega | (· simp) | (· (simp; omega))) (by first | omega | (· simp) | (· (simp; omega)))))))⟩
      · cases hv : valOk a n s
        · have e : cellOk ⟨r, ⟨a, n, s⟩⟩ = false := by simp [cellOk, hv]
          have E := Lib.hid (BAD.out e)
          clear e
          go_wp2_with (go_at_call 76; refine (implValOk_any _ _ _ _ hn).mono ?_; rintro e w1 ⟨rfl, hb1⟩)
          go_ret
          exact ⟨rb E.out.symm, (by repeat (first | (with_reducible refine Below.setCell ?_ (by first | omega | (· simp) | (· (simp; omega))) _) | (with_reducible refine Below.alloc ?_ (by first | omega | (· simp) | (· (simp; omega))) _) | (with_reducible refine Below.drew ?_) | (with_reducible refine bdrewN ?_ _) | (with_reducible exact Below.refl _ _) | (with_reducible assumption) | (with_reducible refine Below.trans ?_ (Below.mono (by assumption) (by first | omega | (· simp) | (· (simp; omega))))) | (with_reducible refine Below.trans ?_ (Kp.below (by assumption) (by first | omega | (· simp) | (· (simp; omega))) (by first | omega | (· simp) | (· (simp; omega)))))))⟩
        · have good : cellOk ⟨r, ⟨a, n, s⟩⟩ = true → ∀ i (hi : i < ds.length), i < k + 1 → cellOk ds[i] = true := fun h i hi hik => by
            by_cases e : i = k
            · subst e; rw [HD.out]; exact h
            · exact HALL.out i hi (by omega)
          have GOOD := Lib.hid good
          clear good
          by_cases h0 : r = 0
          · subst h0
            by_cases ha : a = 0
            · subst ha
              by_cases hn0 : n = 0
              · subst hn0
                by_cases hs0 : s.toList = []
                · obtain rfl := bytes_empty hs0
                  clear hs0
                  have E := Lib.hid (GOOD.out (by
                    have : (ByteArray.mk #[]).toList = [] := by rw [ByteArray.toList_eq]
                    simp [cellOk, hv, isZero, this]))
                  go_wp2_with (go_at_call 76; refine (implValOk_any _ _ _ _ hn).mono ?_; rintro e w1 ⟨rfl, hb1⟩; have kb := blk hb1 (b := wr.heap.size) (by first | omega | (· simp) | (· (simp; omega))); have hz1 := hb1.size)
                  go_roundw
                  case rel => exact ⟨k + 1, by omega, by go_num, E.out, (by repeat (first | (with_reducible refine Below.setCell ?_ (by first | omega | (· simp) | (· (simp; omega))) _) | (with_reducible refine Below.alloc ?_ (by first | omega | (· simp) | (· (simp; omega))) _) | (with_reducible refine Below.drew ?_) | (with_reducible refine bdrewN ?_ _) | (with_reducible exact Below.refl _ _) | (with_reducible assumption) | (with_reducible refine Below.trans ?_ (Below.mono (by assumption) (by first | omega | (· simp) | (· (simp; omega))))) | (with_reducible refine Below.trans ?_ (Kp.below (by assumption) (by first | omega | (· simp) | (· (simp; omega))) (by first | omega | (· simp) | (· (simp; omega)))))))⟩
                  case measure => simp [intOf]; omega
                · have hs1 : s.toList.isEmpty = false := by simpa using hs0
                  have hs2 : (s.toList == []) = false := by simpa using hs0
                  have E := Lib.hid (BAD.out (by simp [cellOk, hv, isZero, hs1]))
                  clear hs0
                  go_wp2_with (go_at_call 76; refine (implValOk_any _ _ _ _ hn).mono ?_; rintro e w1 ⟨rfl, hb1⟩; have kb := blk hb1 (b := wr.heap.size) (by first | omega | (· simp) | (· (simp; omega))); have hz1 := hb1.size)
                  go_ret
                  exact ⟨rb E.out.symm, (by repeat (first | (with_reducible refine Below.setCell ?_ (by first | omega | (· simp) | (· (simp; omega))) _) | (with_reducible refine Below.alloc ?_ (by first | omega | (· simp) | (· (simp; omega))) _) | (with_reducible refine Below.drew ?_) | (with_reducible refine bdrewN ?_ _) | (with_reducible exact Below.refl _ _) | (with_reducible assumption) | (with_reducible refine Below.trans ?_ (Below.mono (by assumption) (by first | omega | (· simp) | (· (simp; omega))))) | (with_reducible refine Below.trans ?_ (Kp.below (by assumption) (by first | omega | (· simp) | (· (simp; omega))) (by first | omega | (· simp) | (· (simp; omega)))))))⟩
              · have hn1 : (n == 0) = false := by simpa using hn0
                have E := Lib.hid (BAD.out (by simp [cellOk, hv, isZero, hn1]))
                clear hn0
                go_wp2_with (go_at_call 76; refine (implValOk_any _ _ _ _ hn).mono ?_; rintro e w1 ⟨rfl, hb1⟩; have kb := blk hb1 (b := wr.heap.size) (by first | omega | (· simp) | (· (simp; omega))); have hz1 := hb1.size)
                go_ret
                exact ⟨rb E.out.symm, (by repeat (first | (with_reducible refine Below.setCell ?_ (by first | omega | (· simp) | (· (simp; omega))) _) | (with_reducible refine Below.alloc ?_ (by first | omega | (· simp) | (· (simp; omega))) _) | (with_reducible refine Below.drew ?_) | (with_reducible refine bdrewN ?_ _) | (with_reducible exact Below.refl _ _) | (with_reducible assumption) | (with_reducible refine Below.trans ?_ (Below.mono (by assumption) (by first | omega | (· simp) | (· (simp; omega))))) | (with_reducible refine Below.trans ?_ (Kp.below (by assumption) (by first | omega | (· simp) | (· (simp; omega))) (by first | omega | (· simp) | (· (simp; omega)))))))⟩
            · have ha1 : (a == 0) = false := by simpa using ha
              have E := Lib.hid (BAD.out (by simp [cellOk, hv, isZero, ha1]))
              clear ha
              go_wp2_with (go_at_call 76; refine (implValOk_any _ _ _ _ hn).mono ?_; rintro e w1 ⟨rfl, hb1⟩; have kb := blk hb1 (b := wr.heap.size) (by first | omega | (· simp) | (· (simp; omega))); have hz1 := hb1.size)
              go_ret
              exact ⟨rb E.out.symm, (by repeat (first | (with_reducible refine Below.setCell ?_ (by first | omega | (· simp) | (· (simp; omega))) _) | (with_reducible refine Below.alloc ?_ (by first | omega | (· simp) | (· (simp; omega))) _) | (with_reducible refine Below.drew ?_) | (with_reducible refine bdrewN ?_ _) | (with_reducible exact Below.refl _ _) | (with_reducible assumption) | (with_reducible refine Below.trans ?_ (Below.mono (by assumption) (by first | omega | (· simp) | (· (simp; omega))))) | (with_reducible refine Below.trans ?_ (Kp.below (by assumption) (by first | omega | (· simp) | (· (simp; omega))) (by first | omega | (· simp) | (· (simp; omega)))))))⟩
          · have h00 : (r == 0) = false := by simpa using h0
            have E := Lib.hid (GOOD.out (by simp [cellOk, hv, h00]; omega))
            clear h0
            go_wp2_with (go_at_call 76; refine (implValOk_any _ _ _ _ hn).mono ?_; rintro e w1 ⟨rfl, hb1⟩; have kb := blk hb1 (b := wr.heap.size) (by first | omega | (· simp) | (· (simp; omega))); have hz1 := hb1.size)
            go_roundw
            case rel => exact ⟨k + 1, by omega, by go_num, E.out, (by repeat (first | (with_reducible refine Below.setCell ?_ (by first | omega | (· simp) | (· (simp; omega))) _) | (with_reducible refine Below.alloc ?_ (by first | omega | (· simp) | (· (simp; omega))) _) | (with_reducible refine Below.drew ?_) | (with_reducible refine bdrewN ?_ _) | (with_reducible exact Below.refl _ _) | (with_reducible assumption) | (with_reducible refine Below.trans ?_ (Below.mono (by assumption) (by first | omega | (· simp) | (· (simp; omega))))) | (with_reducible refine Below.trans ?_ (Kp.below (by assumption) (by first | omega | (· simp) | (· (simp; omega))) (by first | omega | (· simp) | (· (simp; omega)))))))⟩
            case measure => simp [intOf]; omega
    · have hk' : k = ds.length := by omega
      subst hk'
      go_wp2
      go_ret
      exact ⟨rb (all_done fun i hi => HALL.out i hi hi).symm, (by repeat (first | (with_reducible refine Below.setCell ?_ (by first | omega | (· simp) | (· (simp; omega))) _) | (with_reducible refine Below.alloc ?_ (by first | omega | (· simp) | (· (simp; omega))) _) | (with_reducible refine Below.drew ?_) | (with_reducible refine bdrewN ?_ _) | (with_reducible exact Below.refl _ _) | (with_reducible assumption) | (with_reducible refine Below.trans ?_ (Below.mono (by assumption) (by first | omega | (· simp) | (· (simp; omega))))) | (with_reducible refine Below.trans ?_ (Kp.below (by assumption) (by first | omega | (· simp) | (· (simp; omega))) (by first | omega | (· simp) | (· (simp; omega)))))))⟩
end Go.Proofs.Ytjgmdbhbnpafgaa
