/- HeapOk of both sides. -/
import Derived.Test.YtghljnfbbaklnaaCellsBentL
namespace Go.Proofs.Ytghljnfbbaklnaa
open Go.RowKit
def i64r (n : Int) : Prop := -9223372036854775808 ≤ n ∧ n ≤ 9223372036854775807
def goodV (v : GVal) : Prop := i64r v.k ∧ i64r v.n ∧ v.s.size ≤ maxLen
def goodC (c : GCell) : Prop := i64r c.refs ∧ goodV c.v
def isZero (v : GVal) : Bool := v.k == 0 && (v.n == 0 && v.s.toList.isEmpty)
def cellOk (c : GCell) : Bool := decide (0 ≤ c.refs) && (valOk c.v.k c.v.n c.v.s && !(c.refs == 0 && !isZero c.v))
def heapOk (ds : List GCell) : Bool := ds.all cellOk
set_option maxHeartbeats 1000000 in
theorem zt7 (A : Option Addr) (ln c : Nat) (ds : List GCell) (w : World) (hs : Rd w 4 encC (.slice A ln c) ds) (hg : ∀ d ∈ ds, goodC d) :
    Calls Try.prog 19 #[.agg #[.slice A ln c]] w fun e w' => e = .returned (.bool (heapOk ds)) ∧ Below w.heap.size w w' := by
  obtain rfl := hs.len_eq
  have hlen := hs.len_le
  have HG := Lib.hid hg
  clear hg
  go_enter Try.func19, Try.ntmps19
  go_wp2
  go_loopw [3] (fun i wr => ∃ (k : Nat), k ≤ ds.length ∧ i = .int .i64 k ∧ (∀ i (hi : i < ds.length), i < k → cellOk ds[i] = true) ∧ Below (w.heap.size + 1) (w.alloc (.cells #[.slice A ds.length c] 39)) wr) (fun i _ => ds.length - (intOf i).toNat)
  case atStart => exact ⟨0, Nat.zero_le _, rfl, fun _ _ h => absurd h (by omega), Below.refl _ _⟩
  case round =>
    obtain ⟨k, hk, rfl, hall, hb⟩ := hrel
    have HALL := Lib.hid hall
    clear hall
    have hzb := hb.size
    rw [World.size_alloc] at hzb
    have hbox : wr.cell? ⟨w.heap.size, 0, none⟩ = some (.slice A ds.length c) := zz4 hb (zl6 rfl) (by omega)
    by_cases hlt : k < ds.length
    · have hs' : Rd wr 4 encC (.slice A ds.length c) ds := (hs.alloc _).below hb (by simp)
      obtain ⟨b, o, rfl, _, hc⟩ := hs'.at_ hlt
      have c0 := hc 0 _ rfl; have c1 := hc 1 _ rfl; have c2 := hc 2 _ rfl; have c3 := hc 3 _ rfl
      rw [Nat.add_zero] at c0
      clear hc
      have hgd := HG.out _ (List.getElem_mem hlt)
      rcases hd : ds[k] with ⟨r, ⟨a, n, s⟩⟩
      rw [hd] at c0 c1 c2 c3 hgd
      have hn : -9223372036854775808 ≤ n ∧ n ≤ 9223372036854775807 := hgd.2.2.1
      have HD := Lib.hid hd
      clear hd hgd
      have bad : cellOk ⟨r, ⟨a, n, s⟩⟩ = false → heapOk ds = false := fun h => zv11 hlt (by rw [HD.out]; exact h)
      have BAD := Lib.hid bad
      clear bad
      by_cases h1 : r < 0
      · have e : cellOk ⟨r, ⟨a, n, s⟩⟩ = false := by simp [cellOk]; omega
        have E := Lib.hid (BAD.out e)
        clear e
        go_wp2_with (go_at_call 53; refine (zo2 _ _ _ _ hn).mono ?_; rintro e w1 ⟨rfl, hb1⟩)
        go_ret
        exact ⟨rb E.out.symm, (by repeat (first | (with_reducible refine Below.setCell ?_ (by first | omega | (· simp) | (· (simp; omega))) _) | (with_reducible refine Below.alloc ?_ (by first | omega | (· simp) | (· (simp; omega))) _) | (with_reducible refine Below.drew ?_) | (with_reducible refine zj1 ?_ _) | (with_reducible exact Below.refl _ _) | (with_reducible assumption) | (with_reducible refine Below.trans ?_ (Below.mono (by assumption) (by first | omega | (· simp) | (· (simp; omega))))) | (with_reducible refine Below.trans ?_ (Kp.below (by assumption) (by first | omega | (· simp) | (· (simp; omega))) (by first | omega | (· simp) | (· (simp; omega)))))))⟩
      · cases hv : valOk a n s
        · have e : cellOk ⟨r, ⟨a, n, s⟩⟩ = false := by simp [cellOk, hv]
          have E := Lib.hid (BAD.out e)
          clear e
          go_wp2_with (go_at_call 53; refine (zo2 _ _ _ _ hn).mono ?_; rintro e w1 ⟨rfl, hb1⟩)
          go_ret
          exact ⟨rb E.out.symm, (by repeat (first | (with_reducible refine Below.setCell ?_ (by first | omega | (· simp) | (· (simp; omega))) _) | (with_reducible refine Below.alloc ?_ (by first | omega | (· simp) | (· (simp; omega))) _) | (with_reducible refine Below.drew ?_) | (with_reducible refine zj1 ?_ _) | (with_reducible exact Below.refl _ _) | (with_reducible assumption) | (with_reducible refine Below.trans ?_ (Below.mono (by assumption) (by first | omega | (· simp) | (· (simp; omega))))) | (with_reducible refine Below.trans ?_ (Kp.below (by assumption) (by first | omega | (· simp) | (· (simp; omega))) (by first | omega | (· simp) | (· (simp; omega)))))))⟩
        · have good : cellOk ⟨r, ⟨a, n, s⟩⟩ = true → ∀ i (hi : i < ds.length), i < k + 1 → cellOk ds[i] = true := fun h i hi hik => by
            by_cases e : i = k
            · subst e; rw [HD.out]; exact h
            · exact HALL.out i hi (by omega)
          have GOOD := Lib.hid good
          clear good
          by_cases h0 : r = 0
          · subst h0
            by_cases ha : a = 0
            · subst ha
              by_cases hn0 : n = 0
              · subst hn0
                by_cases hs0 : s.toList = []
                · obtain rfl := zp4 hs0
                  clear hs0
                  have E := Lib.hid (GOOD.out (by
                    have : (ByteArray.mk #[]).toList = [] := by rw [ByteArray.toList_eq]
                    simp [cellOk, hv, isZero, this]))
                  go_wp2_with (go_at_call 53; refine (zo2 _ _ _ _ hn).mono ?_; rintro e w1 ⟨rfl, hb1⟩; have kb := blk hb1 (b := wr.heap.size) (by first | omega | (· simp) | (· (simp; omega))); have hz1 := hb1.size)
                  go_roundw
                  case rel => exact ⟨k + 1, by omega, by go_num, E.out, (by repeat (first | (with_reducible refine Below.setCell ?_ (by first | omega | (· simp) | (· (simp; omega))) _) | (with_reducible refine Below.alloc ?_ (by first | omega | (· simp) | (· (simp; omega))) _) | (with_reducible refine Below.drew ?_) | (with_reducible refine zj1 ?_ _) | (with_reducible exact Below.refl _ _) | (with_reducible assumption) | (with_reducible refine Below.trans ?_ (Below.mono (by assumption) (by first | omega | (· simp) | (· (simp; omega))))) | (with_reducible refine Below.trans ?_ (Kp.below (by assumption) (by first | omega | (· simp) | (· (simp; omega))) (by first | omega | (· simp) | (· (simp; omega)))))))⟩
                  case measure => simp [intOf]; omega
                · have hs1 : s.toList.isEmpty = false := by simpa using hs0
                  have hs2 : (s.toList == []) = false := by simpa using hs0
                  have E := Lib.hid (BAD.out (by simp [cellOk, hv, isZero, hs1]))
                  clear hs0
                  go_wp2_with (go_at_call 53; refine (zo2 _ _ _ _ hn).mono ?_; rintro e w1 ⟨rfl, hb1⟩; have kb := blk hb1 (b := wr.heap.size) (by first | omega | (· simp) | (· (simp; omega))); have hz1 := hb1.size)
                  go_ret
                  exact ⟨rb E.out.symm, (by repeat (first | (with_reducible refine Below.setCell ?_ (by first | omega | (· simp) | (· (simp; omega))) _) | (with_reducible refine Below.alloc ?_ (by first | omega | (· simp) | (· (simp; omega))) _) | (with_reducible refine Below.drew ?_) | (with_reducible refine zj1 ?_ _) | (with_reducible exact Below.refl _ _) | (with_reducible assumption) | (with_reducible refine Below.trans ?_ (Below.mono (by assumption) (by first | omega | (· simp) | (· (simp; omega))))) | (with_reducible refine Below.trans ?_ (Kp.below (by assumption) (by first | omega | (· simp) | (· (simp; omega))) (by first | omega | (· simp) | (· (simp; omega)))))))⟩
              · have hn1 : (n == 0) = false := by simpa using hn0
                have E := Lib.hid (BAD.out (by simp [cellOk, hv, isZero, hn1]))
                clear hn0
                go_wp2_with (go_at_call 53; refine (zo2 _ _ _ _ hn).mono ?_; rintro e w1 ⟨rfl, hb1⟩; have kb := blk hb1 (b := wr.heap.size) (by first | omega | (· simp) | (· (simp; omega))); have hz1 := hb1.size)
                go_ret
                exact ⟨rb E.out.symm, (by repeat (first | (with_reducible refine Below.setCell ?_ (by first | omega | (· simp) | (· (simp; omega))) _) | (with_reducible refine Below.alloc ?_ (by first | omega | (· simp) | (· (simp; omega))) _) | (with_reducible refine Below.drew ?_) | (with_reducible refine zj1 ?_ _) | (with_reducible exact Below.refl _ _) | (with_reducible assumption) | (with_reducible refine Below.trans ?_ (Below.mono (by assumption) (by first | omega | (· simp) | (· (simp; omega))))) | (with_reducible refine Below.trans ?_ (Kp.below (by assumption) (by first | omega | (· simp) | (· (simp; omega))) (by first | omega | (· simp) | (· (simp; omega)))))))⟩
            · have ha1 : (a == 0) = false := by simpa using ha
              have E := Lib.hid (BAD.out (by simp [cellOk, hv, isZero, ha1]))
              clear ha
              go_wp2_with (go_at_call 53; refine (zo2 _ _ _ _ hn).mono ?_; rintro e w1 ⟨rfl, hb1⟩; have kb := blk hb1 (b := wr.heap.size) (by first | omega | (· simp) | (· (simp; omega))); have hz1 := hb1.size)
              go_ret
              exact ⟨rb E.out.symm, (by repeat (first | (with_reducible refine Below.setCell ?_ (by first | omega | (· simp) | (· (simp; omega))) _) | (with_reducible refine Below.alloc ?_ (by first | omega | (· simp) | (· (simp; omega))) _) | (with_reducible refine Below.drew ?_) | (with_reducible refine zj1 ?_ _) | (with_reducible exact Below.refl _ _) | (with_reducible assumption) | (with_reducible refine Below.trans ?_ (Below.mono (by assumption) (by first | omega | (· simp) | (· (simp; omega))))) | (with_reducible refine Below.trans ?_ (Kp.below (by assumption) (by first | omega | (· simp) | (· (simp; omega))) (by first | omega | (· simp) | (· (simp; omega)))))))⟩
          · have h00 : (r == 0) = false := by simpa using h0
            have E := Lib.hid (GOOD.out (by simp [cellOk, hv, h00]; omega))
            clear h0
            go_wp2_with (go_at_call 53; refine (zo2 _ _ _ _ hn).mono ?_; rintro e w1 ⟨rfl, hb1⟩; have kb := blk hb1 (b := wr.heap.size) (by first | omega | (· simp) | (· (simp; omega))); have hz1 := hb1.size)
            go_roundw
            case rel => exact ⟨k + 1, by omega, by go_num, E.out, (by repeat (first | (with_reducible refine Below.setCell ?_ (by first | omega | (· simp) | (· (simp; omega))) _) | (with_reducible refine Below.alloc ?_ (by first | omega | (· simp) | (· (simp; omega))) _) | (with_reducible refine Below.drew ?_) | (with_reducible refine zj1 ?_ _) | (with_reducible exact Below.refl _ _) | (with_reducible assumption) | (with_reducible refine Below.trans ?_ (Below.mono (by assumption) (by first | omega | (· simp) | (· (simp; omega))))) | (with_reducible refine Below.trans ?_ (Kp.below (by assumption) (by first | omega | (· simp) | (· (simp; omega))) (by first | omega | (· simp) | (· (simp; omega)))))))⟩
            case measure => simp [intOf]; omega
    · have hk' : k = ds.length := by omega
      subst hk'
      go_wp2
      go_ret
      exact ⟨rb (zw11 fun i hi => HALL.out i hi hi).symm, (by repeat (first | (with_reducible refine Below.setCell ?_ (by first | omega | (· simp) | (· (simp; omega))) _) | (with_reducible refine Below.alloc ?_ (by first | omega | (· simp) | (· (simp; omega))) _) | (with_reducible refine Below.drew ?_) | (with_reducible refine zj1 ?_ _) | (with_reducible exact Below.refl _ _) | (with_reducible assumption) | (with_reducible refine Below.trans ?_ (Below.mono (by assumption) (by first | omega | (· simp) | (· (simp; omega))))) | (with_reducible refine Below.trans ?_ (Kp.below (by assumption) (by first | omega | (· simp) | (· (simp; omega))) (by first | omega | (· simp) | (· (simp; omega)))))))⟩
set_option maxHeartbeats 1000000 in
theorem zu7 (A : Option Addr) (ln c : Nat) (ds : List GCell) (w : World) (hs : Rd w 4 encC (.slice A ln c) ds) (hg : ∀ d ∈ ds, goodC d) :
    Calls Try.prog 18 #[.agg #[.slice A ln c]] w fun e w' => e = .returned (.bool (heapOk ds)) ∧ Below w.heap.size w w' := by
  obtain rfl := hs.len_eq
  have hlen := hs.len_le
  have HG := Lib.hid hg
  clear hg
  go_enter Try.func18, Try.ntmps18
  go_wp2
  go_loopw [8] (fun i wr => ∃ (k : Nat), k ≤ ds.length ∧ i = .int .i64 k ∧ (∀ i (hi : i < ds.length), i < k → cellOk ds[i] = true) ∧ Below (w.heap.size + 1) (w.alloc (.cells #[.slice A ds.length c] 39)) wr) (fun i _ => ds.length - (intOf i).toNat)
  case atStart => exact ⟨0, Nat.zero_le _, rfl, fun _ _ h => absurd h (by omega), Below.refl _ _⟩
  case round =>
    obtain ⟨k, hk, rfl, hall, hb⟩ := hrel
    have HALL := Lib.hid hall
    clear hall
    have hzb := hb.size
    rw [World.size_alloc] at hzb
    have hbox : wr.cell? ⟨w.heap.size, 0, none⟩ = some (.slice A ds.length c) := zz4 hb (zl6 rfl) (by omega)
    by_cases hlt : k < ds.length
    · have hs' : Rd wr 4 encC (.slice A ds.length c) ds := (hs.alloc _).below hb (by simp)
      obtain ⟨b, o, rfl, _, hc⟩ := hs'.at_ hlt
      have c0 := hc 0 _ rfl; have c1 := hc 1 _ rfl; have c2 := hc 2 _ rfl; have c3 := hc 3 _ rfl
      rw [Nat.add_zero] at c0
      clear hc
      have hgd := HG.out _ (List.getElem_mem hlt)
      rcases hd : ds[k] with ⟨r, ⟨a, n, s⟩⟩
      rw [hd] at c0 c1 c2 c3 hgd
      have hn : -9223372036854775808 ≤ n ∧ n ≤ 9223372036854775807 := hgd.2.2.1
      have HD := Lib.hid hd
      clear hd hgd
      have bad : cellOk ⟨r, ⟨a, n, s⟩⟩ = false → heapOk ds = false := fun h => zv11 hlt (by rw [HD.out]; exact h)
      have BAD := Lib.hid bad
      clear bad
      by_cases h1 : r < 0
      · have e : cellOk ⟨r, ⟨a, n, s⟩⟩ = false := by simp [cellOk]; omega
        have E := Lib.hid (BAD.out e)
        clear e
        go_wp2_with (go_at_call 52; refine (zn2 _ _ _ _ hn).mono ?_; rintro e w1 ⟨rfl, hb1⟩)
        go_ret
        exact ⟨rb E.out.symm, (by repeat (first | (with_reducible refine Below.setCell ?_ (by first | omega | (· simp) | (· (simp; omega))) _) | (with_reducible refine Below.alloc ?_ (by first | omega | (· simp) | (· (simp; omega))) _) | (with_reducible refine Below.drew ?_) | (with_reducible refine zj1 ?_ _) | (with_reducible exact Below.refl _ _) | (with_reducible assumption) | (with_reducible refine Below.trans ?_ (Below.mono (by assumption) (by first | omega | (· simp) | (· (simp; omega))))) | (with_reducible refine Below.trans ?_ (Kp.below (by assumption) (by first | omega | (· simp) | (· (simp; omega))) (by first | omega | (· simp) | (· (simp; omega)))))))⟩
      · cases hv : valOk a n s
        · have e : cellOk ⟨r, ⟨a, n, s⟩⟩ = false := by simp [cellOk, hv]
          have E := Lib.hid (BAD.out e)
          clear e
          go_wp2_with (go_at_call 52; refine (zn2 _ _ _ _ hn).mono ?_; rintro e w1 ⟨rfl, hb1⟩)
          go_ret
          exact ⟨rb E.out.symm, (by repeat (first | (with_reducible refine Below.setCell ?_ (by first | omega | (· simp) | (· (simp; omega))) _) | (with_reducible refine Below.alloc ?_ (by first | omega | (· simp) | (· (simp; omega))) _) | (with_reducible refine Below.drew ?_) | (with_reducible refine zj1 ?_ _) | (with_reducible exact Below.refl _ _) | (with_reducible assumption) | (with_reducible refine Below.trans ?_ (Below.mono (by assumption) (by first | omega | (· simp) | (· (simp; omega))))) | (with_reducible refine Below.trans ?_ (Kp.below (by assumption) (by first | omega | (· simp) | (· (simp; omega))) (by first | omega | (· simp) | (· (simp; omega)))))))⟩
        · have good : cellOk ⟨r, ⟨a, n, s⟩⟩ = true → ∀ i (hi : i < ds.length), i < k + 1 → cellOk ds[i] = true := fun h i hi hik => by
            by_cases e : i = k
            · subst e; rw [HD.out]; exact h
            · exact HALL.out i hi (by omega)
          have GOOD := Lib.hid good
          clear good
          by_cases h0 : r = 0
          · subst h0
            by_cases ha : a = 0
            · subst ha
              by_cases hn0 : n = 0
              · subst hn0
                by_cases hs0 : s.toList = []
                · obtain rfl := zp4 hs0
                  clear hs0
                  have E := Lib.hid (GOOD.out (by
                    have : (ByteArray.mk #[]).toList = [] := by rw [ByteArray.toList_eq]
                    simp [cellOk, hv, isZero, this]))
                  go_wp2_with (go_at_call 52; refine (zn2 _ _ _ _ hn).mono ?_; rintro e w1 ⟨rfl, hb1⟩; have kb := blk hb1 (b := wr.heap.size) (by first | omega | (· simp) | (· (simp; omega))); have hz1 := hb1.size)
                  go_roundw
                  case rel => exact ⟨k + 1, by omega, by go_num, E.out, (by repeat (first | (with_reducible refine Below.setCell ?_ (by first | omega | (· simp) | (· (simp; omega))) _) | (with_reducible refine Below.alloc ?_ (by first | omega | (· simp) | (· (simp; omega))) _) | (with_reducible refine Below.drew ?_) | (with_reducible refine zj1 ?_ _) | (with_reducible exact Below.refl _ _) | (with_reducible assumption) | (with_reducible refine Below.trans ?_ (Below.mono (by assumption) (by first | omega | (· simp) | (· (simp; omega))))) | (with_reducible refine Below.trans ?_ (Kp.below (by assumption) (by first | omega | (· simp) | (· (simp; omega))) (by first | omega | (· simp) | (· (simp; omega)))))))⟩
                  case measure => simp [intOf]; omega
                · have hs1 : s.toList.isEmpty = false := by simpa using hs0
                  have hs2 : (s.toList == []) = false := by simpa using hs0
                  have E := Lib.hid (BAD.out (by simp [cellOk, hv, isZero, hs1]))
                  clear hs0
                  go_wp2_with (go_at_call 52; refine (zn2 _ _ _ _ hn).mono ?_; rintro e w1 ⟨rfl, hb1⟩; have kb := blk hb1 (b := wr.heap.size) (by first | omega | (· simp) | (· (simp; omega))); have hz1 := hb1.size)
                  go_ret
                  exact ⟨rb E.out.symm, (by repeat (first | (with_reducible refine Below.setCell ?_ (by first | omega | (· simp) | (· (simp; omega))) _) | (with_reducible refine Below.alloc ?_ (by first | omega | (· simp) | (· (simp; omega))) _) | (with_reducible refine Below.drew ?_) | (with_reducible refine zj1 ?_ _) | (with_reducible exact Below.refl _ _) | (with_reducible assumption) | (with_reducible refine Below.trans ?_ (Below.mono (by assumption) (by first | omega | (· simp) | (· (simp; omega))))) | (with_reducible refine Below.trans ?_ (Kp.below (by assumption) (by first | omega | (· simp) | (· (simp; omega))) (by first | omega | (· simp) | (· (simp; omega)))))))⟩
              · have hn1 : (n == 0) = false := by simpa using hn0
                have E := Lib.hid (BAD.out (by simp [cellOk, hv, isZero, hn1]))
                clear hn0
                go_wp2_with (go_at_call 52; refine (zn2 _ _ _ _ hn).mono ?_; rintro e w1 ⟨rfl, hb1⟩; have kb := blk hb1 (b := wr.heap.size) (by first | omega | (· simp) | (· (simp; omega))); have hz1 := hb1.size)
                go_ret
                exact ⟨rb E.out.symm, (by repeat (first | (with_reducible refine Below.setCell ?_ (by first | omega | (· simp) | (· (simp; omega))) _) | (with_reducible refine Below.alloc ?_ (by first | omega | (· simp) | (· (simp; omega))) _) | (with_reducible refine Below.drew ?_) | (with_reducible refine zj1 ?_ _) | (with_reducible exact Below.refl _ _) | (with_reducible assumption) | (with_reducible refine Below.trans ?_ (Below.mono (by assumption) (by first | omega | (· simp) | (· (simp; omega))))) | (with_reducible refine Below.trans ?_ (Kp.below (by assumption) (by first | omega | (· simp) | (· (simp; omega))) (by first | omega | (· simp) | (· (simp; omega)))))))⟩
            · have ha1 : (a == 0) = false := by simpa using ha
              have E := Lib.hid (BAD.out (by simp [cellOk, hv, isZero, ha1]))
              clear ha
              go_wp2_with (go_at_call 52; refine (zn2 _ _ _ _ hn).mono ?_; rintro e w1 ⟨rfl, hb1⟩; have kb := blk hb1 (b := wr.heap.size) (by first | omega | (· simp) | (· (simp; omega))); have hz1 := hb1.size)
              go_ret
              exact ⟨rb E.out.symm, (by repeat (first | (with_reducible refine Below.setCell ?_ (by first | omega | (· simp) | (· (simp; omega))) _) | (with_reducible refine Below.alloc ?_ (by first | omega | (· simp) | (· (simp; omega))) _) | (with_reducible refine Below.drew ?_) | (with_reducible refine zj1 ?_ _) | (with_reducible exact Below.refl _ _) | (with_reducible assumption) | (with_reducible refine Below.trans ?_ (Below.mono (by assumption) (by first | omega | (· simp) | (· (simp; omega))))) | (with_reducible refine Below.trans ?_ (Kp.below (by assumption) (by first | omega | (· simp) | (· (simp; omega))) (by first | omega | (· simp) | (· (simp; omega)))))))⟩
          · have h00 : (r == 0) = false := by simpa using h0
            have E := Lib.hid (GOOD.out (by simp [cellOk, hv, h00]; omega))
            clear h0
            go_wp2_with (go_at_call 52; refine (zn2 _ _ _ _ hn).mono ?_; rintro e w1 ⟨rfl, hb1⟩; have kb := blk hb1 (b := wr.heap.size) (by first | omega | (· simp) | (· (simp; omega))); have hz1 := hb1.size)
            go_roundw
            case rel => exact ⟨k + 1, by omega, by go_num, E.out, (by repeat (first | (with_reducible refine Below.setCell ?_ (by first | omega | (· simp) | (· (simp; omega))) _) | (with_reducible refine Below.alloc ?_ (by first | omega | (· simp) | (· (simp; omega))) _) | (with_reducible refine Below.drew ?_) | (with_reducible refine zj1 ?_ _) | (with_reducible exact Below.refl _ _) | (with_reducible assumption) | (with_reducible refine Below.trans ?_ (Below.mono (by assumption) (by first | omega | (· simp) | (· (simp; omega))))) | (with_reducible refine Below.trans ?_ (Kp.below (by assumption) (by first | omega | (· simp) | (· (simp; omega))) (by first | omega | (· simp) | (· (simp; omega)))))))⟩
            case measure => simp [intOf]; omega
    · have hk' : k = ds.length := by omega
      subst hk'
      go_wp2
      go_ret
      exact ⟨rb (zw11 fun i hi => HALL.out i hi hi).symm, (by repeat (first | (with_reducible refine Below.setCell ?_ (by first | omega | (· simp) | (· (simp; omega))) _) | (with_reducible refine Below.alloc ?_ (by first | omega | (· simp) | (· (simp; omega))) _) | (with_reducible refine Below.drew ?_) | (with_reducible refine zj1 ?_ _) | (with_reducible exact Below.refl _ _) | (with_reducible assumption) | (with_reducible refine Below.trans ?_ (Below.mono (by assumption) (by first | omega | (· simp) | (· (simp; omega))))) | (with_reducible refine Below.trans ?_ (Kp.below (by assumption) (by first | omega | (· simp) | (· (simp; omega))) (by first | omega | (· simp) | (· (simp; omega)))))))⟩
set_option maxRecDepth 100000
def toG (e : E) : GCell := match e with | .agg [.int _ r, .agg [.int _ a, .int _ b, .str s]] => ⟨r, ⟨a, b, s⟩⟩ | _ => ⟨0, ⟨0, 0, ByteArray.empty⟩⟩
def toGs (l : List E) : List GCell := l.map toG
theorem zw9 {w : World} {St : Nat → Prop} {φ : Nat → Lc} {K : Nat → Prop} : ∀ {l : List E} {us : List Value} {fp : List Nat}, (∀ e ∈ l, CellOk e) → CRL w St φ K (acL l) us fp → us = (toGs l).flatMap encC
  | [], us, fp, _, h => by
    have h' : CRL w St φ K [] us fp := h
    simp only [CRL] at h'
    exact h'.1
  | e :: r, us, fp, hl, h => by
    obtain ⟨x, a, b, s, -, -, rfl⟩ := hl e List.mem_cons_self
    have h' : CRL w St φ K (.v (.int .i64 x) :: .v (.int .i64 a) :: .v (.int .i64 b) :: .v (.string s) :: acL r) us fp := h
    simp only [CRL, CR] at h'
    obtain ⟨u1, us1, f1, g1, rfl, rfl, ⟨rfl, -⟩, u2, us2, f2, g2, rfl, rfl, ⟨rfl, -⟩, u3, us3, f3, g3, rfl, rfl, ⟨rfl, -⟩, u4, us4, f4, g4, rfl, rfl, ⟨rfl, -⟩, h2⟩ := h'
    rw [zw9 (fun y hy => hl y (List.mem_cons_of_mem _ hy)) h2]
    rfl
theorem zo16 {ds : List GCell} : ∀ {i j : Nat} (hi : i < ds.length), j < 4 → (ds.flatMap encC)[i * 4 + j]? = (encC ds[i])[j]? := by
  induction ds with
  | nil => intro i j hi; simp at hi
  | cons d r ih =>
    intro i j hi hj
    rw [List.flatMap_cons]
    cases i with
    | zero => rw [List.getElem?_append_left (by simp [encC]; omega)]; simp
    | succ i =>
      rw [List.getElem?_append_right (by simp [encC]; omega)]
      have := ih (i := i) (j := j) (by simpa using hi) hj
      rw [show (i + 1) * 4 + j - (encC d).length = i * 4 + j by simp [encC]; omega, this]
      rfl
theorem zz5 {w : World} {St : Nat → Prop} {φ : Nat → Lc} {K : Nat → Prop} {u : Value} {n : Nat} {l : List E} (hl : HOk n l) (h : VR w St φ K (.ag (acE (heapE l))) u) : ∃ A c, u = .agg #[.slice A l.length c] ∧ Rd w 4 encC (.slice A l.length c) (toGs l) := by
  have h' : VR w St φ K (.ag [.ro l.length 4 (acL l)]) u := h
  simp only [VR, CRL, CR] at h'
  obtain ⟨us0, rfl, u1, us1, f1, f1', rfl, -, ⟨-, A, c, rfl, ⟨h1, h2, h3⟩, h4, h5⟩, rfl, -⟩ := h'
  have hlen : (toGs l).length = l.length := by simp [toGs]
  refine ⟨A, c, rfl, A, c, by rw [hlen], by rw [hlen]; exact h1, ⟨h2, h3⟩, fun hn => ?_⟩
  obtain ⟨b, o, us, rfl, -, hlt, hc, hcr⟩ := h5 (by rw [hlen] at hn; exact hn)
  refine ⟨b, o, rfl, Nat.zero_le _, hlt, fun i hi j x hx => ?_⟩
  have hj : j < 4 := by
    have := (List.getElem?_eq_some_iff.1 hx).1
    simpa [encC] using this
  have := hc (i * 4 + j) x (by rw [zw9 hl.2 hcr, zo16 hi hj]; exact hx)
  rw [← Nat.add_assoc] at this
  exact this
theorem zw3 {P : Program} {f : FuncId} {ins : List AV} {v : Value} {res : AV} (he : entB P f = true) (hv : ∀ w : World, VRF w (fun _ => False) φ0 K0 res v [])
    (hc : ∀ (w : World) (St : Nat → Prop) (φ : Nat → Lc) (K : Nat → Prop) (us : List Value), VRL w St φ K ins us → Calls P f us.toArray w fun e w' => e = .returned v ∧ Below w.heap.size w w') : Ctr P f ins [] res [] := by
  refine ⟨he, fun w St φ F us' hent => ?_⟩
  refine (hc w St φ _ us' hent.args).mono ?_
  rintro e w' ⟨rfl, hb⟩
  exact ⟨_, _, v, fun _ => False, fun _ => [], [], ⟨rfl, rfl⟩, rfl, ⟨⟨hb.os, hb.tape, hb.output, hb.size, fun b hlt _ => .inl (hb.block b hlt)⟩, hv w', by simp, rfl, fun i cs hi => by simp at hi, fun i hi => by simp at hi, fun i hi => by simp at hi, fun i j hi => by simp at hi, fun i b lo hi => by simp at hi, fun b hb => by simp at hb, fun b hb => hb.elim⟩⟩
theorem in1 {w : World} {St : Nat → Prop} {φ : Nat → Lc} {K : Nat → Prop} {x : AV} {us : List Value} (h : VRL w St φ K [x] us) : ∃ u, us = [u] ∧ VR w St φ K x u := by
  simp only [VRL] at h
  obtain ⟨u, us1, rfl, h1, rfl⟩ := h
  exact ⟨u, rfl, h1⟩
theorem in2 {w : World} {St : Nat → Prop} {φ : Nat → Lc} {K : Nat → Prop} {x : AV} {z : Value} {us : List Value} (h : VRL w St φ K [x, .c (.v z)] us) : ∃ u, us = [u, z] ∧ VR w St φ K x u := by
  simp only [VRL, VR, CR] at h
  obtain ⟨u, us1, rfl, h1, u2, us2, rfl, ⟨rfl, -⟩, rfl⟩ := h
  exact ⟨u, rfl, h1⟩
theorem zp16 {w : World} {St : Nat → Prop} {φ : Nat → Lc} {K : Nat → Prop} {z : Value} (h : scal z = true) : VRF w St φ K (.c (.v z)) z [] := by
  simp only [VRF, CR]; exact ⟨trivial, h, trivial⟩
theorem zn19 {n : Nat} {l : List E} (hl : HOk n l) : ∀ d ∈ toGs l, goodC d := by
  intro d hd
  obtain ⟨e, he, rfl⟩ := List.mem_map.1 hd
  obtain ⟨r, a, b, s, hr, hv, rfl⟩ := hl.2 e he
  show i64r r ∧ i64r a ∧ i64r b ∧ s.size ≤ maxLen
  exact ⟨hr, hv.1, hv.2.1, by have := hv.2.2; unfold maxLen; omega⟩
theorem zx9 {n : Nat} {l : List E} (hl : HOk n l) : Ctr Try.prog 21 [.ag (acE (heapE l))] [] (.c (.v (.int .i64 (heldOf (toGs l))))) [] := by
  refine zw3 (by kernel_rfl) (fun w => zp16 rfl) fun w St φ K us h => ?_
  obtain ⟨u, rfl, h1⟩ := in1 h
  obtain ⟨A, c, rfl, hrd⟩ := zz5 hl h1
  exact zr7 A _ c _ w hrd
theorem zy9 {n : Nat} {l : List E} (hl : HOk n l) : Ctr Try.prog 20 [.ag (acE (heapE l))] [] (.c (.v (.int .i64 (heldOf (toGs l))))) [] := by
  refine zw3 (by kernel_rfl) (fun w => zp16 rfl) fun w St φ K us h => ?_
  obtain ⟨u, rfl, h1⟩ := in1 h
  obtain ⟨A, c, rfl, hrd⟩ := zz5 hl h1
  exact zs7 A _ c _ w hrd
theorem zz9 {n : Nat} {l : List E} (hl : HOk n l) : Ctr Try.prog 19 [.ag (acE (heapE l))] [] (.c (.v (.bool (heapOk (toGs l))))) [] := by
  refine zw3 (by kernel_rfl) (fun w => zp16 rfl) fun w St φ K us h => ?_
  obtain ⟨u, rfl, h1⟩ := in1 h
  obtain ⟨A, c, rfl, hrd⟩ := zz5 hl h1
  exact zt7 A _ c _ w hrd (zn19 hl)
theorem za10 {n : Nat} {l : List E} (hl : HOk n l) : Ctr Try.prog 18 [.ag (acE (heapE l))] [] (.c (.v (.bool (heapOk (toGs l))))) [] := by
  refine zw3 (by kernel_rfl) (fun w => zp16 rfl) fun w St φ K us h => ?_
  obtain ⟨u, rfl, h1⟩ := in1 h
  obtain ⟨A, c, rfl, hrd⟩ := zz5 hl h1
  exact zu7 A _ c _ w hrd (zn19 hl)
theorem zn17 {w : World} {St : Nat → Prop} {φ : Nat → Lc} {K : Nat → Prop} {x y z : Value} (h1 : scal x = true) (h2 : scal y = true) (h3 : scal z = true) : VRF w St φ K (.ag [.v x, .v y, .v z]) (.agg #[x, y, z]) [] := by
  simp only [VRF]
  exact ⟨[x, y, z], rfl, CRL.cons (f := []) (f' := []) (by simp only [CR]; exact ⟨trivial, h1, trivial⟩) (CRL.cons (f := []) (f' := []) (by simp only [CR]; exact ⟨trivial, h2, trivial⟩) (CRL.cons (f := []) (f' := []) (by simp only [CR]; exact ⟨trivial, h3, trivial⟩) CRL.nil))⟩
theorem zu10 {n : Nat} {l : List E} (hl : HOk n l) (k : Int) : Ctr Try.prog 23 [.ag (acE (heapE l)), .c (.v (.int .i64 k))] [] (.ag [.v (.int .i64 (valAt (toGs l) k).k), .v (.int .i64 (valAt (toGs l) k).n), .v (.string (valAt (toGs l) k).s)]) [] := by
  refine zw3 (by kernel_rfl) (fun w => zn17 rfl rfl rfl) fun w St φ K us h => ?_
  obtain ⟨u, rfl, h1⟩ := in2 h
  obtain ⟨A, c, rfl, hrd⟩ := zz5 hl h1
  exact zr8 A _ c _ k w hrd
theorem zv10 {n : Nat} {l : List E} (hl : HOk n l) (k : Int) : Ctr Try.prog 22 [.ag (acE (heapE l)), .c (.v (.int .i64 k))] [] (.ag [.v (.int .i64 (valAt (toGs l) k).k), .v (.int .i64 (valAt (toGs l) k).n), .v (.string (valAt (toGs l) k).s)]) [] := by
  refine zw3 (by kernel_rfl) (fun w => zn17 rfl rfl rfl) fun w St φ K us h => ?_
  obtain ⟨u, rfl, h1⟩ := in2 h
  obtain ⟨A, c, rfl, hrd⟩ := zz5 hl h1
  exact zs8 A _ c _ k w hrd
end Go.Proofs.Ytghljnfbbaklnaa
