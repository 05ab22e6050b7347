/- Words and contracts of flat types: Named Entry. -/
import Derived.Test.YtfnnbjkjfoiboaaHeap3
namespace Go.Proofs.Ytfnnbjkjfoiboaa
open Go.RowKit

theorem szVal_ex (d : GVal) (left : Int) (w : World) (hg : goodV d) (h0 : 0 ≤ left) (h1 : left ≤ 1048576) :
    Calls Try.prog 16 #[.agg #[.int .i64 d.k, .int .i64 d.n, .string d.s], .int .i64 left] w fun e w' => ∃ r, e = .returned (.int .i64 r) ∧ r ≤ left ∧ Below w.heap.size w w' :=
  (szVal_any d.k d.n d.s left w h0 h1 (by have h := hg.2.2; unfold maxLen at h; exact h)).mono fun e w' ⟨he, hb⟩ => ⟨_, he, by split <;> omega, hb⟩
structure GNamed where
  name : ByteArray
  v : GVal
def encNamed (d : GNamed) : List Value := [.string d.name, .int .i64 d.v.k, .int .i64 d.v.n, .string d.v.s]
theorem encNamed_len (d : GNamed) : (encNamed d).length = 4 := rfl
theorem encNamed_one (d : GNamed) (u : Value) (h : u ∈ encNamed d) : u.oneCell' = true := by
  simp only [encNamed, List.mem_cons, List.not_mem_nil, or_false] at h
  rcases h with rfl | rfl | rfl | rfl <;> rfl
def goodNamed (d : GNamed) : Prop := d.name.size ≤ maxLen ∧ i64r d.v.k ∧ i64r d.v.n ∧ d.v.s.size ≤ maxLen
set_option maxHeartbeats 1000000 in
theorem szNamed_ex (d : GNamed) (left : Int) (w : World) (hg : goodNamed d) (h0 : 0 ≤ left) (h1 : left ≤ 1048576) :
    Calls Try.prog 148 #[.agg #[.string d.name, .int .i64 d.v.k, .int .i64 d.v.n, .string d.v.s], .int .i64 left] w fun e w' => ∃ r, e = .returned (.int .i64 r) ∧ r ≤ left ∧ Below w.heap.size w w' := by
  have hs0 : d.name.size ≤ 9223372036854775807 := by have h := hg.1; unfold maxLen at h; exact h
  have hs3 : d.v.s.size ≤ 9223372036854775807 := by have h := hg.2.2.2; unfold maxLen at h; exact h
  go_enter Try.func148, Try.ntmps148
  by_cases hn1 : left - d.name.size < 0
  · go_wp2
    go_ret
    exact ⟨-1, rfl, by omega, by exact (by repeat (first | (with_reducible refine Below.setCell ?_ (by first | omega | (· simp) | (· (simp; omega))) _) | (with_reducible refine Below.alloc ?_ (by first | omega | (· simp) | (· (simp; omega))) _) | (with_reducible refine Below.drew ?_) | (with_reducible refine bdrewN ?_ _) | (with_reducible exact Below.refl _ _) | (with_reducible assumption) | (with_reducible refine Below.trans ?_ (Below.mono (by assumption) (by first | omega | (· simp) | (· (simp; omega))))) | (with_reducible refine Below.trans ?_ (Kp.below (by assumption) (by first | omega | (· simp) | (· (simp; omega))) (by first | omega | (· simp) | (· (simp; omega)))))))⟩
  go_wp2_with fail
  go_at_call 16
  refine (szVal_ex d.v _ _ ⟨hg.2.1, hg.2.2.1, hg.2.2.2⟩ (by omega) (by omega)).mono ?_; rintro e w2 ⟨r2, rfl, hr2, hb2⟩
  by_cases hn2 : r2 < 0
  · go_wp2
    go_ret
    exact ⟨-1, rfl, by omega, by exact (by repeat (first | (with_reducible refine Below.setCell ?_ (by first | omega | (· simp) | (· (simp; omega))) _) | (with_reducible refine Below.alloc ?_ (by first | omega | (· simp) | (· (simp; omega))) _) | (with_reducible refine Below.drew ?_) | (with_reducible refine bdrewN ?_ _) | (with_reducible exact Below.refl _ _) | (with_reducible assumption) | (with_reducible refine Below.trans ?_ (Below.mono (by assumption) (by first | omega | (· simp) | (· (simp; omega))))) | (with_reducible refine Below.trans ?_ (Kp.below (by assumption) (by first | omega | (· simp) | (· (simp; omega))) (by first | omega | (· simp) | (· (simp; omega)))))))⟩
  go_wp2
  go_ret
  exact ⟨_, rfl, by omega, by exact (by repeat (first | (with_reducible refine Below.setCell ?_ (by first | omega | (· simp) | (· (simp; omega))) _) | (with_reducible refine Below.alloc ?_ (by first | omega | (· simp) | (· (simp; omega))) _) | (with_reducible refine Below.drew ?_) | (with_reducible refine bdrewN ?_ _) | (with_reducible exact Below.refl _ _) | (with_reducible assumption) | (with_reducible refine Below.trans ?_ (Below.mono (by assumption) (by first | omega | (· simp) | (· (simp; omega))))) | (with_reducible refine Below.trans ?_ (Kp.below (by assumption) (by first | omega | (· simp) | (· (simp; omega))) (by first | omega | (· simp) | (· (simp; omega)))))))⟩
set_option maxHeartbeats 1000000 in
theorem szNamedS_ex (A : Option Addr) (ln c : Nat) (ds : List GNamed) (left : Int) (w : World) (hs : Rd w 4 encNamed (.slice A ln c) ds) (hg : ∀ d ∈ ds, goodNamed d) (h0 : 0 ≤ left) (h1 : left ≤ 1048576) :
    Calls Try.prog 94 #[.slice A ln c, .int .i64 left] w fun e w' => ∃ r, e = .returned (.int .i64 r) ∧ r ≤ left ∧ (0 ≤ r → ds.length ≤ 1048576) ∧ Below w.heap.size w w' := by
  obtain rfl := hs.len_eq
  have hlen := hs.len_le
  by_cases hneg : left - ds.length < 0
  · go_enter Try.func94, Try.ntmps94
    go_wp2
    go_ret
    exact ⟨-1, rfl, by omega, fun h => absurd h (by omega), by exact (by repeat (first | (with_reducible refine Below.setCell ?_ (by first | omega | (· simp) | (· (simp; omega))) _) | (with_reducible refine Below.alloc ?_ (by first | omega | (· simp) | (· (simp; omega))) _) | (with_reducible refine Below.drew ?_) | (with_reducible refine bdrewN ?_ _) | (with_reducible exact Below.refl _ _) | (with_reducible assumption) | (with_reducible refine Below.trans ?_ (Below.mono (by assumption) (by first | omega | (· simp) | (· (simp; omega))))) | (with_reducible refine Below.trans ?_ (Kp.below (by assumption) (by first | omega | (· simp) | (· (simp; omega))) (by first | omega | (· simp) | (· (simp; omega)))))))⟩
  go_enter Try.func94, Try.ntmps94
  go_wp2
  go_loopw [1, 5] (fun l i wr => ∃ (k : Nat) (cur : Int), k ≤ ds.length ∧ i = .int .i64 k ∧ l = .int .i64 cur ∧ 0 ≤ cur ∧ cur ≤ left ∧ Below w.heap.size w wr) (fun _ i _ => ds.length - (intOf i).toNat)
  case atStart => exact ⟨0, _, Nat.zero_le _, rfl, rfl, by omega, by omega, Below.refl _ _⟩
  case round =>
    obtain ⟨k, cur, hk, rfl, rfl, hc0, hc1, hb⟩ := hrel
    have hzb := hb.size
    by_cases hlt : k < ds.length
    · have hs' := hs.below hb (Nat.le_refl _)
      obtain ⟨b, o, rfl, _, hc⟩ := hs'.at_ hlt
      have c0 := hc 0 _ rfl; have c1 := hc 1 _ rfl; have c2 := hc 2 _ rfl; have c3 := hc 3 _ rfl
      rw [Nat.add_zero] at c0
      clear hc
      go_wp2_with fail
      go_at_call 148
      refine (szNamed_ex ds[k] _ _ (hg _ (List.getElem_mem _)) hc0 (by omega)).mono ?_; rintro e w1 ⟨r, rfl, hr, hb1⟩
      by_cases hn : r < 0
      · go_wp2
        go_ret
        exact ⟨-1, rfl, by omega, fun h => absurd h (by omega), by exact (by repeat (first | (with_reducible refine Below.setCell ?_ (by first | omega | (· simp) | (· (simp; omega))) _) | (with_reducible refine Below.alloc ?_ (by first | omega | (· simp) | (· (simp; omega))) _) | (with_reducible refine Below.drew ?_) | (with_reducible refine bdrewN ?_ _) | (with_reducible exact Below.refl _ _) | (with_reducible assumption) | (with_reducible refine Below.trans ?_ (Below.mono (by assumption) (by first | omega | (· simp) | (· (simp; omega))))) | (with_reducible refine Below.trans ?_ (Kp.below (by assumption) (by first | omega | (· simp) | (· (simp; omega))) (by first | omega | (· simp) | (· (simp; omega)))))))⟩
      · go_wp2
        go_roundw
        case rel => exact ⟨k + 1, r, by omega, by go_num, rfl, by omega, by omega, by exact (by repeat (first | (with_reducible refine Below.setCell ?_ (by first | omega | (· simp) | (· (simp; omega))) _) | (with_reducible refine Below.alloc ?_ (by first | omega | (· simp) | (· (simp; omega))) _) | (with_reducible refine Below.drew ?_) | (with_reducible refine bdrewN ?_ _) | (with_reducible exact Below.refl _ _) | (with_reducible assumption) | (with_reducible refine Below.trans ?_ (Below.mono (by assumption) (by first | omega | (· simp) | (· (simp; omega))))) | (with_reducible refine Below.trans ?_ (Kp.below (by assumption) (by first | omega | (· simp) | (· (simp; omega))) (by first | omega | (· simp) | (· (simp; omega)))))))⟩
        case measure => simp [intOf]; omega
    · have hk' : k = ds.length := by omega
      subst hk'
      go_wp2
      go_ret
      exact ⟨_, rfl, by omega, fun _ => by omega, hb⟩
set_option maxHeartbeats 1000000 in
theorem toNamed_any (d : GNamed) (w : World) : Calls Try.prog 150 #[.agg #[.string d.name, .int .i64 d.v.k, .int .i64 d.v.n, .string d.v.s]] w fun e w' =>
    e = .returned (.agg #[.string d.name, .int .i64 d.v.k, .int .i64 d.v.n, .string d.v.s]) ∧ Below w.heap.size w w' := by
  go_enter Try.func150, Try.ntmps150
  go_wp2_with (go_at_call 19; refine (toVal_any _ _ _ _).mono ?_; rintro e w1 ⟨rfl, hb1⟩; have hza := hb1.size; (try simp only [World.size_alloc, World.size_drew, World.size_setCell] at hza); have ka0 := blk hb1 (b := w.heap.size + 1) (by first | omega | (· simp) | (· (simp; omega))); have ka1 := blk hb1 (b := w.heap.size + 1 + 1) (by first | omega | (· simp) | (· (simp; omega))); have fa0 := bfz hb1 (b := w.heap.size + 1) (by first | omega | (· simp) | (· (simp; omega))); have fa1 := bfz hb1 (b := w.heap.size + 1 + 1) (by first | omega | (· simp) | (· (simp; omega))))
  have g1 : w1.heap[w.heap.size + 1]? = some (.cells #[.string ByteArray.empty, .int .i64 0, .int .i64 0, .string ByteArray.empty] 50 (0, 0)) := (hb1.block (w.heap.size + 1) (by simp)).trans (by simp only [heap_new, World.size_alloc]; simp; try rfl)
  refine bodyPost_ret (v := .agg #[.string d.name, .int .i64 d.v.k, .int .i64 d.v.n, .string d.v.s]) (ret_cell (t := 50) (fr := (0, 0)) rfl rfl Try.underlying50 (by kernel_rfl) ?_) rfl ⟨rfl, ?_⟩
  · simp only [heap_set, g1]; simp [setAt]
  exact (by repeat (first | (with_reducible refine Below.setCell ?_ (by first | omega | (· simp) | (· (simp; omega))) _) | (with_reducible refine Below.alloc ?_ (by first | omega | (· simp) | (· (simp; omega))) _) | (with_reducible refine Below.drew ?_) | (with_reducible refine bdrewN ?_ _) | (with_reducible exact Below.refl _ _) | (with_reducible assumption) | (with_reducible refine Below.trans ?_ (Below.mono (by assumption) (by first | omega | (· simp) | (· (simp; omega))))) | (with_reducible refine Below.trans ?_ (Kp.below (by assumption) (by first | omega | (· simp) | (· (simp; omega))) (by first | omega | (· simp) | (· (simp; omega)))))))
theorem infoNamed : (Try.prog.info? 50).map (fun i => (i.zero, i.size, i.bytes)) = some (some (.agg #[.string ByteArray.empty, .int .i64 0, .int .i64 0, .string ByteArray.empty]), 4, 48) := by kernel_rfl
theorem elNamed : El Try.prog 42 50 4 48 := El.mk (z := .agg #[.string ByteArray.empty, .int .i64 0, .int .i64 0, .string ByteArray.empty]) Try.underlying42 infoNamed rfl (by omega) (by omega)
set_option maxHeartbeats 1000000 in
theorem toNamedS_any (A : Option Addr) (ln c : Nat) (ds : List GNamed) (w : World) (hs : Rd w 4 encNamed (.slice A ln c) ds) (hn : ds.length ≤ 1073741824) :
    Calls Try.prog 96 #[.slice A ln c] w fun e w' => ∃ v, e = .returned v ∧ Own w' w.heap.size w'.heap.size 50 4 encNamed v ds ∧ Below w.heap.size w w' := by
  obtain rfl := hs.len_eq
  have hmk := mk_eq Try.underlying42 infoNamed ds.length (by omega) (by omega)
  have hF := Fill.new w 50 #[.string ByteArray.empty, .int .i64 0, .int .i64 0, .string ByteArray.empty] (ds.length * 4) (ds.flatMap encNamed)
  have HX := Lib.hid (flat_len encNamed_len ds)
  go_enter Try.func96, Try.ntmps96
  go_wp2
  go_loopw [4] (fun i wr => ∃ (k : Nat), k ≤ ds.length ∧ i = .int .i64 k ∧ Fill wr w.heap.size 50 (ds.length * 4) (k * 4) (ds.flatMap encNamed) ∧ Below w.heap.size w wr) (fun i _ => ds.length - (intOf i).toNat)
  case atStart => exact ⟨0, Nat.zero_le _, rfl, hF, by exact (by repeat (first | (with_reducible refine Below.setCell ?_ (by first | omega | (· simp) | (· (simp; omega))) _) | (with_reducible refine Below.alloc ?_ (by first | omega | (· simp) | (· (simp; omega))) _) | (with_reducible refine Below.drew ?_) | (with_reducible refine bdrewN ?_ _) | (with_reducible exact Below.refl _ _) | (with_reducible assumption) | (with_reducible refine Below.trans ?_ (Below.mono (by assumption) (by first | omega | (· simp) | (· (simp; omega))))) | (with_reducible refine Below.trans ?_ (Kp.below (by assumption) (by first | omega | (· simp) | (· (simp; omega))) (by first | omega | (· simp) | (· (simp; omega)))))))⟩
  case round =>
    obtain ⟨k, hk, rfl, hf, hb⟩ := hrel
    by_cases hlt : k < ds.length
    · have hs' := hs.below hb (Nat.le_refl _)
      obtain ⟨b, o, rfl, _, hcell⟩ := hs'.at_ hlt
      have hcell0 := hcell 0 _ rfl
      have hcell1 := hcell 1 _ rfl
      have hcell2 := hcell 2 _ rfl
      have hcell3 := hcell 3 _ rfl
      rw [Nat.add_zero] at hcell0
      clear hcell
      have HF := Lib.hid hf
      clear hf
      have hzb := hb.size
      go_wp2_with (go_at_call 150; refine (toNamed_any ds[k] _).mono ?_; rintro e w1 ⟨rfl, hb1⟩; have hf1 := HF.out.below hb1 HF.out.lt; obtain ⟨u0, c0⟩ := hf1.cell (j := k * 4) (by omega); obtain ⟨u1, c1⟩ := hf1.cell (j := k * 4 + 1) (by omega); obtain ⟨u2, c2⟩ := hf1.cell (j := k * 4 + 2) (by omega); obtain ⟨u3, c3⟩ := hf1.cell (j := k * 4 + 3) (by omega); have z0 := hf1.frozen)
      go_roundw
      case rel =>
        have e := fun j hj => flat_at encNamed_len ds k hlt j hj
        exact ⟨k + 1, by omega, by go_num, by rw [Nat.add_mul]; exact ((((hf1.set (by omega) (e 0 (by omega))).set (by omega) (e 1 (by omega))).set (by omega) (e 2 (by omega))).set (by omega) (e 3 (by omega))), by exact (by repeat (first | (with_reducible refine Below.setCell ?_ (by first | omega | (· simp) | (· (simp; omega))) _) | (with_reducible refine Below.alloc ?_ (by first | omega | (· simp) | (· (simp; omega))) _) | (with_reducible refine Below.drew ?_) | (with_reducible refine bdrewN ?_ _) | (with_reducible exact Below.refl _ _) | (with_reducible assumption) | (with_reducible refine Below.trans ?_ (Below.mono (by assumption) (by first | omega | (· simp) | (· (simp; omega))))) | (with_reducible refine Below.trans ?_ (Kp.below (by assumption) (by first | omega | (· simp) | (· (simp; omega))) (by first | omega | (· simp) | (· (simp; omega)))))))⟩
      case measure => simp [intOf]; omega
    · have hk' : k = ds.length := by omega
      subst hk'
      go_wp2
      go_ret
      exact ⟨_, rfl, Own.of_owns (hf.owns (Nat.le_refl _) rfl HX.out (by unfold maxLen; omega)) (Nat.le_refl _), hb⟩
set_option maxHeartbeats 1000000 in
theorem eqNamed_same (d : GNamed) (w : World) : Calls Try.prog 152 #[.agg #[.string d.name, .int .i64 d.v.k, .int .i64 d.v.n, .string d.v.s], .agg #[.string d.name, .int .i64 d.v.k, .int .i64 d.v.n, .string d.v.s]] w fun e w' =>
    e = .returned (.bool true) ∧ Below w.heap.size w w' := by
  go_enter Try.func152, Try.ntmps152
  go_wp2_with (go_at_call 44; refine (eqVal_same _ _ _ _).mono ?_; rintro e w1 ⟨rfl, hb1⟩)
  go_ret
  exact ⟨rfl, (by repeat (first | (with_reducible refine Below.setCell ?_ (by first | omega | (· simp) | (· (simp; omega))) _) | (with_reducible refine Below.alloc ?_ (by first | omega | (· simp) | (· (simp; omega))) _) | (with_reducible refine Below.drew ?_) | (with_reducible refine bdrewN ?_ _) | (with_reducible exact Below.refl _ _) | (with_reducible assumption) | (with_reducible refine Below.trans ?_ (Below.mono (by assumption) (by first | omega | (· simp) | (· (simp; omega))))) | (with_reducible refine Below.trans ?_ (Kp.below (by assumption) (by first | omega | (· simp) | (· (simp; omega))) (by first | omega | (· simp) | (· (simp; omega)))))))⟩
set_option maxHeartbeats 1000000 in
theorem eqNamedS_same (A B : Option Addr) (ln ln' c c' : Nat) (ds : List GNamed) (w : World) (hs : Rd w 4 encNamed (.slice A ln c) ds) (ht : Rd w 4 encNamed (.slice B ln' c') ds) :
    Calls Try.prog 98 #[.slice A ln c, .slice B ln' c'] w fun e w' => e = .returned (.bool true) ∧ Below w.heap.size w w' := by
  obtain rfl := hs.len_eq
  obtain rfl := ht.len_eq
  have hlen := hs.len_le
  go_enter Try.func98, Try.ntmps98
  go_wp2
  go_loopw [5] (fun i wr => ∃ (k : Nat), k ≤ ds.length ∧ i = .int .i64 k ∧ Below w.heap.size w wr) (fun i _ => ds.length - (intOf i).toNat)
  case atStart => exact ⟨0, Nat.zero_le _, rfl, Below.refl _ _⟩
  case round =>
    obtain ⟨k, hk, rfl, hb⟩ := hrel
    by_cases hlt : k < ds.length
    · have hs' := hs.below hb (Nat.le_refl _)
      have ht' := ht.below hb (Nat.le_refl _)
      obtain ⟨b, o, rfl, _, hc⟩ := hs'.at_ hlt
      have c0 := hc 0 _ rfl; have c1 := hc 1 _ rfl; have c2 := hc 2 _ rfl; have c3 := hc 3 _ rfl
      rw [Nat.add_zero] at c0
      obtain ⟨b', o', rfl, _, hd⟩ := ht'.at_ hlt
      have d0 := hd 0 _ rfl; have d1 := hd 1 _ rfl; have d2 := hd 2 _ rfl; have d3 := hd 3 _ rfl
      rw [Nat.add_zero] at d0
      clear hc hd
      have hzb := hb.size
      go_wp2
      go_region_held3 (fun w' => w'.cell? ⟨b, o + k * 4, none⟩ = some (.string ds[k].name) ∧ w'.cell? ⟨b, o + k * 4 + 1, none⟩ = some (.int .i64 ds[k].v.k) ∧ w'.cell? ⟨b, o + k * 4 + 2, none⟩ = some (.int .i64 ds[k].v.n) ∧ w'.cell? ⟨b, o + k * 4 + 3, none⟩ = some (.string ds[k].v.s) ∧ w'.cell? ⟨b', o' + k * 4, none⟩ = some (.string ds[k].name) ∧ w'.cell? ⟨b', o' + k * 4 + 1, none⟩ = some (.int .i64 ds[k].v.k) ∧ w'.cell? ⟨b', o' + k * 4 + 2, none⟩ = some (.int .i64 ds[k].v.n) ∧ w'.cell? ⟨b', o' + k * 4 + 3, none⟩ = some (.string ds[k].v.s))
        (first | exact ⟨c0, c1, c2, c3, d0, d1, d2, d3⟩ | skip)
        ((go_at_call 152; refine (eqNamed_same ds[k] _).mono ?_; rintro e w1 ⟨rfl, hb1⟩; have c0 := cell_below hb1 c0 (by first | omega | (· simp) | (· (simp; omega))); have c1 := cell_below hb1 c1 (by first | omega | (· simp) | (· (simp; omega))); have c2 := cell_below hb1 c2 (by first | omega | (· simp) | (· (simp; omega))); have c3 := cell_below hb1 c3 (by first | omega | (· simp) | (· (simp; omega))); have d0 := cell_below hb1 d0 (by first | omega | (· simp) | (· (simp; omega))); have d1 := cell_below hb1 d1 (by first | omega | (· simp) | (· (simp; omega))); have d2 := cell_below hb1 d2 (by first | omega | (· simp) | (· (simp; omega))); have d3 := cell_below hb1 d3 (by first | omega | (· simp) | (· (simp; omega)))))
      go_wp2
      go_roundw
      case rel => exact ⟨k + 1, by omega, by go_num, by exact (by repeat (first | (with_reducible refine Below.setCell ?_ (by first | omega | (· simp) | (· (simp; omega))) _) | (with_reducible refine Below.alloc ?_ (by first | omega | (· simp) | (· (simp; omega))) _) | (with_reducible refine Below.drew ?_) | (with_reducible refine bdrewN ?_ _) | (with_reducible exact Below.refl _ _) | (with_reducible assumption) | (with_reducible refine Below.trans ?_ (Below.mono (by assumption) (by first | omega | (· simp) | (· (simp; omega))))) | (with_reducible refine Below.trans ?_ (Kp.below (by assumption) (by first | omega | (· simp) | (· (simp; omega))) (by first | omega | (· simp) | (· (simp; omega)))))))⟩
      case measure => simp [intOf]; omega
    · go_wp2
      go_ret
      exact ⟨rfl, hb⟩
structure GEntry where
  key : ByteArray
  v : GVal
def encEntry (d : GEntry) : List Value := [.string d.key, .int .i64 d.v.k, .int .i64 d.v.n, .string d.v.s]
theorem encEntry_len (d : GEntry) : (encEntry d).length = 4 := rfl
theorem encEntry_one (d : GEntry) (u : Value) (h : u ∈ encEntry d) : u.oneCell' = true := by
  simp only [encEntry, List.mem_cons, List.not_mem_nil, or_false] at h
  rcases h with rfl | rfl | rfl | rfl <;> rfl
def goodEntry (d : GEntry) : Prop := d.key.size ≤ maxLen ∧ i64r d.v.k ∧ i64r d.v.n ∧ d.v.s.size ≤ maxLen
set_option maxHeartbeats 1000000 in
theorem szEntry_ex (d : GEntry) (left : Int) (w : World) (hg : goodEntry d) (h0 : 0 ≤ left) (h1 : left ≤ 1048576) :
    Calls Try.prog 174 #[.agg #[.string d.key, .int .i64 d.v.k, .int .i64 d.v.n, .string d.v.s], .int .i64 left] w fun e w' => ∃ r, e = .returned (.int .i64 r) ∧ r ≤ left ∧ Below w.heap.size w w' := by
  have hs0 : d.key.size ≤ 9223372036854775807 := by have h := hg.1; unfold maxLen at h; exact h
  have hs3 : d.v.s.size ≤ 9223372036854775807 := by have h := hg.2.2.2; unfold maxLen at h; exact h
  go_enter Try.func174, Try.ntmps174
  by_cases hn1 : left - d.key.size < 0
  · go_wp2
    go_ret
    exact ⟨-1, rfl, by omega, by exact (by repeat (first | (with_reducible refine Below.setCell ?_ (by first | omega | (· simp) | (· (simp; omega))) _) | (with_reducible refine Below.alloc ?_ (by first | omega | (· simp) | (· (simp; omega))) _) | (with_reducible refine Below.drew ?_) | (with_reducible refine bdrewN ?_ _) | (with_reducible exact Below.refl _ _) | (with_reducible assumption) | (with_reducible refine Below.trans ?_ (Below.mono (by assumption) (by first | omega | (· simp) | (· (simp; omega))))) | (with_reducible refine Below.trans ?_ (Kp.below (by assumption) (by first | omega | (· simp) | (· (simp; omega))) (by first | omega | (· simp) | (· (simp; omega)))))))⟩
  go_wp2_with fail
  go_at_call 16
  refine (szVal_ex d.v _ _ ⟨hg.2.1, hg.2.2.1, hg.2.2.2⟩ (by omega) (by omega)).mono ?_; rintro e w2 ⟨r2, rfl, hr2, hb2⟩
  by_cases hn2 : r2 < 0
  · go_wp2
    go_ret
    exact ⟨-1, rfl, by omega, by exact (by repeat (first | (with_reducible refine Below.setCell ?_ (by first | omega | (· simp) | (· (simp; omega))) _) | (with_reducible refine Below.alloc ?_ (by first | omega | (· simp) | (· (simp; omega))) _) | (with_reducible refine Below.drew ?_) | (with_reducible refine bdrewN ?_ _) | (with_reducible exact Below.refl _ _) | (with_reducible assumption) | (with_reducible refine Below.trans ?_ (Below.mono (by assumption) (by first | omega | (· simp) | (· (simp; omega))))) | (with_reducible refine Below.trans ?_ (Kp.below (by assumption) (by first | omega | (· simp) | (· (simp; omega))) (by first | omega | (· simp) | (· (simp; omega)))))))⟩
  go_wp2
  go_ret
  exact ⟨_, rfl, by omega, by exact (by repeat (first | (with_reducible refine Below.setCell ?_ (by first | omega | (· simp) | (· (simp; omega))) _) | (with_reducible refine Below.alloc ?_ (by first | omega | (· simp) | (· (simp; omega))) _) | (with_reducible refine Below.drew ?_) | (with_reducible refine bdrewN ?_ _) | (with_reducible exact Below.refl _ _) | (with_reducible assumption) | (with_reducible refine Below.trans ?_ (Below.mono (by assumption) (by first | omega | (· simp) | (· (simp; omega))))) | (with_reducible refine Below.trans ?_ (Kp.below (by assumption) (by first | omega | (· simp) | (· (simp; omega))) (by first | omega | (· simp) | (· (simp; omega)))))))⟩
set_option maxHeartbeats 1000000 in
theorem szEntryS_ex (A : Option Addr) (ln c : Nat) (ds : List GEntry) (left : Int) (w : World) (hs : Rd w 4 encEntry (.slice A ln c) ds) (hg : ∀ d ∈ ds, goodEntry d) (h0 : 0 ≤ left) (h1 : left ≤ 1048576) :
    Calls Try.prog 168 #[.slice A ln c, .int .i64 left] w fun e w' => ∃ r, e = .returned (.int .i64 r) ∧ r ≤ left ∧ (0 ≤ r → ds.length ≤ 1048576) ∧ Below w.heap.size w w' := by
  obtain rfl := hs.len_eq
  have hlen := hs.len_le
  by_cases hneg : left - ds.length < 0
  · go_enter Try.func168, Try.ntmps168
    go_wp2
    go_ret
    exact ⟨-1, rfl, by omega, fun h => absurd h (by omega), by exact (by repeat (first | (with_reducible refine Below.setCell ?_ (by first | omega | (· simp) | (· (simp; omega))) _) | (with_reducible refine Below.alloc ?_ (by first | omega | (· simp) | (· (simp; omega))) _) | (with_reducible refine Below.drew ?_) | (with_reducible refine bdrewN ?_ _) | (with_reducible exact Below.refl _ _) | (with_reducible assumption) | (with_reducible refine Below.trans ?_ (Below.mono (by assumption) (by first | omega | (· simp) | (· (simp; omega))))) | (with_reducible refine Below.trans ?_ (Kp.below (by assumption) (by first | omega | (· simp) | (· (simp; omega))) (by first | omega | (· simp) | (· (simp; omega)))))))⟩
  go_enter Try.func168, Try.ntmps168
  go_wp2
  go_loopw [1, 5] (fun l i wr => ∃ (k : Nat) (cur : Int), k ≤ ds.length ∧ i = .int .i64 k ∧ l = .int .i64 cur ∧ 0 ≤ cur ∧ cur ≤ left ∧ Below w.heap.size w wr) (fun _ i _ => ds.length - (intOf i).toNat)
  case atStart => exact ⟨0, _, Nat.zero_le _, rfl, rfl, by omega, by omega, Below.refl _ _⟩
  case round =>
    obtain ⟨k, cur, hk, rfl, rfl, hc0, hc1, hb⟩ := hrel
    have hzb := hb.size
    by_cases hlt : k < ds.length
    · have hs' := hs.below hb (Nat.le_refl _)
      obtain ⟨b, o, rfl, _, hc⟩ := hs'.at_ hlt
      have c0 := hc 0 _ rfl; have c1 := hc 1 _ rfl; have c2 := hc 2 _ rfl; have c3 := hc 3 _ rfl
      rw [Nat.add_zero] at c0
      clear hc
      go_wp2_with fail
      go_at_call 174
      refine (szEntry_ex ds[k] _ _ (hg _ (List.getElem_mem _)) hc0 (by omega)).mono ?_; rintro e w1 ⟨r, rfl, hr, hb1⟩
      by_cases hn : r < 0
      · go_wp2
        go_ret
        exact ⟨-1, rfl, by omega, fun h => absurd h (by omega), by exact (by repeat (first | (with_reducible refine Below.setCell ?_ (by first | omega | (· simp) | (· (simp; omega))) _) | (with_reducible refine Below.alloc ?_ (by first | omega | (· simp) | (· (simp; omega))) _) | (with_reducible refine Below.drew ?_) | (with_reducible refine bdrewN ?_ _) | (with_reducible exact Below.refl _ _) | (with_reducible assumption) | (with_reducible refine Below.trans ?_ (Below.mono (by assumption) (by first | omega | (· simp) | (· (simp; omega))))) | (with_reducible refine Below.trans ?_ (Kp.below (by assumption) (by first | omega | (· simp) | (· (simp; omega))) (by first | omega | (· simp) | (· (simp; omega)))))))⟩
      · go_wp2
        go_roundw
        case rel => exact ⟨k + 1, r, by omega, by go_num, rfl, by omega, by omega, by exact (by repeat (first | (with_reducible refine Below.setCell ?_ (by first | omega | (· simp) | (· (simp; omega))) _) | (with_reducible refine Below.alloc ?_ (by first | omega | (· simp) | (· (simp; omega))) _) | (with_reducible refine Below.drew ?_) | (with_reducible refine bdrewN ?_ _) | (with_reducible exact Below.refl _ _) | (with_reducible assumption) | (with_reducible refine Below.trans ?_ (Below.mono (by assumption) (by first | omega | (· simp) | (· (simp; omega))))) | (with_reducible refine Below.trans ?_ (Kp.below (by assumption) (by first | omega | (· simp) | (· (simp; omega))) (by first | omega | (· simp) | (· (simp; omega)))))))⟩
        case measure => simp [intOf]; omega
    · have hk' : k = ds.length := by omega
      subst hk'
      go_wp2
      go_ret
      exact ⟨_, rfl, by omega, fun _ => by omega, hb⟩
set_option maxHeartbeats 1000000 in
theorem toEntry_any (d : GEntry) (w : World) : Calls Try.prog 175 #[.agg #[.string d.key, .int .i64 d.v.k, .int .i64 d.v.n, .string d.v.s]] w fun e w' =>
    e = .returned (.agg #[.string d.key, .int .i64 d.v.k, .int .i64 d.v.n, .string d.v.s]) ∧ Below w.heap.size w w' := by
  go_enter Try.func175, Try.ntmps175
  go_wp2_with (go_at_call 19; refine (toVal_any _ _ _ _).mono ?_; rintro e w1 ⟨rfl, hb1⟩; have hza := hb1.size; (try simp only [World.size_alloc, World.size_drew, World.size_setCell] at hza); have ka0 := blk hb1 (b := w.heap.size + 1) (by first | omega | (· simp) | (· (simp; omega))); have ka1 := blk hb1 (b := w.heap.size + 1 + 1) (by first | omega | (· simp) | (· (simp; omega))); have fa0 := bfz hb1 (b := w.heap.size + 1) (by first | omega | (· simp) | (· (simp; omega))); have fa1 := bfz hb1 (b := w.heap.size + 1 + 1) (by first | omega | (· simp) | (· (simp; omega))))
  have g1 : w1.heap[w.heap.size + 1]? = some (.cells #[.string ByteArray.empty, .int .i64 0, .int .i64 0, .string ByteArray.empty] 116 (0, 0)) := (hb1.block (w.heap.size + 1) (by simp)).trans (by simp only [heap_new, World.size_alloc]; simp; try rfl)
  refine bodyPost_ret (v := .agg #[.string d.key, .int .i64 d.v.k, .int .i64 d.v.n, .string d.v.s]) (ret_cell (t := 116) (fr := (0, 0)) rfl rfl Try.underlying116 (by kernel_rfl) ?_) rfl ⟨rfl, ?_⟩
  · simp only [heap_set, g1]; simp [setAt]
  exact (by repeat (first | (with_reducible refine Below.setCell ?_ (by first | omega | (· simp) | (· (simp; omega))) _) | (with_reducible refine Below.alloc ?_ (by first | omega | (· simp) | (· (simp; omega))) _) | (with_reducible refine Below.drew ?_) | (with_reducible refine bdrewN ?_ _) | (with_reducible exact Below.refl _ _) | (with_reducible assumption) | (with_reducible refine Below.trans ?_ (Below.mono (by assumption) (by first | omega | (· simp) | (· (simp; omega))))) | (with_reducible refine Below.trans ?_ (Kp.below (by assumption) (by first | omega | (· simp) | (· (simp; omega))) (by first | omega | (· simp) | (· (simp; omega)))))))
theorem infoEntry : (Try.prog.info? 116).map (fun i => (i.zero, i.size, i.bytes)) = some (some (.agg #[.string ByteArray.empty, .int .i64 0, .int .i64 0, .string ByteArray.empty]), 4, 48) := by kernel_rfl
theorem elEntry : El Try.prog 112 116 4 48 := El.mk (z := .agg #[.string ByteArray.empty, .int .i64 0, .int .i64 0, .string ByteArray.empty]) Try.underlying112 infoEntry rfl (by omega) (by omega)
set_option maxHeartbeats 1000000 in
theorem toEntryS_any (A : Option Addr) (ln c : Nat) (ds : List GEntry) (w : World) (hs : Rd w 4 encEntry (.slice A ln c) ds) (hn : ds.length ≤ 1073741824) :
    Calls Try.prog 169 #[.slice A ln c] w fun e w' => ∃ v, e = .returned v ∧ Own w' w.heap.size w'.heap.size 116 4 encEntry v ds ∧ Below w.heap.size w w' := by
  obtain rfl := hs.len_eq
  have hmk := mk_eq Try.underlying112 infoEntry ds.length (by omega) (by omega)
  have hF := Fill.new w 116 #[.string ByteArray.empty, .int .i64 0, .int .i64 0, .string ByteArray.empty] (ds.length * 4) (ds.flatMap encEntry)
  have HX := Lib.hid (flat_len encEntry_len ds)
  go_enter Try.func169, Try.ntmps169
  go_wp2
  go_loopw [4] (fun i wr => ∃ (k : Nat), k ≤ ds.length ∧ i = .int .i64 k ∧ Fill wr w.heap.size 116 (ds.length * 4) (k * 4) (ds.flatMap encEntry) ∧ Below w.heap.size w wr) (fun i _ => ds.length - (intOf i).toNat)
  case atStart => exact ⟨0, Nat.zero_le _, rfl, hF, by exact (by repeat (first | (with_reducible refine Below.setCell ?_ (by first | omega | (· simp) | (· (simp; omega))) _) | (with_reducible refine Below.alloc ?_ (by first | omega | (· simp) | (· (simp; omega))) _) | (with_reducible refine Below.drew ?_) | (with_reducible refine bdrewN ?_ _) | (with_reducible exact Below.refl _ _) | (with_reducible assumption) | (with_reducible refine Below.trans ?_ (Below.mono (by assumption) (by first | omega | (· simp) | (· (simp; omega))))) | (with_reducible refine Below.trans ?_ (Kp.below (by assumption) (by first | omega | (· simp) | (· (simp; omega))) (by first | omega | (· simp) | (· (simp; omega)))))))⟩
  case round =>
    obtain ⟨k, hk, rfl, hf, hb⟩ := hrel
    by_cases hlt : k < ds.length
    · have hs' := hs.below hb (Nat.le_refl _)
      obtain ⟨b, o, rfl, _, hcell⟩ := hs'.at_ hlt
      have hcell0 := hcell 0 _ rfl
      have hcell1 := hcell 1 _ rfl
      have hcell2 := hcell 2 _ rfl
      have hcell3 := hcell 3 _ rfl
      rw [Nat.add_zero] at hcell0
      clear hcell
      have HF := Lib.hid hf
      clear hf
      have hzb := hb.size
      go_wp2_with (go_at_call 175; refine (toEntry_any ds[k] _).mono ?_; rintro e w1 ⟨rfl, hb1⟩; have hf1 := HF.out.below hb1 HF.out.lt; obtain ⟨u0, c0⟩ := hf1.cell (j := k * 4) (by omega); obtain ⟨u1, c1⟩ := hf1.cell (j := k * 4 + 1) (by omega); obtain ⟨u2, c2⟩ := hf1.cell (j := k * 4 + 2) (by omega); obtain ⟨u3, c3⟩ := hf1.cell (j := k * 4 + 3) (by omega); have z0 := hf1.frozen)
      go_roundw
      case rel =>
        have e := fun j hj => flat_at encEntry_len ds k hlt j hj
        exact ⟨k + 1, by omega, by go_num, by rw [Nat.add_mul]; exact ((((hf1.set (by omega) (e 0 (by omega))).set (by omega) (e 1 (by omega))).set (by omega) (e 2 (by omega))).set (by omega) (e 3 (by omega))), by exact (by repeat (first | (with_reducible refine Below.setCell ?_ (by first | omega | (· simp) | (· (simp; omega))) _) | (with_reducible refine Below.alloc ?_ (by first | omega | (· simp) | (· (simp; omega))) _) | (with_reducible refine Below.drew ?_) | (with_reducible refine bdrewN ?_ _) | (with_reducible exact Below.refl _ _) | (with_reducible assumption) | (with_reducible refine Below.trans ?_ (Below.mono (by assumption) (by first | omega | (· simp) | (· (simp; omega))))) | (with_reducible refine Below.trans ?_ (Kp.below (by assumption) (by first | omega | (· simp) | (· (simp; omega))) (by first | omega | (· simp) | (· (simp; omega)))))))⟩
      case measure => simp [intOf]; omega
    · have hk' : k = ds.length := by omega
      subst hk'
      go_wp2
      go_ret
      exact ⟨_, rfl, Own.of_owns (hf.owns (Nat.le_refl _) rfl HX.out (by unfold maxLen; omega)) (Nat.le_refl _), hb⟩
set_option maxHeartbeats 1000000 in
theorem eqEntry_same (d : GEntry) (w : World) : Calls Try.prog 176 #[.agg #[.string d.key, .int .i64 d.v.k, .int .i64 d.v.n, .string d.v.s], .agg #[.string d.key, .int .i64 d.v.k, .int .i64 d.v.n, .string d.v.s]] w fun e w' =>
    e = .returned (.bool true) ∧ Below w.heap.size w w' := by
  go_enter Try.func176, Try.ntmps176
  go_wp2_with (go_at_call 44; refine (eqVal_same _ _ _ _).mono ?_; rintro e w1 ⟨rfl, hb1⟩)
  go_ret
  exact ⟨rfl, (by repeat (first | (with_reducible refine Below.setCell ?_ (by first | omega | (· simp) | (· (simp; omega))) _) | (with_reducible refine Below.alloc ?_ (by first | omega | (· simp) | (· (simp; omega))) _) | (with_reducible refine Below.drew ?_) | (with_reducible refine bdrewN ?_ _) | (with_reducible exact Below.refl _ _) | (with_reducible assumption) | (with_reducible refine Below.trans ?_ (Below.mono (by assumption) (by first | omega | (· simp) | (· (simp; omega))))) | (with_reducible refine Below.trans ?_ (Kp.below (by assumption) (by first | omega | (· simp) | (· (simp; omega))) (by first | omega | (· simp) | (· (simp; omega)))))))⟩
set_option maxHeartbeats 1000000 in
theorem eqEntryS_same (A B : Option Addr) (ln ln' c c' : Nat) (ds : List GEntry) (w : World) (hs : Rd w 4 encEntry (.slice A ln c) ds) (ht : Rd w 4 encEntry (.slice B ln' c') ds) :
    Calls Try.prog 170 #[.slice A ln c, .slice B ln' c'] w fun e w' => e = .returned (.bool true) ∧ Below w.heap.size w w' := by
  obtain rfl := hs.len_eq
  obtain rfl := ht.len_eq
  have hlen := hs.len_le
  go_enter Try.func170, Try.ntmps170
  go_wp2
  go_loopw [5] (fun i wr => ∃ (k : Nat), k ≤ ds.length ∧ i = .int .i64 k ∧ Below w.heap.size w wr) (fun i _ => ds.length - (intOf i).toNat)
  case atStart => exact ⟨0, Nat.zero_le _, rfl, Below.refl _ _⟩
  case round =>
    obtain ⟨k, hk, rfl, hb⟩ := hrel
    by_cases hlt : k < ds.length
    · have hs' := hs.below hb (Nat.le_refl _)
      have ht' := ht.below hb (Nat.le_refl _)
      obtain ⟨b, o, rfl, _, hc⟩ := hs'.at_ hlt
      have c0 := hc 0 _ rfl; have c1 := hc 1 _ rfl; have c2 := hc 2 _ rfl; have c3 := hc 3 _ rfl
      rw [Nat.add_zero] at c0
      obtain ⟨b', o', rfl, _, hd⟩ := ht'.at_ hlt
      have d0 := hd 0 _ rfl; have d1 := hd 1 _ rfl; have d2 := hd 2 _ rfl; have d3 := hd 3 _ rfl
      rw [Nat.add_zero] at d0
      clear hc hd
      have hzb := hb.size
      go_wp2
      go_region_held3 (fun w' => w'.cell? ⟨b, o + k * 4, none⟩ = some (.string ds[k].key) ∧ w'.cell? ⟨b, o + k * 4 + 1, none⟩ = some (.int .i64 ds[k].v.k) ∧ w'.cell? ⟨b, o + k * 4 + 2, none⟩ = some (.int .i64 ds[k].v.n) ∧ w'.cell? ⟨b, o + k * 4 + 3, none⟩ = some (.string ds[k].v.s) ∧ w'.cell? ⟨b', o' + k * 4, none⟩ = some (.string ds[k].key) ∧ w'.cell? ⟨b', o' + k * 4 + 1, none⟩ = some (.int .i64 ds[k].v.k) ∧ w'.cell? ⟨b', o' + k * 4 + 2, none⟩ = some (.int .i64 ds[k].v.n) ∧ w'.cell? ⟨b', o' + k * 4 + 3, none⟩ = some (.string ds[k].v.s))
        (first | exact ⟨c0, c1, c2, c3, d0, d1, d2, d3⟩ | skip)
        ((go_at_call 176; refine (eqEntry_same ds[k] _).mono ?_; rintro e w1 ⟨rfl, hb1⟩; have c0 := cell_below hb1 c0 (by first | omega | (· simp) | (· (simp; omega))); have c1 := cell_below hb1 c1 (by first | omega | (· simp) | (· (simp; omega))); have c2 := cell_below hb1 c2 (by first | omega | (· simp) | (· (simp; omega))); have c3 := cell_below hb1 c3 (by first | omega | (· simp) | (· (simp; omega))); have d0 := cell_below hb1 d0 (by first | omega | (· simp) | (· (simp; omega))); have d1 := cell_below hb1 d1 (by first | omega | (· simp) | (· (simp; omega))); have d2 := cell_below hb1 d2 (by first | omega | (· simp) | (· (simp; omega))); have d3 := cell_below hb1 d3 (by first | omega | (· simp) | (· (simp; omega)))))
      go_wp2
      go_roundw
      case rel => exact ⟨k + 1, by omega, by go_num, by exact (by repeat (first | (with_reducible refine Below.setCell ?_ (by first | omega | (· simp) | (· (simp; omega))) _) | (with_reducible refine Below.alloc ?_ (by first | omega | (· simp) | (· (simp; omega))) _) | (with_reducible refine Below.drew ?_) | (with_reducible refine bdrewN ?_ _) | (with_reducible exact Below.refl _ _) | (with_reducible assumption) | (with_reducible refine Below.trans ?_ (Below.mono (by assumption) (by first | omega | (· simp) | (· (simp; omega))))) | (with_reducible refine Below.trans ?_ (Kp.below (by assumption) (by first | omega | (· simp) | (· (simp; omega))) (by first | omega | (· simp) | (· (simp; omega)))))))⟩
      case measure => simp [intOf]; omega
    · go_wp2
      go_ret
      exact ⟨rfl, hb⟩
end Go.Proofs.Ytfnnbjkjfoiboaa
