/- Values and cells. -/
import Derived.Test.YtfnnbjkjfoiboaaPrim
import Derived.StillTailTactics
import Derived.Deep.RegionHeld3
namespace Go.Proofs.Ytfnnbjkjfoiboaa
open Go.RowKit

structure GVal where
  k : Int
  n : Int
  s : ByteArray
structure GCell where
  refs : Int
  v : GVal
def encV (v : GVal) : List Value := [.int .i64 v.k, .int .i64 v.n, .string v.s]
def encC (c : GCell) : List Value := [.int .i64 c.refs, .int .i64 c.v.k, .int .i64 c.v.n, .string c.v.s]
theorem encV_len (d : GVal) : (encV d).length = 3 := rfl
theorem encC_len (d : GCell) : (encC d).length = 4 := rfl
theorem toVal_any (a b : Int) (s : ByteArray) (w : World) : Calls Try.prog 19 #[.agg #[.int .i64 a, .int .i64 b, .string s]] w fun e w' =>
    e = .returned (.agg #[.int .i64 a, .int .i64 b, .string s]) ∧ Below w.heap.size w w' := by
  go_enter Try.func19, Try.ntmps19
  go_wp2
  refine bodyPost_ret (v := .agg #[.int .i64 a, .int .i64 b, .string s]) (by simp [results, Try.results19, go_sem]) rfl ⟨rfl, ?_⟩
  exact (by repeat (first | (with_reducible refine Below.setCell ?_ (by first | omega | (· simp) | (· (simp; omega))) _) | (with_reducible refine Below.alloc ?_ (by first | omega | (· simp) | (· (simp; omega))) _) | (with_reducible refine Below.drew ?_) | (with_reducible refine bdrewN ?_ _) | (with_reducible exact Below.refl _ _) | (with_reducible assumption) | (with_reducible refine Below.trans ?_ (Below.mono (by assumption) (by first | omega | (· simp) | (· (simp; omega))))) | (with_reducible refine Below.trans ?_ (Kp.below (by assumption) (by first | omega | (· simp) | (· (simp; omega))) (by first | omega | (· simp) | (· (simp; omega)))))))
theorem toCell_any (r a b : Int) (s : ByteArray) (w : World) : Calls Try.prog 130 #[.agg #[.int .i64 r, .int .i64 a, .int .i64 b, .string s]] w fun e w' =>
    e = .returned (.agg #[.int .i64 r, .int .i64 a, .int .i64 b, .string s]) ∧ Below w.heap.size w w' := by
  go_enter Try.func130, Try.ntmps130
  go_wp2_with (go_at_call 19; refine (toVal_any _ _ _ _).mono ?_; rintro e w1 ⟨rfl, hb1⟩; have hza := hb1.size; (try simp only [World.size_alloc, World.size_drew, World.size_setCell] at hza); have ka0 := blk hb1 (b := w.heap.size + 1) (by first | omega | (· simp) | (· (simp; omega))); have ka1 := blk hb1 (b := w.heap.size + 1 + 1) (by first | omega | (· simp) | (· (simp; omega))); have fa0 := bfz hb1 (b := w.heap.size + 1) (by first | omega | (· simp) | (· (simp; omega))); have fa1 := bfz hb1 (b := w.heap.size + 1 + 1) (by first | omega | (· simp) | (· (simp; omega))))
  have g1 : w1.heap[w.heap.size + 1]? = some (.cells #[.int .i64 0, .int .i64 0, .int .i64 0, .string ByteArray.empty] 58 (0, 0)) := (hb1.block (w.heap.size + 1) (by simp)).trans (by simp only [heap_new, World.size_alloc]; simp; rfl)
  refine bodyPost_ret (v := .agg #[.int .i64 r, .int .i64 a, .int .i64 b, .string s]) (ret_cell (t := 58) (fr := (0, 0)) rfl rfl Try.underlying58 (by kernel_rfl) ?_) rfl ⟨rfl, ?_⟩
  · simp only [heap_set, g1]; simp [setAt]
  exact (by repeat (first | (with_reducible refine Below.setCell ?_ (by first | omega | (· simp) | (· (simp; omega))) _) | (with_reducible refine Below.alloc ?_ (by first | omega | (· simp) | (· (simp; omega))) _) | (with_reducible refine Below.drew ?_) | (with_reducible refine bdrewN ?_ _) | (with_reducible exact Below.refl _ _) | (with_reducible assumption) | (with_reducible refine Below.trans ?_ (Below.mono (by assumption) (by first | omega | (· simp) | (· (simp; omega))))) | (with_reducible refine Below.trans ?_ (Kp.below (by assumption) (by first | omega | (· simp) | (· (simp; omega))) (by first | omega | (· simp) | (· (simp; omega)))))))
theorem infoC : (Try.prog.info? 58).map (fun i => (i.zero, i.size, i.bytes)) = some (some (.agg #[.int .i64 0, .int .i64 0, .int .i64 0, .string ByteArray.empty]), 4, 40) := by kernel_rfl
set_option maxHeartbeats 400000 in
theorem toCellS_any (A : Option Addr) (ln c : Nat) (ds : List GCell) (w : World) (hs : Rd w 4 encC (.slice A ln c) ds) (hn : ds.length ≤ 1073741824) :
    Calls Try.prog 71 #[.slice A ln c] w fun e w' => ∃ v, e = .returned v ∧ Own w' w.heap.size w'.heap.size 58 4 encC v ds ∧ Below w.heap.size w w' := by
  obtain rfl := hs.len_eq
  have hmk := mk_eq Try.underlying29 infoC ds.length (by omega) (by omega)
  have hF := Fill.new w 58 #[.int .i64 0, .int .i64 0, .int .i64 0, .string ByteArray.empty] (ds.length * 4) (ds.flatMap encC)
  have HX := Lib.hid (flat_len encC_len ds)
  go_enter Try.func71, Try.ntmps71
  go_wp2
  go_loopw [4] (fun i wr => ∃ (k : Nat), k ≤ ds.length ∧ i = .int .i64 k ∧ Fill wr w.heap.size 58 (ds.length * 4) (k * 4) (ds.flatMap encC) ∧ Below w.heap.size w wr) (fun i _ => ds.length - (intOf i).toNat)
  case atStart => exact ⟨0, Nat.zero_le _, rfl, hF, (by repeat (first | (with_reducible refine Below.setCell ?_ (by first | omega | (· simp) | (· (simp; omega))) _) | (with_reducible refine Below.alloc ?_ (by first | omega | (· simp) | (· (simp; omega))) _) | (with_reducible refine Below.drew ?_) | (with_reducible refine bdrewN ?_ _) | (with_reducible exact Below.refl _ _) | (with_reducible assumption) | (with_reducible refine Below.trans ?_ (Below.mono (by assumption) (by first | omega | (· simp) | (· (simp; omega))))) | (with_reducible refine Below.trans ?_ (Kp.below (by assumption) (by first | omega | (· simp) | (· (simp; omega))) (by first | omega | (· simp) | (· (simp; omega)))))))⟩
  case round =>
    obtain ⟨k, hk, rfl, hf, hb⟩ := hrel
    by_cases hlt : k < ds.length
    · have hs' := hs.below hb (Nat.le_refl _)
      obtain ⟨b, o, rfl, _, hcell⟩ := hs'.at_ hlt
      have hcell0 := hcell 0 _ rfl
      have hcell1 := hcell 1 _ rfl
      have hcell2 := hcell 2 _ rfl
      have hcell3 := hcell 3 _ rfl
      rw [Nat.add_zero] at hcell0
      clear hcell
      have HF := Lib.hid hf
      clear hf
      have hzb := hb.size
      go_wp2_with (go_at_call 130; refine (toCell_any _ _ _ _ _).mono ?_; rintro e w1 ⟨rfl, hb1⟩; have hf1 := HF.out.below hb1 HF.out.lt; obtain ⟨u0, c0⟩ := hf1.cell (j := k * 4) (by omega); obtain ⟨u1, c1⟩ := hf1.cell (j := k * 4 + 1) (by omega); obtain ⟨u2, c2⟩ := hf1.cell (j := k * 4 + 2) (by omega); obtain ⟨u3, c3⟩ := hf1.cell (j := k * 4 + 3) (by omega); have z0 := hf1.frozen)
      go_roundw
      case rel =>
        have e := fun j hj => flat_at encC_len ds k hlt j hj
        exact ⟨k + 1, by omega, by go_num, by rw [Nat.add_mul]; exact ((((hf1.set (by omega) (e 0 (by omega))).set (by omega) (e 1 (by omega))).set (by omega) (e 2 (by omega))).set (by omega) (e 3 (by omega))), (by repeat (first | (with_reducible refine Below.setCell ?_ (by first | omega | (· simp) | (· (simp; omega))) _) | (with_reducible refine Below.alloc ?_ (by first | omega | (· simp) | (· (simp; omega))) _) | (with_reducible refine Below.drew ?_) | (with_reducible refine bdrewN ?_ _) | (with_reducible exact Below.refl _ _) | (with_reducible assumption) | (with_reducible refine Below.trans ?_ (Below.mono (by assumption) (by first | omega | (· simp) | (· (simp; omega))))) | (with_reducible refine Below.trans ?_ (Kp.below (by assumption) (by first | omega | (· simp) | (· (simp; omega))) (by first | omega | (· simp) | (· (simp; omega)))))))⟩
      case measure => simp [intOf]; omega
    · have hk' : k = ds.length := by omega
      subst hk'
      go_wp2
      go_ret
      exact ⟨_, rfl, Own.of_owns (hf.owns (Nat.le_refl _) rfl HX.out (by unfold maxLen; omega)) (Nat.le_refl _), hb⟩
theorem eqVal_same (a b : Int) (s : ByteArray) (w : World) : Calls Try.prog 44 #[.agg #[.int .i64 a, .int .i64 b, .string s], .agg #[.int .i64 a, .int .i64 b, .string s]] w fun e w' =>
    e = .returned (.bool true) ∧ Below w.heap.size w w' := by
  go_enter Try.func44, Try.ntmps44
  go_wp2
  go_ret
  exact ⟨rfl, (by repeat (first | (with_reducible refine Below.setCell ?_ (by first | omega | (· simp) | (· (simp; omega))) _) | (with_reducible refine Below.alloc ?_ (by first | omega | (· simp) | (· (simp; omega))) _) | (with_reducible refine Below.drew ?_) | (with_reducible refine bdrewN ?_ _) | (with_reducible exact Below.refl _ _) | (with_reducible assumption) | (with_reducible refine Below.trans ?_ (Below.mono (by assumption) (by first | omega | (· simp) | (· (simp; omega))))) | (with_reducible refine Below.trans ?_ (Kp.below (by assumption) (by first | omega | (· simp) | (· (simp; omega))) (by first | omega | (· simp) | (· (simp; omega)))))))⟩
theorem eqCell_same (r a b : Int) (s : ByteArray) (w : World) : Calls Try.prog 133 #[.agg #[.int .i64 r, .int .i64 a, .int .i64 b, .string s], .agg #[.int .i64 r, .int .i64 a, .int .i64 b, .string s]] w fun e w' =>
    e = .returned (.bool true) ∧ Below w.heap.size w w' := by
  go_enter Try.func133, Try.ntmps133
  go_wp2_with (go_at_call 44; refine (eqVal_same _ _ _ _).mono ?_; rintro e w1 ⟨rfl, hb1⟩)
  go_ret
  exact ⟨rfl, (by repeat (first | (with_reducible refine Below.setCell ?_ (by first | omega | (· simp) | (· (simp; omega))) _) | (with_reducible refine Below.alloc ?_ (by first | omega | (· simp) | (· (simp; omega))) _) | (with_reducible refine Below.drew ?_) | (with_reducible refine bdrewN ?_ _) | (with_reducible exact Below.refl _ _) | (with_reducible assumption) | (with_reducible refine Below.trans ?_ (Below.mono (by assumption) (by first | omega | (· simp) | (· (simp; omega))))) | (with_reducible refine Below.trans ?_ (Kp.below (by assumption) (by first | omega | (· simp) | (· (simp; omega))) (by first | omega | (· simp) | (· (simp; omega)))))))⟩
set_option maxHeartbeats 400000 in
theorem eqCellS_same (A B : Option Addr) (ln ln' c c' : Nat) (ds : List GCell) (w : World) (hs : Rd w 4 encC (.slice A ln c) ds) (ht : Rd w 4 encC (.slice B ln' c') ds) :
    Calls Try.prog 74 #[.slice A ln c, .slice B ln' c'] w fun e w' => e = .returned (.bool true) ∧ Below w.heap.size w w' := by
  obtain rfl := hs.len_eq
  obtain rfl := ht.len_eq
  have hlen := hs.len_le
  go_enter Try.func74, Try.ntmps74
  go_wp2
  go_loopw [5] (fun i wr => ∃ (k : Nat), k ≤ ds.length ∧ i = .int .i64 k ∧ Below w.heap.size w wr) (fun i _ => ds.length - (intOf i).toNat)
  case atStart => exact ⟨0, Nat.zero_le _, rfl, Below.refl _ _⟩
  case round =>
    obtain ⟨k, hk, rfl, hb⟩ := hrel
    by_cases hlt : k < ds.length
    · have hs' := hs.below hb (Nat.le_refl _)
      have ht' := ht.below hb (Nat.le_refl _)
      obtain ⟨b, o, rfl, _, hc⟩ := hs'.at_ hlt
      have c0 := hc 0 _ rfl; have c1 := hc 1 _ rfl; have c2 := hc 2 _ rfl; have c3 := hc 3 _ rfl
      rw [Nat.add_zero] at c0
      obtain ⟨b', o', rfl, _, hd⟩ := ht'.at_ hlt
      have d0 := hd 0 _ rfl; have d1 := hd 1 _ rfl; have d2 := hd 2 _ rfl; have d3 := hd 3 _ rfl
      rw [Nat.add_zero] at d0
      clear hc hd
      have hzb := hb.size
      go_wp2
      go_region_held3 (fun w' => w'.cell? ⟨b, o + k * 4, none⟩ = some (.int .i64 ds[k].refs) ∧ w'.cell? ⟨b, o + k * 4 + 1, none⟩ = some (.int .i64 ds[k].v.k) ∧ w'.cell? ⟨b, o + k * 4 + 2, none⟩ = some (.int .i64 ds[k].v.n) ∧ w'.cell? ⟨b, o + k * 4 + 3, none⟩ = some (.string ds[k].v.s) ∧ w'.cell? ⟨b', o' + k * 4, none⟩ = some (.int .i64 ds[k].refs) ∧ w'.cell? ⟨b', o' + k * 4 + 1, none⟩ = some (.int .i64 ds[k].v.k) ∧ w'.cell? ⟨b', o' + k * 4 + 2, none⟩ = some (.int .i64 ds[k].v.n) ∧ w'.cell? ⟨b', o' + k * 4 + 3, none⟩ = some (.string ds[k].v.s))
        (first | exact ⟨c0, c1, c2, c3, d0, d1, d2, d3⟩ | skip)
        ((go_at_call 133; refine (eqCell_same _ _ _ _ _).mono ?_; rintro e w1 ⟨rfl, hb1⟩; have c0 := cell_below hb1 c0 (by first | omega | (· simp) | (· (simp; omega))); have c1 := cell_below hb1 c1 (by first | omega | (· simp) | (· (simp; omega))); have c2 := cell_below hb1 c2 (by first | omega | (· simp) | (· (simp; omega))); have c3 := cell_below hb1 c3 (by first | omega | (· simp) | (· (simp; omega))); have d0 := cell_below hb1 d0 (by first | omega | (· simp) | (· (simp; omega))); have d1 := cell_below hb1 d1 (by first | omega | (· simp) | (· (simp; omega))); have d2 := cell_below hb1 d2 (by first | omega | (· simp) | (· (simp; omega))); have d3 := cell_below hb1 d3 (by first | omega | (· simp) | (· (simp; omega)))))
      go_wp2
      go_roundw
      case rel => exact ⟨k + 1, by omega, by go_num, (by repeat (first | (with_reducible refine Below.setCell ?_ (by first | omega | (· simp) | (· (simp; omega))) _) | (with_reducible refine Below.alloc ?_ (by first | omega | (· simp) | (· (simp; omega))) _) | (with_reducible refine Below.drew ?_) | (with_reducible refine bdrewN ?_ _) | (with_reducible exact Below.refl _ _) | (with_reducible assumption) | (with_reducible refine Below.trans ?_ (Below.mono (by assumption) (by first | omega | (· simp) | (· (simp; omega))))) | (with_reducible refine Below.trans ?_ (Kp.below (by assumption) (by first | omega | (· simp) | (· (simp; omega))) (by first | omega | (· simp) | (· (simp; omega)))))))⟩
      case measure => simp [intOf]; omega
    · go_wp2
      go_ret
      exact ⟨rfl, hb⟩
def szCellF (c : GCell) (l : Int) : Int := if l - c.v.s.size < 0 then -1 else l - c.v.s.size
theorem szCellF_le (d : GCell) (l : Int) (h : 0 ≤ l) : szCellF d l ≤ l := by unfold szCellF; split <;> omega
theorem szVal_any (a b : Int) (s : ByteArray) (left : Int) (w : World) (h0 : 0 ≤ left) (h1 : left ≤ 1048576) (hss : s.size ≤ 9223372036854775807) : Calls Try.prog 16 #[.agg #[.int .i64 a, .int .i64 b, .string s], .int .i64 left] w fun e w' =>
    e = .returned (.int .i64 (if left - s.size < 0 then -1 else left - s.size)) ∧ Below w.heap.size w w' := by
  by_cases h : left - s.size < 0
  · rw [if_pos h]
    go_enter Try.func16, Try.ntmps16
    go_wp2
    go_ret
    exact ⟨rfl, (by repeat (first | (with_reducible refine Below.setCell ?_ (by first | omega | (· simp) | (· (simp; omega))) _) | (with_reducible refine Below.alloc ?_ (by first | omega | (· simp) | (· (simp; omega))) _) | (with_reducible refine Below.drew ?_) | (with_reducible refine bdrewN ?_ _) | (with_reducible exact Below.refl _ _) | (with_reducible assumption) | (with_reducible refine Below.trans ?_ (Below.mono (by assumption) (by first | omega | (· simp) | (· (simp; omega))))) | (with_reducible refine Below.trans ?_ (Kp.below (by assumption) (by first | omega | (· simp) | (· (simp; omega))) (by first | omega | (· simp) | (· (simp; omega)))))))⟩
  · rw [if_neg h]
    go_enter Try.func16, Try.ntmps16
    go_wp2
    go_ret
    exact ⟨rfl, (by repeat (first | (with_reducible refine Below.setCell ?_ (by first | omega | (· simp) | (· (simp; omega))) _) | (with_reducible refine Below.alloc ?_ (by first | omega | (· simp) | (· (simp; omega))) _) | (with_reducible refine Below.drew ?_) | (with_reducible refine bdrewN ?_ _) | (with_reducible exact Below.refl _ _) | (with_reducible assumption) | (with_reducible refine Below.trans ?_ (Below.mono (by assumption) (by first | omega | (· simp) | (· (simp; omega))))) | (with_reducible refine Below.trans ?_ (Kp.below (by assumption) (by first | omega | (· simp) | (· (simp; omega))) (by first | omega | (· simp) | (· (simp; omega)))))))⟩
theorem szCell_any (r a b : Int) (s : ByteArray) (left : Int) (w : World) (h0 : 0 ≤ left) (h1 : left ≤ 1048576) (hss : s.size ≤ 9223372036854775807) : Calls Try.prog 129 #[.agg #[.int .i64 r, .int .i64 a, .int .i64 b, .string s], .int .i64 left] w fun e w' =>
    e = .returned (.int .i64 (if left - s.size < 0 then -1 else left - s.size)) ∧ Below w.heap.size w w' := by
  by_cases h : left - s.size < 0
  · rw [if_pos h]
    go_enter Try.func129, Try.ntmps129
    go_wp2_with (go_at_call 16; refine (szVal_any _ _ _ _ _ h0 h1 hss).mono ?_; rw [if_pos h]; rintro e w1 ⟨rfl, hb1⟩)
    go_ret
    exact ⟨rfl, (by repeat (first | (with_reducible refine Below.setCell ?_ (by first | omega | (· simp) | (· (simp; omega))) _) | (with_reducible refine Below.alloc ?_ (by first | omega | (· simp) | (· (simp; omega))) _) | (with_reducible refine Below.drew ?_) | (with_reducible refine bdrewN ?_ _) | (with_reducible exact Below.refl _ _) | (with_reducible assumption) | (with_reducible refine Below.trans ?_ (Below.mono (by assumption) (by first | omega | (· simp) | (· (simp; omega))))) | (with_reducible refine Below.trans ?_ (Kp.below (by assumption) (by first | omega | (· simp) | (· (simp; omega))) (by first | omega | (· simp) | (· (simp; omega)))))))⟩
  · rw [if_neg h]
    go_enter Try.func129, Try.ntmps129
    go_wp2_with (go_at_call 16; refine (szVal_any _ _ _ _ _ h0 h1 hss).mono ?_; rw [if_neg h]; rintro e w1 ⟨rfl, hb1⟩)
    go_ret
    exact ⟨rfl, (by repeat (first | (with_reducible refine Below.setCell ?_ (by first | omega | (· simp) | (· (simp; omega))) _) | (with_reducible refine Below.alloc ?_ (by first | omega | (· simp) | (· (simp; omega))) _) | (with_reducible refine Below.drew ?_) | (with_reducible refine bdrewN ?_ _) | (with_reducible exact Below.refl _ _) | (with_reducible assumption) | (with_reducible refine Below.trans ?_ (Below.mono (by assumption) (by first | omega | (· simp) | (· (simp; omega))))) | (with_reducible refine Below.trans ?_ (Kp.below (by assumption) (by first | omega | (· simp) | (· (simp; omega))) (by first | omega | (· simp) | (· (simp; omega)))))))⟩
set_option maxHeartbeats 400000 in
theorem szCellS_any (A : Option Addr) (ln c : Nat) (ds : List GCell) (left : Int) (w : World) (hs : Rd w 4 encC (.slice A ln c) ds) (hsz : ∀ d ∈ ds, d.v.s.size ≤ maxLen) (h0 : 0 ≤ left) (h1 : left ≤ 1048576) :
    Calls Try.prog 68 #[.slice A ln c, .int .i64 left] w fun e w' => e = .returned (.int .i64 (szS szCellF ds left)) ∧ Below w.heap.size w w' := by
  obtain rfl := hs.len_eq
  have hlen := hs.len_le
  obtain ⟨R, hR⟩ : ∃ R, szS szCellF ds left = R := ⟨_, rfl⟩
  rw [hR]
  unfold szS at hR
  by_cases hneg : left - ds.length < 0
  · rw [if_pos hneg] at hR
    subst hR
    go_enter Try.func68, Try.ntmps68
    go_wp2
    go_ret
    exact ⟨rfl, (by repeat (first | (with_reducible refine Below.setCell ?_ (by first | omega | (· simp) | (· (simp; omega))) _) | (with_reducible refine Below.alloc ?_ (by first | omega | (· simp) | (· (simp; omega))) _) | (with_reducible refine Below.drew ?_) | (with_reducible refine bdrewN ?_ _) | (with_reducible exact Below.refl _ _) | (with_reducible assumption) | (with_reducible refine Below.trans ?_ (Below.mono (by assumption) (by first | omega | (· simp) | (· (simp; omega))))) | (with_reducible refine Below.trans ?_ (Kp.below (by assumption) (by first | omega | (· simp) | (· (simp; omega))) (by first | omega | (· simp) | (· (simp; omega)))))))⟩
  rw [if_neg hneg] at hR
  have HR := Lib.hid hR
  clear hR
  go_enter Try.func68, Try.ntmps68
  go_wp2
  go_loopw [1, 5] (fun l i wr => ∃ (k : Nat) (cur : Int), k ≤ ds.length ∧ i = .int .i64 k ∧ l = .int .i64 cur ∧ 0 ≤ cur ∧ cur ≤ left ∧ szLoop szCellF (ds.drop k) cur = R ∧ Below w.heap.size w wr) (fun _ i _ => ds.length - (intOf i).toNat)
  case atStart => exact ⟨0, _, Nat.zero_le _, rfl, rfl, by omega, by omega, HR.out, Below.refl _ _⟩
  case round =>
    obtain ⟨k, cur, hk, rfl, rfl, hc0, hc1, hr, hb⟩ := hrel
    have hzb := hb.size
    by_cases hlt : k < ds.length
    · rw [szLoop_drop szCellF ds k hlt] at hr
      have Hr := Lib.hid hr
      clear hr
      have hss : ds[k].v.s.size ≤ 9223372036854775807 := hsz _ (List.getElem_mem hlt)
      have hs' := hs.below hb (Nat.le_refl _)
      obtain ⟨b, o, rfl, _, hc⟩ := hs'.at_ hlt
      have c0 := hc 0 _ rfl; have c1 := hc 1 _ rfl; have c2 := hc 2 _ rfl; have c3 := hc 3 _ rfl
      rw [Nat.add_zero] at c0
      clear hc
      by_cases hn : cur - ds[k].v.s.size < 0
      · go_wp2_with (go_at_call 129; refine (szCell_any _ _ _ _ _ _ hc0 (by omega) hss).mono ?_; rw [if_pos hn]; rintro e w1 ⟨rfl, hb1⟩)
        go_ret
        exact ⟨ri (by have := Hr.out; unfold szCellF at this; rw [if_pos hn] at this; simpa using this), (by repeat (first | (with_reducible refine Below.setCell ?_ (by first | omega | (· simp) | (· (simp; omega))) _) | (with_reducible refine Below.alloc ?_ (by first | omega | (· simp) | (· (simp; omega))) _) | (with_reducible refine Below.drew ?_) | (with_reducible refine bdrewN ?_ _) | (with_reducible exact Below.refl _ _) | (with_reducible assumption) | (with_reducible refine Below.trans ?_ (Below.mono (by assumption) (by first | omega | (· simp) | (· (simp; omega))))) | (with_reducible refine Below.trans ?_ (Kp.below (by assumption) (by first | omega | (· simp) | (· (simp; omega))) (by first | omega | (· simp) | (· (simp; omega)))))))⟩
      · go_wp2_with (go_at_call 129; refine (szCell_any _ _ _ _ _ _ hc0 (by omega) hss).mono ?_; rw [if_neg hn]; rintro e w1 ⟨rfl, hb1⟩)
        go_roundw
        case rel => exact ⟨k + 1, _, by omega, by go_num, rfl, by omega, by omega, by have := Hr.out; unfold szCellF at this; rw [if_neg (by omega : ¬ cur - ds[k].v.s.size < 0), if_neg (by omega : ¬ cur - ds[k].v.s.size < 0)] at this; exact this, (by repeat (first | (with_reducible refine Below.setCell ?_ (by first | omega | (· simp) | (· (simp; omega))) _) | (with_reducible refine Below.alloc ?_ (by first | omega | (· simp) | (· (simp; omega))) _) | (with_reducible refine Below.drew ?_) | (with_reducible refine bdrewN ?_ _) | (with_reducible exact Below.refl _ _) | (with_reducible assumption) | (with_reducible refine Below.trans ?_ (Below.mono (by assumption) (by first | omega | (· simp) | (· (simp; omega))))) | (with_reducible refine Below.trans ?_ (Kp.below (by assumption) (by first | omega | (· simp) | (· (simp; omega))) (by first | omega | (· simp) | (· (simp; omega)))))))⟩
        case measure => simp [intOf]; omega
    · have hk' : k = ds.length := by omega
      subst hk'
      rw [List.drop_length, szLoop] at hr
      have Hr := Lib.hid hr
      clear hr
      go_wp2
      go_ret
      exact ⟨ri Hr.out, hb⟩
end Go.Proofs.Ytfnnbjkjfoiboaa
