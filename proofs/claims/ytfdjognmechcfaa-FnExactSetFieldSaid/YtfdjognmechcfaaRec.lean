/- Records. -/
import Derived.Test.YtfdjognmechcfaaSl
namespace Go.Proofs.Ytfdjognmechcfaa
open Go.RowKit

def szStr (s : ByteArray) (l : Int) : Int := l - s.size
set_option maxHeartbeats 400000 in
theorem szStringS_any (A : Option Addr) (ln c : Nat) (ds : List ByteArray) (left : Int) (w : World) (hs : Rd w 1 encS (.slice A ln c) ds) (hsz : ∀ s ∈ ds, s.size ≤ maxLen) (h0 : 0 ≤ left) (h1 : left ≤ 1048576) :
    Calls Try.prog 17 #[.slice A ln c, .int .i64 left] w fun e w' => e = .returned (.int .i64 (szS szStr ds left)) ∧ w = w' := by
  obtain rfl := hs.len_eq
  have hlen := hs.len_le
  obtain ⟨R, hR⟩ : ∃ R, szS szStr ds left = R := ⟨_, rfl⟩
  rw [hR]
  unfold szS at hR
  by_cases hneg : left - ds.length < 0
  · rw [if_pos hneg] at hR
    subst hR
    go_enter Try.func17, Try.ntmps17
    go_wp2
    go_ret
    exact ⟨rfl, rfl⟩
  rw [if_neg hneg] at hR
  have HR := Lib.hid hR
  clear hR
  go_enter Try.func17, Try.ntmps17
  go_wp2
  go_loop [1, 5] (fun l i => ∃ (k : Nat) (cur : Int), k ≤ ds.length ∧ i = .int .i64 k ∧ l = .int .i64 cur ∧ 0 ≤ cur ∧ cur ≤ left ∧ szLoop szStr (ds.drop k) cur = R) (fun _ i => ds.length - (intOf i).toNat)
  case atStart => exact ⟨0, _, Nat.zero_le _, rfl, rfl, by omega, by omega, HR.out⟩
  case round =>
    obtain ⟨k, cur, hk, rfl, rfl, hc0, hc1, hr⟩ := hrel
    by_cases hlt : k < ds.length
    · rw [szLoop_drop szStr ds k hlt] at hr
      have Hr := Lib.hid hr
      clear hr
      have hss : ds[k].size ≤ 9223372036854775807 := hsz _ (List.getElem_mem hlt)
      obtain ⟨b, o, rfl, _, hcell⟩ := hs.at1 hlt
      have hcell := hcell _ rfl
      by_cases hn : cur - ds[k].size < 0
      · go_wp2
        go_ret
        exact ⟨ri (by have := Hr.out; unfold szStr at this; rw [if_pos hn] at this; exact this), rfl⟩
      · go_wp2
        go_round
        case rel => exact ⟨k + 1, _, by omega, by go_num, rfl, by omega, by omega, by have := Hr.out; unfold szStr at this; rw [if_neg hn] at this; exact this⟩
        case measure => simp [intOf]; omega
    · have hk' : k = ds.length := by omega
      subst hk'
      rw [List.drop_length, szLoop] at hr
      have Hr := Lib.hid hr
      clear hr
      go_wp2
      go_ret
      exact ⟨ri Hr.out, rfl⟩

theorem infoS : (Try.prog.info? 9).map (fun i => (i.zero, i.size, i.bytes)) = some (some (.string ByteArray.empty), 1, 16) := by kernel_rfl
theorem encS_len (d : ByteArray) : (encS d).length = 1 := rfl
set_option maxHeartbeats 400000 in
theorem toStringS_any (A : Option Addr) (ln c : Nat) (ds : List ByteArray) (w : World) (hs : Rd w 1 encS (.slice A ln c) ds) (hn : ds.length ≤ 1073741824) :
    Calls Try.prog 23 #[.slice A ln c] w fun e w' => ∃ v, e = .returned v ∧ Own w' w.heap.size w'.heap.size 9 1 encS v ds ∧ Below w.heap.size w w' := by
  obtain rfl := hs.len_eq
  have hmk := mk_eq Try.underlying22 infoS ds.length (by omega) (by omega)
  have hF := Fill.new w 9 #[.string ByteArray.empty] ds.length (ds.flatMap encS)
  have hxs := flat_len encS_len ds
  rw [Nat.mul_one] at hxs
  have HX := Lib.hid hxs
  clear hxs
  go_enter Try.func23, Try.ntmps23
  go_wp2
  go_loopw [4] (fun i wr => ∃ (k : Nat), k ≤ ds.length ∧ i = .int .i64 k ∧ Fill wr w.heap.size 9 ds.length k (ds.flatMap encS) ∧ Below w.heap.size w wr) (fun i _ => ds.length - (intOf i).toNat)
  case atStart => exact ⟨0, Nat.zero_le _, rfl, hF, (by repeat (first | (with_reducible refine Below.setCell ?_ (by first | omega | (· simp) | (· (simp; omega))) _) | (with_reducible refine Below.alloc ?_ (by first | omega | (· simp) | (· (simp; omega))) _) | (with_reducible refine Below.drew ?_) | (with_reducible refine bdrewN ?_ _) | (with_reducible exact Below.refl _ _) | (with_reducible assumption) | (with_reducible refine Below.trans ?_ (Below.mono (by assumption) (by first | omega | (· simp) | (· (simp; omega))))) | (with_reducible refine Below.trans ?_ (Kp.below (by assumption) (by first | omega | (· simp) | (· (simp; omega))) (by first | omega | (· simp) | (· (simp; omega)))))))⟩
  case round =>
    obtain ⟨k, hk, rfl, hf, hb⟩ := hrel
    by_cases hlt : k < ds.length
    · have hs' := hs.below hb (Nat.le_refl _)
      obtain ⟨b, o, rfl, _, hcell⟩ := hs'.at1 hlt
      have hcell := hcell _ rfl
      obtain ⟨u, hc2⟩ := hf.cell hlt
      have hf2 := hf.frozen k
      have hx := flat_at encS_len ds k hlt 0 (by omega)
      rw [Nat.mul_one, Nat.add_zero] at hx
      have R := (hf.set hlt hx)
      clear hx hf
      go_wp2
      go_roundw
      case rel => exact ⟨k + 1, by omega, by go_num, R, hb.setCell (Nat.le_refl _) _⟩
      case measure => simp [intOf]; omega
    · have hk' : k = ds.length := by omega
      subst hk'
      go_wp2
      go_ret
      exact ⟨_, rfl, Own.of_owns (hf.owns (Nat.le_refl _) (Nat.mul_one _).symm HX.out (by unfold maxLen; omega)) (Nat.le_refl _), hb⟩

/-- Two lists element by element, as an eq-function's loop compares them. -/
def eqS {α : Type} (f : α → α → Bool) (a b : List α) : Bool := a.length == b.length && (List.range a.length).all fun i => match a[i]?, b[i]? with | some x, some y => f x y | _, _ => true
theorem eqS_step {α : Type} {f : α → α → Bool} {a b : List α} (hl : a.length = b.length) {k : Nat} (h : k < a.length) (hf : f a[k] (b[k]'(by omega)) = false) : eqS f a b = false := by
  unfold eqS
  rw [Bool.and_eq_false_iff]
  right
  rw [List.all_eq_false]
  refine ⟨k, List.mem_range.2 h, ?_⟩
  rw [List.getElem?_eq_getElem h, List.getElem?_eq_getElem (by omega : k < b.length)]
  simp [hf]
theorem eqS_done {α : Type} {f : α → α → Bool} {a b : List α} (hl : a.length = b.length) (h : ∀ i (hi : i < a.length), f a[i] (b[i]'(by omega)) = true) : eqS f a b = true := by
  unfold eqS
  rw [Bool.and_eq_true]
  refine ⟨by simp [hl], List.all_eq_true.2 fun i hi => ?_⟩
  have hi := List.mem_range.1 hi
  rw [List.getElem?_eq_getElem hi, List.getElem?_eq_getElem (by omega : i < b.length)]
  exact h i hi
end Go.Proofs.Ytfdjognmechcfaa
