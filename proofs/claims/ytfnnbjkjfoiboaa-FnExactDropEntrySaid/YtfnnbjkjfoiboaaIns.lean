/- Instructions: within, l1In, the instructions that have a number, InsOk of both sides. -/
import Derived.Test.YtfnnbjkjfoiboaaBase
namespace Go.Proofs.Ytfnnbjkjfoiboaa
open Go.RowKit

def inB (n lo hi : Int) : Bool := decide (lo ≤ n) && decide (n ≤ hi)
theorem within_any (n lo hi : Int) (w : World) : Calls Try.prog 93 #[.int .i64 n, .int .i64 lo, .int .i64 hi] w fun e w' =>
    e = .returned (.bool (inB n lo hi)) ∧ w = w' := by
  go_enter Try.func93, Try.ntmps93
  go_wp2
  all_goals (go_ret; exact ⟨by simp [inB, *] <;> omega, rfl⟩)
def hasN (n : Int) : Bool := n == 2 || n == 3 || n == 4 || n == 5 || n == 6 || n == 7 || n == 13 || n == 16 || n == 17 || n == 18 || n == 19 || n == 20 || n == 21 || n == 24 || n == 25 || n == 32 || n == 34 || n == 36
theorem toIns_any (o n : Int) (w : World) : Calls Try.prog 177 #[.agg #[.int .i64 o, .int .i64 n]] w fun e w' =>
    e = .returned (.agg #[.int .i64 o, .int .i64 n]) ∧ Below w.heap.size w w' := by
  go_enter Try.func177, Try.ntmps177
  go_wp2
  refine bodyPost_ret (v := .agg #[.int .i64 o, .int .i64 n]) (by simp [results, Try.results177, go_sem]) rfl ⟨rfl, ?_⟩
  exact (((Below.refl _ _).alloc (by simp) _).alloc (by simp) _).alloc (by simp; omega) _
/-- InsOk. -/
def insOk (o n : Int) : Bool :=
  inB o 1 41 && (inB n 0 10000 && (if o = 7 then decide (n ≤ 11) else if o = 13 then decide (n ≤ 1) else if o = 34 then inB n 1 5 else hasN o || n == 0))
def insOkI (o n : Int) : Bool :=
  if (!inB o 1 41 || !hasN o) = true then inB o 1 41 && n == 0
  else if (o == 7) = true then inB n 0 11 else if (o == 13) = true then inB n 0 1 else if (o == 34) = true then inB n 1 5 else inB n 0 10000
theorem insOkI_eq (o n : Int) : insOkI o n = insOk o n := by
  rw [Bool.eq_iff_iff]
  unfold insOkI insOk
  by_cases h1 : inB o 1 41 = true
  · by_cases h2 : hasN o = true
    · by_cases h7 : o = 7
      · subst h7; simp [hasN, inB]; omega
      · by_cases h13 : o = 13
        · subst h13; simp [hasN, inB]; omega
        · by_cases h34 : o = 34
          · subst h34; simp [hasN, inB]; omega
          · simp [h1, h2, h7, h13, h34]
    · have h7 : o ≠ 7 := by rintro rfl; exact h2 rfl
      have h13 : o ≠ 13 := by rintro rfl; exact h2 rfl
      have h34 : o ≠ 34 := by rintro rfl; exact h2 rfl
      simp [h2, h7, h13, h34, inB]; omega
  · simp [h1]
end Go.Proofs.Ytfnnbjkjfoiboaa
