/- Instructions: within, l1In, the instructions that have a number, InsOk of both sides. -/
import Derived.Test.YtjgmdbhbnpafgaaBase
namespace Go.Proofs.Ytjgmdbhbnpafgaa
open Go.RowKit

def inB (n lo hi : Int) : Bool := decide (lo ≤ n) && decide (n ≤ hi)
theorem within_any (n lo hi : Int) (w : World) : Calls Try.prog 59 #[.int .i64 n, .int .i64 lo, .int .i64 hi] w fun e w' =>
    e = .returned (.bool (inB n lo hi)) ∧ w = w' := by
  go_enter Try.func59, Try.ntmps59
  go_wp2
  all_goals (go_ret; exact ⟨by simp [inB, *] <;> omega, rfl⟩)
theorem l1In_any (n lo hi : Int) (w : World) : Calls Try.prog 57 #[.int .i64 n, .int .i64 lo, .int .i64 hi] w fun e w' =>
    e = .returned (.bool (inB n lo hi)) ∧ w = w' := by
  go_enter Try.func57, Try.ntmps57
  go_wp2
  all_goals (go_ret; exact ⟨by simp [inB, *] <;> omega, rfl⟩)
def hasN (n : Int) : Bool := n == 2 || n == 3 || n == 4 || n == 5 || n == 6 || n == 7 || n == 13 || n == 16 || n == 17 || n == 18 || n == 19 || n == 20 || n == 21 || n == 24 || n == 25 || n == 32 || n == 34 || n == 36
theorem l17Has_any (n : Int) (w : World) : Calls Try.prog 58 #[.int .i64 n] w fun e w' =>
    e = .returned (.bool (hasN n)) ∧ w = w' := by
  go_enter Try.func58, Try.ntmps58
  go_wp2
  all_goals (go_ret; exact ⟨by simp [hasN, *], rfl⟩)
theorem hasNumber_any (n : Int) (w : World) : Calls Try.prog 60 #[.int .i64 n] w fun e w' =>
    e = .returned (.bool (hasN n)) ∧ w = w' := by
  go_enter Try.func60, Try.ntmps60
  go_wp2
  all_goals (go_ret; exact ⟨by simp [hasN, *], rfl⟩)
theorem toIns_any (o n : Int) (w : World) : Calls Try.prog 16 #[.agg #[.int .i64 o, .int .i64 n]] w fun e w' =>
    e = .returned (.agg #[.int .i64 o, .int .i64 n]) ∧ Below w.heap.size w w' := by
  go_enter Try.func16, Try.ntmps16
  go_wp2
  refine bodyPost_ret (v := .agg #[.int .i64 o, .int .i64 n]) (by simp [results, Try.results16, go_sem]) rfl ⟨rfl, ?_⟩
  exact (((Below.refl _ _).alloc (by simp) _).alloc (by simp) _).alloc (by simp; omega) _
/-- InsOk. -/
def insOk (o n : Int) : Bool :=
  inB o 1 41 && (inB n 0 10000 && (if o = 7 then decide (n ≤ 11) else if o = 13 then decide (n ≤ 1) else if o = 34 then inB n 1 5 else hasN o || n == 0))
theorem specInsOk_any (o n : Int) (w : World) : Calls Try.prog 15 #[.agg #[.int .i64 o, .int .i64 n]] w fun e w' =>
    e = .returned (.bool (insOk o n)) ∧ Below w.heap.size w w' := by
  go_enter Try.func15, Try.ntmps15
  go_wp2_with (first | (go_at_call 57; refine (l1In_any _ _ _ _).mono ?_; rintro e w' ⟨rfl, rfl⟩) | (go_at_call 58; refine (l17Has_any _ _).mono ?_; rintro e w' ⟨rfl, rfl⟩))
  all_goals (go_ret; exact ⟨rb (by simp_all [insOk]), (Below.refl _ _).alloc (by simp) _⟩)
def insOkI (o n : Int) : Bool :=
  if (!inB o 1 41 || !hasN o) = true then inB o 1 41 && n == 0
  else if (o == 7) = true then inB n 0 11 else if (o == 13) = true then inB n 0 1 else if (o == 34) = true then inB n 1 5 else inB n 0 10000
theorem insOkI_eq (o n : Int) : insOkI o n = insOk o n := by
  rw [Bool.eq_iff_iff]
  unfold insOkI insOk
  by_cases h1 : inB o 1 41 = true
  · by_cases h2 : hasN o = true
    · by_cases h7 : o = 7
      · subst h7; simp [hasN, inB]; omega
      · by_cases h13 : o = 13
        · subst h13; simp [hasN, inB]; omega
        · by_cases h34 : o = 34
          · subst h34; simp [hasN, inB]; omega
          · simp [h1, h2, h7, h13, h34]
    · have h7 : o ≠ 7 := by rintro rfl; exact h2 rfl
      have h13 : o ≠ 13 := by rintro rfl; exact h2 rfl
      have h34 : o ≠ 34 := by rintro rfl; exact h2 rfl
      simp [h2, h7, h13, h34, inB]; omega
  · simp [h1]
theorem implInsOk_any (o n : Int) (w : World) : Calls Try.prog 17 #[.agg #[.int .i64 o, .int .i64 n]] w fun e w' =>
    e = .returned (.bool (insOk o n)) ∧ Below w.heap.size w w' := by
  rw [← insOkI_eq]
  go_enter Try.func17, Try.ntmps17
  go_wp2_with (first | (go_at_call 59; refine (within_any _ _ _ _).mono ?_; rintro e w' ⟨rfl, rfl⟩) | (go_at_call 60; refine (hasNumber_any _ _).mono ?_; rintro e w' ⟨rfl, rfl⟩))
  all_goals (go_ret; exact ⟨rb (by simp_all [insOkI]), (Below.refl _ _).alloc (by simp) _⟩)
/-- The law: for all arguments the program's InsOk returns what the reference's returns. -/
theorem insOk_law (o n : Int) (w : World) : Calls Try.prog 3 #[.agg #[.int .i64 o, .int .i64 n]] w fun e w' =>
    e = .returned (.bool true) ∧ Below w.heap.size w w' := by
  go_enter Try.func3, Try.ntmps3
  go_wp2_with (first
    | (go_at_call 16; refine (toIns_any _ _ _).mono ?_; rintro e w1 ⟨rfl, hb1⟩; have hza := hb1.size; (try simp only [World.size_alloc, World.size_drew, World.size_setCell] at hza); have ka0 := blk hb1 (b := w.heap.size) (by first | omega | (· simp) | (· (simp; omega))))
    | (go_at_call 15; refine (specInsOk_any _ _ _).mono ?_; rintro e w1 ⟨rfl, hb1⟩; have hza := hb1.size; (try simp only [World.size_alloc, World.size_drew, World.size_setCell] at hza); have ka0 := blk hb1 (b := w.heap.size) (by first | omega | (· simp) | (· (simp; omega))))
    | (go_at_call 17; refine (implInsOk_any _ _ _).mono ?_; rintro e w1 ⟨rfl, hb1⟩; have hza := hb1.size; (try simp only [World.size_alloc, World.size_drew, World.size_setCell] at hza); have ka0 := blk hb1 (b := w.heap.size) (by first | omega | (· simp) | (· (simp; omega)))))
  go_ret
  exact ⟨rfl, (by repeat (first | (with_reducible refine Below.setCell ?_ (by first | omega | (· simp) | (· (simp; omega))) _) | (with_reducible refine Below.alloc ?_ (by first | omega | (· simp) | (· (simp; omega))) _) | (with_reducible refine Below.drew ?_) | (with_reducible refine bdrewN ?_ _) | (with_reducible exact Below.refl _ _) | (with_reducible assumption) | (with_reducible refine Below.trans ?_ (Below.mono (by assumption) (by first | omega | (· simp) | (· (simp; omega))))) | (with_reducible refine Below.trans ?_ (Kp.below (by assumption) (by first | omega | (· simp) | (· (simp; omega))) (by first | omega | (· simp) | (· (simp; omega)))))))⟩
end Go.Proofs.Ytjgmdbhbnpafgaa
