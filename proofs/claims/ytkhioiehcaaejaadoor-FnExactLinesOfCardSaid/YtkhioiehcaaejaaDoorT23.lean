/- spec.InsText, impl.InsText: what they call, by the abstract machine. -/
import Derived.Test.YtkhioiehcaaejaaDoorT22
import Derived.Test.YtkhioiehcaaejaaDoorFamIns
namespace Go.Proofs.YtkhioiehcaaejaaDoor
open Go.RowKit
set_option maxRecDepth 100000
def hasNum (x : Int) : Bool := [2,3,4,5,6,7,13,16,17,18,19,20,21,24,25,32,34,36].any fun y => x == y
def inR (x a b : Int) : Bool := decide (a ≤ x) && decide (x ≤ b)
def insNms : List ByteArray := [⟨#[116,105,99,107]⟩, ⟨#[99,111,110,115,116]⟩, ⟨#[103,101,116,103]⟩, ⟨#[115,101,116,103]⟩, ⟨#[103,101,116,108]⟩, ⟨#[115,101,116,108]⟩, ⟨#[98,105,110]⟩, ⟨#[110,111,116]⟩, ⟨#[110,101,103]⟩, ⟨#[116,114,117,116,104]⟩, ⟨#[101,113,122]⟩, ⟨#[98,111,111,108]⟩, ⟨#[98,108,111,99,107]⟩, ⟨#[108,111,111,112]⟩, ⟨#[101,110,100]⟩, ⟨#[98,114]⟩, ⟨#[98,114,105,102]⟩, ⟨#[103,101,116,97]⟩, ⟨#[115,101,116,97]⟩, ⟨#[105,110,97]⟩, ⟨#[100,101,108,97]⟩, ⟨#[102,105,101,108,100]⟩, ⟨#[115,101,116,102]⟩, ⟨#[109,97,116,99,104]⟩, ⟨#[103,115,117,98]⟩, ⟨#[108,101,110]⟩, ⟨#[115,117,98]⟩, ⟨#[105,100,120]⟩, ⟨#[117,112]⟩, ⟨#[110,114]⟩, ⟨#[110,102]⟩, ⟨#[99,97,108,108]⟩, ⟨#[114,101,116,117,114,110]⟩, ⟨#[112,114,105,110,116]⟩, ⟨#[100,114,111,112]⟩, ⟨#[105,116,101,114]⟩, ⟨#[109,111,114,101]⟩, ⟨#[116,97,107,101]⟩, ⟨#[100,111,110,101]⟩, ⟨#[101,120,105,116]⟩, ⟨#[110,101,120,116]⟩]
theorem hasNumber_c (x : Int) : Ctr Tryd.prog 43 [.c (.v (.int .i64 x))] [] (.c (.v (.bool (hasNum x)))) [] := by
  refine ctr_of Tryd.func43 rfl rfl ?_
  repeat' (first | refine awp_seq ?_ | refine awp_block ?_ | refine awp_skip ?_ | refine awp_exit ?_ | refine awp_region0 fun C => ?_ | refine awp_region1 (by kernel_rfl) (by kernel_rfl) fun C => ?_ | refine walk_end ?_ | (refine x_gm ?_ ?_ <;> intro hG <;> (try cases hG)) | refine x_nop ?_ | refine x_bs ?_ | refine x_gr ?_ | refine x_st ?_ | refine x_mv ?_ | refine x_sk ?_ | refine x_sk0 ?_ | refine x_ix ?_ | refine x_ixs ?_ | refine x_sto ?_ | refine x_app ?_ | refine x_app0 ?_ | refine x_ld ?_ | refine x_cal ?_ | (refine awp_cond (by rfl) ?_ ?_ <;> intro hC <;> (try cases hC)))
  all_goals first
    | (exfalso; simp_all; done)
    | (refine awp_ret ?_
       refine ret0 rfl clV_v ⟨?_, rfl⟩
       refine congrArg (fun s => AV.c (AC.v (Value.bool s))) ?_
       simp at *
       simp [hasNum, *]; done)
    | skip
theorem l17Has_c (x : Int) : Ctr Tryd.prog 40 [.c (.v (.int .i64 x))] [] (.c (.v (.bool (hasNum x)))) [] := by
  refine ctr_of Tryd.func40 rfl rfl ?_
  repeat' (first | refine awp_seq ?_ | refine awp_block ?_ | refine awp_skip ?_ | refine awp_exit ?_ | refine awp_region0 fun C => ?_ | refine awp_region1 (by kernel_rfl) (by kernel_rfl) fun C => ?_ | refine walk_end ?_ | (refine x_gm ?_ ?_ <;> intro hG <;> (try cases hG)) | refine x_nop ?_ | refine x_bs ?_ | refine x_gr ?_ | refine x_st ?_ | refine x_mv ?_ | refine x_sk ?_ | refine x_sk0 ?_ | refine x_ix ?_ | refine x_ixs ?_ | refine x_sto ?_ | refine x_app ?_ | refine x_app0 ?_ | refine x_ld ?_ | refine x_cal ?_ | (refine awp_cond (by rfl) ?_ ?_ <;> intro hC <;> (try cases hC)))
  all_goals first
    | (exfalso; simp_all; done)
    | (refine awp_ret ?_
       refine ret0 rfl clV_v ⟨?_, rfl⟩
       refine congrArg (fun s => AV.c (AC.v (Value.bool s))) ?_
       simp at *
       simp [hasNum, *]; done)
    | skip
theorem within_c (x a b : Int) : Ctr Tryd.prog 56 [.c (.v (.int .i64 x)), .c (.v (.int .i64 a)), .c (.v (.int .i64 b))] [] (.c (.v (.bool (inR x a b)))) [] := by
  refine ctr_of Tryd.func56 rfl rfl ?_
  repeat' (first | refine awp_seq ?_ | refine awp_block ?_ | refine awp_skip ?_ | refine awp_exit ?_ | refine awp_region0 fun C => ?_ | refine awp_region1 (by kernel_rfl) (by kernel_rfl) fun C => ?_ | refine walk_end ?_ | (refine x_gm ?_ ?_ <;> intro hG <;> (try cases hG)) | refine x_nop ?_ | refine x_bs ?_ | refine x_gr ?_ | refine x_st ?_ | refine x_mv ?_ | refine x_sk ?_ | refine x_sk0 ?_ | refine x_ix ?_ | refine x_ixs ?_ | refine x_sto ?_ | refine x_app ?_ | refine x_app0 ?_ | refine x_ld ?_ | refine x_cal ?_ | (refine awp_cond (by rfl) ?_ ?_ <;> intro hC <;> (try cases hC)))
  all_goals
    refine awp_ret ?_
    refine ret0 rfl clV_v ⟨?_, rfl⟩
    refine congrArg (fun s => AV.c (AC.v (Value.bool s))) ?_
    simp at *
    simp [inR, *]
    try omega
theorem l1In_c (x a b : Int) : Ctr Tryd.prog 55 [.c (.v (.int .i64 x)), .c (.v (.int .i64 a)), .c (.v (.int .i64 b))] [] (.c (.v (.bool (inR x a b)))) [] := by
  refine ctr_of Tryd.func55 rfl rfl ?_
  repeat' (first | refine awp_seq ?_ | refine awp_block ?_ | refine awp_skip ?_ | refine awp_exit ?_ | refine awp_region0 fun C => ?_ | refine awp_region1 (by kernel_rfl) (by kernel_rfl) fun C => ?_ | refine walk_end ?_ | (refine x_gm ?_ ?_ <;> intro hG <;> (try cases hG)) | refine x_nop ?_ | refine x_bs ?_ | refine x_gr ?_ | refine x_st ?_ | refine x_mv ?_ | refine x_sk ?_ | refine x_sk0 ?_ | refine x_ix ?_ | refine x_ixs ?_ | refine x_sto ?_ | refine x_app ?_ | refine x_app0 ?_ | refine x_ld ?_ | refine x_cal ?_ | (refine awp_cond (by rfl) ?_ ?_ <;> intro hC <;> (try cases hC)))
  all_goals
    refine awp_ret ?_
    refine ret0 rfl clV_v ⟨?_, rfl⟩
    refine congrArg (fun s => AV.c (AC.v (Value.bool s))) ?_
    simp at *
    simp [inR, *]
    try omega
def insNmC : List AC := insNms.map fun s => .v (.string s)
theorem insNames_c : Ctr Tryd.prog 42 [] [] (.c (.ow 9 41 1 insNmC)) [] := by
  refine ctr_of Tryd.func42 rfl rfl ?_
  repeat' (first | refine awp_seq ?_ | refine awp_block ?_ | refine awp_skip ?_ | refine awp_exit ?_ | refine awp_region0 fun C => ?_ | refine awp_region1 (by kernel_rfl) (by kernel_rfl) fun C => ?_ | refine walk_end ?_ | (refine x_gm ?_ ?_ <;> intro hG <;> (try cases hG)) | refine x_nop ?_ | refine x_bs ?_ | refine x_gr ?_ | refine x_st ?_ | refine x_mv ?_ | refine x_sk ?_ | refine x_sk0 ?_ | refine x_ix ?_ | refine x_ixs ?_ | refine x_sto ?_ | refine x_app ?_ | refine x_app0 ?_ | refine x_ld ?_ | refine x_cal ?_ | (refine awp_cond (by rfl) ?_ ?_ <;> intro hC <;> (try cases hC)))
  refine awp_ret ?_
  exact ret0 rfl (clV_c (clL_sl (rw := ⟨9, 1, 41, false, insNmC⟩) rfl rfl rfl (by rfl) clL_nil)) ⟨rfl, rfl⟩
theorem l17Names_c : Ctr Tryd.prog 39 [] [] (.c (.ow 9 41 1 insNmC)) [] := by
  refine ctr_of Tryd.func39 rfl rfl ?_
  repeat' (first | refine awp_seq ?_ | refine awp_block ?_ | refine awp_skip ?_ | refine awp_exit ?_ | refine awp_region0 fun C => ?_ | refine awp_region1 (by kernel_rfl) (by kernel_rfl) fun C => ?_ | refine walk_end ?_ | (refine x_gm ?_ ?_ <;> intro hG <;> (try cases hG)) | refine x_nop ?_ | refine x_bs ?_ | refine x_gr ?_ | refine x_st ?_ | refine x_mv ?_ | refine x_sk ?_ | refine x_sk0 ?_ | refine x_ix ?_ | refine x_ixs ?_ | refine x_sto ?_ | refine x_app ?_ | refine x_app0 ?_ | refine x_ld ?_ | refine x_cal ?_ | (refine awp_cond (by rfl) ?_ ?_ <;> intro hC <;> (try cases hC)))
  refine awp_ret ?_
  exact ret0 rfl (clV_c (clL_sl (rw := ⟨9, 1, 41, false, insNmC⟩) rfl rfl rfl (by rfl) clL_nil)) ⟨rfl, rfl⟩
def insOkS (x n : Int) : Bool :=
  if inR x 1 41 && inR n 0 10000 then (if x == 7 then decide (n ≤ 11) else if x == 13 then decide (n ≤ 1) else if x == 34 then inR n 1 5 else hasNum x || n == 0) else false
def insOkI (x n : Int) : Bool :=
  if !inR x 1 41 || !hasNum x then inR x 1 41 && n == 0 else if x == 7 then inR n 0 11 else if x == 13 then inR n 0 1 else if x == 34 then inR n 1 5 else inR n 0 10000
theorem hasNum_iff (x : Int) : hasNum x = true ↔ x = 2 ∨ x = 3 ∨ x = 4 ∨ x = 5 ∨ x = 6 ∨ x = 7 ∨ x = 13 ∨ x = 16 ∨ x = 17 ∨ x = 18 ∨ x = 19 ∨ x = 20 ∨ x = 21 ∨ x = 24 ∨ x = 25 ∨ x = 32 ∨ x = 34 ∨ x = 36 := by
  simp [hasNum]
theorem insOk_same (x n : Int) : insOkI x n = insOkS x n := by
  have hb : hasNum 7 = true ∧ hasNum 13 = true ∧ hasNum 34 = true := by decide
  unfold insOkI insOkS inR
  rw [Bool.eq_iff_iff]
  by_cases e1 : x = 7
  · subst e1; simp [hb.1]; omega
  by_cases e2 : x = 13
  · subst e2; simp [hb.2.1]; omega
  by_cases e3 : x = 34
  · subst e3; simp [hb.2.2]; omega
  cases hh : hasNum x
  · simp [e1, e2, e3]; omega
  · simp [e1, e2, e3]
    split <;> omega
set_option maxHeartbeats 1000000 in
theorem implInsOk_c (x n : Int) : Ctr Tryd.prog 20 [.ag [.v (.int .i64 x), .v (.int .i64 n)]] [] (.c (.v (.bool (insOkS x n)))) [] := by
  rw [← insOk_same]
  refine ctr_of Tryd.func20 rfl rfl ?_
  repeat' (first | refine awp_seq ?_ | refine awp_block ?_ | refine awp_skip ?_ | refine awp_exit ?_ | refine awp_region0 fun C => ?_ | refine awp_region1 (by kernel_rfl) (by kernel_rfl) fun C => ?_ | refine walk_end ?_ | (refine x_gm ?_ ?_ <;> intro hG <;> (try cases hG)) | refine x_nop ?_ | refine x_bs ?_ | refine x_gr ?_ | refine x_st ?_ | refine x_mv ?_ | refine x_sk ?_ | refine x_sk0 ?_ | refine x_ix ?_ | refine x_ixs ?_ | refine x_sto ?_ | refine x_app ?_ | refine x_app0 ?_ | refine x_ld ?_ | refine x_cak (hasNumber_c _) ?_ | refine x_cak (within_c _ _ _) ?_ | (refine awp_cond (by rfl) ?_ ?_ <;> intro hC <;> (try cases hC)))
  all_goals first
    | (exfalso; simp_all; done)
    | (refine awp_ret ?_
       refine ret0 rfl clV_v ⟨?_, rfl⟩
       refine congrArg (fun s => AV.c (AC.v (Value.bool s))) ?_
       simp_all [insOkI]; done)
set_option maxHeartbeats 1000000 in
theorem specInsOk_c (x n : Int) : Ctr Tryd.prog 19 [.ag [.v (.int .i64 x), .v (.int .i64 n)]] [] (.c (.v (.bool (insOkS x n)))) [] := by
  refine ctr_of Tryd.func19 rfl rfl ?_
  repeat' (first | refine awp_seq ?_ | refine awp_block ?_ | refine awp_skip ?_ | refine awp_exit ?_ | refine awp_region0 fun C => ?_ | refine awp_region1 (by kernel_rfl) (by kernel_rfl) fun C => ?_ | refine walk_end ?_ | (refine x_gm ?_ ?_ <;> intro hG <;> (try cases hG)) | refine x_nop ?_ | refine x_bs ?_ | refine x_gr ?_ | refine x_st ?_ | refine x_mv ?_ | refine x_sk ?_ | refine x_sk0 ?_ | refine x_ix ?_ | refine x_ixs ?_ | refine x_sto ?_ | refine x_app ?_ | refine x_app0 ?_ | refine x_ld ?_ | refine x_cak (l17Has_c _) ?_ | refine x_cak (l1In_c _ _ _) ?_ | (refine awp_cond (by rfl) ?_ ?_ <;> intro hC <;> (try cases hC)))
  all_goals first
    | (exfalso; simp_all; done)
    | (refine awp_ret ?_
       refine ret0 rfl clV_v ⟨?_, rfl⟩
       refine congrArg (fun s => AV.c (AC.v (Value.bool s))) ?_
       simp_all [insOkS]; done)
end Go.Proofs.YtkhioiehcaaejaaDoor
