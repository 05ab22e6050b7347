/- spec.Outcome, impl.outcome, impl.Outcome: by the abstract machine. -/
import Derived.Test.YtkhioiehcaaejaaDoorT22
import Derived.Test.YtkhioiehcaaejaaDoorFamSt
namespace Go.Proofs.YtkhioiehcaaejaaDoor
open Go.RowKit
set_option maxRecDepth 100000
def exT : ByteArray := ⟨#[101,120,105,116,32]⟩
def faT : ByteArray := ⟨#[102,97,117,108,116,32]⟩
def outT (b : List UInt8) (st ft ex : Int) : ByteArray :=
  if st = 2 then ByteArray.mk b.toArray ++ exT ++ numT ex ++ ⟨#[10]⟩ else if st = 3 then ByteArray.mk b.toArray ++ faT ++ numT ft ++ ⟨#[10]⟩ else ⟨b.toArray⟩
def outE (e : E) : ByteArray := match e with | .agg [_, _, _, .lst _ _ _ _ l, _, _, .int _ st, .int _ ft, .int _ ex] => outT (bytE l) st ft ex | _ => ByteArray.empty
theorem bytE_len (l : List E) : (bytE l).length = l.length := List.length_map _
set_option maxHeartbeats 1000000 in
theorem specOutcome_c {e : E} (he : e.Ty Tryd.prog 69) (hsz : e.sz ≤ 1048576) : Ctr Tryd.prog 27 [.ag (acE e)] [] (.c (.v (.string (outE e)))) [] := by
  obtain ⟨x0A, x0c, l0, x1A, x1c, l1, s2, x3A, x3c, l3, x4, x5A, x5c, l5, x6, x7, x8, x9, x10, rfl, -, -, -, -, -, ⟨a5, ka5⟩, g6, g7, g8, g9, g10, -⟩ := shape_impl_St he
  simp only [E.sz, E.szL] at hsz
  have hl : ∀ e ∈ l5, ∃ z, e = .int .u8 z := fun e he => by
    obtain ⟨z, rfl, _⟩ := (a5 e he).int_ Tryd.underlying5
    exact ⟨z, rfl⟩
  have b9 := i64_bounds g9
  have b10 := i64_bounds g10
  have z1 := numT_sz (n := x9) (by omega) (by omega)
  have z2 := numT_sz (n := x10) (by omega) (by omega)
  have z3 := bytE_len l5
  have z4 : (ByteArray.mk (bytE l5).toArray).size = l5.length := by show (bytE l5).toArray.size = _; rw [List.size_toArray]; exact z3
  have c1 := l2Num_n x9.natAbs x9 (by omega) (by omega) (by omega)
  have c2 := l2Num_n x10.natAbs x10 (by omega) (by omega) (by omega)
  rw [show outE _ = outT (bytE l5) x8 x9 x10 from rfl]
  refine ctr_of Tryd.func27 rfl rfl ?_
  repeat' (first | refine awp_seq ?_ | refine awp_block ?_ | refine awp_skip ?_ | refine awp_exit ?_ | refine awp_region0 fun C => ?_ | refine awp_region1 (by kernel_rfl) (by kernel_rfl) fun C => ?_ | refine walk_end ?_ | (refine x_gm ?_ ?_ <;> intro hG <;> (try cases hG)) | refine x_nop ?_ | refine x_cvs ?_ | refine x_cvr ?_ | refine x_bs ?_ | refine x_gr ?_ | refine x_st ?_ | refine x_mv ?_ | refine x_sk ?_ | refine x_sk0 ?_ | refine x_ix ?_ | refine x_ixs ?_ | refine x_sto ?_ | refine x_app ?_ | refine x_app (hnu := bytC_noUn _) ?_ | refine x_app0 ?_ | refine x_app0 (hnu := bytC_noUn _) ?_ | refine x_ld ?_ | refine x_cat ?_ | refine x_cak c1 ?_ | refine x_cak c2 ?_ | (refine awp_cond (by rfl) ?_ ?_ <;> intro hC <;> (try cases hC)))
  all_goals first
    | (exfalso; simp_all; done)
    | (refine awp_ret ?_
       refine ret0 rfl clV_v ⟨?_, rfl⟩
       refine congrArg (fun s => AV.c (AC.v (Value.string s))) ?_
       simp at *
       simp [outT, exT, faT, *]; done)
set_option maxHeartbeats 1000000 in
theorem outcome_c {n : Nat} {l : List E} (hn : n = l.length) (hl : ∀ e ∈ l, ∃ z, e = .int .u8 z) (st ft ex : Int) (h1 : -9223372036854775808 ≤ ft ∧ ft ≤ 9223372036854775807) (h2 : -9223372036854775808 ≤ ex ∧ ex ≤ 9223372036854775807) (hsz : l.length ≤ 1048576) : Ctr Tryd.prog 72 [.c (.ro n 1 (acL l)), .c (.v (.int .i64 st)), .c (.v (.int .i64 ft)), .c (.v (.int .i64 ex))] [] (.c (.v (.string (outT (bytE l) st ft ex)))) [] := by
  have z1 := numT_sz (n := ft) (by omega) (by omega)
  have z2 := numT_sz (n := ex) (by omega) (by omega)
  have z3 := bytE_len l
  have z4 : (ByteArray.mk (bytE l).toArray).size = l.length := by show (bytE l).toArray.size = _; rw [List.size_toArray]; exact z3
  have c1 := digits_c (n := ft) (by omega) (by omega)
  have c2 := digits_c (n := ex) (by omega) (by omega)
  refine ctr_of Tryd.func72 rfl rfl ?_
  repeat' (first | refine awp_seq ?_ | refine awp_block ?_ | refine awp_skip ?_ | refine awp_exit ?_ | refine awp_region0 fun C => ?_ | refine awp_region1 (by kernel_rfl) (by kernel_rfl) fun C => ?_ | refine walk_end ?_ | (refine x_gm ?_ ?_ <;> intro hG <;> (try cases hG)) | refine x_nop ?_ | refine x_cvs ?_ | refine x_cvr ?_ | refine x_bs ?_ | refine x_gr ?_ | refine x_st ?_ | refine x_mv ?_ | refine x_sk ?_ | refine x_sk0 ?_ | refine x_ix ?_ | refine x_ixs ?_ | refine x_sto ?_ | refine x_app ?_ | refine x_app (hnu := bytC_noUn _) ?_ | refine x_app0 ?_ | refine x_app0 (hnu := bytC_noUn _) ?_ | refine x_ld ?_ | refine x_cat ?_ | refine x_cak c1 ?_ | refine x_cak c2 ?_ | (refine awp_cond (by rfl) ?_ ?_ <;> intro hC <;> (try cases hC)))
  all_goals first
    | (exfalso; simp_all; done)
    | (refine awp_ret ?_
       refine ret0 rfl clV_v ⟨?_, rfl⟩
       refine congrArg (fun s => AV.c (AC.v (Value.string s))) ?_
       simp at *
       simp [outT, exT, faT, *]; done)
theorem implOutcome_c {e : E} (he : e.Ty Tryd.prog 69) (hsz : e.sz ≤ 1048576) : Ctr Tryd.prog 29 [.ag (acE e)] [] (.c (.v (.string (outE e)))) [] := by
  obtain ⟨x0A, x0c, l0, x1A, x1c, l1, s2, x3A, x3c, l3, x4, x5A, x5c, l5, x6, x7, x8, x9, x10, rfl, -, -, -, -, -, ⟨a5, ka5⟩, g6, g7, g8, g9, g10, -⟩ := shape_impl_St he
  simp only [E.sz, E.szL] at hsz
  have hl : ∀ e ∈ l5, ∃ z, e = .int .u8 z := fun e he => by
    obtain ⟨z, rfl, _⟩ := (a5 e he).int_ Tryd.underlying5
    exact ⟨z, rfl⟩
  have c1 := outcome_c (n := l5.length) rfl hl x8 x9 x10 (i64_bounds g9) (i64_bounds g10) (by omega)
  rw [show outE _ = outT (bytE l5) x8 x9 x10 from rfl]
  refine ctr_of Tryd.func29 rfl rfl ?_
  repeat' (first | refine awp_seq ?_ | refine awp_block ?_ | refine awp_skip ?_ | refine awp_exit ?_ | refine awp_region0 fun C => ?_ | refine awp_region1 (by kernel_rfl) (by kernel_rfl) fun C => ?_ | refine walk_end ?_ | (refine x_gm ?_ ?_ <;> intro hG <;> (try cases hG)) | refine x_nop ?_ | refine x_cvs ?_ | refine x_cvr ?_ | refine x_bs ?_ | refine x_gr ?_ | refine x_st ?_ | refine x_mv ?_ | refine x_sk ?_ | refine x_sk0 ?_ | refine x_ix ?_ | refine x_ixs ?_ | refine x_sto ?_ | refine x_app ?_ | refine x_app (hnu := bytC_noUn _) ?_ | refine x_app0 ?_ | refine x_app0 (hnu := bytC_noUn _) ?_ | refine x_ld ?_ | refine x_cat ?_ | refine x_cak c1 ?_ | (refine awp_cond (by rfl) ?_ ?_ <;> intro hC <;> (try cases hC)))
  refine awp_ret ?_
  exact ret0 rfl clV_v ⟨rfl, rfl⟩
end Go.Proofs.YtkhioiehcaaejaaDoor
