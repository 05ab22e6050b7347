/- spec.LinesOf, impl.LinesOf: by the abstract machine. -/
import Derived.Test.YtkhioiehcaaejaaDoorT24
import Derived.Test.YtkhioiehcaaejaaDoorFamModule
namespace Go.Proofs.YtkhioiehcaaejaaDoor
open Go.RowKit
set_option maxRecDepth 100000
def insB (e : E) : List UInt8 := match e with | .agg [.int _ x, .int _ n] => (insTx x n).data.toList | _ => []
def linesL : List E → List UInt8
  | [] => []
  | e :: r => insB e ++ 10 :: linesL r
theorem linesL_app : ∀ a b : List E, linesL (a ++ b) = linesL a ++ linesL b
  | [], b => rfl
  | e :: r, b => by show insB e ++ 10 :: linesL (r ++ b) = (insB e ++ 10 :: linesL r) ++ linesL b; rw [linesL_app r b]; simp
theorem linesL_at {l : List E} {k : Nat} {x : E} (h : l[k]? = some x) : linesL (l.take (k + 1)) = linesL (l.take k) ++ (insB x ++ [10]) := by
  rw [List.take_add_one, h, linesL_app]; rfl
theorem numT_sz5 {n : Int} (h0 : 0 ≤ n) (h1 : n ≤ 10000) : (numT n).size ≤ 5 := by
  obtain ⟨k, rfl⟩ : ∃ k : Nat, n = (k : Int) := ⟨n.toNat, by omega⟩
  rw [numT_nat]
  show (Lib.decDigits k).toArray.size ≤ 5
  have key : ∀ (f k : Nat), k < 10 ^ (f + 1) → (Lib.decDigits k).length ≤ f + 1 := by
    intro f
    induction f with
    | zero => intro k hk; rw [dec_small (by simpa using hk)]; simp
    | succ f ih =>
      intro k hk
      by_cases h : k < 10
      · rw [dec_small h]; simp
      · rw [dec_big h, List.length_append]
        have := ih (k / 10) (by rw [Nat.pow_succ] at hk; omega)
        simp only [List.length_cons, List.length_nil]; omega
  rw [List.size_toArray]
  exact key 4 k (by omega)
theorem insTx_sz (x n : Int) : (insTx x n).size ≤ 12 := by
  cases hok : insOkS x n
  · rw [insTx_no hok]; decide
  · obtain ⟨j, rfl, hj, h0, h1⟩ := insOk_rng hok
    have hs := nm_size hj
    have ht := numT_sz5 h0 h1
    cases hh : hasNum ((j : Int) + 1)
    · rw [insTx_nm hok hh]; omega
    · rw [insTx_num hok hh]
      simp only [ByteArray.size_append']
      have : (ByteArray.mk #[32]).size = 1 := rfl
      omega
theorem insB_sz (e : E) : (insB e).length ≤ 12 := by
  unfold insB
  split
  · rename_i x _ n
    have h : (insTx x n).data.size ≤ 12 := insTx_sz x n
    rw [Array.length_toList]; exact h
  · exact Nat.zero_le _
theorem linesL_sz : ∀ l : List E, (linesL l).length ≤ 13 * l.length
  | [] => by simp [linesL]
  | e :: r => by
    have h1 := linesL_sz r
    have h2 := insB_sz e
    show (insB e ++ 10 :: linesL r).length ≤ 13 * (r.length + 1)
    simp only [List.length_append, List.length_cons]
    omega
theorem line_cat (a : List UInt8) (b : ByteArray) : (ByteArray.mk (a ++ (b.data.toList ++ [10])).toArray) = (ByteArray.mk a.toArray ++ b) ++ ⟨#[10]⟩ := by
  have e1 : b = ⟨b.data.toList.toArray⟩ := rfl
  rw [e1, show (ByteArray.mk #[10]) = ⟨[10].toArray⟩ from rfl, ByteArray.mk_append_mk, ByteArray.mk_append_mk, List.append_assoc]
def codeAt (l : List E) (j : Nat) : List E := match l[j]? with | some (.agg [_, .lst _ _ _ _ c]) => c | _ => []
def fnsE (e : E) : List E := match e with | .agg [_, _, _, _, .lst _ _ _ _ l] => l | _ => []
def linesE (e : E) (f : Int) : ByteArray := if 0 ≤ f ∧ f < ((fnsE e).length : Int) then ⟨(linesL (codeAt (fnsE e) f.toNat)).toArray⟩ else ByteArray.empty
theorem linesE_at {e : E} {f : Int} {l4 p : List E} (h : fnsE e = l4) (hf : 0 ≤ f ∧ f < (l4.length : Int)) (hc : codeAt l4 f.toNat = p) : linesE e f = ⟨(linesL p).toArray⟩ := by
  subst h hc; unfold linesE; exact if_pos hf
theorem linesE_no {e : E} {f : Int} {l4 : List E} (h : fnsE e = l4) (hf : ¬ (0 ≤ f ∧ f < (l4.length : Int))) : linesE e f = ByteArray.empty := by
  subst h; unfold linesE; exact if_neg hf
set_option maxHeartbeats 1000000 in
theorem specLinesOf_c {e : E} (he : e.Ty Tryd.prog 49) (f : Int) (hsz : e.sz ≤ 1048576) : Ctr Tryd.prog 22 [.ag (acE e), .c (.v (.int .i64 f))] [] (.c (.v (.string (linesE e f)))) [] := by
  obtain ⟨x0A, x0c, l0, x1A, x1c, l1, x2, x3, x4A, x4c, l4, rfl, ⟨a0, ka0⟩, ⟨a1, ka1⟩, -, -, ⟨a4, ka4⟩, -⟩ := shape_impl_Module he
  simp only [E.sz, E.szL] at hsz
  have hw : IntKind.i64.wrap ((l4.length : Int) - 1) = (l4.length : Int) - 1 := wrap_int (by omega) (by omega)
  refine ctr_of Tryd.func22 rfl rfl ?_
  repeat' (first | refine awp_seq ?_ | refine awp_block ?_ | refine awp_skip ?_ | refine awp_exit ?_ | refine awp_region0 fun C => ?_ | refine awp_region1 (by kernel_rfl) (by kernel_rfl) fun C => ?_ | refine walk_end ?_ | (refine x_gm ?_ ?_ <;> intro hG <;> (try cases hG)) | refine x_nop ?_ | refine x_cvs ?_ | refine x_cvr ?_ | refine x_bs ?_ | refine x_gr ?_ | refine x_st ?_ | refine x_mv ?_ | refine x_sk ?_ | refine x_sk0 ?_ | refine x_ix ?_ | refine x_ixs ?_ | refine x_sto ?_ | refine x_app ?_ | refine x_app (hnu := bytC_noUn _) ?_ | refine x_app0 ?_ | refine x_app0 (hnu := bytC_noUn _) ?_ | refine x_ld ?_ | refine x_cat ?_ | refine x_cak (l1In_c _ _ _) ?_ | (refine awp_cond (by rfl) ?_ ?_ <;> intro hC <;> (try cases hC)))
  · refine awp_ret ?_
    refine ret0 rfl clV_v ⟨?_, rfl⟩
    rw [hw] at hC
    rw [linesE_no (l4 := l4) rfl (by simp [inR] at hC; omega)]
    rfl
  rw [hw] at hC
  have hf : 0 ≤ f ∧ f < (l4.length : Int) := by simp [inR] at hC; omega
  obtain ⟨j, rfl⟩ : ∃ j : Nat, f = (j : Int) := ⟨f.toNat, by omega⟩
  have hj : j < l4.length := by omega
  obtain ⟨x, hx⟩ : ∃ x, l4[j]? = some x := ⟨_, List.getElem?_eq_getElem hj⟩
  obtain ⟨pp, pA, pc, p, rfl, -, ⟨hp, hkp⟩, -⟩ := shape_impl_MFn (a4 x (List.mem_of_getElem? hx))
  have sx := E.szL_mem (List.mem_of_getElem? hx)
  simp only [E.sz, E.szL] at sx
  have hres : linesE (.agg [.lst 3 149 x0A x0c l0, .lst 1 9 x1A x1c l1, .int .i64 x2, .int .i64 x3, .lst 2 117 x4A x4c l4]) (j : Int) = ⟨(linesL p).toArray⟩ := by
    refine linesE_at (l4 := l4) rfl hf ?_
    rw [Int.toNat_natCast]
    unfold codeAt
    rw [hx]
  rw [hres]
  clear hC hw hres
  refine awp_loopd (fun k : Nat => ⟨tmsF [(1, .c (.v (.int .i64 (j : Int)))), (2, .c (.pt 2 0)), (5, .c (.v (.string ⟨(linesL (p.take k)).toArray⟩))), (6, .c (.v (.int .i64 k)))], hpsF [(2, 2, ⟨49, 0, 0, true, [.ro l0.length 3 (acL l0), .ro l1.length 1 (acL l1), .v (.int .i64 x2), .v (.int .i64 x3), .ro l4.length 2 (acL l4)]⟩)], 0, [2], 39⟩)
    (fun N k => k + N = p.length) p.length 0 (by omega) ?_ ?_
  · (refine gh_tidy _ _ rfl rfl ?_ ?_ <;> (repeat' (first | exact TmOk.nil | exact RwOk.nil | refine TmOk.cons ?_ ?_ | refine RwOk.cons ?_ ?_ | rfl | (refine rnV_id' rfl ?_; (first | rfl | (simp [cloV, cloL, clo, acE_clo, acL_clo, owE_clo, owL_clo, cloL_app]; done))) | (refine rn_int ?_; first | rfl | omega | (rw [wrap_nat (by omega) (by omega)]; omega)) | (refine rw_same rfl ?_; (first | rfl | (simp [cloV, cloL, clo, acE_clo, acL_clo, owE_clo, owL_clo, cloL_app]; done))) | exact rw_rn rfl rfl | (refine rw_mid (by rfl) (by rfl) ?_ ?_ <;> (first | rfl | (simp [cloV, cloL, clo, acE_clo, acL_clo, owE_clo, owL_clo, cloL_app]; done))) | (refine rw_rn' rfl rfl ?_; simp; done))))
  rintro N k hN
  repeat (first | refine awp_seq ?_ | refine awp_block ?_ | refine awp_skip ?_ | refine awp_exit ?_ | refine awp_ret ?_ | refine awp_region0 fun C => ?_ | refine awp_region1 (by kernel_rfl) (by kernel_rfl) fun C => ?_ | refine walk_end ?_ | refine x_eqVal ?_ | refine x_neVal ?_ | refine x_eqIns ?_ | refine x_neIns ?_ | refine x_nop ?_ | refine x_bs ?_ | refine x_gr ?_ | refine x_st ?_ | refine x_mv ?_ | refine x_sk ?_ | refine x_sk0 ?_ | refine x_ix ?_ | refine x_ixs ?_ | refine x_sto ?_ | refine x_app ?_ | refine x_app0 ?_ | refine x_ld ?_)
  refine awp_cond (by rfl) (fun h1 => ?_) fun h1 => ?_
  · have hk' : k < p.length := by simpa using h1
    obtain ⟨y, hy⟩ : ∃ y, p[k]? = some y := ⟨_, List.getElem?_eq_getElem hk'⟩
    obtain ⟨y0, y1, rfl, -⟩ := shape_impl_Ins (hp y (List.mem_of_getElem? hy))
    have q1 := linesL_sz (p.take k)
    have q2 : (p.take k).length ≤ p.length := by rw [List.length_take]; omega
    have q3 : (ByteArray.mk (linesL (p.take k)).toArray).size ≤ 13 * (p.take k).length := by show (linesL (p.take k)).toArray.size ≤ _; rw [List.size_toArray]; exact q1
    have q4 := insTx_sz y0 y1
    have e : (ByteArray.mk (linesL (p.take (k + 1))).toArray) = (ByteArray.mk (linesL (p.take k)).toArray ++ insTx y0 y1) ++ ⟨#[10]⟩ := by
      rw [linesL_at hy]
      exact line_cat _ _
    repeat' (first | refine awp_seq ?_ | refine awp_block ?_ | refine awp_skip ?_ | refine awp_exit ?_ | refine awp_region0 fun C => ?_ | refine awp_region1 (by kernel_rfl) (by kernel_rfl) fun C => ?_ | refine walk_end ?_ | (refine x_gm ?_ ?_ <;> intro hG <;> (try cases hG)) | refine x_nop ?_ | refine x_cvs ?_ | refine x_cvr ?_ | refine x_bs ?_ | refine x_gr ?_ | refine x_st ?_ | refine x_mv ?_ | refine x_sk ?_ | refine x_sk0 ?_ | refine x_ix ?_ | refine x_ixs ?_ | refine x_sto ?_ | refine x_app ?_ | refine x_app (hnu := bytC_noUn _) ?_ | refine x_app0 ?_ | refine x_app0 (hnu := bytC_noUn _) ?_ | refine x_ld ?_ | refine x_cat ?_ | refine x_cak (specInsText_c _ _) ?_ | (refine awp_cond (by rfl) ?_ ?_ <;> intro hC <;> (try cases hC)))
    refine ⟨N - 1, k + 1, by omega, by omega, ?_⟩
    rw [e]
    (refine gh_tidy _ _ rfl rfl ?_ ?_ <;> (repeat' (first | exact TmOk.nil | exact RwOk.nil | refine TmOk.cons ?_ ?_ | refine RwOk.cons ?_ ?_ | rfl | (refine rnV_id' rfl ?_; (first | rfl | (simp [cloV, cloL, clo, acE_clo, acL_clo, owE_clo, owL_clo, cloL_app]; done))) | (refine rn_int ?_; first | rfl | omega | (rw [wrap_nat (by omega) (by omega)]; omega)) | (refine rw_same rfl ?_; (first | rfl | (simp [cloV, cloL, clo, acE_clo, acL_clo, owE_clo, owL_clo, cloL_app]; done))) | exact rw_rn rfl rfl | (refine rw_mid (by rfl) (by rfl) ?_ ?_ <;> (first | rfl | (simp [cloV, cloL, clo, acE_clo, acL_clo, owE_clo, owL_clo, cloL_app]; done))) | (refine rw_rn' rfl rfl ?_; simp; done))))
  · have hk' : ¬ k < p.length := by simpa using h1
    repeat' (first | refine awp_seq ?_ | refine awp_block ?_ | refine awp_skip ?_ | refine awp_exit ?_ | refine awp_region0 fun C => ?_ | refine awp_region1 (by kernel_rfl) (by kernel_rfl) fun C => ?_ | refine walk_end ?_ | (refine x_gm ?_ ?_ <;> intro hG <;> (try cases hG)) | refine x_nop ?_ | refine x_cvs ?_ | refine x_cvr ?_ | refine x_bs ?_ | refine x_gr ?_ | refine x_st ?_ | refine x_mv ?_ | refine x_sk ?_ | refine x_sk0 ?_ | refine x_ix ?_ | refine x_ixs ?_ | refine x_sto ?_ | refine x_app ?_ | refine x_app (hnu := bytC_noUn _) ?_ | refine x_app0 ?_ | refine x_app0 (hnu := bytC_noUn _) ?_ | refine x_ld ?_ | refine x_cat ?_ | refine x_cal ?_ | (refine awp_cond (by rfl) ?_ ?_ <;> intro hC <;> (try cases hC)))
    refine awp_ret ?_
    refine ret0 rfl clV_v ⟨?_, rfl⟩
    rw [List.take_of_length_le (by omega)]
theorem bytC_clo : ∀ bs : List UInt8, cloL (bytC bs) = true
  | [] => rfl
  | b :: r => by
    have := bytC_clo r
    unfold bytC at this ⊢
    simp only [List.map_cons, cloL, clo, this, Bool.and_self]
set_option maxHeartbeats 1000000 in
theorem implLinesOf_c {e : E} (he : e.Ty Tryd.prog 49) (f : Int) (hsz : e.sz ≤ 1048576) : Ctr Tryd.prog 24 [.ag (acE e), .c (.v (.int .i64 f))] [] (.c (.v (.string (linesE e f)))) [] := by
  obtain ⟨x0A, x0c, l0, x1A, x1c, l1, x2, x3, x4A, x4c, l4, rfl, ⟨a0, ka0⟩, ⟨a1, ka1⟩, -, -, ⟨a4, ka4⟩, -⟩ := shape_impl_Module he
  simp only [E.sz, E.szL] at hsz
  have hw : IntKind.i64.wrap ((l4.length : Int) - 1) = (l4.length : Int) - 1 := wrap_int (by omega) (by omega)
  refine ctr_of Tryd.func24 rfl rfl ?_
  repeat' (first | refine awp_seq ?_ | refine awp_block ?_ | refine awp_skip ?_ | refine awp_exit ?_ | refine awp_region0 fun C => ?_ | refine awp_region1 (by kernel_rfl) (by kernel_rfl) fun C => ?_ | refine walk_end ?_ | (refine x_gm ?_ ?_ <;> intro hG <;> (try cases hG)) | refine x_nop ?_ | refine x_cvs ?_ | refine x_cvr ?_ | refine x_bs ?_ | refine x_gr ?_ | refine x_st ?_ | refine x_mv ?_ | refine x_sk ?_ | refine x_sk0 ?_ | refine x_ix ?_ | refine x_ixs ?_ | refine x_sto ?_ | refine x_app ?_ | refine x_app (hnu := bytC_noUn _) ?_ | refine x_app0 ?_ | refine x_app0 (hnu := bytC_noUn _) ?_ | refine x_ld ?_ | refine x_cat ?_ | refine x_cak (within_c _ _ _) ?_ | (refine awp_cond (by rfl) ?_ ?_ <;> intro hC <;> (try cases hC)))
  · refine awp_ret ?_
    refine ret0 rfl clV_v ⟨?_, rfl⟩
    rw [hw] at hC
    rw [linesE_no (l4 := l4) rfl (by simp [inR] at hC; omega)]
    rfl
  rw [hw] at hC
  have hf : 0 ≤ f ∧ f < (l4.length : Int) := by simp [inR] at hC; omega
  obtain ⟨j, rfl⟩ : ∃ j : Nat, f = (j : Int) := ⟨f.toNat, by omega⟩
  have hj : j < l4.length := by omega
  obtain ⟨x, hx⟩ : ∃ x, l4[j]? = some x := ⟨_, List.getElem?_eq_getElem hj⟩
  obtain ⟨pp, pA, pc, p, rfl, -, ⟨hp, hkp⟩, -⟩ := shape_impl_MFn (a4 x (List.mem_of_getElem? hx))
  have sx := E.szL_mem (List.mem_of_getElem? hx)
  simp only [E.sz, E.szL] at sx
  have hres : linesE (.agg [.lst 3 149 x0A x0c l0, .lst 1 9 x1A x1c l1, .int .i64 x2, .int .i64 x3, .lst 2 117 x4A x4c l4]) (j : Int) = ⟨(linesL p).toArray⟩ := by
    refine linesE_at (l4 := l4) rfl hf ?_
    rw [Int.toNat_natCast]
    unfold codeAt
    rw [hx]
  rw [hres]
  clear hC hw hres
  repeat (first | refine awp_seq ?_ | refine awp_block ?_ | refine awp_skip ?_ | refine awp_exit ?_ | refine awp_ret ?_ | refine awp_region0 fun C => ?_ | refine awp_region1 (by kernel_rfl) (by kernel_rfl) fun C => ?_ | refine walk_end ?_ | refine x_eqVal ?_ | refine x_neVal ?_ | refine x_eqIns ?_ | refine x_neIns ?_ | refine x_nop ?_ | refine x_bs ?_ | refine x_gr ?_ | refine x_st ?_ | refine x_mv ?_ | refine x_sk ?_ | refine x_sk0 ?_ | refine x_ix ?_ | refine x_ixs ?_ | refine x_sto ?_ | refine x_app ?_ | refine x_app0 ?_ | refine x_ld ?_)
  refine awp_loopd (fun k : Nat => ⟨tmsF [(5, .c (.sl 8 (linesL (p.take k)).length)), (20, .c (.ro p.length 2 (acL p))), (21, .c (.v (.int .i64 p.length))), (22, .c (.v (.int .i64 k)))], hpsF [(8, 8, ⟨5, 1, (linesL (p.take k)).length, false, bytC (linesL (p.take k))⟩)], 0, [8], 34⟩)
    (fun N k => k + N = p.length) p.length 0 (by omega) ?_ ?_
  · refine (g_nilT 8 (t := 5) 5 1 rfl rfl).trans ?_
    (refine gh_tidy _ _ rfl rfl ?_ ?_ <;> (repeat' (first | exact TmOk.nil | exact RwOk.nil | refine TmOk.cons ?_ ?_ | refine RwOk.cons ?_ ?_ | rfl | (refine rnV_id' rfl ?_; (first | rfl | (simp [cloV, cloL, clo, acE_clo, acL_clo, owE_clo, owL_clo, cloL_app]; done))) | (refine rn_int ?_; first | rfl | omega | (rw [wrap_nat (by omega) (by omega)]; omega)) | (refine rw_same rfl ?_; (first | rfl | (simp [cloV, cloL, clo, acE_clo, acL_clo, owE_clo, owL_clo, cloL_app]; done))) | exact rw_rn rfl rfl | (refine rw_mid (by rfl) (by rfl) ?_ ?_ <;> (first | rfl | (simp [cloV, cloL, clo, acE_clo, acL_clo, owE_clo, owL_clo, cloL_app]; done))) | (refine rw_rn' rfl rfl ?_; simp; done))))
  rintro N k hN
  repeat (first | refine awp_seq ?_ | refine awp_block ?_ | refine awp_skip ?_ | refine awp_exit ?_ | refine awp_ret ?_ | refine awp_region0 fun C => ?_ | refine awp_region1 (by kernel_rfl) (by kernel_rfl) fun C => ?_ | refine walk_end ?_ | refine x_eqVal ?_ | refine x_neVal ?_ | refine x_eqIns ?_ | refine x_neIns ?_ | refine x_nop ?_ | refine x_bs ?_ | refine x_gr ?_ | refine x_st ?_ | refine x_mv ?_ | refine x_sk ?_ | refine x_sk0 ?_ | refine x_ix ?_ | refine x_ixs ?_ | refine x_sto ?_ | refine x_app ?_ | refine x_app0 ?_ | refine x_ld ?_)
  refine awp_cond (by rfl) (fun h1 => ?_) fun h1 => ?_
  · have hk' : k < p.length := by simpa using h1
    obtain ⟨y, hy⟩ : ∃ y, p[k]? = some y := ⟨_, List.getElem?_eq_getElem hk'⟩
    obtain ⟨y0, y1, rfl, -⟩ := shape_impl_Ins (hp y (List.mem_of_getElem? hy))
    have q1 := linesL_sz (p.take k)
    have q2 : (p.take k).length ≤ p.length := by rw [List.length_take]; omega
    have q4 := insTx_sz y0 y1
    have q5 : (insTx y0 y1 ++ ⟨#[10]⟩).size ≤ 13 := by
      rw [ByteArray.size_append', show (ByteArray.mk #[10]).size = 1 from rfl]; omega
    have e2 : linesL (p.take (k + 1)) = linesL (p.take k) ++ (insTx y0 y1 ++ ⟨#[10]⟩).data.toList := by
      rw [linesL_at hy]
      congr 1
    have e3 : (linesL (p.take (k + 1))).length = (linesL (p.take k)).length + (insTx y0 y1 ++ ⟨#[10]⟩).size := by
      rw [e2, List.length_append, Array.length_toList]; rfl
    have e4 : bytC (linesL (p.take (k + 1))) = bytC (linesL (p.take k)) ++ (insTx y0 y1 ++ ⟨#[10]⟩).data.toList.map fun b => .v (.int .u8 b.toNat) := by
      rw [e2]; exact List.map_append
    repeat' (first | refine awp_seq ?_ | refine awp_block ?_ | refine awp_skip ?_ | refine awp_exit ?_ | refine awp_region0 fun C => ?_ | refine awp_region1 (by kernel_rfl) (by kernel_rfl) fun C => ?_ | refine walk_end ?_ | (refine x_gm ?_ ?_ <;> intro hG <;> (try cases hG)) | refine x_nop ?_ | refine x_cvs ?_ | refine x_cvr ?_ | refine x_bs ?_ | refine x_gr ?_ | refine x_st ?_ | refine x_mv ?_ | refine x_sk ?_ | refine x_sk0 ?_ | refine x_ix ?_ | refine x_ixs ?_ | refine x_sto ?_ | refine x_app ?_ | refine x_app (hnu := bytC_noUn _) ?_ | refine x_app0 ?_ | refine x_app0 (hnu := bytC_noUn _) ?_ | refine x_ld ?_ | refine x_cat ?_ | refine x_cak (implInsText_c _ _) ?_ | (refine awp_cond (by rfl) ?_ ?_ <;> intro hC <;> (try cases hC)))
    refine ⟨N - 1, k + 1, by omega, by omega, ?_⟩
    rw [e3]
    (refine gh_ren (fun j => if j = 8 then 30 else j) _ _ rfl rfl ?_ ?_ <;> (repeat' (first | exact TmOk.nil | exact RwOk.nil | refine TmOk.cons ?_ ?_ | refine RwOk.cons ?_ ?_ | rfl | (refine rnV_id' rfl ?_; (first | rfl | (simp [cloV, cloL, clo, acE_clo, acL_clo, owE_clo, owL_clo, cloL_app]; done))) | (refine rn_int ?_; first | rfl | omega | (rw [wrap_nat (by omega) (by omega)]; omega)) | (refine rw_same rfl ?_; (first | rfl | (simp [cloV, cloL, clo, acE_clo, acL_clo, owE_clo, owL_clo, cloL_app]; done))) | exact rw_rn rfl rfl | (refine rw_mid (by rfl) (by rfl) ?_ ?_ <;> (first | rfl | (simp [cloV, cloL, clo, acE_clo, acL_clo, owE_clo, owL_clo, cloL_app]; done))) | (refine rw_rn' rfl rfl ?_; simp; done))))
    exact rw_to rfl (by rw [e4]; rfl) (bytC_clo _)
  · have hk' : ¬ k < p.length := by simpa using h1
    repeat' (first | refine awp_seq ?_ | refine awp_block ?_ | refine awp_skip ?_ | refine awp_exit ?_ | refine awp_region0 fun C => ?_ | refine awp_region1 (by kernel_rfl) (by kernel_rfl) fun C => ?_ | refine walk_end ?_ | (refine x_gm ?_ ?_ <;> intro hG <;> (try cases hG)) | refine x_nop ?_ | refine x_cvs ?_ | refine x_cvr ?_ | refine x_bs ?_ | refine x_gr ?_ | refine x_st ?_ | refine x_mv ?_ | refine x_sk ?_ | refine x_sk0 ?_ | refine x_ix ?_ | refine x_ixs ?_ | refine x_sto ?_ | refine x_app ?_ | refine x_app (hnu := bytC_noUn _) ?_ | refine x_app0 ?_ | refine x_app0 (hnu := bytC_noUn _) ?_ | refine x_ld ?_ | refine x_cat ?_ | refine x_cal ?_ | (refine awp_cond (by rfl) ?_ ?_ <;> intro hC <;> (try cases hC)))
    refine awp_ret ?_
    refine ret0 rfl clV_v ⟨?_, rfl⟩
    rw [List.take_of_length_le (by omega)]
end Go.Proofs.YtkhioiehcaaejaaDoor
