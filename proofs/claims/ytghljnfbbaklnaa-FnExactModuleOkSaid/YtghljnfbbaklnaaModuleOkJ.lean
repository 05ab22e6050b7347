/- The program's RexOk: by the abstract machine. -/
import Derived.Test.YtghljnfbbaklnaaModuleOkI
namespace Go.Proofs.Ytghljnfbbaklnaa
open Go.RowKit
set_option maxRecDepth 100000
theorem idxLit : ∀ c : Fin 256, decide (0 ≤ Lib.indexByte [32, 95, 45, 44, 58] (UInt8.ofNat c.1)) = (c.1 == 32 || c.1 == 95 || c.1 == 45 || c.1 == 44 || c.1 == 58) := by decide
theorem zl10 {c : Nat} (hc : c < 256) : Ctr Try.prog 144 [.c (.v (.int .u8 (c : Int)))] [] (.c (.v (.bool (litB c)))) [] := by
  have h1 := zk10 ⟨#[32, 95, 45, 44, 58]⟩ hc
  have h2 := zu20 c
  have h3 : decide (0 ≤ Lib.indexByte (ByteArray.mk #[32, 95, 45, 44, 58]).data.toList (UInt8.ofNat c)) = (c == 32 || c == 95 || c == 45 || c == 44 || c == 58) := idxLit ⟨c, hc⟩
  refine zm2 Try.func144 rfl rfl ?_
  repeat' (first | refine zn ?_ | refine ze ?_ | refine zh ?_ | refine zi ?_ | refine zb fun C => ?_ | refine zp (by kernel_rfl) (by kernel_rfl) fun C => ?_ | refine zc ?_ | (refine x_gm ?_ ?_ <;> intro hG <;> (try cases hG)) | refine zt13 ?_ | refine zu13 ?_ | refine zv13 ?_ | refine zw13 ?_ | refine zd10 ?_ | refine zr3 ?_ | refine zx8 ?_ | refine zq13 ?_ | refine zr13 ?_ | refine x_bs ?_ | refine x_gr ?_ | refine x_st ?_ | refine x_mv ?_ | refine x_sk ?_ | refine ze4 ?_ | refine x_ix ?_ | refine zf4 ?_ | refine zg4 ?_ | refine zu3 ?_ | refine zu3 (hnu := zl _) ?_ | refine zv2 ?_ | refine zv2 (hnu := zl _) ?_ | refine x_ld ?_ | refine zp13 ?_ | refine zu6 h1 ?_ | refine zu6 h2 ?_ | (refine zt3 (by rfl) ?_ ?_ <;> intro hC <;> (try cases hC)))
  all_goals
    (first | refine zu ?_ | skip); refine ret0 rfl zn2 ⟨?_, rfl⟩; refine congrArg (fun s => AV.c (AC.v (Value.bool s))) ?_
    clear h1 h2
    have h3' := congrArg (· = true) h3
    simp only [decide_eq_true_iff, eq_iff_iff] at h3'
    clear h3
    unfold litB
    simp only [digB, ge_iff_le, Bool.or_eq_true, Bool.and_eq_true, decide_eq_true_iff, beq_iff_eq, Bool.and_eq_false_iff, decide_eq_false_iff_not] at *
    (rw [Bool.eq_iff_iff]; (try simp only [Bool.and_eq_true, Bool.or_eq_true, Bool.not_eq_true', decide_eq_true_iff, decide_eq_false_iff_not, beq_iff_eq, Bool.and_eq_false_iff, Bool.or_eq_false_iff, bne_iff_ne, ne_eq, Bool.true_eq_false, Bool.false_eq_true, true_iff, false_iff, iff_true, iff_false] at *); first | omega | (simp at *; omega))
theorem zd14 {s : ByteArray} (h : ∀ j, j < s.size → setAtB s j = true) : setOkB s = (decide (1 ≤ s.size) && decide (s.size ≤ 10)) := by
  unfold setOkB
  rw [show (List.range s.size).all (setAtB s) = true from List.all_eq_true.2 fun j hj => h j (List.mem_range.1 hj), Bool.true_and]
theorem zo9 {s : ByteArray} {j : Nat} (h : j < s.size) (h2 : setAtB s j = false) : setOkB s = false := by
  unfold setOkB
  rw [show (List.range s.size).all (setAtB s) = false from List.all_eq_false.2 ⟨j, List.mem_range.2 h, by simp [h2]⟩, Bool.false_and]
theorem setOk_c {s : ByteArray} (hs : s.size ≤ 1073741824) : Ctr Try.prog 145 [.c (.v (.string s))] [] (.c (.v (.bool (setOkB s)))) [] := by
  refine zm2 Try.func145 rfl rfl ?_
  repeat' (first | refine zn ?_ | refine ze ?_ | refine zh ?_ | refine zi ?_ | refine zb fun C => ?_ | refine zp (by kernel_rfl) (by kernel_rfl) fun C => ?_ | refine zc ?_ | (refine x_gm ?_ ?_ <;> intro hG <;> (try cases hG)) | refine zt13 ?_ | refine zu13 ?_ | refine zv13 ?_ | refine zw13 ?_ | refine zd10 ?_ | refine zr3 ?_ | refine zx8 ?_ | refine zq13 ?_ | refine zr13 ?_ | refine x_bs ?_ | refine x_gr ?_ | refine x_st ?_ | refine x_mv ?_ | refine x_sk ?_ | refine ze4 ?_ | refine x_ix ?_ | refine zf4 ?_ | refine zg4 ?_ | refine zu3 ?_ | refine zu3 (hnu := zl _) ?_ | refine zv2 ?_ | refine zv2 (hnu := zl _) ?_ | refine x_ld ?_ | refine zp13 ?_ | refine zf15 ?_)
  refine zp3 (fun k : Nat => ⟨tmsF [(0, .c (.v (.string s))), (3, .c (.v (.int .i64 k)))], hpsF [], 0, [], 32⟩) (fun N k => k + N = s.size ∧ ∀ j, j < k → setAtB s j = true) s.size 0 ⟨by omega, fun j hj => by omega⟩ ?_ ?_
  · (refine zo2 _ _ rfl rfl ?_ ?_ <;> (repeat' (first | exact TmOk.nil | exact RwOk.nil | refine TmOk.cons ?_ ?_ | refine RwOk.cons ?_ ?_ | rfl | (refine rnV_id' rfl ?_; (first | rfl | (simp [cloV, cloL, clo, zj, zf, zk, zg, zd]; done))) | (refine zd3 ?_; first | rfl | omega | (rw [zb2 (by omega) (by omega)]; omega)) | (refine zi2 rfl ?_; (first | rfl | (simp [cloV, cloL, clo, zj, zf, zk, zg, zd]; done))) | exact zj4 rfl rfl | (refine ze3 (by rfl) (by rfl) ?_ ?_ <;> (first | rfl | (simp [cloV, cloL, clo, zj, zf, zk, zg, zd]; done))) | (refine rw_rn' rfl rfl ?_; simp; done))))
  rintro N k ⟨hN, hall⟩
  repeat' (first | refine zn ?_ | refine ze ?_ | refine zh ?_ | refine zi ?_ | refine zb fun C => ?_ | refine zp (by kernel_rfl) (by kernel_rfl) fun C => ?_ | refine zc ?_ | (refine x_gm ?_ ?_ <;> intro hG <;> (try cases hG)) | refine zt13 ?_ | refine zu13 ?_ | refine zv13 ?_ | refine zw13 ?_ | refine zd10 ?_ | refine zr3 ?_ | refine zx8 ?_ | refine zq13 ?_ | refine zr13 ?_ | refine x_bs ?_ | refine x_gr ?_ | refine x_st ?_ | refine x_mv ?_ | refine x_sk ?_ | refine ze4 ?_ | refine x_ix ?_ | refine zf4 ?_ | refine zg4 ?_ | refine zu3 ?_ | refine zu3 (hnu := zl _) ?_ | refine zv2 ?_ | refine zv2 (hnu := zl _) ?_ | refine x_ld ?_ | refine zp13 ?_ | refine zf15 ?_)
  refine zt3 (by rfl) (fun h1 => ?_) fun h1 => ?_
  · have hk : k < s.size := by simpa using h1
    have hl := zl10 (zn7 s k)
    have fin : ∀ b, setAtB s k = b → True := fun _ _ => trivial
    cases k with
    | zero =>
      repeat' (first | refine zn ?_ | refine ze ?_ | refine zh ?_ | refine zi ?_ | refine zb fun C => ?_ | refine zp (by kernel_rfl) (by kernel_rfl) fun C => ?_ | refine zc ?_ | (refine x_gm ?_ ?_ <;> intro hG <;> (try cases hG)) | refine zt13 ?_ | refine zu13 ?_ | refine zv13 ?_ | refine zw13 ?_ | refine zd10 ?_ | refine zr3 ?_ | refine zx8 ?_ | refine zq13 ?_ | refine zr13 ?_ | refine x_bs ?_ | refine x_gr ?_ | refine x_st ?_ | refine x_mv ?_ | refine x_sk ?_ | refine ze4 ?_ | refine x_ix ?_ | refine zf4 ?_ | refine zg4 ?_ | refine zu3 ?_ | refine zu3 (hnu := zl _) ?_ | refine zv2 ?_ | refine zv2 (hnu := zl _) ?_ | refine x_ld ?_ | refine zp13 ?_ | refine zu6 hl ?_ | (refine zt3 (by rfl) ?_ ?_ <;> intro hC <;> (try cases hC)))
      all_goals first
        | (exfalso; revert hG; simp; done)
        | (refine zu ?_
           refine ret0 (x := .c (.v (.bool false))) rfl zn2 ⟨?_, rfl⟩
           rw [zo9 hk (by unfold setAtB; simp_all)])
        | (refine ⟨N - 1, 1, by omega, ⟨by omega, fun j hj => ?_⟩, ?_⟩
           · obtain rfl : j = 0 := by omega
             unfold setAtB; simp_all
           · (refine zo2 _ _ rfl rfl ?_ ?_ <;> (repeat' (first | exact TmOk.nil | exact RwOk.nil | refine TmOk.cons ?_ ?_ | refine RwOk.cons ?_ ?_ | rfl | (refine rnV_id' rfl ?_; (first | rfl | (simp [cloV, cloL, clo, zj, zf, zk, zg, zd]; done))) | (refine zd3 ?_; first | rfl | omega | (rw [zb2 (by omega) (by omega)]; omega)) | (refine zi2 rfl ?_; (first | rfl | (simp [cloV, cloL, clo, zj, zf, zk, zg, zd]; done))) | exact zj4 rfl rfl | (refine ze3 (by rfl) (by rfl) ?_ ?_ <;> (first | rfl | (simp [cloV, cloL, clo, zj, zf, zk, zg, zd]; done))) | (refine rw_rn' rfl rfl ?_; simp; done)))))
    | succ m =>
      have hm : ((m + 1 : Nat) : Int) - 1 = (m : Int) := by omega
      repeat' (first | refine zn ?_ | refine ze ?_ | refine zh ?_ | refine zi ?_ | refine zb fun C => ?_ | refine zp (by kernel_rfl) (by kernel_rfl) fun C => ?_ | refine zc ?_ | (refine x_gm ?_ ?_ <;> intro hG <;> (try cases hG)) | refine zt13 ?_ | refine zu13 ?_ | refine zv13 ?_ | refine zw13 ?_ | refine zd10 ?_ | refine zr3 ?_ | refine zx8 ?_ | refine zq13 ?_ | refine zr13 ?_ | refine x_bs ?_ | refine x_gr ?_ | refine x_st ?_ | refine x_mv ?_ | refine x_sk ?_ | refine ze4 ?_ | refine x_ix ?_ | refine zf4 ?_ | refine zg4 ?_ | refine zu3 ?_ | refine zu3 (hnu := zl _) ?_ | refine zv2 ?_ | refine zv2 (hnu := zl _) ?_ | refine x_ld ?_ | refine zp13 ?_ | refine zu6 hl ?_ | (refine zt3 (by rfl) ?_ ?_ <;> intro hC <;> (try cases hC)))
      all_goals first
        | (refine zu ?_
           refine ret0 (x := .c (.v (.bool false))) rfl zn2 ⟨?_, rfl⟩
           rw [zo9 hk (by unfold setAtB; simp_all; try omega)])
        | (refine ⟨N - 1, m + 2, by omega, ⟨by omega, fun j hj => ?_⟩, ?_⟩
           · rcases Nat.lt_or_ge j (m + 1) with h | h
             · exact hall j h
             · obtain rfl : j = m + 1 := by omega
               unfold setAtB; simp_all; try omega
           · (refine zo2 _ _ rfl rfl ?_ ?_ <;> (repeat' (first | exact TmOk.nil | exact RwOk.nil | refine TmOk.cons ?_ ?_ | refine RwOk.cons ?_ ?_ | rfl | (refine rnV_id' rfl ?_; (first | rfl | (simp [cloV, cloL, clo, zj, zf, zk, zg, zd]; done))) | (refine zd3 ?_; first | rfl | omega | (rw [zb2 (by omega) (by omega)]; omega)) | (refine zi2 rfl ?_; (first | rfl | (simp [cloV, cloL, clo, zj, zf, zk, zg, zd]; done))) | exact zj4 rfl rfl | (refine ze3 (by rfl) (by rfl) ?_ ?_ <;> (first | rfl | (simp [cloV, cloL, clo, zj, zf, zk, zg, zd]; done))) | (refine rw_rn' rfl rfl ?_; simp; done)))))
        | skip
  · repeat' (first | refine zn ?_ | refine ze ?_ | refine zh ?_ | refine zi ?_ | refine zb fun C => ?_ | refine zp (by kernel_rfl) (by kernel_rfl) fun C => ?_ | refine zc ?_ | (refine x_gm ?_ ?_ <;> intro hG <;> (try cases hG)) | refine zt13 ?_ | refine zu13 ?_ | refine zv13 ?_ | refine zw13 ?_ | refine zd10 ?_ | refine zr3 ?_ | refine zx8 ?_ | refine zq13 ?_ | refine zr13 ?_ | refine x_bs ?_ | refine x_gr ?_ | refine x_st ?_ | refine x_mv ?_ | refine x_sk ?_ | refine ze4 ?_ | refine x_ix ?_ | refine zf4 ?_ | refine zg4 ?_ | refine zu3 ?_ | refine zu3 (hnu := zl _) ?_ | refine zv2 ?_ | refine zv2 (hnu := zl _) ?_ | refine x_ld ?_ | refine zp13 ?_ | refine zu6 (zs5 _ _ _) ?_ | (refine zt3 (by rfl) ?_ ?_ <;> intro hC <;> (try cases hC)))
    refine zu ?_
    refine ret0 rfl zn2 ⟨?_, rfl⟩
    rw [zd14 fun j hj => hall j (by simp at h1; omega)]
    refine congrArg (fun s => AV.c (AC.v (Value.bool s))) ?_
    unfold inR
    (rw [Bool.eq_iff_iff]; (try simp only [Bool.and_eq_true, Bool.or_eq_true, Bool.not_eq_true', decide_eq_true_iff, decide_eq_false_iff_not, beq_iff_eq, Bool.and_eq_false_iff, Bool.or_eq_false_iff, bne_iff_ne, ne_eq, Bool.true_eq_false, Bool.false_eq_true, true_iff, false_iff, iff_true, iff_false] at *); first | omega | (simp at *; omega))
end Go.Proofs.Ytghljnfbbaklnaa
