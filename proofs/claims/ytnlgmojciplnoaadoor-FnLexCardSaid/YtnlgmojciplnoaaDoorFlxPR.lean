/- Marks and one token: the program. -/
import Derived.Test.YtnlgmojciplnoaaDoorFlxPQ
namespace Go.Proofs.YtnlgmojciplnoaaDoor
open Go.RowKit
set_option maxRecDepth 100000
def sixM : List ByteArray := [⟨#[60, 61]⟩, ⟨#[61, 61]⟩, ⟨#[33, 61]⟩, ⟨#[62, 61]⟩, ⟨#[38, 38]⟩, ⟨#[124, 124]⟩]
def sixL : List E := [.str ⟨#[60, 61]⟩, .str ⟨#[61, 61]⟩, .str ⟨#[33, 61]⟩, .str ⟨#[62, 61]⟩, .str ⟨#[38, 38]⟩, .str ⟨#[124, 124]⟩]
theorem zn20 {s : ByteArray} {x y : UInt8} : hpS s ⟨#[x, y]⟩ = true ↔ 2 ≤ s.size ∧ bAt s 0 = x.toNat ∧ bAt s 1 = y.toNat := by
  have hl : s.data.toList.length = s.size := Array.length_toList
  have hb : ∀ j, bAt s j = (s.data.toList[j]?.getD 0).toNat := fun j => by unfold bAt; rw [Array.getElem?_toList]
  unfold hpS Lib.hasPrefix
  rw [hb 0, hb 1, ← hl]
  show ([x, y] : List UInt8).isPrefixOf s.data.toList = true ↔ _
  generalize s.data.toList = l
  match l with
  | [] => simp
  | [a] => simp
  | a :: b :: r =>
    simp only [List.isPrefixOf_iff_prefix, List.length_cons, List.getElem?_cons_zero, List.getElem?_cons_succ, Option.getD_some]
    constructor
    · intro h
      obtain ⟨t, ht⟩ := h
      have h1 : x = a := by injection ht
      have h2 : y = b := by injection ht with _ h; injection h
      exact ⟨by omega, by rw [h1], by rw [h2]⟩
    · rintro ⟨-, h1, h2⟩
      rw [UInt8.toNat_inj.1 h1, UInt8.toNat_inj.1 h2]
      exact ⟨r, rfl⟩
theorem zk22 {s : ByteArray} (h : 2 ≤ s.size) : cutB s 0 2 = ⟨#[UInt8.ofNat (bAt s 0), UInt8.ofNat (bAt s 1)]⟩ := by
  have hz := zy2 (s := s) (a := 0) (b := 2) (by omega) h
  rw [zy16 hz, zk4 h (by omega), zk4 h (by omega)]
theorem zl6 {s : ByteArray} {x y : UInt8} (h6 : sixB x.toNat y.toNat = true) (h : hpS s ⟨#[x, y]⟩ = true) : markS s = ⟨#[x, y]⟩ := by
  obtain ⟨h1, h2, h3⟩ := zn20.1 h
  unfold markS
  rw [if_pos ⟨h1, by rw [h2, h3]; exact h6⟩, zk22 h1, h2, h3, UInt8.ofNat_toNat, UInt8.ofNat_toNat]
theorem zg17 {s : ByteArray} (h : ∀ m ∈ sixM, hpS s m = false) : ¬ (2 ≤ s.size ∧ sixB (bAt s 0) (bAt s 1) = true) := fun ⟨h1, h2⟩ => by
  have key : ∀ x y : UInt8, bAt s 0 = x.toNat → bAt s 1 = y.toNat → (⟨#[x, y]⟩ : ByteArray) ∈ sixM → False := fun x y e1 e2 hm => by
    have := h _ hm
    rw [zn20.2 ⟨h1, e1, e2⟩] at this
    cases this
  simp only [sixB, Bool.or_eq_true, Bool.and_eq_true, decide_eq_true_iff] at h2
  rcases h2 with ⟨f1, f2 | f2 | f2 | f2⟩ | ⟨f2, f1⟩ | ⟨f2, f1⟩
  · exact key 60 61 f2 f1 (by simp [sixM])
  · exact key 61 61 f2 f1 (by simp [sixM])
  · exact key 33 61 f2 f1 (by simp [sixM])
  · exact key 62 61 f2 f1 (by simp [sixM])
  · exact key 38 38 f2 f1 (by simp [sixM])
  · exact key 124 124 f2 f1 (by simp [sixM])
theorem zl22 : ∀ c : Fin 256, decide (0 ≤ Lib.indexByte [123, 125, 40, 41, 91, 93, 44, 59, 36, 43, 45, 42, 47, 37, 46, 60, 62, 33, 126, 61] (UInt8.ofNat c.1)) = oneB c.1 := by decide
set_option maxHeartbeats 1000000 in
theorem zw13 {s : ByteArray} (hs : s.size ≤ 1048576) : Ctr Tryd.prog 29 [.c (.v (.string s))] [] (.c (.v (.string (markS s)))) [] := by
  have hP := zo12 s
  refine za2 Tryd.func29 rfl rfl ?_
  repeat' (first | ((apply f_wo); first | ((apply f_gs); first | refine n_sk ?_) | ((apply f_mv); first | (refine zq1 ?_ ?_ <;> intro hG <;> (try cases hG)) | refine zv (v := .c _) ?_ | refine za ?_) | ((apply f_as); first | refine zt (v := .c _) ?_ | refine za ?_) | ((apply f_ld); first | refine zp3 ?_ | refine zs2 ?_ | refine n_ld ?_) | ((apply f_bi); first | refine zc1 ?_ | refine zb1 ?_ | refine zd1 ?_ | refine za ?_) | ((apply f_ia); first | refine n_ix ?_ | refine zl3 ?_ | refine za ?_) | ((apply zx2); first | refine zb2 ?_ | refine za ?_) | ((apply zm1); first | refine zh ?_ | refine za ?_) | ((apply zk5); first | refine ze3 ?_ | refine za ?_) | ((apply zj1); first | refine zg ?_ | refine zi1 ?_ | refine za ?_) | ((apply f_pk); first | refine zg1 (v := .c _) ?_ | refine za ?_) | refine n_bs ?_ | refine zy1 ?_ | refine zn2 ?_ | refine zo2 ?_ | refine zp2 ?_ | refine za ?_ | refine n_mv ?_) | ((apply f_w); first | refine zx ?_ | refine zd ?_) | refine zb fun C => ?_ | refine zj ?_ | refine zc ?_ | refine ze ?_ | refine zf ?_)
  refine zb3 (fun k : Nat => ⟨tmsF [(0, .c (.v (.string s))), (5, .c (.sl 5 6)), (6, .c (.v (.int .i64 6))), (7, .c (.v (.int .i64 (k : Int))))], hpsF [(5, 5, ⟨9, 1, 6, false, owL sixL⟩)], 0, [5], 26⟩)
    (fun N k => k + N = 6 ∧ ∀ j m, j < k → sixM[j]? = some m → hpS s m = false) 6 0 ⟨by omega, fun j m hj => absurd hj (Nat.not_lt_zero j)⟩ ?_ ?_
  · show Gh _ _
    (refine ze2 _ _ rfl rfl ?_ ?_ <;> (repeat' (first | exact TmOk.nil | exact RwOk.nil | refine TmOk.cons ?_ ?_ | refine RwOk.cons ?_ ?_ | rfl | exact ze1 rfl (by assumption) | exact ze1 rfl (zz2 _) | (refine rnV_id' rfl ?_; (first | rfl | (simp [cloV, cloL, clo, zn, zm, zo, zk, zi]; done))) | (refine zk2 ?_; first | rfl | omega | (rw [zp1 (by omega) (by omega)]; omega)) | (refine ze1 rfl ?_; (first | rfl | (simp [cloV, cloL, clo, zn, zm, zo, zk, zi]; done))) | exact zg3 rfl rfl | (refine zl2 (by rfl) (by rfl) ?_ ?_ <;> (first | rfl | (simp [cloV, cloL, clo, zn, zm, zo, zk, zi]; done))) | (refine rw_rn' rfl rfl ?_; simp; done))))
  rintro N k ⟨hN, hr⟩
  try dsimp only
  by_cases hk : k < 6
  · rcases (show k = 0 ∨ k = 1 ∨ k = 2 ∨ k = 3 ∨ k = 4 ∨ k = 5 by omega) with rfl | rfl | rfl | rfl | rfl | rfl
    · have c1 := hP ⟨#[60, 61]⟩
      cases hq : hpS s ⟨#[60, 61]⟩ with
      | true =>
        rw [hq] at c1
        rw [zl6 (x := 60) (y := 61) (by decide) hq]
        repeat' (first | ((apply f_wo); first | ((apply f_gs); first | refine n_sk ?_) | ((apply f_mv); first | (refine zq1 ?_ ?_ <;> intro hG <;> (try cases hG)) | refine zv (v := .c _) ?_ | refine za ?_) | ((apply f_as); first | refine zt (v := .c _) ?_ | refine za ?_) | ((apply f_ld); first | refine zp3 ?_ | refine zs2 ?_ | refine n_ld ?_) | ((apply f_ca); first | refine zk1 (c1) ?_ | refine zh1 (c1) ?_) | ((apply f_bi); first | refine zc1 ?_ | refine zb1 ?_ | refine zd1 ?_ | refine za ?_) | ((apply f_ia); first | refine n_ix ?_ | refine zl3 ?_ | refine za ?_) | ((apply zx2); first | refine zb2 ?_ | refine za ?_) | ((apply zm1); first | refine zh ?_ | refine za ?_) | ((apply zk5); first | refine ze3 ?_ | refine za ?_) | ((apply zj1); first | refine zg ?_ | refine zi1 ?_ | refine za ?_) | ((apply f_pk); first | refine zg1 (v := .c _) ?_ | refine za ?_) | refine n_bs ?_ | refine zy1 ?_ | refine zn2 ?_ | refine zo2 ?_ | refine zp2 ?_ | refine za ?_ | refine n_mv ?_) | ((apply f_w); first | refine zx ?_ | refine zd ?_) | refine zb fun C => ?_ | refine zj ?_ | refine zc ?_ | refine ze ?_ | refine zf ?_ | refine zp rfl ?_ | refine zq rfl ?_)
        refine zw ?_; refine ret0 rfl zu1 ⟨?_, rfl⟩; rfl
      | false =>
        rw [hq] at c1
        repeat' (first | ((apply f_wo); first | ((apply f_gs); first | refine n_sk ?_) | ((apply f_mv); first | (refine zq1 ?_ ?_ <;> intro hG <;> (try cases hG)) | refine zv (v := .c _) ?_ | refine za ?_) | ((apply f_as); first | refine zt (v := .c _) ?_ | refine za ?_) | ((apply f_ld); first | refine zp3 ?_ | refine zs2 ?_ | refine n_ld ?_) | ((apply f_ca); first | refine zk1 (c1) ?_ | refine zh1 (c1) ?_) | ((apply f_bi); first | refine zc1 ?_ | refine zb1 ?_ | refine zd1 ?_ | refine za ?_) | ((apply f_ia); first | refine n_ix ?_ | refine zl3 ?_ | refine za ?_) | ((apply zx2); first | refine zb2 ?_ | refine za ?_) | ((apply zm1); first | refine zh ?_ | refine za ?_) | ((apply zk5); first | refine ze3 ?_ | refine za ?_) | ((apply zj1); first | refine zg ?_ | refine zi1 ?_ | refine za ?_) | ((apply f_pk); first | refine zg1 (v := .c _) ?_ | refine za ?_) | refine n_bs ?_ | refine zy1 ?_ | refine zn2 ?_ | refine zo2 ?_ | refine zp2 ?_ | refine za ?_ | refine n_mv ?_) | ((apply f_w); first | refine zx ?_ | refine zd ?_) | refine zb fun C => ?_ | refine zj ?_ | refine zc ?_ | refine ze ?_ | refine zf ?_ | refine zp rfl ?_ | refine zq rfl ?_)
        refine ⟨N - 1, 1, by omega, ⟨by omega, fun j m hj hm => ?_⟩, ?_⟩
        · by_cases e : j = 0
          · subst e
            injection hm with hm
            rw [← hm]; exact hq
          · exact hr j m (by omega) hm
        · show Gh _ _
          (refine ze2 _ _ rfl rfl ?_ ?_ <;> (repeat' (first | exact TmOk.nil | exact RwOk.nil | refine TmOk.cons ?_ ?_ | refine RwOk.cons ?_ ?_ | rfl | exact ze1 rfl (by assumption) | exact ze1 rfl (zz2 _) | (refine rnV_id' rfl ?_; (first | rfl | (simp [cloV, cloL, clo, zn, zm, zo, zk, zi]; done))) | (refine zk2 ?_; first | rfl | omega | (rw [zp1 (by omega) (by omega)]; omega)) | (refine ze1 rfl ?_; (first | rfl | (simp [cloV, cloL, clo, zn, zm, zo, zk, zi]; done))) | exact zg3 rfl rfl | (refine zl2 (by rfl) (by rfl) ?_ ?_ <;> (first | rfl | (simp [cloV, cloL, clo, zn, zm, zo, zk, zi]; done))) | (refine rw_rn' rfl rfl ?_; simp; done))))
    · have c1 := hP ⟨#[61, 61]⟩
      cases hq : hpS s ⟨#[61, 61]⟩ with
      | true =>
        rw [hq] at c1
        rw [zl6 (x := 61) (y := 61) (by decide) hq]
        repeat' (first | ((apply f_wo); first | ((apply f_gs); first | refine n_sk ?_) | ((apply f_mv); first | (refine zq1 ?_ ?_ <;> intro hG <;> (try cases hG)) | refine zv (v := .c _) ?_ | refine za ?_) | ((apply f_as); first | refine zt (v := .c _) ?_ | refine za ?_) | ((apply f_ld); first | refine zp3 ?_ | refine zs2 ?_ | refine n_ld ?_) | ((apply f_ca); first | refine zk1 (c1) ?_ | refine zh1 (c1) ?_) | ((apply f_bi); first | refine zc1 ?_ | refine zb1 ?_ | refine zd1 ?_ | refine za ?_) | ((apply f_ia); first | refine n_ix ?_ | refine zl3 ?_ | refine za ?_) | ((apply zx2); first | refine zb2 ?_ | refine za ?_) | ((apply zm1); first | refine zh ?_ | refine za ?_) | ((apply zk5); first | refine ze3 ?_ | refine za ?_) | ((apply zj1); first | refine zg ?_ | refine zi1 ?_ | refine za ?_) | ((apply f_pk); first | refine zg1 (v := .c _) ?_ | refine za ?_) | refine n_bs ?_ | refine zy1 ?_ | refine zn2 ?_ | refine zo2 ?_ | refine zp2 ?_ | refine za ?_ | refine n_mv ?_) | ((apply f_w); first | refine zx ?_ | refine zd ?_) | refine zb fun C => ?_ | refine zj ?_ | refine zc ?_ | refine ze ?_ | refine zf ?_ | refine zp rfl ?_ | refine zq rfl ?_)
        refine zw ?_; refine ret0 rfl zu1 ⟨?_, rfl⟩; rfl
      | false =>
        rw [hq] at c1
        repeat' (first | ((apply f_wo); first | ((apply f_gs); first | refine n_sk ?_) | ((apply f_mv); first | (refine zq1 ?_ ?_ <;> intro hG <;> (try cases hG)) | refine zv (v := .c _) ?_ | refine za ?_) | ((apply f_as); first | refine zt (v := .c _) ?_ | refine za ?_) | ((apply f_ld); first | refine zp3 ?_ | refine zs2 ?_ | refine n_ld ?_) | ((apply f_ca); first | refine zk1 (c1) ?_ | refine zh1 (c1) ?_) | ((apply f_bi); first | refine zc1 ?_ | refine zb1 ?_ | refine zd1 ?_ | refine za ?_) | ((apply f_ia); first | refine n_ix ?_ | refine zl3 ?_ | refine za ?_) | ((apply zx2); first | refine zb2 ?_ | refine za ?_) | ((apply zm1); first | refine zh ?_ | refine za ?_) | ((apply zk5); first | refine ze3 ?_ | refine za ?_) | ((apply zj1); first | refine zg ?_ | refine zi1 ?_ | refine za ?_) | ((apply f_pk); first | refine zg1 (v := .c _) ?_ | refine za ?_) | refine n_bs ?_ | refine zy1 ?_ | refine zn2 ?_ | refine zo2 ?_ | refine zp2 ?_ | refine za ?_ | refine n_mv ?_) | ((apply f_w); first | refine zx ?_ | refine zd ?_) | refine zb fun C => ?_ | refine zj ?_ | refine zc ?_ | refine ze ?_ | refine zf ?_ | refine zp rfl ?_ | refine zq rfl ?_)
        refine ⟨N - 1, 2, by omega, ⟨by omega, fun j m hj hm => ?_⟩, ?_⟩
        · by_cases e : j = 1
          · subst e
            injection hm with hm
            rw [← hm]; exact hq
          · exact hr j m (by omega) hm
        · show Gh _ _
          (refine ze2 _ _ rfl rfl ?_ ?_ <;> (repeat' (first | exact TmOk.nil | exact RwOk.nil | refine TmOk.cons ?_ ?_ | refine RwOk.cons ?_ ?_ | rfl | exact ze1 rfl (by assumption) | exact ze1 rfl (zz2 _) | (refine rnV_id' rfl ?_; (first | rfl | (simp [cloV, cloL, clo, zn, zm, zo, zk, zi]; done))) | (refine zk2 ?_; first | rfl | omega | (rw [zp1 (by omega) (by omega)]; omega)) | (refine ze1 rfl ?_; (first | rfl | (simp [cloV, cloL, clo, zn, zm, zo, zk, zi]; done))) | exact zg3 rfl rfl | (refine zl2 (by rfl) (by rfl) ?_ ?_ <;> (first | rfl | (simp [cloV, cloL, clo, zn, zm, zo, zk, zi]; done))) | (refine rw_rn' rfl rfl ?_; simp; done))))
    · have c1 := hP ⟨#[33, 61]⟩
      cases hq : hpS s ⟨#[33, 61]⟩ with
      | true =>
        rw [hq] at c1
        rw [zl6 (x := 33) (y := 61) (by decide) hq]
        repeat' (first | ((apply f_wo); first | ((apply f_gs); first | refine n_sk ?_) | ((apply f_mv); first | (refine zq1 ?_ ?_ <;> intro hG <;> (try cases hG)) | refine zv (v := .c _) ?_ | refine za ?_) | ((apply f_as); first | refine zt (v := .c _) ?_ | refine za ?_) | ((apply f_ld); first | refine zp3 ?_ | refine zs2 ?_ | refine n_ld ?_) | ((apply f_ca); first | refine zk1 (c1) ?_ | refine zh1 (c1) ?_) | ((apply f_bi); first | refine zc1 ?_ | refine zb1 ?_ | refine zd1 ?_ | refine za ?_) | ((apply f_ia); first | refine n_ix ?_ | refine zl3 ?_ | refine za ?_) | ((apply zx2); first | refine zb2 ?_ | refine za ?_) | ((apply zm1); first | refine zh ?_ | refine za ?_) | ((apply zk5); first | refine ze3 ?_ | refine za ?_) | ((apply zj1); first | refine zg ?_ | refine zi1 ?_ | refine za ?_) | ((apply f_pk); first | refine zg1 (v := .c _) ?_ | refine za ?_) | refine n_bs ?_ | refine zy1 ?_ | refine zn2 ?_ | refine zo2 ?_ | refine zp2 ?_ | refine za ?_ | refine n_mv ?_) | ((apply f_w); first | refine zx ?_ | refine zd ?_) | refine zb fun C => ?_ | refine zj ?_ | refine zc ?_ | refine ze ?_ | refine zf ?_ | refine zp rfl ?_ | refine zq rfl ?_)
        refine zw ?_; refine ret0 rfl zu1 ⟨?_, rfl⟩; rfl
      | false =>
        rw [hq] at c1
        repeat' (first | ((apply f_wo); first | ((apply f_gs); first | refine n_sk ?_) | ((apply f_mv); first | (refine zq1 ?_ ?_ <;> intro hG <;> (try cases hG)) | refine zv (v := .c _) ?_ | refine za ?_) | ((apply f_as); first | refine zt (v := .c _) ?_ | refine za ?_) | ((apply f_ld); first | refine zp3 ?_ | refine zs2 ?_ | refine n_ld ?_) | ((apply f_ca); first | refine zk1 (c1) ?_ | refine zh1 (c1) ?_) | ((apply f_bi); first | refine zc1 ?_ | refine zb1 ?_ | refine zd1 ?_ | refine za ?_) | ((apply f_ia); first | refine n_ix ?_ | refine zl3 ?_ | refine za ?_) | ((apply zx2); first | refine zb2 ?_ | refine za ?_) | ((apply zm1); first | refine zh ?_ | refine za ?_) | ((apply zk5); first | refine ze3 ?_ | refine za ?_) | ((apply zj1); first | refine zg ?_ | refine zi1 ?_ | refine za ?_) | ((apply f_pk); first | refine zg1 (v := .c _) ?_ | refine za ?_) | refine n_bs ?_ | refine zy1 ?_ | refine zn2 ?_ | refine zo2 ?_ | refine zp2 ?_ | refine za ?_ | refine n_mv ?_) | ((apply f_w); first | refine zx ?_ | refine zd ?_) | refine zb fun C => ?_ | refine zj ?_ | refine zc ?_ | refine ze ?_ | refine zf ?_ | refine zp rfl ?_ | refine zq rfl ?_)
        refine ⟨N - 1, 3, by omega, ⟨by omega, fun j m hj hm => ?_⟩, ?_⟩
        · by_cases e : j = 2
          · subst e
            injection hm with hm
            rw [← hm]; exact hq
          · exact hr j m (by omega) hm
        · show Gh _ _
          (refine ze2 _ _ rfl rfl ?_ ?_ <;> (repeat' (first | exact TmOk.nil | exact RwOk.nil | refine TmOk.cons ?_ ?_ | refine RwOk.cons ?_ ?_ | rfl | exact ze1 rfl (by assumption) | exact ze1 rfl (zz2 _) | (refine rnV_id' rfl ?_; (first | rfl | (simp [cloV, cloL, clo, zn, zm, zo, zk, zi]; done))) | (refine zk2 ?_; first | rfl | omega | (rw [zp1 (by omega) (by omega)]; omega)) | (refine ze1 rfl ?_; (first | rfl | (simp [cloV, cloL, clo, zn, zm, zo, zk, zi]; done))) | exact zg3 rfl rfl | (refine zl2 (by rfl) (by rfl) ?_ ?_ <;> (first | rfl | (simp [cloV, cloL, clo, zn, zm, zo, zk, zi]; done))) | (refine rw_rn' rfl rfl ?_; simp; done))))
    · have c1 := hP ⟨#[62, 61]⟩
      cases hq : hpS s ⟨#[62, 61]⟩ with
      | true =>
        rw [hq] at c1
        rw [zl6 (x := 62) (y := 61) (by decide) hq]
        repeat' (first | ((apply f_wo); first | ((apply f_gs); first | refine n_sk ?_) | ((apply f_mv); first | (refine zq1 ?_ ?_ <;> intro hG <;> (try cases hG)) | refine zv (v := .c _) ?_ | refine za ?_) | ((apply f_as); first | refine zt (v := .c _) ?_ | refine za ?_) | ((apply f_ld); first | refine zp3 ?_ | refine zs2 ?_ | refine n_ld ?_) | ((apply f_ca); first | refine zk1 (c1) ?_ | refine zh1 (c1) ?_) | ((apply f_bi); first | refine zc1 ?_ | refine zb1 ?_ | refine zd1 ?_ | refine za ?_) | ((apply f_ia); first | refine n_ix ?_ | refine zl3 ?_ | refine za ?_) | ((apply zx2); first | refine zb2 ?_ | refine za ?_) | ((apply zm1); first | refine zh ?_ | refine za ?_) | ((apply zk5); first | refine ze3 ?_ | refine za ?_) | ((apply zj1); first | refine zg ?_ | refine zi1 ?_ | refine za ?_) | ((apply f_pk); first | refine zg1 (v := .c _) ?_ | refine za ?_) | refine n_bs ?_ | refine zy1 ?_ | refine zn2 ?_ | refine zo2 ?_ | refine zp2 ?_ | refine za ?_ | refine n_mv ?_) | ((apply f_w); first | refine zx ?_ | refine zd ?_) | refine zb fun C => ?_ | refine zj ?_ | refine zc ?_ | refine ze ?_ | refine zf ?_ | refine zp rfl ?_ | refine zq rfl ?_)
        refine zw ?_; refine ret0 rfl zu1 ⟨?_, rfl⟩; rfl
      | false =>
        rw [hq] at c1
        repeat' (first | ((apply f_wo); first | ((apply f_gs); first | refine n_sk ?_) | ((apply f_mv); first | (refine zq1 ?_ ?_ <;> intro hG <;> (try cases hG)) | refine zv (v := .c _) ?_ | refine za ?_) | ((apply f_as); first | refine zt (v := .c _) ?_ | refine za ?_) | ((apply f_ld); first | refine zp3 ?_ | refine zs2 ?_ | refine n_ld ?_) | ((apply f_ca); first | refine zk1 (c1) ?_ | refine zh1 (c1) ?_) | ((apply f_bi); first | refine zc1 ?_ | refine zb1 ?_ | refine zd1 ?_ | refine za ?_) | ((apply f_ia); first | refine n_ix ?_ | refine zl3 ?_ | refine za ?_) | ((apply zx2); first | refine zb2 ?_ | refine za ?_) | ((apply zm1); first | refine zh ?_ | refine za ?_) | ((apply zk5); first | refine ze3 ?_ | refine za ?_) | ((apply zj1); first | refine zg ?_ | refine zi1 ?_ | refine za ?_) | ((apply f_pk); first | refine zg1 (v := .c _) ?_ | refine za ?_) | refine n_bs ?_ | refine zy1 ?_ | refine zn2 ?_ | refine zo2 ?_ | refine zp2 ?_ | refine za ?_ | refine n_mv ?_) | ((apply f_w); first | refine zx ?_ | refine zd ?_) | refine zb fun C => ?_ | refine zj ?_ | refine zc ?_ | refine ze ?_ | refine zf ?_ | refine zp rfl ?_ | refine zq rfl ?_)
        refine ⟨N - 1, 4, by omega, ⟨by omega, fun j m hj hm => ?_⟩, ?_⟩
        · by_cases e : j = 3
          · subst e
            injection hm with hm
            rw [← hm]; exact hq
          · exact hr j m (by omega) hm
        · show Gh _ _
          (refine ze2 _ _ rfl rfl ?_ ?_ <;> (repeat' (first | exact TmOk.nil | exact RwOk.nil | refine TmOk.cons ?_ ?_ | refine RwOk.cons ?_ ?_ | rfl | exact ze1 rfl (by assumption) | exact ze1 rfl (zz2 _) | (refine rnV_id' rfl ?_; (first | rfl | (simp [cloV, cloL, clo, zn, zm, zo, zk, zi]; done))) | (refine zk2 ?_; first | rfl | omega | (rw [zp1 (by omega) (by omega)]; omega)) | (refine ze1 rfl ?_; (first | rfl | (simp [cloV, cloL, clo, zn, zm, zo, zk, zi]; done))) | exact zg3 rfl rfl | (refine zl2 (by rfl) (by rfl) ?_ ?_ <;> (first | rfl | (simp [cloV, cloL, clo, zn, zm, zo, zk, zi]; done))) | (refine rw_rn' rfl rfl ?_; simp; done))))
    · have c1 := hP ⟨#[38, 38]⟩
      cases hq : hpS s ⟨#[38, 38]⟩ with
      | true =>
        rw [hq] at c1
        rw [zl6 (x := 38) (y := 38) (by decide) hq]
        repeat' (first | ((apply f_wo); first | ((apply f_gs); first | refine n_sk ?_) | ((apply f_mv); first | (refine zq1 ?_ ?_ <;> intro hG <;> (try cases hG)) | refine zv (v := .c _) ?_ | refine za ?_) | ((apply f_as); first | refine zt (v := .c _) ?_ | refine za ?_) | ((apply f_ld); first | refine zp3 ?_ | refine zs2 ?_ | refine n_ld ?_) | ((apply f_ca); first | refine zk1 (c1) ?_ | refine zh1 (c1) ?_) | ((apply f_bi); first | refine zc1 ?_ | refine zb1 ?_ | refine zd1 ?_ | refine za ?_) | ((apply f_ia); first | refine n_ix ?_ | refine zl3 ?_ | refine za ?_) | ((apply zx2); first | refine zb2 ?_ | refine za ?_) | ((apply zm1); first | refine zh ?_ | refine za ?_) | ((apply zk5); first | refine ze3 ?_ | refine za ?_) | ((apply zj1); first | refine zg ?_ | refine zi1 ?_ | refine za ?_) | ((apply f_pk); first | refine zg1 (v := .c _) ?_ | refine za ?_) | refine n_bs ?_ | refine zy1 ?_ | refine zn2 ?_ | refine zo2 ?_ | refine zp2 ?_ | refine za ?_ | refine n_mv ?_) | ((apply f_w); first | refine zx ?_ | refine zd ?_) | refine zb fun C => ?_ | refine zj ?_ | refine zc ?_ | refine ze ?_ | refine zf ?_ | refine zp rfl ?_ | refine zq rfl ?_)
        refine zw ?_; refine ret0 rfl zu1 ⟨?_, rfl⟩; rfl
      | false =>
        rw [hq] at c1
        repeat' (first | ((apply f_wo); first | ((apply f_gs); first | refine n_sk ?_) | ((apply f_mv); first | (refine zq1 ?_ ?_ <;> intro hG <;> (try cases hG)) | refine zv (v := .c _) ?_ | refine za ?_) | ((apply f_as); first | refine zt (v := .c _) ?_ | refine za ?_) | ((apply f_ld); first | refine zp3 ?_ | refine zs2 ?_ | refine n_ld ?_) | ((apply f_ca); first | refine zk1 (c1) ?_ | refine zh1 (c1) ?_) | ((apply f_bi); first | refine zc1 ?_ | refine zb1 ?_ | refine zd1 ?_ | refine za ?_) | ((apply f_ia); first | refine n_ix ?_ | refine zl3 ?_ | refine za ?_) | ((apply zx2); first | refine zb2 ?_ | refine za ?_) | ((apply zm1); first | refine zh ?_ | refine za ?_) | ((apply zk5); first | refine ze3 ?_ | refine za ?_) | ((apply zj1); first | refine zg ?_ | refine zi1 ?_ | refine za ?_) | ((apply f_pk); first | refine zg1 (v := .c _) ?_ | refine za ?_) | refine n_bs ?_ | refine zy1 ?_ | refine zn2 ?_ | refine zo2 ?_ | refine zp2 ?_ | refine za ?_ | refine n_mv ?_) | ((apply f_w); first | refine zx ?_ | refine zd ?_) | refine zb fun C => ?_ | refine zj ?_ | refine zc ?_ | refine ze ?_ | refine zf ?_ | refine zp rfl ?_ | refine zq rfl ?_)
        refine ⟨N - 1, 5, by omega, ⟨by omega, fun j m hj hm => ?_⟩, ?_⟩
        · by_cases e : j = 4
          · subst e
            injection hm with hm
            rw [← hm]; exact hq
          · exact hr j m (by omega) hm
        · show Gh _ _
          (refine ze2 _ _ rfl rfl ?_ ?_ <;> (repeat' (first | exact TmOk.nil | exact RwOk.nil | refine TmOk.cons ?_ ?_ | refine RwOk.cons ?_ ?_ | rfl | exact ze1 rfl (by assumption) | exact ze1 rfl (zz2 _) | (refine rnV_id' rfl ?_; (first | rfl | (simp [cloV, cloL, clo, zn, zm, zo, zk, zi]; done))) | (refine zk2 ?_; first | rfl | omega | (rw [zp1 (by omega) (by omega)]; omega)) | (refine ze1 rfl ?_; (first | rfl | (simp [cloV, cloL, clo, zn, zm, zo, zk, zi]; done))) | exact zg3 rfl rfl | (refine zl2 (by rfl) (by rfl) ?_ ?_ <;> (first | rfl | (simp [cloV, cloL, clo, zn, zm, zo, zk, zi]; done))) | (refine rw_rn' rfl rfl ?_; simp; done))))
    · have c1 := hP ⟨#[124, 124]⟩
      cases hq : hpS s ⟨#[124, 124]⟩ with
      | true =>
        rw [hq] at c1
        rw [zl6 (x := 124) (y := 124) (by decide) hq]
        repeat' (first | ((apply f_wo); first | ((apply f_gs); first | refine n_sk ?_) | ((apply f_mv); first | (refine zq1 ?_ ?_ <;> intro hG <;> (try cases hG)) | refine zv (v := .c _) ?_ | refine za ?_) | ((apply f_as); first | refine zt (v := .c _) ?_ | refine za ?_) | ((apply f_ld); first | refine zp3 ?_ | refine zs2 ?_ | refine n_ld ?_) | ((apply f_ca); first | refine zk1 (c1) ?_ | refine zh1 (c1) ?_) | ((apply f_bi); first | refine zc1 ?_ | refine zb1 ?_ | refine zd1 ?_ | refine za ?_) | ((apply f_ia); first | refine n_ix ?_ | refine zl3 ?_ | refine za ?_) | ((apply zx2); first | refine zb2 ?_ | refine za ?_) | ((apply zm1); first | refine zh ?_ | refine za ?_) | ((apply zk5); first | refine ze3 ?_ | refine za ?_) | ((apply zj1); first | refine zg ?_ | refine zi1 ?_ | refine za ?_) | ((apply f_pk); first | refine zg1 (v := .c _) ?_ | refine za ?_) | refine n_bs ?_ | refine zy1 ?_ | refine zn2 ?_ | refine zo2 ?_ | refine zp2 ?_ | refine za ?_ | refine n_mv ?_) | ((apply f_w); first | refine zx ?_ | refine zd ?_) | refine zb fun C => ?_ | refine zj ?_ | refine zc ?_ | refine ze ?_ | refine zf ?_ | refine zp rfl ?_ | refine zq rfl ?_)
        refine zw ?_; refine ret0 rfl zu1 ⟨?_, rfl⟩; rfl
      | false =>
        rw [hq] at c1
        repeat' (first | ((apply f_wo); first | ((apply f_gs); first | refine n_sk ?_) | ((apply f_mv); first | (refine zq1 ?_ ?_ <;> intro hG <;> (try cases hG)) | refine zv (v := .c _) ?_ | refine za ?_) | ((apply f_as); first | refine zt (v := .c _) ?_ | refine za ?_) | ((apply f_ld); first | refine zp3 ?_ | refine zs2 ?_ | refine n_ld ?_) | ((apply f_ca); first | refine zk1 (c1) ?_ | refine zh1 (c1) ?_) | ((apply f_bi); first | refine zc1 ?_ | refine zb1 ?_ | refine zd1 ?_ | refine za ?_) | ((apply f_ia); first | refine n_ix ?_ | refine zl3 ?_ | refine za ?_) | ((apply zx2); first | refine zb2 ?_ | refine za ?_) | ((apply zm1); first | refine zh ?_ | refine za ?_) | ((apply zk5); first | refine ze3 ?_ | refine za ?_) | ((apply zj1); first | refine zg ?_ | refine zi1 ?_ | refine za ?_) | ((apply f_pk); first | refine zg1 (v := .c _) ?_ | refine za ?_) | refine n_bs ?_ | refine zy1 ?_ | refine zn2 ?_ | refine zo2 ?_ | refine zp2 ?_ | refine za ?_ | refine n_mv ?_) | ((apply f_w); first | refine zx ?_ | refine zd ?_) | refine zb fun C => ?_ | refine zj ?_ | refine zc ?_ | refine ze ?_ | refine zf ?_ | refine zp rfl ?_ | refine zq rfl ?_)
        refine ⟨N - 1, 6, by omega, ⟨by omega, fun j m hj hm => ?_⟩, ?_⟩
        · by_cases e : j = 5
          · subst e
            injection hm with hm
            rw [← hm]; exact hq
          · exact hr j m (by omega) hm
        · show Gh _ _
          (refine ze2 _ _ rfl rfl ?_ ?_ <;> (repeat' (first | exact TmOk.nil | exact RwOk.nil | refine TmOk.cons ?_ ?_ | refine RwOk.cons ?_ ?_ | rfl | exact ze1 rfl (by assumption) | exact ze1 rfl (zz2 _) | (refine rnV_id' rfl ?_; (first | rfl | (simp [cloV, cloL, clo, zn, zm, zo, zk, zi]; done))) | (refine zk2 ?_; first | rfl | omega | (rw [zp1 (by omega) (by omega)]; omega)) | (refine ze1 rfl ?_; (first | rfl | (simp [cloV, cloL, clo, zn, zm, zo, zk, zi]; done))) | exact zg3 rfl rfl | (refine zl2 (by rfl) (by rfl) ?_ ?_ <;> (first | rfl | (simp [cloV, cloL, clo, zn, zm, zo, zk, zi]; done))) | (refine rw_rn' rfl rfl ?_; simp; done))))
  · have hk' : k = 6 := by omega
    subst hk'
    have hmiss := zg17 (s := s) fun m hm => by
      obtain ⟨j, hj, rfl⟩ := List.getElem_of_mem hm
      exact hr j _ hj (List.getElem?_eq_getElem hj)
    unfold markS
    rw [if_neg hmiss]
    by_cases h0 : s.size = 0
    · rw [if_neg (by omega)]
      have hz := zf6 (s := s) (t := ⟨#[]⟩) h0 fun j hj => absurd hj (by omega)
      repeat' (first | ((apply f_wo); first | ((apply f_gs); first | refine n_sk ?_) | ((apply f_mv); first | (refine zq1 ?_ ?_ <;> intro hG <;> (try cases hG)) | refine zv (v := .c _) ?_ | refine za ?_) | ((apply f_as); first | refine zt (v := .c _) ?_ | refine za ?_) | ((apply f_ld); first | refine zp3 ?_ | refine zs2 ?_ | refine n_ld ?_) | ((apply f_bi); first | refine zc1 ?_ | refine zb1 ?_ | refine zd1 ?_ | refine za ?_) | ((apply f_ia); first | refine n_ix ?_ | refine zl3 ?_ | refine za ?_) | ((apply zx2); first | refine zb2 ?_ | refine za ?_) | ((apply zm1); first | refine zh ?_ | refine za ?_) | ((apply zk5); first | refine ze3 ?_ | refine za ?_) | ((apply zj1); first | refine zg ?_ | refine zi1 ?_ | refine za ?_) | ((apply f_pk); first | refine zg1 (v := .c _) ?_ | refine za ?_) | refine n_bs ?_ | refine zy1 ?_ | refine zn2 ?_ | refine zo2 ?_ | refine zp2 ?_ | refine za ?_ | refine n_mv ?_) | ((apply f_w); first | refine zx ?_ | refine zd ?_) | refine zb fun C => ?_ | refine zj ?_ | refine zc ?_ | refine ze ?_ | refine zf ?_ | (refine zr (by rfl) ?_ ?_ <;> intro hC <;> (try cases hC)))
      all_goals first
        | (exfalso; simp_all; done)
        | (refine zw ?_; refine ret0 rfl zu1 ⟨?_, rfl⟩; rfl)
    · have c1 := zt6 ⟨#[123, 125, 40, 41, 91, 93, 44, 59, 36, 43, 45, 42, 47, 37, 46, 60, 62, 33, 126, 61]⟩ (ze4 s 0)
      have h3 : decide (0 ≤ Lib.indexByte (ByteArray.mk #[123, 125, 40, 41, 91, 93, 44, 59, 36, 43, 45, 42, 47, 37, 46, 60, 62, 33, 126, 61]).data.toList (UInt8.ofNat (bAt s 0))) = oneB (bAt s 0) := zl22 ⟨bAt s 0, ze4 s 0⟩
      generalize Lib.indexByte (ByteArray.mk #[123, 125, 40, 41, 91, 93, 44, 59, 36, 43, 45, 42, 47, 37, 46, 60, 62, 33, 126, 61]).data.toList (UInt8.ofNat (bAt s 0)) = z at c1 h3
      have h01 : 0 < s.size := by omega
      have hne : (s.toList == (ByteArray.mk #[]).toList) = false := by rw [zc7]; exact decide_eq_false h0
      cases h4 : oneB (bAt s 0) with
      | true =>
        rw [h4] at h3
        have hz : 0 ≤ z := of_decide_eq_true h3
        rw [if_pos ⟨by omega, rfl⟩]
        repeat' (first | ((apply f_wo); first | ((apply f_gs); first | refine n_sk ?_) | ((apply f_mv); first | (refine zq1 ?_ ?_ <;> intro hG <;> (try cases hG)) | refine zv (v := .c _) ?_ | refine za ?_) | ((apply f_as); first | refine zt (v := .c _) ?_ | refine za ?_) | ((apply f_ld); first | refine zp3 ?_ | refine zs2 ?_ | refine n_ld ?_) | ((apply f_ca); first | refine zk1 (c1) ?_ | refine zh1 (c1) ?_) | ((apply f_bi); first | refine zc1 ?_ | refine zb1 ?_ | refine zd1 ?_ | refine za ?_) | ((apply f_ia); first | refine n_ix ?_ | refine zl3 ?_ | refine za ?_) | ((apply zx2); first | refine zb2 ?_ | refine za ?_) | ((apply zm1); first | refine zh ?_ | refine za ?_) | ((apply zk5); first | refine ze3 ?_ | refine za ?_) | ((apply zj1); first | refine zg ?_ | refine zi1 ?_ | refine za ?_) | ((apply f_pk); first | refine zg1 (v := .c _) ?_ | refine za ?_) | refine n_bs ?_ | refine zy1 ?_ | refine zn2 ?_ | refine zo2 ?_ | refine zp2 ?_ | refine za ?_ | refine n_mv ?_) | ((apply f_w); first | refine zx ?_ | refine zd ?_) | refine zb fun C => ?_ | refine zj ?_ | refine zc ?_ | refine ze ?_ | refine zf ?_ | (refine zr (by rfl) ?_ ?_ <;> intro hC <;> (try cases hC)))
        all_goals first
          | (exfalso; rw [bne, hne] at hG; cases hG; done)
          | (exfalso; simp only [decide_eq_false_iff_not] at hC; omega)
          | (refine zw ?_; refine ret0 rfl zu1 ⟨?_, rfl⟩; rfl)
      | false =>
        rw [h4] at h3
        have hz : ¬ 0 ≤ z := of_decide_eq_false h3
        rw [if_neg (by simp)]
        repeat' (first | ((apply f_wo); first | ((apply f_gs); first | refine n_sk ?_) | ((apply f_mv); first | (refine zq1 ?_ ?_ <;> intro hG <;> (try cases hG)) | refine zv (v := .c _) ?_ | refine za ?_) | ((apply f_as); first | refine zt (v := .c _) ?_ | refine za ?_) | ((apply f_ld); first | refine zp3 ?_ | refine zs2 ?_ | refine n_ld ?_) | ((apply f_ca); first | refine zk1 (c1) ?_ | refine zh1 (c1) ?_) | ((apply f_bi); first | refine zc1 ?_ | refine zb1 ?_ | refine zd1 ?_ | refine za ?_) | ((apply f_ia); first | refine n_ix ?_ | refine zl3 ?_ | refine za ?_) | ((apply zx2); first | refine zb2 ?_ | refine za ?_) | ((apply zm1); first | refine zh ?_ | refine za ?_) | ((apply zk5); first | refine ze3 ?_ | refine za ?_) | ((apply zj1); first | refine zg ?_ | refine zi1 ?_ | refine za ?_) | ((apply f_pk); first | refine zg1 (v := .c _) ?_ | refine za ?_) | refine n_bs ?_ | refine zy1 ?_ | refine zn2 ?_ | refine zo2 ?_ | refine zp2 ?_ | refine za ?_ | refine n_mv ?_) | ((apply f_w); first | refine zx ?_ | refine zd ?_) | refine zb fun C => ?_ | refine zj ?_ | refine zc ?_ | refine ze ?_ | refine zf ?_ | (refine zr (by rfl) ?_ ?_ <;> intro hC <;> (try cases hC)))
        all_goals first
          | (exfalso; simp only [decide_eq_true_iff] at hC; omega)
          | (refine zw ?_; refine ret0 rfl zu1 ⟨?_, rfl⟩; rfl)
end Go.Proofs.YtnlgmojciplnoaaDoor
