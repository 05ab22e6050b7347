/- Tables and environments: words; sz, to, eq. -/
import Derived.Test.YtnlgmojciplnoaaDoorFlxPM
namespace Go.Proofs.YtnlgmojciplnoaaDoor
open Go.RowKit
structure GTab where
  name : ByteArray
  A : Option Addr
  c : Nat
  l : List GEntry
def GTab.d (t : GTab) : ByteArray × List GEntry := (t.name, t.l)
def SameT (ts us : List GTab) : Prop := ts.map GTab.d = us.map GTab.d
theorem SameT.len {ts us : List GTab} (h : SameT ts us) : ts.length = us.length := by have := congrArg List.length h; simpa using this
theorem SameT.at_ {ts us : List GTab} (h : SameT ts us) {i : Nat} (hi : i < ts.length) : ∃ h' : i < us.length, us[i].name = ts[i].name ∧ us[i].l = ts[i].l := by
  have h' : i < us.length := by have := h.len; omega
  refine ⟨h', ?_⟩
  have e : (ts.map GTab.d)[i]'(by simpa using hi) = (us.map GTab.d)[i]'(by simpa using h') := by
    have h2 : ts.map GTab.d = us.map GTab.d := h
    simp only [h2]
  simp only [List.getElem_map] at e
  exact ⟨(congrArg Prod.fst e).symm, (congrArg Prod.snd e).symm⟩
def InT (w : World) (lo hi : Nat) (ts : List GTab) : Prop := ∀ t ∈ ts, Sl w lo hi 4 encEntry (.slice t.A t.l.length t.c) t.l
section
variable {w w' : World} {lo hi lo' hi' : Nat} {ts : List GTab}
theorem InT.below {B : Nat} (h : InT w lo hi ts) (hb : Below B w w') (hB : hi ≤ B) : InT w' lo hi ts := fun t ht => (h t ht).below hb hB
theorem InT.drew (h : InT w lo hi ts) : InT w.drew lo hi ts := fun t ht => (h t ht).drew
theorem InT.drewN (h : InT w lo hi ts) (n : Nat) : InT (w.drewN n) lo hi ts := fun t ht => (h t ht).drewN n
theorem InT.alloc (h : InT w lo hi ts) (hB : hi ≤ w.heap.size) (o : Obj) : InT (w.alloc o) lo hi ts := fun t ht => (h t ht).alloc hB o
theorem InT.setCell (h : InT w lo hi ts) {p : Addr} (hB : hi ≤ p.block) (u : Value) : InT (w.setCell p u) lo hi ts := fun t ht => (h t ht).setCell hB u
theorem InT.wider (h : InT w lo hi ts) (h1 : lo' ≤ lo) (h2 : hi ≤ hi') : InT w lo' hi' ts := fun t ht => (h t ht).wider h1 h2
end
theorem zz4 (a b : ByteArray) : (a.toList == b.toList) = decide (a = b) := by
  rw [ByteArray.toList_eq, ByteArray.toList_eq]
  by_cases h : a = b
  · subst h; simp
  · rw [decide_eq_false h, beq_eq_false_iff_ne]
    intro h2
    apply h
    obtain ⟨⟨l⟩⟩ := a
    obtain ⟨⟨m⟩⟩ := b
    simp at h2
    subst h2; rfl
set_option maxRecDepth 100000
def onesS : ByteArray := ⟨#[123, 125, 40, 41, 91, 93, 44, 59, 36, 43, 45, 42, 47, 37, 46, 60, 62, 33, 126, 61]⟩
theorem zf6 {s t : ByteArray} (h : s.size = t.size) (h2 : ∀ j, j < s.size → bAt s j = bAt t j) : s = t := by
  apply ByteArray.ext
  apply Array.ext
  · exact h
  · intro i h3 h4
    have h5 := h2 i h3
    unfold bAt at h5
    rw [Array.getElem?_eq_getElem h3, Array.getElem?_eq_getElem h4] at h5
    exact UInt8.toNat_inj.1 h5
theorem zy16 {s : ByteArray} (h : s.size = 2) : s = ⟨#[UInt8.ofNat (bAt s 0), UInt8.ofNat (bAt s 1)]⟩ := by
  refine zf6 h fun j hj => ?_
  rcases (show j = 0 ∨ j = 1 by omega) with rfl | rfl
  · show _ = (UInt8.ofNat (bAt s 0)).toNat
    rw [UInt8.toNat_ofNat', Nat.mod_eq_of_lt (ze4 s 0)]
  · show _ = (UInt8.ofNat (bAt s 1)).toNat
    rw [UInt8.toNat_ofNat', Nat.mod_eq_of_lt (ze4 s 1)]
theorem one_in : ∀ c : Fin 256, oneB c.1 = true → ∃ j : Fin 20, bAt onesS j.1 = c.1 := by decide
theorem in_one : ∀ j : Fin 20, oneB (bAt onesS j.1) = true := by decide
theorem zo13 {j : Nat} (hj : j < 20) : (cutB onesS j (j + 1)).size = 1 ∧ bAt (cutB onesS j (j + 1)) 0 = bAt onesS j := by
  have h20 : onesS.size = 20 := rfl
  refine ⟨by rw [zy2 (by omega) (by omega)]; omega, ?_⟩
  rw [zk4 (by omega) (by omega)]; rfl
theorem zi19 {j : Nat} (hj : j < 20) : markB (cutB onesS j (j + 1)) = true := by
  obtain ⟨h1, h2⟩ := zo13 hj
  have h3 := in_one ⟨j, hj⟩
  simp only [markB, h1, h2, h3]
  simp
theorem ze22 {s : ByteArray} (a1 : s ≠ ⟨#[60, 61]⟩) (a2 : s ≠ ⟨#[61, 61]⟩) (a3 : s ≠ ⟨#[33, 61]⟩) (a4 : s ≠ ⟨#[62, 61]⟩) (a5 : s ≠ ⟨#[38, 38]⟩) (a6 : s ≠ ⟨#[124, 124]⟩) (h : ∀ j, j < 20 → s ≠ cutB onesS j (j + 1)) : markB s = false := by
  cases hm : markB s with
  | false => rfl
  | true =>
    exfalso
    simp only [markB, Bool.or_eq_true, Bool.and_eq_true, decide_eq_true_iff] at hm
    rcases hm with ⟨h2, h3⟩ | ⟨h2, h3⟩
    · have e := zy16 h2
      simp only [sixB, Bool.or_eq_true, Bool.and_eq_true, decide_eq_true_iff] at h3
      rcases h3 with ⟨f1, f2 | f2 | f2 | f2⟩ | ⟨f2, f1⟩ | ⟨f2, f1⟩ <;> rw [f1, f2] at e
      · exact a1 e
      · exact a2 e
      · exact a3 e
      · exact a4 e
      · exact a5 e
      · exact a6 e
    · obtain ⟨j, hj⟩ := one_in ⟨bAt s 0, ze4 s 0⟩ h3
      obtain ⟨g1, g2⟩ := zo13 j.2
      refine h j.1 j.2 (zf6 (by rw [h2, g1]) fun i hi => ?_)
      obtain rfl : i = 0 := by omega
      rw [g2, hj]
theorem zs6 {s t : ByteArray} (h : (s.toList == t.toList) = true) : s = t := by rw [zz4] at h; exact of_decide_eq_true h
theorem zc9 {s t : ByteArray} (h : (s.toList == t.toList) = false) : s ≠ t := by rw [zz4] at h; exact of_decide_eq_false h
theorem zp13 (s : ByteArray) : Ctr Tryd.prog 61 [.c (.v (.string s))] [] (.c (.v (.bool (markB s)))) [] := by
  refine za2 Tryd.func61 rfl rfl ?_
  repeat' (first | ((apply f_wo); first | ((apply f_mv); first | refine zv (v := .c _) ?_ | refine za ?_) | ((apply f_as); first | refine zt (v := .c _) ?_ | refine za ?_) | ((apply zn1); first | refine zi2 ?_ | refine za ?_) | ((apply zm1); first | refine zh ?_ | refine za ?_) | ((apply zj1); first | refine zg ?_ | refine zi1 ?_ | refine za ?_) | refine zn2 ?_ | refine zo2 ?_ | refine zp2 ?_ | refine za ?_ | refine n_mv ?_) | ((apply f_w); first | refine zx ?_ | refine zd ?_) | refine zb fun C => ?_ | refine zj ?_ | refine zc ?_ | refine ze ?_ | refine zf ?_)
  refine zr (by rfl) (fun hC => ?_) fun hC => ?_
  · have e : s = ⟨#[60, 61]⟩ := zs6 hC
    rw [show markB s = true by rw [e]; rfl]
    repeat' (first | refine ze ?_)
    show AWp _ _ _ _
    repeat' (first | ((apply f_wo); first | ((apply f_mv); first | refine zv (v := .c _) ?_ | refine za ?_) | ((apply f_as); first | refine zt (v := .c _) ?_ | refine za ?_) | ((apply zn1); first | refine zi2 ?_ | refine za ?_) | ((apply zm1); first | refine zh ?_ | refine za ?_) | ((apply zj1); first | refine zg ?_ | refine zi1 ?_ | refine za ?_) | refine zn2 ?_ | refine zo2 ?_ | refine zp2 ?_ | refine za ?_ | refine n_mv ?_) | ((apply f_w); first | refine zx ?_ | refine zd ?_) | refine zb fun C => ?_ | refine zj ?_ | refine zc ?_ | refine ze ?_ | refine zf ?_ | refine zp rfl ?_ | refine zq rfl ?_)
    refine zw ?_; refine ret0 rfl zu1 ⟨?_, rfl⟩; rfl
  have a1 : s ≠ ⟨#[60, 61]⟩ := zc9 hC
  repeat' (first | ((apply f_wo); first | ((apply f_mv); first | refine zv (v := .c _) ?_ | refine za ?_) | ((apply f_as); first | refine zt (v := .c _) ?_ | refine za ?_) | ((apply zn1); first | refine zi2 ?_ | refine za ?_) | ((apply zm1); first | refine zh ?_ | refine za ?_) | ((apply zj1); first | refine zg ?_ | refine zi1 ?_ | refine za ?_) | refine zn2 ?_ | refine zo2 ?_ | refine zp2 ?_ | refine za ?_ | refine n_mv ?_) | ((apply f_w); first | refine zx ?_ | refine zd ?_) | refine zb fun C => ?_ | refine zj ?_ | refine zc ?_ | refine ze ?_ | refine zf ?_)
  refine zr (by rfl) (fun hC => ?_) fun hC => ?_
  · have e : s = ⟨#[61, 61]⟩ := zs6 hC
    rw [show markB s = true by rw [e]; rfl]
    repeat' (first | refine ze ?_)
    show AWp _ _ _ _
    repeat' (first | ((apply f_wo); first | ((apply f_mv); first | refine zv (v := .c _) ?_ | refine za ?_) | ((apply f_as); first | refine zt (v := .c _) ?_ | refine za ?_) | ((apply zn1); first | refine zi2 ?_ | refine za ?_) | ((apply zm1); first | refine zh ?_ | refine za ?_) | ((apply zj1); first | refine zg ?_ | refine zi1 ?_ | refine za ?_) | refine zn2 ?_ | refine zo2 ?_ | refine zp2 ?_ | refine za ?_ | refine n_mv ?_) | ((apply f_w); first | refine zx ?_ | refine zd ?_) | refine zb fun C => ?_ | refine zj ?_ | refine zc ?_ | refine ze ?_ | refine zf ?_ | refine zp rfl ?_ | refine zq rfl ?_)
    refine zw ?_; refine ret0 rfl zu1 ⟨?_, rfl⟩; rfl
  have a2 : s ≠ ⟨#[61, 61]⟩ := zc9 hC
  repeat' (first | ((apply f_wo); first | ((apply f_mv); first | refine zv (v := .c _) ?_ | refine za ?_) | ((apply f_as); first | refine zt (v := .c _) ?_ | refine za ?_) | ((apply zn1); first | refine zi2 ?_ | refine za ?_) | ((apply zm1); first | refine zh ?_ | refine za ?_) | ((apply zj1); first | refine zg ?_ | refine zi1 ?_ | refine za ?_) | refine zn2 ?_ | refine zo2 ?_ | refine zp2 ?_ | refine za ?_ | refine n_mv ?_) | ((apply f_w); first | refine zx ?_ | refine zd ?_) | refine zb fun C => ?_ | refine zj ?_ | refine zc ?_ | refine ze ?_ | refine zf ?_)
  refine zr (by rfl) (fun hC => ?_) fun hC => ?_
  · have e : s = ⟨#[33, 61]⟩ := zs6 hC
    rw [show markB s = true by rw [e]; rfl]
    repeat' (first | refine ze ?_)
    show AWp _ _ _ _
    repeat' (first | ((apply f_wo); first | ((apply f_mv); first | refine zv (v := .c _) ?_ | refine za ?_) | ((apply f_as); first | refine zt (v := .c _) ?_ | refine za ?_) | ((apply zn1); first | refine zi2 ?_ | refine za ?_) | ((apply zm1); first | refine zh ?_ | refine za ?_) | ((apply zj1); first | refine zg ?_ | refine zi1 ?_ | refine za ?_) | refine zn2 ?_ | refine zo2 ?_ | refine zp2 ?_ | refine za ?_ | refine n_mv ?_) | ((apply f_w); first | refine zx ?_ | refine zd ?_) | refine zb fun C => ?_ | refine zj ?_ | refine zc ?_ | refine ze ?_ | refine zf ?_ | refine zp rfl ?_ | refine zq rfl ?_)
    refine zw ?_; refine ret0 rfl zu1 ⟨?_, rfl⟩; rfl
  have a3 : s ≠ ⟨#[33, 61]⟩ := zc9 hC
  repeat' (first | ((apply f_wo); first | ((apply f_mv); first | refine zv (v := .c _) ?_ | refine za ?_) | ((apply f_as); first | refine zt (v := .c _) ?_ | refine za ?_) | ((apply zn1); first | refine zi2 ?_ | refine za ?_) | ((apply zm1); first | refine zh ?_ | refine za ?_) | ((apply zj1); first | refine zg ?_ | refine zi1 ?_ | refine za ?_) | refine zn2 ?_ | refine zo2 ?_ | refine zp2 ?_ | refine za ?_ | refine n_mv ?_) | ((apply f_w); first | refine zx ?_ | refine zd ?_) | refine zb fun C => ?_ | refine zj ?_ | refine zc ?_ | refine ze ?_ | refine zf ?_)
  refine zr (by rfl) (fun hC => ?_) fun hC => ?_
  · have e : s = ⟨#[62, 61]⟩ := zs6 hC
    rw [show markB s = true by rw [e]; rfl]
    repeat' (first | refine ze ?_)
    show AWp _ _ _ _
    repeat' (first | ((apply f_wo); first | ((apply f_mv); first | refine zv (v := .c _) ?_ | refine za ?_) | ((apply f_as); first | refine zt (v := .c _) ?_ | refine za ?_) | ((apply zn1); first | refine zi2 ?_ | refine za ?_) | ((apply zm1); first | refine zh ?_ | refine za ?_) | ((apply zj1); first | refine zg ?_ | refine zi1 ?_ | refine za ?_) | refine zn2 ?_ | refine zo2 ?_ | refine zp2 ?_ | refine za ?_ | refine n_mv ?_) | ((apply f_w); first | refine zx ?_ | refine zd ?_) | refine zb fun C => ?_ | refine zj ?_ | refine zc ?_ | refine ze ?_ | refine zf ?_ | refine zp rfl ?_ | refine zq rfl ?_)
    refine zw ?_; refine ret0 rfl zu1 ⟨?_, rfl⟩; rfl
  have a4 : s ≠ ⟨#[62, 61]⟩ := zc9 hC
  repeat' (first | ((apply f_wo); first | ((apply f_mv); first | refine zv (v := .c _) ?_ | refine za ?_) | ((apply f_as); first | refine zt (v := .c _) ?_ | refine za ?_) | ((apply zn1); first | refine zi2 ?_ | refine za ?_) | ((apply zm1); first | refine zh ?_ | refine za ?_) | ((apply zj1); first | refine zg ?_ | refine zi1 ?_ | refine za ?_) | refine zn2 ?_ | refine zo2 ?_ | refine zp2 ?_ | refine za ?_ | refine n_mv ?_) | ((apply f_w); first | refine zx ?_ | refine zd ?_) | refine zb fun C => ?_ | refine zj ?_ | refine zc ?_ | refine ze ?_ | refine zf ?_)
  refine zr (by rfl) (fun hC => ?_) fun hC => ?_
  · have e : s = ⟨#[38, 38]⟩ := zs6 hC
    rw [show markB s = true by rw [e]; rfl]
    repeat' (first | refine ze ?_)
    show AWp _ _ _ _
    repeat' (first | ((apply f_wo); first | ((apply f_mv); first | refine zv (v := .c _) ?_ | refine za ?_) | ((apply f_as); first | refine zt (v := .c _) ?_ | refine za ?_) | ((apply zn1); first | refine zi2 ?_ | refine za ?_) | ((apply zm1); first | refine zh ?_ | refine za ?_) | ((apply zj1); first | refine zg ?_ | refine zi1 ?_ | refine za ?_) | refine zn2 ?_ | refine zo2 ?_ | refine zp2 ?_ | refine za ?_ | refine n_mv ?_) | ((apply f_w); first | refine zx ?_ | refine zd ?_) | refine zb fun C => ?_ | refine zj ?_ | refine zc ?_ | refine ze ?_ | refine zf ?_ | refine zp rfl ?_ | refine zq rfl ?_)
    refine zw ?_; refine ret0 rfl zu1 ⟨?_, rfl⟩; rfl
  have a5 : s ≠ ⟨#[38, 38]⟩ := zc9 hC
  repeat' (first | ((apply f_wo); first | ((apply f_mv); first | refine zv (v := .c _) ?_ | refine za ?_) | ((apply f_as); first | refine zt (v := .c _) ?_ | refine za ?_) | ((apply zn1); first | refine zi2 ?_ | refine za ?_) | ((apply zm1); first | refine zh ?_ | refine za ?_) | ((apply zj1); first | refine zg ?_ | refine zi1 ?_ | refine za ?_) | refine zn2 ?_ | refine zo2 ?_ | refine zp2 ?_ | refine za ?_ | refine n_mv ?_) | ((apply f_w); first | refine zx ?_ | refine zd ?_) | refine zb fun C => ?_ | refine zj ?_ | refine zc ?_ | refine ze ?_ | refine zf ?_)
  refine zr (by rfl) (fun hC => ?_) fun hC => ?_
  · have e : s = ⟨#[124, 124]⟩ := zs6 hC
    rw [show markB s = true by rw [e]; rfl]
    repeat' (first | refine ze ?_)
    show AWp _ _ _ _
    repeat' (first | ((apply f_wo); first | ((apply f_mv); first | refine zv (v := .c _) ?_ | refine za ?_) | ((apply f_as); first | refine zt (v := .c _) ?_ | refine za ?_) | ((apply zn1); first | refine zi2 ?_ | refine za ?_) | ((apply zm1); first | refine zh ?_ | refine za ?_) | ((apply zj1); first | refine zg ?_ | refine zi1 ?_ | refine za ?_) | refine zn2 ?_ | refine zo2 ?_ | refine zp2 ?_ | refine za ?_ | refine n_mv ?_) | ((apply f_w); first | refine zx ?_ | refine zd ?_) | refine zb fun C => ?_ | refine zj ?_ | refine zc ?_ | refine ze ?_ | refine zf ?_ | refine zp rfl ?_ | refine zq rfl ?_)
    refine zw ?_; refine ret0 rfl zu1 ⟨?_, rfl⟩; rfl
  have a6 : s ≠ ⟨#[124, 124]⟩ := zc9 hC
  repeat' (first | ((apply f_wo); first | ((apply f_mv); first | refine zv (v := .c _) ?_ | refine za ?_) | ((apply f_as); first | refine zt (v := .c _) ?_ | refine za ?_) | ((apply zn1); first | refine zi2 ?_ | refine za ?_) | ((apply zm1); first | refine zh ?_ | refine za ?_) | ((apply zj1); first | refine zg ?_ | refine zi1 ?_ | refine za ?_) | refine zn2 ?_ | refine zo2 ?_ | refine zp2 ?_ | refine za ?_ | refine n_mv ?_) | ((apply f_w); first | refine zx ?_ | refine zd ?_) | refine zb fun C => ?_ | refine zj ?_ | refine zc ?_ | refine ze ?_ | refine zf ?_)
  have h20 : (⟨#[123, 125, 40, 41, 91, 93, 44, 59, 36, 43, 45, 42, 47, 37, 46, 60, 62, 33, 126, 61]⟩ : ByteArray).size = 20 := rfl
  refine zb3 (fun k : Nat => ⟨tmsF [(0, .c (.v (.string s))), (3, .c (.v (.int .i64 (k : Int))))], hpsF [], 0, [], 22⟩)
    (fun N k => k + N = 20 ∧ ∀ j, j < k → s ≠ cutB onesS j (j + 1)) 20 0 ⟨by omega, fun j hj => absurd hj (Nat.not_lt_zero j)⟩ ?_ ?_
  · (refine ze2 _ _ rfl rfl ?_ ?_ <;> (repeat' (first | exact TmOk.nil | exact RwOk.nil | refine TmOk.cons ?_ ?_ | refine RwOk.cons ?_ ?_ | rfl | (refine rnV_id' rfl ?_; (first | rfl | (simp [cloV, cloL, clo, zn, zm, zo, zk, zi]; done))) | (refine zk2 ?_; first | rfl | omega | (rw [zp1 (by omega) (by omega)]; omega)) | (refine ze1 rfl ?_; (first | rfl | (simp [cloV, cloL, clo, zn, zm, zo, zk, zi]; done))) | exact zg3 rfl rfl | (refine zl2 (by rfl) (by rfl) ?_ ?_ <;> (first | rfl | (simp [cloV, cloL, clo, zn, zm, zo, zk, zi]; done))) | (refine rw_rn' rfl rfl ?_; simp; done))))
  rintro N k ⟨hN, hr⟩
  try dsimp only
  have hk1 : (k : Int) + 1 = ((k + 1 : Nat) : Int) := by omega
  repeat' (first | ((apply f_wo); first | ((apply f_mv); first | refine zv (v := .c _) ?_ | refine za ?_) | ((apply f_as); first | refine zt (v := .c _) ?_ | refine za ?_) | ((apply zn1); first | refine zi2 ?_ | refine za ?_) | ((apply zm1); first | refine zh ?_ | refine za ?_) | ((apply zj1); first | refine zg ?_ | refine zi1 ?_ | refine za ?_) | refine zn2 ?_ | refine zo2 ?_ | refine zp2 ?_ | refine za ?_ | refine n_mv ?_) | ((apply f_w); first | refine zx ?_ | refine zd ?_) | refine zb fun C => ?_ | refine zj ?_ | refine zc ?_ | refine ze ?_ | refine zf ?_)
  refine zr (by rfl) (fun hk => ?_) fun hk => ?_
  · have hk' : k < 20 := by simp at hk; omega
    have hk2 : k + 1 ≤ (⟨#[123, 125, 40, 41, 91, 93, 44, 59, 36, 43, 45, 42, 47, 37, 46, 60, 62, 33, 126, 61]⟩ : ByteArray).size := by rw [h20]; omega
    repeat' (first | ((apply f_wo); first | ((apply f_mv); first | refine zv (v := .c _) ?_ | refine za ?_) | ((apply f_as); first | refine zt (v := .c _) ?_ | refine za ?_) | ((apply zn1); first | refine zi2 ?_ | refine za ?_) | ((apply zm1); first | refine zh ?_ | refine za ?_) | ((apply zj1); first | refine zg ?_ | refine zi1 ?_ | refine za ?_) | refine zn2 ?_ | refine zo2 ?_ | refine zp2 ?_ | refine za ?_ | refine n_mv ?_) | ((apply f_w); first | refine zx ?_ | refine zd ?_) | refine zb fun C => ?_ | refine zj ?_ | refine zc ?_ | refine ze ?_ | refine zf ?_)
    refine zr (by rfl) (fun hC => ?_) fun hC => ?_
    · have e : s = cutB onesS k (k + 1) := zs6 hC
      rw [show markB s = true by rw [e]; exact zi19 hk']
      repeat' (first | ((apply f_wo); first | ((apply f_mv); first | refine zv (v := .c _) ?_ | refine za ?_) | ((apply f_as); first | refine zt (v := .c _) ?_ | refine za ?_) | ((apply zn1); first | refine zi2 ?_ | refine za ?_) | ((apply zm1); first | refine zh ?_ | refine za ?_) | ((apply zj1); first | refine zg ?_ | refine zi1 ?_ | refine za ?_) | refine zn2 ?_ | refine zo2 ?_ | refine zp2 ?_ | refine za ?_ | refine n_mv ?_) | ((apply f_w); first | refine zx ?_ | refine zd ?_) | refine zb fun C => ?_ | refine zj ?_ | refine zc ?_ | refine ze ?_ | refine zf ?_ | refine zp rfl ?_ | refine zq rfl ?_)
      refine zw ?_; refine ret0 rfl zu1 ⟨?_, rfl⟩; rfl
    · have e : s ≠ cutB onesS k (k + 1) := zc9 hC
      repeat' (first | ((apply f_wo); first | ((apply f_mv); first | refine zv (v := .c _) ?_ | refine za ?_) | ((apply f_as); first | refine zt (v := .c _) ?_ | refine za ?_) | ((apply zn1); first | refine zi2 ?_ | refine za ?_) | ((apply zm1); first | refine zh ?_ | refine za ?_) | ((apply zj1); first | refine zg ?_ | refine zi1 ?_ | refine za ?_) | refine zn2 ?_ | refine zo2 ?_ | refine zp2 ?_ | refine za ?_ | refine n_mv ?_) | ((apply f_w); first | refine zx ?_ | refine zd ?_) | refine zb fun C => ?_ | refine zj ?_ | refine zc ?_ | refine ze ?_ | refine zf ?_ | refine zp rfl ?_ | refine zq rfl ?_)
      refine ⟨N - 1, k + 1, by omega, ⟨by omega, fun j hj => ?_⟩, ?_⟩
      · by_cases e2 : j = k
        · subst e2; exact e
        · exact hr j (by omega)
      · (refine ze2 _ _ rfl rfl ?_ ?_ <;> (repeat' (first | exact TmOk.nil | exact RwOk.nil | refine TmOk.cons ?_ ?_ | refine RwOk.cons ?_ ?_ | rfl | (refine rnV_id' rfl ?_; (first | rfl | (simp [cloV, cloL, clo, zn, zm, zo, zk, zi]; done))) | (refine zk2 ?_; first | rfl | omega | (rw [zp1 (by omega) (by omega)]; omega)) | (refine ze1 rfl ?_; (first | rfl | (simp [cloV, cloL, clo, zn, zm, zo, zk, zi]; done))) | exact zg3 rfl rfl | (refine zl2 (by rfl) (by rfl) ?_ ?_ <;> (first | rfl | (simp [cloV, cloL, clo, zn, zm, zo, zk, zi]; done))) | (refine rw_rn' rfl rfl ?_; simp; done))))
  · have hk' : ¬ k < 20 := by simp at hk; omega
    rw [ze22 a1 a2 a3 a4 a5 a6 fun j hj => hr j (by omega)]
    repeat' (first | ((apply f_wo); first | ((apply f_mv); first | refine zv (v := .c _) ?_ | refine za ?_) | ((apply f_as); first | refine zt (v := .c _) ?_ | refine za ?_) | ((apply zn1); first | refine zi2 ?_ | refine za ?_) | ((apply zm1); first | refine zh ?_ | refine za ?_) | ((apply zj1); first | refine zg ?_ | refine zi1 ?_ | refine za ?_) | refine zn2 ?_ | refine zo2 ?_ | refine zp2 ?_ | refine za ?_ | refine n_mv ?_) | ((apply f_w); first | refine zx ?_ | refine zd ?_) | refine zb fun C => ?_ | refine zj ?_ | refine zc ?_ | refine ze ?_ | refine zf ?_ | refine zp rfl ?_ | refine zq rfl ?_)
    refine zw ?_; refine ret0 rfl zu1 ⟨?_, rfl⟩; rfl
theorem zc7 {s : ByteArray} : (s.toList == (ByteArray.mk #[]).toList) = decide (s.size = 0) := by
  rw [zz4]
  apply decide_eq_decide.2
  constructor
  · rintro rfl; rfl
  · intro h
    exact zf6 h fun j hj => absurd hj (by omega)
theorem zd7 {s : ByteArray} (hs : s.size ≤ 1048576) (k n : Int) : Ctr Tryd.prog 33 [.ag [.v (.int .i64 k), .v (.int .i64 n), .v (.string s)]] [] (.c (.v (.bool (tokOk k n s)))) [] := by
  have c1 := zp9 n 0 2147483647
  have c2 := za19 hs
  have c3 := zg11 hs (b := 39) (by omega)
  have c4 := zg11 hs (b := 47) (by omega)
  have c5 := zp13 s
  refine za2 Tryd.func33 rfl rfl ?_
  by_cases k1 : k = 1
  · subst k1
    rw [show tokOk 1 n s = (inR n 0 2147483647 && decide (s.size = 0)) by simp [tokOk, inR, Bool.and_assoc]]
    generalize inR n 0 2147483647 = b at c1 ⊢
    cases b
    · repeat' (first | ((apply f_wo); first | ((apply f_gs); first | refine n_sk ?_) | ((apply f_mv); first | (refine zq1 ?_ ?_ <;> intro hG <;> (try cases hG)) | refine zv (v := .c _) ?_ | refine za ?_) | ((apply f_as); first | refine zt (v := .c _) ?_ | refine za ?_) | ((apply f_fa); first | refine n_fa ?_ | refine zx3 ?_) | ((apply f_ld); first | refine zp3 ?_ | refine zs2 ?_ | refine n_ld ?_) | ((apply f_ca); first | refine zk1 (c1) ?_ | refine zh1 (c1) ?_) | ((apply zn1); first | refine zu ?_ | refine zi2 ?_ | refine za ?_) | ((apply zx2); first | refine zb2 ?_ | refine za ?_) | ((apply f_pk); first | refine zg1 (v := .c _) ?_ | refine za ?_) | refine n_bo ?_ | refine za ?_) | ((apply f_w); first | refine zx ?_ | refine zd ?_) | refine zb fun C => ?_ | refine zj ?_ | refine zc ?_ | refine ze ?_ | refine zf ?_ | refine zp rfl ?_ | refine zq rfl ?_)
      refine zw ?_; refine ret0 rfl zu1 ⟨?_, rfl⟩; rfl
    · rw [← zc7]
      repeat' (first | ((apply f_wo); first | ((apply f_gs); first | refine n_sk ?_) | ((apply f_mv); first | (refine zq1 ?_ ?_ <;> intro hG <;> (try cases hG)) | refine zv (v := .c _) ?_ | refine za ?_) | ((apply f_as); first | refine zt (v := .c _) ?_ | refine za ?_) | ((apply f_fa); first | refine n_fa ?_ | refine zx3 ?_) | ((apply f_ld); first | refine zp3 ?_ | refine zs2 ?_ | refine n_ld ?_) | ((apply f_ca); first | refine zk1 (c1) ?_ | refine zh1 (c1) ?_) | ((apply zn1); first | refine zu ?_ | refine zi2 ?_ | refine za ?_) | ((apply zx2); first | refine zb2 ?_ | refine za ?_) | ((apply f_pk); first | refine zg1 (v := .c _) ?_ | refine za ?_) | refine n_bo ?_ | refine za ?_) | ((apply f_w); first | refine zx ?_ | refine zd ?_) | refine zb fun C => ?_ | refine zj ?_ | refine zc ?_ | refine ze ?_ | refine zf ?_ | refine zp rfl ?_ | refine zq rfl ?_)
      refine zw ?_; refine ret0 rfl zu1 ⟨?_, rfl⟩; rfl
  by_cases k2 : k = 2
  · subst k2
    rw [show tokOk 2 n s = (nameW s && decide (n = 0)) by simp [tokOk]]
    generalize nameW s = b at c2 ⊢
    cases b
    · repeat' (first | ((apply f_wo); first | ((apply f_gs); first | refine n_sk ?_) | ((apply f_mv); first | (refine zq1 ?_ ?_ <;> intro hG <;> (try cases hG)) | refine zv (v := .c _) ?_ | refine za ?_) | ((apply f_as); first | refine zt (v := .c _) ?_ | refine za ?_) | ((apply f_fa); first | refine n_fa ?_ | refine zx3 ?_) | ((apply f_ld); first | refine zp3 ?_ | refine zs2 ?_ | refine n_ld ?_) | ((apply f_ca); first | refine zk1 (c2) ?_ | refine zh1 (c2) ?_) | ((apply zn1); first | refine zu ?_ | refine zi2 ?_ | refine za ?_) | ((apply zx2); first | refine zb2 ?_ | refine za ?_) | ((apply f_pk); first | refine zg1 (v := .c _) ?_ | refine za ?_) | refine n_bo ?_ | refine za ?_) | ((apply f_w); first | refine zx ?_ | refine zd ?_) | refine zb fun C => ?_ | refine zj ?_ | refine zc ?_ | refine ze ?_ | refine zf ?_ | refine zp rfl ?_ | refine zq rfl ?_)
      refine zw ?_; refine ret0 rfl zu1 ⟨?_, rfl⟩; rfl
    · repeat' (first | ((apply f_wo); first | ((apply f_gs); first | refine n_sk ?_) | ((apply f_mv); first | (refine zq1 ?_ ?_ <;> intro hG <;> (try cases hG)) | refine zv (v := .c _) ?_ | refine za ?_) | ((apply f_as); first | refine zt (v := .c _) ?_ | refine za ?_) | ((apply f_fa); first | refine n_fa ?_ | refine zx3 ?_) | ((apply f_ld); first | refine zp3 ?_ | refine zs2 ?_ | refine n_ld ?_) | ((apply f_ca); first | refine zk1 (c2) ?_ | refine zh1 (c2) ?_) | ((apply zn1); first | refine zu ?_ | refine zi2 ?_ | refine za ?_) | ((apply zx2); first | refine zb2 ?_ | refine za ?_) | ((apply f_pk); first | refine zg1 (v := .c _) ?_ | refine za ?_) | refine n_bo ?_ | refine za ?_) | ((apply f_w); first | refine zx ?_ | refine zd ?_) | refine zb fun C => ?_ | refine zj ?_ | refine zc ?_ | refine ze ?_ | refine zf ?_ | refine zp rfl ?_ | refine zq rfl ?_)
      refine zw ?_; refine ret0 rfl zu1 ⟨?_, rfl⟩; rfl
  by_cases k3 : k = 3
  · subst k3
    rw [show tokOk 3 n s = (textB 39 s && decide (n = 0)) by simp [tokOk]]
    generalize textB 39 s = b at c3 ⊢
    cases b
    · repeat' (first | ((apply f_wo); first | ((apply f_gs); first | refine n_sk ?_) | ((apply f_mv); first | (refine zq1 ?_ ?_ <;> intro hG <;> (try cases hG)) | refine zv (v := .c _) ?_ | refine za ?_) | ((apply f_as); first | refine zt (v := .c _) ?_ | refine za ?_) | ((apply f_fa); first | refine n_fa ?_ | refine zx3 ?_) | ((apply f_ld); first | refine zp3 ?_ | refine zs2 ?_ | refine n_ld ?_) | ((apply f_ca); first | refine zk1 (c3) ?_ | refine zh1 (c3) ?_) | ((apply zn1); first | refine zu ?_ | refine zi2 ?_ | refine za ?_) | ((apply zx2); first | refine zb2 ?_ | refine za ?_) | ((apply f_pk); first | refine zg1 (v := .c _) ?_ | refine za ?_) | refine n_bo ?_ | refine za ?_) | ((apply f_w); first | refine zx ?_ | refine zd ?_) | refine zb fun C => ?_ | refine zj ?_ | refine zc ?_ | refine ze ?_ | refine zf ?_ | refine zp rfl ?_ | refine zq rfl ?_)
      refine zw ?_; refine ret0 rfl zu1 ⟨?_, rfl⟩; rfl
    · repeat' (first | ((apply f_wo); first | ((apply f_gs); first | refine n_sk ?_) | ((apply f_mv); first | (refine zq1 ?_ ?_ <;> intro hG <;> (try cases hG)) | refine zv (v := .c _) ?_ | refine za ?_) | ((apply f_as); first | refine zt (v := .c _) ?_ | refine za ?_) | ((apply f_fa); first | refine n_fa ?_ | refine zx3 ?_) | ((apply f_ld); first | refine zp3 ?_ | refine zs2 ?_ | refine n_ld ?_) | ((apply f_ca); first | refine zk1 (c3) ?_ | refine zh1 (c3) ?_) | ((apply zn1); first | refine zu ?_ | refine zi2 ?_ | refine za ?_) | ((apply zx2); first | refine zb2 ?_ | refine za ?_) | ((apply f_pk); first | refine zg1 (v := .c _) ?_ | refine za ?_) | refine n_bo ?_ | refine za ?_) | ((apply f_w); first | refine zx ?_ | refine zd ?_) | refine zb fun C => ?_ | refine zj ?_ | refine zc ?_ | refine ze ?_ | refine zf ?_ | refine zp rfl ?_ | refine zq rfl ?_)
      refine zw ?_; refine ret0 rfl zu1 ⟨?_, rfl⟩; rfl
  by_cases k4 : k = 4
  · subst k4
    rw [show tokOk 4 n s = (textB 47 s && (!(decide (s.size = 0)) && decide (n = 0))) by rw [show (!(decide (s.size = 0))) = decide (1 ≤ s.size) by rw [← decide_not]; exact decide_eq_decide.2 (by omega)]; simp [tokOk], ← zc7]
    generalize textB 47 s = b at c4 ⊢
    generalize hq : (s.toList == (ByteArray.mk #[]).toList) = q
    cases b
    · repeat' (first | ((apply f_wo); first | ((apply f_gs); first | refine n_sk ?_) | ((apply f_mv); first | (refine zq1 ?_ ?_ <;> intro hG <;> (try cases hG)) | refine zv (v := .c _) ?_ | refine za ?_) | ((apply f_as); first | refine zt (v := .c _) ?_ | refine za ?_) | ((apply f_fa); first | refine n_fa ?_ | refine zx3 ?_) | ((apply f_ld); first | refine zp3 ?_ | refine zs2 ?_ | refine n_ld ?_) | ((apply f_ca); first | refine zk1 (c4) ?_ | refine zh1 (c4) ?_) | ((apply zn1); first | refine zu ?_ | refine zi2 ?_ | refine za ?_) | ((apply zx2); first | refine zb2 ?_ | refine za ?_) | ((apply f_pk); first | refine zg1 (v := .c _) ?_ | refine za ?_) | refine n_bo ?_ | refine za ?_) | ((apply f_w); first | refine zx ?_ | refine zd ?_) | refine zb fun C => ?_ | refine zj ?_ | refine zc ?_ | refine ze ?_ | refine zf ?_ | refine zp rfl ?_ | refine zq rfl ?_)
      refine zw ?_; refine ret0 rfl zu1 ⟨?_, rfl⟩; rfl
    · repeat' (first | ((apply f_wo); first | ((apply f_gs); first | refine n_sk ?_) | ((apply f_mv); first | (refine zq1 ?_ ?_ <;> intro hG <;> (try cases hG)) | refine zv (v := .c _) ?_ | refine za ?_) | ((apply f_as); first | refine zt (v := .c _) ?_ | refine za ?_) | ((apply f_fa); first | refine n_fa ?_ | refine zx3 ?_) | ((apply f_ld); first | refine zp3 ?_ | refine zs2 ?_ | refine n_ld ?_) | ((apply f_ca); first | refine zk1 (c4) ?_ | refine zh1 (c4) ?_) | ((apply zn1); first | refine zu ?_ | refine zi2 ?_ | refine za ?_) | ((apply zx2); first | refine zb2 ?_ | refine za ?_) | ((apply f_pk); first | refine zg1 (v := .c _) ?_ | refine za ?_) | refine n_bo ?_ | refine za ?_) | ((apply f_w); first | refine zx ?_ | refine zd ?_) | refine zb fun C => ?_ | refine zj ?_ | refine zc ?_ | refine ze ?_ | refine zf ?_ | (refine zr (by rfl) ?_ ?_ <;> intro hC <;> (try cases hC)))
      all_goals first
        | (cases q <;> simp_all; done)
        | ((first | refine zw ?_ | skip); refine ret0 rfl zu1 ⟨?_, rfl⟩; refine congrArg (fun s => AV.c (AC.v (Value.bool s))) ?_; cases q <;> simp_all; done)
        | ((first | refine zw ?_ | skip); refine ret0 rfl zu1 ⟨?_, rfl⟩; refine congrArg (fun s => AV.c (AC.v (Value.bool s))) ?_; cases q <;> simp_all <;> (rw [Bool.eq_iff_iff]; simp))
  by_cases k5 : k = 5
  · subst k5
    rw [show tokOk 5 n s = (markB s && decide (n = 0)) by simp [tokOk]]
    generalize markB s = b at c5 ⊢
    cases b
    · repeat' (first | ((apply f_wo); first | ((apply f_gs); first | refine n_sk ?_) | ((apply f_mv); first | (refine zq1 ?_ ?_ <;> intro hG <;> (try cases hG)) | refine zv (v := .c _) ?_ | refine za ?_) | ((apply f_as); first | refine zt (v := .c _) ?_ | refine za ?_) | ((apply f_fa); first | refine n_fa ?_ | refine zx3 ?_) | ((apply f_ld); first | refine zp3 ?_ | refine zs2 ?_ | refine n_ld ?_) | ((apply f_ca); first | refine zk1 (c5) ?_ | refine zh1 (c5) ?_) | ((apply zn1); first | refine zu ?_ | refine zi2 ?_ | refine za ?_) | ((apply zx2); first | refine zb2 ?_ | refine za ?_) | ((apply f_pk); first | refine zg1 (v := .c _) ?_ | refine za ?_) | refine n_bo ?_ | refine za ?_) | ((apply f_w); first | refine zx ?_ | refine zd ?_) | refine zb fun C => ?_ | refine zj ?_ | refine zc ?_ | refine ze ?_ | refine zf ?_ | refine zp rfl ?_ | refine zq rfl ?_)
      refine zw ?_; refine ret0 rfl zu1 ⟨?_, rfl⟩; rfl
    · repeat' (first | ((apply f_wo); first | ((apply f_gs); first | refine n_sk ?_) | ((apply f_mv); first | (refine zq1 ?_ ?_ <;> intro hG <;> (try cases hG)) | refine zv (v := .c _) ?_ | refine za ?_) | ((apply f_as); first | refine zt (v := .c _) ?_ | refine za ?_) | ((apply f_fa); first | refine n_fa ?_ | refine zx3 ?_) | ((apply f_ld); first | refine zp3 ?_ | refine zs2 ?_ | refine n_ld ?_) | ((apply f_ca); first | refine zk1 (c5) ?_ | refine zh1 (c5) ?_) | ((apply zn1); first | refine zu ?_ | refine zi2 ?_ | refine za ?_) | ((apply zx2); first | refine zb2 ?_ | refine za ?_) | ((apply f_pk); first | refine zg1 (v := .c _) ?_ | refine za ?_) | refine n_bo ?_ | refine za ?_) | ((apply f_w); first | refine zx ?_ | refine zd ?_) | refine zb fun C => ?_ | refine zj ?_ | refine zc ?_ | refine ze ?_ | refine zf ?_ | refine zp rfl ?_ | refine zq rfl ?_)
      refine zw ?_; refine ret0 rfl zu1 ⟨?_, rfl⟩; rfl
  rw [show tokOk k n s = false by simp [tokOk, k1, k2, k3, k4, k5]]
  repeat' (first | ((apply f_wo); first | ((apply f_gs); first | refine n_sk ?_) | ((apply f_mv); first | (refine zq1 ?_ ?_ <;> intro hG <;> (try cases hG)) | refine zv (v := .c _) ?_ | refine za ?_) | ((apply f_as); first | refine zt (v := .c _) ?_ | refine za ?_) | ((apply f_fa); first | refine n_fa ?_ | refine zx3 ?_) | ((apply f_ld); first | refine zp3 ?_ | refine zs2 ?_ | refine n_ld ?_) | ((apply zn1); first | refine zu ?_ | refine zi2 ?_ | refine za ?_) | ((apply zx2); first | refine zb2 ?_ | refine za ?_) | ((apply f_pk); first | refine zg1 (v := .c _) ?_ | refine za ?_) | refine n_bo ?_ | refine za ?_) | ((apply f_w); first | refine zx ?_ | refine zd ?_) | refine zb fun C => ?_ | refine zj ?_ | refine zc ?_ | refine ze ?_ | refine zf ?_ | (refine zr (by rfl) ?_ ?_ <;> intro hC <;> (try cases hC)))
  all_goals first
    | (exfalso; simp_all; done)
    | (refine zw ?_; refine ret0 rfl zu1 ⟨?_, rfl⟩; rfl)
end Go.Proofs.YtnlgmojciplnoaaDoor
