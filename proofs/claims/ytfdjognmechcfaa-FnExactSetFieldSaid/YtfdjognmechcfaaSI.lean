/- SetField: type and size of what comes back. -/
import Derived.Test.YtfdjognmechcfaaSH
namespace Go.Proofs.Ytfdjognmechcfaa
open Go.RowKit
theorem splW_le {s : ByteArray} : ∀ (f i fr : Nat), ∀ x ∈ splW s f i fr, x.size ≤ s.size
  | 0, _, _, x, h => absurd h List.not_mem_nil
  | f + 1, i, fr, x, h => by
    unfold splW at h
    split at h
    · exact splW_le f _ _ x h
    · rcases List.mem_append.1 h with h | h
      · split at h
        · obtain rfl := List.mem_singleton.1 h
          rw [ByteArray.size_extract]; omega
        · exact absurd h List.not_mem_nil
      · exact splW_le f _ _ x h
theorem recF_le {s x : ByteArray} (h : x ∈ recF s) : x.size ≤ 200 := by
  have h1 := splW_le _ _ _ x (List.mem_of_mem_take h)
  have h2 := recT_size s
  omega
theorem szL_bound {B : Nat} : ∀ {l : List E}, (∀ x ∈ l, x.sz ≤ B) → E.szL l ≤ l.length * B
  | [], _ => Nat.zero_le _
  | x :: r, h => by
    have h1 := h x List.mem_cons_self
    have h2 := szL_bound fun y hy => h y (List.mem_cons_of_mem _ hy)
    simp only [E.szL, List.length_cons, Nat.add_mul, Nat.one_mul]; omega
theorem sz_str {x : E} (h : x.Ty Try.prog 9) : x.sz = (strB x).size := by
  obtain ⟨s, rfl, -⟩ := h.str_ Try.underlying9; rfl
theorem recE_Ty {s : ByteArray} {l : List E} (hs : s.size ≤ 1048576) (hl : ∀ x ∈ l, x.Ty Try.prog 9) : (recE s l).Ty Try.prog 26 := by
  have hk : ∀ x ∈ l, x.enc.length = 1 := fun x hx => by obtain ⟨t, rfl⟩ := strsE_str hl x hx; rfl
  exact E.Ty.mk_agg Try.underlying26 (E.TyF.mk_cons (by simp only [E.Ty]; exact ⟨Try.underlying9, by unfold maxLen; omega⟩) (E.TyF.mk_cons (E.Ty.mk_lst Try.underlying22 (by kernel_rfl) hl hk) E.TyF.mk_nil))
theorem recF_str (s : ByteArray) : ∀ x ∈ strsE (recF s), x.Ty Try.prog 9 := fun x hx => by
  obtain ⟨t, ht, rfl⟩ := List.mem_map.1 hx
  have := recF_le ht
  simp only [E.Ty]
  exact ⟨Try.underlying9, by unfold maxLen; omega⟩
theorem setFE_cases (e : E) (n : Int) (s : ByteArray) : setFE e n s = e ∨ setFE e n s = recE (recT s) (strsE (recF s)) ∨
    (∃ k : Nat, s.size ≤ 200 ∧ k < 20 ∧ recOkE (lineE e) (fldsE e) = true ∧ (joinB (setL (fldsE e) (k + 1) s) sp1).size ≤ 200 ∧ setFE e n s = recE (joinB (setL (fldsE e) (k + 1) s) sp1) (setL (fldsE e) (k + 1) s)) := by
  unfold setFE
  by_cases hb : badSet e n s = true
  · rw [if_pos hb]; exact .inl rfl
  · rw [if_neg hb]
    by_cases h0 : n = 0
    · rw [if_pos h0]; exact .inr (.inl rfl)
    · rw [if_neg h0]
      by_cases hl : longSet e n s = true
      · rw [if_pos hl]; exact .inl rfl
      · rw [if_neg hl]
        right; right
        unfold badSet inR at hb
        unfold longSet at hl
        simp only [Bool.or_eq_true, Bool.not_eq_true', Bool.and_eq_false_iff, decide_eq_false_iff_not, decide_eq_true_iff, not_or, not_and, Bool.not_eq_false] at hb
        simp only [decide_eq_true_iff] at hl
        obtain ⟨k, rfl⟩ : ∃ k : Nat, n = ((k + 1 : Nat) : Int) := ⟨n.toNat - 1, by omega⟩
        refine ⟨k, by omega, by omega, hb.1.1, ?_, rfl⟩
        rw [Int.toNat_natCast] at hl; omega
theorem setFE_Ty {e : E} (he : e.Ty Try.prog 26) (n : Int) (s : ByteArray) (_ : e.sz ≤ 1048576) (_ : s.size ≤ 1048576) : (setFE e n s).Ty Try.prog 26 := by
  rcases setFE_cases e n s with h | h | ⟨k, hs, hk, ho, hj, h⟩
  · rw [h]; exact he
  · rw [h]
    have := recT_size s
    exact recE_Ty (by omega) (recF_str s)
  · rw [h]
    obtain ⟨x0, x1A, x1c, l, rfl, gx0, ⟨hl, hk⟩, -⟩ := shape_impl_Rec he
    exact recE_Ty (by omega) (setL_str hl hs)
theorem setFE_sz {e : E} (he : e.Ty Try.prog 26) (n : Int) (s : ByteArray) (hz : e.sz ≤ 1048576) (_ : s.size ≤ 1048576) : (setFE e n s).sz ≤ 1073741824 := by
  rcases setFE_cases e n s with h | h | ⟨k, hs, hk, ho, hj, h⟩
  · rw [h]; omega
  · rw [h]
    have h1 := recT_size s
    have h2 : (strsE (recF s)).length ≤ 20 := by unfold strsE recF; rw [List.length_map, List.length_take]; omega
    have h3 := szL_bound (B := 200) (l := strsE (recF s)) fun x hx => by
      obtain ⟨t, ht, rfl⟩ := List.mem_map.1 hx
      exact recF_le ht
    simp only [recE, E.sz, E.szL]
    have : (strsE (recF s)).length * 200 ≤ 20 * 200 := Nat.mul_le_mul_right _ h2
    omega
  · rw [h]
    obtain ⟨x0, x1A, x1c, l, rfl, gx0, ⟨hl, hk'⟩, -⟩ := shape_impl_Rec he
    obtain ⟨hf, -, hl20⟩ := recOk_to ho
    have h2 : (setL l (k + 1) s).length ≤ 20 := by unfold setL; rw [List.length_set, padL_len]; have : l.length ≤ 20 := hl20; omega
    have h3 := szL_bound (B := 200) (l := setL l (k + 1) s) fun x hx => by
      rw [sz_str (setL_str hl hs x hx)]
      exact setL_fits hf hs x hx
    have h4 : (joinB (setL l (k + 1) s) sp1).size ≤ 200 := hj
    show E.sz (recE (joinB (setL l (k + 1) s) sp1) (setL l (k + 1) s)) ≤ _
    simp only [recE, E.sz, E.szL]
    have : (setL l (k + 1) s).length * 200 ≤ 20 * 200 := Nat.mul_le_mul_right _ h2
    omega
theorem setF_cast {f : FuncId} {ins : List AV} {D : E} {y : AV} (h : Ctr Try.prog f ins [] (.tu [.ag (owE D), y]) []) (hD : D.Ty Try.prog 26) : Ctr Try.prog f ins [] (.tu [avO D, y]) [] := by
  obtain ⟨fs, rfl, -⟩ := hD.agg_ Try.underlying26
  exact h
end Go.Proofs.Ytfdjognmechcfaa
