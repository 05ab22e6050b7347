/- Regular expressions come back of their texts: the reference's reader. -/
import Derived.Test.YtghljnfbbaklnaaModuleOkF
namespace Go.Proofs.Ytghljnfbbaklnaa
open Go.RowKit
set_option maxRecDepth 100000
def brk (g : E → ByteArray) (x : E) : ByteArray := if x.rk = 5 then ⟨#[40]⟩ ++ g x ++ ⟨#[41]⟩ else g x
def oneT (g : E → ByteArray) (x : E) : ByteArray := if x.rk = 4 ∨ x.rk = 5 then ⟨#[40]⟩ ++ g x ++ ⟨#[41]⟩ else g x
def tailT (g : E → ByteArray) (by_ : ByteArray) : List E → ByteArray
  | [] => ByteArray.empty
  | y :: r => by_ ++ (brk g y ++ tailT g by_ r)
def joinT (g : E → ByteArray) (by_ : ByteArray) : List E → ByteArray
  | [] => ByteArray.empty
  | x :: r => brk g x ++ tailT g by_ r
def textS : Nat → E → ByteArray
  | 0, _ => ByteArray.empty
  | f + 1, e =>
    if e.rk = 1 then e.rs
    else if e.rk = 2 then ⟨#[46]⟩
    else if e.rk = 3 then ⟨#[91]⟩ ++ e.rs ++ ⟨#[93]⟩
    else if e.rk = 4 then joinT (textS f) ByteArray.empty e.rl
    else if e.rk = 5 then joinT (textS f) ⟨#[124]⟩ e.rl
    else if e.rk = 6 then oneT (textS f) (e.rl.headD zeroR) ++ ⟨#[42]⟩
    else if e.rk = 7 then oneT (textS f) (e.rl.headD zeroR) ++ ⟨#[43]⟩
    else if e.rk = 8 then oneT (textS f) (e.rl.headD zeroR) ++ ⟨#[63]⟩
    else if e.rk = 10 then ⟨#[94]⟩
    else if e.rk = 11 then ⟨#[36]⟩
    else ⟨#[40, 41]⟩
theorem zz4 {k : Int} {s : ByteArray} {l : List E} (h : headR k s l = true) :
    (k = 1 ∧ s.size = 1 ∧ litB (bAt s 0) = true ∧ l = []) ∨ (k = 3 ∧ setOkB s = true ∧ l = []) ∨ ((k = 2 ∨ k = 9 ∨ k = 10 ∨ k = 11) ∧ s.size = 0 ∧ l = []) ∨
    ((k = 4 ∨ k = 5) ∧ s.size = 0 ∧ 2 ≤ l.length ∧ l.length ≤ 8) ∨ ((k = 6 ∨ k = 7 ∨ k = 8) ∧ s.size = 0 ∧ ∃ x, l = [x] ∧ loopK x.rk = false) := by
  have nil : (l.length == 0) = true → l = [] := fun h => List.length_eq_zero_iff.1 (eq_of_beq h)
  unfold headR at h
  split at h
  · rename_i k1
    simp only [Bool.and_eq_true] at h
    exact .inl ⟨k1, eq_of_beq h.1.1, h.1.2, nil h.2⟩
  split at h
  · rename_i _ k1
    simp only [Bool.and_eq_true] at h
    exact .inr (.inl ⟨k1, h.1, nil h.2⟩)
  split at h
  · rename_i _ _ k1
    simp only [Bool.and_eq_true] at h
    exact .inr (.inr (.inl ⟨k1, eq_of_beq h.1, nil h.2⟩))
  split at h
  · rename_i _ _ _ k1
    simp only [Bool.and_eq_true, decide_eq_true_iff] at h
    exact .inr (.inr (.inr (.inl ⟨k1, eq_of_beq h.1, h.2.1, h.2.2⟩)))
  split at h
  · rename_i _ _ _ _ k1
    simp only [Bool.and_eq_true] at h
    refine .inr (.inr (.inr (.inr ⟨k1, eq_of_beq h.1.1, ?_⟩)))
    have hl := eq_of_beq h.1.2
    match l, hl, h.2 with
    | [x], _, h2 => exact ⟨x, rfl, by simpa using h2⟩
  · cases h
theorem zg7 {a b : ByteArray} {j : Nat} : bAt (a ++ b) j = if j < a.size then bAt a j else bAt b (j - a.size) := by
  unfold bAt
  have h1 : (a ++ b).data = a.data ++ b.data := ByteArray.data_append
  rw [h1, Array.getElem?_append]
  have : a.data.size = a.size := rfl
  rw [this]
  split <;> rfl
theorem zi3 (a b : ByteArray) : (a ++ b).size = a.size + b.size := by
  show (a ++ b).data.size = a.data.size + b.data.size
  rw [ByteArray.data_append, Array.size_append]
theorem zo7 : ByteArray.empty.size = 0 := rfl
theorem zk8 (a : ByteArray) : ByteArray.empty ++ a = a := by
  apply ByteArray.ext; rw [ByteArray.data_append]; exact Array.empty_append
theorem zh15 (a : ByteArray) : a ++ ByteArray.empty = a := by
  apply ByteArray.ext; rw [ByteArray.data_append]; exact Array.append_empty
theorem zy6 (a b c : ByteArray) : a ++ b ++ c = a ++ (b ++ c) := by
  apply ByteArray.ext; simp only [ByteArray.data_append, Array.append_assoc]
theorem zh10 {a b : ByteArray} (h : a.size = b.size) (h2 : ∀ j, j < a.size → bAt a j = bAt b j) : a = b := by
  apply ByteArray.ext
  refine Array.ext h fun i hi hi' => ?_
  have := h2 i hi
  unfold bAt at this
  rw [Array.getElem?_eq_getElem hi, Array.getElem?_eq_getElem hi'] at this
  exact UInt8.toNat_inj.1 this
theorem zp7 {s : ByteArray} (h : s.size = 0) : s = ByteArray.empty := zh10 h fun j hj => by omega
theorem one_eta {s : ByteArray} (h : s.size = 1) : oneB (bAt s 0) = s := by
  refine zh10 (by rw [h]; rfl) fun j hj => ?_
  have hj : j < 1 := hj
  obtain rfl : j = 0 := by omega
  unfold oneB
  show (UInt8.ofNat (bAt s 0)).toNat = bAt s 0
  rw [UInt8.toNat_ofNat']
  exact Nat.mod_eq_of_lt (zn7 s 0)
def Here (s : ByteArray) (p : Nat) (t : ByteArray) : Prop := p + t.size ≤ s.size ∧ ∀ j, j < t.size → bAt s (p + j) = bAt t j
theorem Here.app {s a b : ByteArray} {p : Nat} (h : Here s p (a ++ b)) : Here s p a ∧ Here s (p + a.size) b := by
  obtain ⟨h1, h2⟩ := h
  rw [zi3] at h1 h2
  refine ⟨⟨by omega, fun j hj => ?_⟩, ⟨by omega, fun j hj => ?_⟩⟩
  · rw [h2 j (by omega), zg7, if_pos hj]
  · have := h2 (a.size + j) (by omega)
    rw [zg7, if_neg (by omega), Nat.add_sub_cancel_left] at this
    rw [Nat.add_assoc]; exact this
theorem Here.at0 {s t : ByteArray} {p : Nat} (h : Here s p t) (ht : 0 < t.size) : bAt s p = bAt t 0 := h.2 0 ht
theorem Here.cut {s t : ByteArray} {p : Nat} (h : Here s p t) : cutB s p (p + t.size) = t := by
  refine zh10 (by rw [zs13 (by omega) h.1]; omega) fun j hj => ?_
  rw [zs13 (by omega) h.1] at hj
  rw [bAt_cut h.1 (by omega), h.2 j (by omega)]
def okFst (c : Nat) : Bool := litB c || c == 46 || c == 91 || c == 40 || c == 94 || c == 36
theorem zh12 {c : Nat} (h : okFst c = true) : c ≠ 0 ∧ c ≠ 41 ∧ c ≠ 124 ∧ c ≠ 42 ∧ c ≠ 43 ∧ c ≠ 63 := by
  refine ⟨?_, ?_, ?_, ?_, ?_, ?_⟩ <;> (rintro rfl; cases h)
theorem zi12 {g : E → ByteArray} {x : E} (h : 0 < (g x).size ∧ okFst (bAt (g x) 0) = true) : 0 < (brk g x).size ∧ okFst (bAt (brk g x) 0) = true := by
  unfold brk
  split
  · refine ⟨by simp only [zi3]; show 0 < 1 + _ + 1; omega, ?_⟩
    rw [zy6, zg7]
    rfl
  · exact h
theorem oneT_fst {g : E → ByteArray} {x : E} (h : 0 < (g x).size ∧ okFst (bAt (g x) 0) = true) : 0 < (oneT g x).size ∧ okFst (bAt (oneT g x) 0) = true := by
  unfold oneT
  split
  · refine ⟨by simp only [zi3]; show 0 < 1 + _ + 1; omega, ?_⟩
    rw [zy6, zg7]
    rfl
  · exact h
theorem zi20 {g : E → ByteArray} {b : ByteArray} {x : E} {r : List E} (h : 0 < (g x).size ∧ okFst (bAt (g x) 0) = true) : 0 < (joinT g b (x :: r)).size ∧ okFst (bAt (joinT g b (x :: r)) 0) = true := by
  obtain ⟨h1, h2⟩ := zi12 h
  unfold joinT
  refine ⟨by rw [zi3]; omega, ?_⟩
  rw [zg7, if_pos h1]; exact h2
theorem zj20 {a b : ByteArray} (h : 0 < a.size ∧ okFst (bAt a 0) = true) : 0 < (a ++ b).size ∧ okFst (bAt (a ++ b) 0) = true := by
  refine ⟨by rw [zi3]; omega, ?_⟩
  rw [zg7, if_pos h.1]; exact h.2
theorem zq7 {f : Nat} {e : E} (h : okS (f + 1) e = true) : (∀ x ∈ e.rl, okS f x = true ∧ (x.rk = e.rk → loopK e.rk = true)) ∧ headR e.rk e.rs e.rl = true := by
  unfold okS at h
  rw [Bool.and_eq_true] at h
  refine ⟨fun x hx => ?_, h.2⟩
  have := List.all_eq_true.1 h.1 x hx
  rw [Bool.and_eq_true] at this
  refine ⟨this.1, fun hk => ?_⟩
  have h2 := this.2
  rw [hk] at h2
  simpa using h2
theorem zs6 (f : Nat) : ∀ e, okS f e = true → 0 < (textS f e).size ∧ okFst (bAt (textS f e) 0) = true := by
  induction f with
  | zero => intro e h; cases h
  | succ f ih =>
    intro e h
    obtain ⟨hk, hh⟩ := zq7 h
    unfold textS
    rcases zz4 hh with ⟨k, h1, h2, h3⟩ | ⟨k, h1, h3⟩ | ⟨k, h1, h3⟩ | ⟨k, h1, h2, h3⟩ | ⟨k, h1, x, h2, h3⟩
    · rw [if_pos k]
      refine ⟨by omega, ?_⟩
      unfold okFst
      rw [h2]; rfl
    · rw [k]
      simp only [Int.reduceEq, if_false, if_true]
      rw [zy6]
      exact zj20 ⟨by decide, rfl⟩
    · rcases k with k | k | k | k <;> (rw [k]; exact ⟨Nat.zero_lt_succ _, rfl⟩)
    · obtain ⟨x, r, hl⟩ : ∃ x r, e.rl = x :: r := by
        match hq : e.rl, h2 with
        | x :: r, _ => exact ⟨x, r, rfl⟩
      have hx := ih x (hk x (by rw [hl]; exact List.mem_cons_self)).1
      rw [hl]
      rcases k with k | k <;> (rw [k]; exact zi20 hx)
    · have hx := oneT_fst (ih x (hk x (by rw [h2]; exact List.mem_cons_self)).1)
      rw [h2]
      rcases k with k | k | k <;> (rw [k]; exact zj20 hx)
inductive Can : E → Prop
  | mk (k : Int) (s : ByteArray) (l : List E) (h : ∀ x ∈ l, Can x) : Can (rexE k s l)
theorem Can.eta {e : E} (h : Can e) : e = rexE e.rk e.rs e.rl := by cases h; rfl
theorem Can.kid {e x : E} (h : Can e) (hx : x ∈ e.rl) : Can x := by cases h with | mk k s l h => exact h x hx
theorem zk20 {s : ByteArray} {c : Nat} : ∀ (n a f : Nat), n ≤ f → (∀ j, j < n → a + j < s.size ∧ bAt s (a + j) ≠ c) → (s.size ≤ a + n ∨ bAt s (a + n) = c) → untB s c f a = a + n
  | 0, a, 0, _, _, _ => rfl
  | 0, a, f + 1, _, _, h2 => by
    unfold untB
    rw [if_neg]; · rfl
    rintro ⟨h3, h4⟩
    rcases h2 with h2 | h2
    · omega
    · exact h4 h2
  | n + 1, a, 0, h, _, _ => by omega
  | n + 1, a, f + 1, h, h1, h2 => by
    unfold untB
    rw [if_pos (by simpa using h1 0 (by omega))]
    rw [zk20 n (a + 1) f (by omega) (fun j hj => by have := h1 (j + 1) (by omega); rw [show a + 1 + j = a + (j + 1) by omega]; exact this) (by rw [show a + 1 + n = a + (n + 1) by omega]; exact h2)]
    omega
theorem zl20 {s : ByteArray} (h : setOkB s = true) : ∀ j, j < s.size → litB (bAt s j) = true := by
  intro j hj
  unfold setOkB at h
  rw [Bool.and_eq_true] at h
  have := List.all_eq_true.1 h.1 j (List.mem_range.2 hj)
  unfold setAtB at this
  rw [Bool.and_eq_true] at this
  exact this.1
section
variable {s : ByteArray} {alt : PS → E × PS}
theorem zl16 {p : PS} (hb : p.b = false) (hp : p.a < s.size) : atomS s alt p = atomSc s alt (bAt s p.a) (p.go 1) := by
  unfold atomS
  rw [if_neg]
  rintro (h | h)
  · rw [hb] at h; cases h
  · omega
theorem zh7 {p : PS} {c : Nat} (hb : p.b = false) (hc : c ≠ 0) (h : bAt s p.a = c) : isB s c p = true := by
  rw [zf10 hc hb, h]; simp
theorem zt6 {p : PS} {c : Nat} (h : bAt s p.a ≠ c) : isB s c p = false := by
  unfold isB
  have : (bAt s p.a == c) = false := by simpa using h
  rw [this, Bool.and_false]
theorem zy13 {g : Nat} {e : E} {p : PS} (hc : Can e) (ho : okS g e = true) (hk : e.rk ≠ 4 ∧ e.rk ≠ 5 ∧ loopK e.rk = false) (hb : p.b = false) (hh : Here s p.a (textS g e)) : atomS s alt p = (e, p.go (textS g e).size) := by
  have h0 := zs6 g e ho
  rw [zl16 hb (by have := hh.1; omega)]
  cases g with
  | zero => cases ho
  | succ f =>
  obtain ⟨_, hd⟩ := zq7 ho
  rw [hh.at0 h0.1]
  clear h0
  have he := hc.eta
  rcases zz4 hd with ⟨k, h1, h2, h3⟩ | ⟨k, h1, h3⟩ | ⟨k, h1, h3⟩ | ⟨k, h1, h2, h3⟩ | ⟨k, h1, x, h2, h3⟩
  · have ht : textS (f + 1) e = e.rs := by unfold textS; rw [if_pos k]
    rw [ht, zi8 h2, one_eta h1, h1]
    rw [k, h3] at he
    exact congrArg (·, p.go 1) he.symm
  · have ht : textS (f + 1) e = ⟨#[91]⟩ ++ e.rs ++ ⟨#[93]⟩ := by unfold textS; rw [k]; rfl
    rw [ht] at hh ⊢
    have q := hh.app
    have q1 := q.1.app
    have hu : untB s 93 s.size (p.a + 1) = p.a + 1 + e.rs.size := by
      refine zk20 _ _ _ ?_ (fun j hj => ⟨?_, ?_⟩) (.inr ?_)
      · have := q1.2.1; have e1 : (ByteArray.mk #[91]).size = 1 := rfl; omega
      · have := q1.2.1; have e1 : (ByteArray.mk #[91]).size = 1 := rfl; omega
      · rw [show bAt s (p.a + 1 + j) = bAt e.rs j from q1.2.2 j hj]
        have := lit_ne (zl20 h1 j hj)
        intro e9
        have h9 := zl20 h1 j hj
        rw [e9] at h9
        cases h9
      · have := q.2.2 0 (by decide)
        rw [zi3, show p.a + ((ByteArray.mk #[91]).size + e.rs.size) + 0 = p.a + 1 + e.rs.size by show p.a + (1 + e.rs.size) + 0 = _; omega] at this
        exact this
    rw [zy6, zg7]
    show atomSc s alt 91 (p.go 1) = _
    rw [zn11]
    show (if isB s 93 ⟨untB s 93 s.size (p.a + 1), p.d, p.b⟩ = true then (rexE 3 (cutB s (p.a + 1) (untB s 93 s.size (p.a + 1))) [], (⟨untB s 93 s.size (p.a + 1) + 1, p.d, p.b⟩ : PS)) else _) = _
    have h93 : bAt s (p.a + 1 + e.rs.size) = 93 := by
      have := q.2.2 0 (by decide)
      rw [zi3, show p.a + ((ByteArray.mk #[91]).size + e.rs.size) + 0 = p.a + 1 + e.rs.size by show p.a + (1 + e.rs.size) + 0 = _; omega] at this
      exact this
    rw [hu, zh7 (p := ⟨p.a + 1 + e.rs.size, p.d, p.b⟩) hb (by decide) h93]
    · rw [if_pos rfl, show cutB s (p.a + 1) (p.a + 1 + e.rs.size) = e.rs from q1.2.cut]
      rw [k, h3] at he
      rw [← he]
      refine congrArg (e, ·) ?_
      unfold PS.go
      have e1 : (ByteArray.mk #[91]).size = 1 := rfl
      have e2 : (ByteArray.mk #[93]).size = 1 := rfl
      simp only [zi3, e1, e2]
      congr 1
      omega
  · have hs := zp7 h1
    rw [hs, h3] at he
    rcases k with k | k | k | k
    · have ht : textS (f + 1) e = ⟨#[46]⟩ := by unfold textS; rw [k]; rfl
      rw [k] at he
      rw [ht]; exact congrArg (·, p.go 1) he.symm
    · have ht : textS (f + 1) e = ⟨#[40, 41]⟩ := by unfold textS; rw [k]; rfl
      rw [k] at he
      rw [ht] at hh ⊢
      show groupS s alt (p.go 1) = _
      unfold groupS
      rw [zh7 (p := p.go 1) hb (by decide) (show bAt s (p.a + 1) = 41 from hh.2 1 (by decide))]
      rw [if_pos rfl]; exact congrArg (·, p.go 2) he.symm
    · have ht : textS (f + 1) e = ⟨#[94]⟩ := by unfold textS; rw [k]; rfl
      rw [k] at he
      rw [ht]; exact congrArg (·, p.go 1) he.symm
    · have ht : textS (f + 1) e = ⟨#[36]⟩ := by unfold textS; rw [k]; rfl
      rw [k] at he
      rw [ht]; exact congrArg (·, p.go 1) he.symm
  · rcases k with k | k
    · exact absurd k hk.1
    · exact absurd k hk.2.1
  · have := hk.2.2
    rcases k with k | k | k <;> (rw [k] at this; cases this)
end
def Stop (s : ByteArray) (a : Nat) : Prop := s.size ≤ a ∨ bAt s a = 41
def StopC (s : ByteArray) (a : Nat) : Prop := s.size ≤ a ∨ bAt s a = 41 ∨ bAt s a = 124
def NoPost (s : ByteArray) (a : Nat) : Prop := bAt s a ≠ 42 ∧ bAt s a ≠ 43 ∧ bAt s a ≠ 63
theorem StopC.post {s : ByteArray} {a : Nat} (h : StopC s a) : NoPost s a := by
  rcases h with h | h | h
  · unfold NoPost; rw [zh8 h]; decide
  · unfold NoPost; rw [h]; decide
  · unfold NoPost; rw [h]; decide
theorem zm16 {s : ByteArray} {a : Nat} (h : okFst (bAt s a) = true) : NoPost s a := (zh12 h).2.2.2
def AltOk (s : ByteArray) (F f : Nat) : Prop := ∀ e, Can e → okS f e = true → ∀ p : PS, p.b = false → p.d + f ≤ 9 → Here s p.a (textS f e) → Stop s (p.a + (textS f e).size) → altS s F p = (e, p.go (textS f e).size)
theorem zm20 (p : PS) (m n : Nat) : (p.go m).go n = p.go (m + n) := by unfold PS.go; simp only [Nat.add_assoc]
section
variable {s : ByteArray} {F : Nat}
theorem zo11 {g : Nat} {y : E} {p : PS} (hA : AltOk s F g) (hc : Can y) (ho : okS g y = true) (hb : p.b = false) (hd : p.d + 1 + g ≤ 9) (hh : Here s p.a (⟨#[40]⟩ ++ textS g y ++ ⟨#[41]⟩)) : atomS s (altS s F) p = (y, p.go ((textS g y).size + 2)) := by
  have q := hh.app
  have q1 := q.1.app
  have e1 : (ByteArray.mk #[40]).size = 1 := rfl
  have e2 : (ByteArray.mk #[41]).size = 1 := rfl
  rw [zi3, e1] at q
  rw [e1] at q1
  rw [zl16 hb (by have := q1.1.1; omega)]
  have hg : 0 < g := by cases g with
    | zero => cases ho
    | succ g => omega
  rw [show bAt s p.a = 40 from q1.1.2 0 (by decide)]
  show groupS s (altS s F) (p.go 1) = _
  unfold groupS
  have h0 := zs6 g y ho
  have h41 : bAt s (p.a + 1) ≠ 41 := by
    rw [q1.2.at0 h0.1]
    exact (zh12 h0.2).2.1
  rw [zt6 (show bAt s (p.go 1).a ≠ 41 from h41)]
  simp only [Bool.false_eq_true, if_false]
  rw [if_neg (by show ¬ 8 < p.d + 1; omega)]
  have hr := hA y hc ho ⟨p.a + 1, p.d + 1, p.b⟩ hb hd q1.2 (.inr (by have := q.2.2 0 (by decide); rw [show p.a + (1 + (textS g y).size) + 0 = p.a + 1 + (textS g y).size by omega] at this; exact this))
  have e3 : altS s F ⟨(p.go 1).a, (p.go 1).d + 1, (p.go 1).b⟩ = (y, ⟨p.a + 1 + (textS g y).size, p.d + 1, p.b⟩) := hr
  rw [e3]
  simp only [Nat.add_sub_cancel]
  have h3 : bAt s (p.a + 1 + (textS g y).size) = 41 := by
    have := q.2.2 0 (by decide)
    rw [show p.a + (1 + (textS g y).size) + 0 = p.a + 1 + (textS g y).size by omega] at this
    exact this
  rw [zh7 (p := ⟨p.a + 1 + (textS g y).size, p.d, p.b⟩) hb (by decide) h3, if_pos rfl]
  refine congrArg (y, ·) ?_
  unfold PS.go
  congr 1
  simp only
  omega
theorem zn20 {e : E} {p q : PS} {atom : PS → E × PS} (h : atom p = (e, q)) (hn : NoPost s q.a) : itemS s atom p = (e, q) := by
  unfold itemS
  rw [h]
  simp only [zt6 hn.1, zt6 hn.2.1, zt6 hn.2.2, Bool.false_eq_true, if_false]
theorem zz13 {g : Nat} {e : E} {p : PS} (hA : ∀ g', g = g' + 1 → AltOk s F g') (hc : Can e) (ho : okS g e = true) (h4 : e.rk ≠ 4) (h5 : e.rk ≠ 5) (hb : p.b = false) (hd : p.d + g ≤ 9) (hh : Here s p.a (textS g e)) (hn : NoPost s (p.a + (textS g e).size)) : itemS s (atomS s (altS s F)) p = (e, p.go (textS g e).size) := by
  by_cases hl : loopK e.rk = true
  · cases g with
    | zero => cases ho
    | succ f =>
    obtain ⟨hkk, hdd⟩ := zq7 ho
    have he := hc.eta
    rcases zz4 hdd with ⟨k, h1, h2, h3⟩ | ⟨k, h1, h3⟩ | ⟨k, h1, h3⟩ | ⟨k, h1, h2, h3⟩ | ⟨k, h1, x, h2, h3⟩
    · rw [k] at hl; cases hl
    · rw [k] at hl; cases hl
    · rcases k with k | k | k | k <;> (rw [k] at hl; cases hl)
    · rcases k with k | k <;> (rw [k] at hl; cases hl)
    · have hx := hkk x (by rw [h2]; exact List.mem_cons_self)
      have hcx := hc.kid (x := x) (by rw [h2]; exact List.mem_cons_self)
      rw [zp7 h1, h2] at he
      have unit : ∀ c : Nat, Here s p.a (oneT (textS f) x ++ oneB c) → atomS s (altS s F) p = (x, p.go (oneT (textS f) x).size) := by
        intro c hc2
        have q := hc2.app.1
        unfold oneT at q ⊢
        split at q
        · rename_i hk
          rw [if_pos hk]
          rw [zo11 (hA f rfl) hcx hx.1 hb (by omega) q]
          refine congrArg (fun n => (x, p.go n)) ?_
          simp only [zi3]
          show _ = 1 + _ + 1
          omega
        · rename_i hk
          rw [if_neg hk]
          exact zy13 hcx hx.1 ⟨fun h => hk (.inl h), fun h => hk (.inr h), h3⟩ hb q
      have fin : ∀ (c : Nat) (K : Int), c ≠ 0 → c < 256 → e = rexE K ByteArray.empty [x] → textS (f + 1) e = oneT (textS f) x ++ oneB c →
          (∀ r : E × PS, r.2.b = false → bAt s r.2.a = c → (if isB s 42 r.2 then (rexE 6 ByteArray.empty [r.1], r.2.go 1) else if isB s 43 r.2 then (rexE 7 ByteArray.empty [r.1], r.2.go 1) else if isB s 63 r.2 then (rexE 8 ByteArray.empty [r.1], r.2.go 1) else r) = (rexE K ByteArray.empty [r.1], r.2.go 1)) → itemS s (atomS s (altS s F)) p = (e, p.go (textS (f + 1) e).size) := by
        intro c K hc0 hc256 he2 ht hsel
        rw [ht] at hh ⊢
        unfold itemS
        rw [unit c hh]
        have hq := hh.app.2.2 0 (show 0 < 1 by omega)
        have hcc : bAt (oneB c) 0 = c := by
          show (UInt8.ofNat c).toNat = c
          rw [UInt8.toNat_ofNat']; exact Nat.mod_eq_of_lt hc256
        rw [hcc] at hq
        have := hsel (x, p.go (oneT (textS f) x).size) hb hq
        simp only at this ⊢
        rw [this, zm20, ← he2, zi3]
        rfl
      rw [h2] at hkk
      rcases k with k | k | k
      · rw [k] at he
        refine fin 42 6 (by decide) (by decide) he ?_ fun r hr1 hr2 => ?_
        · unfold textS; rw [k, h2]; rfl
        · rw [zh7 hr1 (by decide) hr2]; rfl
      · rw [k] at he
        refine fin 43 7 (by decide) (by decide) he ?_ fun r hr1 hr2 => ?_
        · unfold textS; rw [k, h2]; rfl
        · rw [zt6 (by rw [hr2]; decide), zh7 hr1 (by decide) hr2]; rfl
      · rw [k] at he
        refine fin 63 8 (by decide) (by decide) he ?_ fun r hr1 hr2 => ?_
        · unfold textS; rw [k, h2]; rfl
        · rw [zt6 (by rw [hr2]; decide), zt6 (by rw [hr2]; decide), zh7 hr1 (by decide) hr2]; rfl
  · exact zn20 (zy13 hc ho ⟨h4, h5, by simpa using hl⟩ hb hh) hn
theorem zn16 {g : Nat} {x : E} {p : PS} (hA : ∀ g', g' ≤ g → AltOk s F g') (hc : Can x) (ho : okS g x = true) (h4 : x.rk ≠ 4) (hb : p.b = false) (hd : p.d + 1 + g ≤ 9) (hh : Here s p.a (brk (textS g) x)) (hn : NoPost s (p.a + (brk (textS g) x).size)) : itemS s (atomS s (altS s F)) p = (x, p.go (brk (textS g) x).size) := by
  unfold brk at hh hn ⊢
  split at hh
  · rename_i hk
    rw [if_pos hk] at hn ⊢
    have e1 : (ByteArray.mk #[40] ++ textS g x ++ ByteArray.mk #[41]).size = (textS g x).size + 2 := by
      simp only [zi3]
      show 1 + _ + 1 = _
      omega
    rw [e1] at hn ⊢
    exact zn20 (zo11 (hA g (Nat.le_refl _)) hc ho hb hd hh) hn
  · rename_i hk
    rw [if_neg hk] at hn ⊢
    exact zz13 (fun g' e => hA g' (by omega)) hc ho h4 hk hb (by omega) hh hn
theorem zc9 {g : Nat} (hA : ∀ g', g' ≤ g → AltOk s F g') : ∀ (r acc : List E) (n : Nat) (p : PS), r.length ≤ n → (∀ x ∈ r, Can x ∧ okS g x = true ∧ x.rk ≠ 4) → p.b = false → p.d + 1 + g ≤ 9 → Here s p.a (tailT (textS g) ByteArray.empty r) → StopC s (p.a + (tailT (textS g) ByteArray.empty r).size) →
    catLoopS s (itemS s (atomS s (altS s F))) n acc p = (acc ++ r, p.go (tailT (textS g) ByteArray.empty r).size)
  | [], acc, n, p, _, _, hb, _, _, hs => by
    have e : p.go (tailT (textS g) ByteArray.empty []).size = p := rfl
    rw [e, List.append_nil]
    cases n with
    | zero => rfl
    | succ n =>
      unfold catLoopS
      have hg : goS s p = false := by
        unfold goS
        rcases hs with h | h | h
        · have h : s.size ≤ p.a := h
          have : decide (p.a < s.size) = false := by simpa using h
          simp [this]
        · have h : bAt s p.a = 41 := h
          simp [h]
        · have h : bAt s p.a = 124 := h
          simp [h]
      rw [hg]; rfl
  | x :: r, acc, 0, p, h, _, _, _, _, _ => by simp at h
  | x :: r, acc, n + 1, p, hl, hr, hb, hd, hh, hs => by
    obtain ⟨hc, ho, h4⟩ := hr x List.mem_cons_self
    unfold tailT at hh hs ⊢
    rw [zk8] at hh hs ⊢
    have q := hh.app
    have h0 := zi12 (g := textS g) (zs6 g x ho)
    have hne := zh12 h0.2
    rw [← q.1.at0 h0.1] at hne
    unfold catLoopS
    have hlt : p.a < s.size := by have := q.1.1; omega
    have hg : goS s p = true := by
      unfold goS
      rw [hb]
      simp [hlt, hne.2.1, hne.2.2.1]
    rw [if_pos hg]
    have hn : NoPost s (p.a + (brk (textS g) x).size) := by
      cases r with
      | nil =>
        rw [zi3] at hs
        exact StopC.post (by simpa [tailT, zo7] using hs)
      | cons y r' =>
        have hy := zi12 (g := textS g) (zs6 g y (hr y (by simp)).2.1)
        have q2 := q.2
        unfold tailT at q2
        rw [zk8] at q2
        have := q2.app.1.at0 hy.1
        refine zm16 ?_
        rw [this]; exact hy.2
    rw [zn16 hA hc ho h4 hb hd q.1 hn]
    simp only
    rw [zc9 hA r (acc ++ [x]) n (p.go (brk (textS g) x).size) (by simpa using hl) (fun y hy => hr y (List.mem_cons_of_mem _ hy)) hb hd q.2 (by rw [zi3] at hs; rw [show p.a + ((brk (textS g) x).size + (tailT (textS g) ByteArray.empty r).size) = p.a + (brk (textS g) x).size + (tailT (textS g) ByteArray.empty r).size by omega] at hs; exact hs)]
    rw [zm20, zi3, List.append_assoc]
    rfl
theorem zj12 {g : E → ByteArray} {b : ByteArray} : ∀ {r : List E}, (∀ x ∈ r, 0 < (g x).size) → r.length ≤ (tailT g b r).size
  | [], _ => Nat.zero_le _
  | x :: r, h => by
    have h1 := zj12 (b := b) (r := r) fun y hy => h y (List.mem_cons_of_mem _ hy)
    have h2 : 0 < (brk g x).size := by
      unfold brk
      split
      · simp only [zi3]; show 0 < 1 + _ + 1; omega
      · exact h x List.mem_cons_self
    unfold tailT
    simp only [zi3, List.length_cons]
    omega
theorem zk12 {g : Nat} {e : E} {p : PS} (hA : ∀ g', g' < g → AltOk s F g') (hc : Can e) (ho : okS g e = true) (h5 : e.rk ≠ 5) (hb : p.b = false) (hd : p.d + g ≤ 9) (hh : Here s p.a (textS g e)) (hs : StopC s (p.a + (textS g e).size)) : catS s (itemS s (atomS s (altS s F))) p = (e, p.go (textS g e).size) := by
  cases g with
  | zero => cases ho
  | succ f =>
  by_cases h4 : e.rk = 4
  · obtain ⟨hkk, hdd⟩ := zq7 ho
    have he := hc.eta
    rcases zz4 hdd with ⟨k, h1, h2, h3⟩ | ⟨k, h1, h3⟩ | ⟨k, h1, h3⟩ | ⟨k, h1, h2, h3⟩ | ⟨k, h1, x, h2, h3⟩
    · rw [h4] at k; cases k
    · rw [h4] at k; cases k
    · rw [h4] at k; rcases k with k | k | k | k <;> cases k
    · have ht : textS (f + 1) e = joinT (textS f) ByteArray.empty e.rl := by unfold textS; rw [h4]; rfl
      rw [ht] at hh hs ⊢
      have hkid : ∀ x ∈ e.rl, Can x ∧ okS f x = true ∧ x.rk ≠ 4 := fun x hx => ⟨hc.kid hx, (hkk x hx).1, fun h => by have := (hkk x hx).2 (h.trans h4.symm); rw [h4] at this; cases this⟩
      match hl : e.rl, h2 with
      | x :: r, h2 =>
        rw [hl] at hh hs hkid
        obtain ⟨hcx, hox, h4x⟩ := hkid x List.mem_cons_self
        unfold joinT at hh hs ⊢
        have q := hh.app
        have hlen := zj12 (g := textS f) (b := ByteArray.empty) (r := r) fun y hy => (zs6 f y (hkid y (List.mem_cons_of_mem _ hy)).2.1).1
        have hn : NoPost s (p.a + (brk (textS f) x).size) := by
          cases r with
          | nil => simp at h2
          | cons y r' =>
            have hy := zi12 (g := textS f) (zs6 f y (hkid y (by simp)).2.1)
            have q2 := q.2
            unfold tailT at q2
            rw [zk8] at q2
            refine zm16 ?_
            rw [q2.app.1.at0 hy.1]; exact hy.2
        unfold catS
        rw [zn16 (fun g' hg' => hA g' (by omega)) hcx hox h4x hb (by omega) q.1 hn]
        simp only
        rw [zc9 (fun g' hg' => hA g' (by omega)) r [x] (s.size + 1) (p.go (brk (textS f) x).size) (by have := q.2.1; omega) (fun y hy => hkid y (List.mem_cons_of_mem _ hy)) hb (by show p.d + 1 + f ≤ 9; omega) q.2 (by rw [zi3] at hs; show StopC s (p.a + (brk (textS f) x).size + (tailT (textS f) ByteArray.empty r).size); rw [Nat.add_assoc]; exact hs)]
        rw [zm20, zi3]
        refine congrArg (·, _) ?_
        rw [zp7 h1, hl, h4] at he
        rw [he]
        cases r with
        | nil => simp at h2
        | cons y r' => rfl
    · rw [h4] at k; rcases k with k | k | k <;> cases k
  · have hi := zz13 (fun g' e => hA g' (by omega)) hc ho h4 h5 hb hd hh hs.post
    unfold catS
    rw [hi]
    simp only
    have hg : goS s (p.go (textS (f + 1) e).size) = false := by
      unfold goS
      rcases hs with h | h | h
      · have h : s.size ≤ (p.go (textS (f + 1) e).size).a := h
        have : decide ((p.go (textS (f + 1) e).size).a < s.size) = false := by simpa using h
        simp [this]
      · have h : bAt s (p.go (textS (f + 1) e).size).a = 41 := h
        simp [h]
      · have h : bAt s (p.go (textS (f + 1) e).size).a = 124 := h
        simp [h]
    have : catLoopS s (itemS s (atomS s (altS s F))) (s.size + 1) [e] (p.go (textS (f + 1) e).size) = ([e], p.go (textS (f + 1) e).size) := by
      unfold catLoopS
      rw [hg]; rfl
    rw [this]
    rfl
theorem zd9 {g : Nat} (hA : ∀ g', g' < g → AltOk s F g') : ∀ (r acc : List E) (n : Nat) (p : PS), r.length ≤ n → (∀ x ∈ r, Can x ∧ okS g x = true ∧ x.rk ≠ 5) → p.b = false → p.d + g ≤ 9 → Here s p.a (tailT (textS g) ⟨#[124]⟩ r) → Stop s (p.a + (tailT (textS g) ⟨#[124]⟩ r).size) →
    altLoopS s (catS s (itemS s (atomS s (altS s F)))) n acc p = (acc ++ r, p.go (tailT (textS g) ⟨#[124]⟩ r).size)
  | [], acc, n, p, _, _, hb, _, _, hs => by
    have e : p.go (tailT (textS g) ⟨#[124]⟩ []).size = p := rfl
    rw [e, List.append_nil]
    cases n with
    | zero => rfl
    | succ n =>
      unfold altLoopS
      have hg : isB s 124 p = false := by
        refine zt6 ?_
        rcases hs with h | h
        · have h : s.size ≤ p.a := h
          rw [zh8 h]; decide
        · have h : bAt s p.a = 41 := h
          rw [h]; decide
      rw [hg]; rfl
  | x :: r, acc, 0, p, h, _, _, _, _, _ => by simp at h
  | x :: r, acc, n + 1, p, hl, hr, hb, hd, hh, hs => by
    obtain ⟨hc, ho, h5⟩ := hr x List.mem_cons_self
    unfold tailT at hh hs ⊢
    have hbx : brk (textS g) x = textS g x := by unfold brk; rw [if_neg h5]
    rw [hbx] at hh hs ⊢
    have e1 : (ByteArray.mk #[124]).size = 1 := rfl
    have q := hh.app
    have q2 := q.2.app
    rw [e1] at q2
    unfold altLoopS
    rw [zh7 hb (by decide) (show bAt s p.a = 124 from q.1.2 0 (by decide)), if_pos rfl]
    have hn : StopC s (p.a + 1 + (textS g x).size) := by
      cases r with
      | nil =>
        simp only [zi3, e1] at hs
        rcases hs with h | h
        · exact .inl (by simpa [tailT, zo7, Nat.add_assoc] using h)
        · exact .inr (.inl (by simpa [tailT, zo7, Nat.add_assoc] using h))
      | cons y r' =>
        have q3 := q2.2
        unfold tailT at q3
        exact .inr (.inr (q3.app.1.2 0 (by decide)))
    rw [zk12 hA hc ho h5 (p := p.go 1) hb hd q2.1 hn]
    simp only
    rw [zd9 hA r (acc ++ [x]) n ((p.go 1).go (textS g x).size) (by simpa using hl) (fun y hy => hr y (List.mem_cons_of_mem _ hy)) hb hd q2.2 (by simp only [zi3, e1] at hs; show Stop s (p.a + 1 + (textS g x).size + (tailT (textS g) ⟨#[124]⟩ r).size); rw [show p.a + 1 + (textS g x).size + (tailT (textS g) ⟨#[124]⟩ r).size = p.a + (1 + ((textS g x).size + (tailT (textS g) ⟨#[124]⟩ r).size)) by omega]; exact hs)]
    simp only [zm20, zi3, e1, List.append_assoc]
    rw [show 1 + ((textS g x).size + (tailT (textS g) ⟨#[124]⟩ r).size) = 1 + (textS g x).size + (tailT (textS g) ⟨#[124]⟩ r).size by omega]
    rfl
end
theorem alt_back (s : ByteArray) (F : Nat) : ∀ f, f ≤ F → AltOk s F f := by
  induction F with
  | zero =>
    intro f hf e _ ho
    obtain rfl : f = 0 := by omega
    cases ho
  | succ F ih =>
    intro f hf e hc ho p hb hd hh hs
    have hA : ∀ g', g' < f → AltOk s F g' := fun g' hg => ih g' (by omega)
    cases f with
    | zero => cases ho
    | succ f =>
    show altC s (catS s (itemS s (atomS s (altS s F)))) p = _
    by_cases h5 : e.rk = 5
    · obtain ⟨hkk, hdd⟩ := zq7 ho
      have he := hc.eta
      rcases zz4 hdd with ⟨k, h1, h2, h3⟩ | ⟨k, h1, h3⟩ | ⟨k, h1, h3⟩ | ⟨k, h1, h2, h3⟩ | ⟨k, h1, x, h2, h3⟩
      · rw [h5] at k; cases k
      · rw [h5] at k; cases k
      · rw [h5] at k; rcases k with k | k | k | k <;> cases k
      · have ht : textS (f + 1) e = joinT (textS f) ⟨#[124]⟩ e.rl := by unfold textS; rw [h5]; rfl
        rw [ht] at hh hs ⊢
        have hkid : ∀ x ∈ e.rl, Can x ∧ okS f x = true ∧ x.rk ≠ 5 := fun x hx => ⟨hc.kid hx, (hkk x hx).1, fun h => by have := (hkk x hx).2 (h.trans h5.symm); rw [h5] at this; cases this⟩
        match hl : e.rl, h2 with
        | x :: r, h2 =>
          rw [hl] at hh hs hkid
          obtain ⟨hcx, hox, h5x⟩ := hkid x List.mem_cons_self
          have hbx : brk (textS f) x = textS f x := by unfold brk; rw [if_neg h5x]
          have hj : joinT (textS f) ⟨#[124]⟩ (x :: r) = textS f x ++ tailT (textS f) ⟨#[124]⟩ r := by rw [← hbx]; rfl
          rw [hj] at hh hs ⊢
          have q := hh.app
          have hlen := zj12 (g := textS f) (b := ⟨#[124]⟩) (r := r) fun y hy => (zs6 f y (hkid y (List.mem_cons_of_mem _ hy)).2.1).1
          have hn : StopC s (p.a + (textS f x).size) := by
            cases r with
            | nil => simp at h2
            | cons y r' =>
              have q3 := q.2
              unfold tailT at q3
              exact .inr (.inr (q3.app.1.2 0 (by decide)))
          unfold altC
          rw [zk12 (fun g' hg' => hA g' (by omega)) hcx hox h5x hb (by omega) q.1 hn]
          simp only
          rw [zd9 (fun g' hg' => hA g' (by omega)) r [x] (s.size + 1) (p.go (textS f x).size) (by have := q.2.1; omega) (fun y hy => hkid y (List.mem_cons_of_mem _ hy)) hb (by show p.d + f ≤ 9; omega) q.2 (by rw [zi3] at hs; show Stop s (p.a + (textS f x).size + (tailT (textS f) ⟨#[124]⟩ r).size); rw [Nat.add_assoc]; exact hs)]
          rw [zm20, zi3]
          refine congrArg (·, _) ?_
          rw [zp7 h1, hl, h5] at he
          rw [he]
          cases r with
          | nil => simp at h2
          | cons y r' => rfl
      · rw [h5] at k; rcases k with k | k | k <;> cases k
    · have hcc := zk12 hA hc ho h5 hb hd hh (hs.elim .inl fun h => .inr (.inl h))
      unfold altC
      rw [hcc]
      simp only
      have : altLoopS s (catS s (itemS s (atomS s (altS s F)))) (s.size + 1) [e] (p.go (textS (f + 1) e).size) = ([e], p.go (textS (f + 1) e).size) := by
        unfold altLoopS
        rw [zt6]
        · rfl
        · rcases hs with h | h
          · have h : s.size ≤ (p.go (textS (f + 1) e).size).a := h
            rw [zh8 h]; decide
          · have h : bAt s (p.go (textS (f + 1) e).size).a = 41 := h
            rw [h]; decide
      rw [this]
      rfl
theorem za14 {k : Int} : ∀ {l : List E}, (∀ x ∈ l, Can x) → Can (oneOr k l)
  | [], h => Can.mk _ _ _ h
  | [x], h => h x List.mem_cons_self
  | x :: y :: r, h => Can.mk _ _ _ h
theorem zi10 : Can zeroR := Can.mk _ _ _ fun _ h => absurd h List.not_mem_nil
theorem leaf_can (k : Int) (s : ByteArray) : Can (rexE k s []) := Can.mk _ _ _ fun _ h => absurd h List.not_mem_nil
section
variable {s : ByteArray}
theorem zo20 {alt : PS → E × PS} (h : ∀ p, Can (alt p).1) (p : PS) : Can (atomI s alt p).1 := by
  unfold atomI atomIc
  dsimp only
  repeat' split
  all_goals first | exact leaf_can _ _ | exact zi10 | exact h _
theorem zp20 {f : PS → E × PS} (h : ∀ p, Can (f p).1) (p : PS) : Can (itemI s f p).1 := by
  unfold itemI
  have h1 : ∀ k, Can (rexE k ByteArray.empty [(f p).1]) := fun k => Can.mk _ _ _ fun x hx => by
    rw [List.mem_singleton] at hx; rw [hx]; exact h p
  dsimp only
  repeat' split
  all_goals first | exact h1 _ | exact h _
theorem ze9 {f : PS → E × PS} (h : ∀ p, Can (f p).1) : ∀ (n : Nat) (l : List E) (p : PS), (∀ x ∈ l, Can x) → ∀ x ∈ (catLoopI s f n l p).1, Can x
  | 0, l, p, hl => hl
  | n + 1, l, p, hl => by
    unfold catLoopI
    split
    · refine ze9 h n _ _ fun x hx => ?_
      rcases List.mem_append.1 hx with hx | hx
      · exact hl x hx
      · rw [List.mem_singleton] at hx; rw [hx]; exact h p
    · exact hl
theorem catI_can {f : PS → E × PS} (h : ∀ p, Can (f p).1) (p : PS) : Can (catI s f p).1 := by
  unfold catI
  simp only
  split
  · exact zi10
  · exact za14 (ze9 h _ _ _ fun _ h => absurd h List.not_mem_nil)
theorem zf9 {f : PS → E × PS} (h : ∀ p, Can (f p).1) : ∀ (n : Nat) (l : List E) (p : PS), (∀ x ∈ l, Can x) → ∀ x ∈ (altLoopI s f n l p).1, Can x
  | 0, l, p, hl => hl
  | n + 1, l, p, hl => by
    unfold altLoopI
    split
    · refine zf9 h n _ _ fun x hx => ?_
      rcases List.mem_append.1 hx with hx | hx
      · exact hl x hx
      · rw [List.mem_singleton] at hx; rw [hx]; exact h _
    · exact hl
theorem altI_can (f : Nat) : ∀ p, Can (altI s f p).1 := by
  induction f with
  | zero => exact fun p => zi10
  | succ f ih =>
    intro p
    unfold altI altB
    have hc := catI_can (s := s) (zp20 (s := s) (zo20 (s := s) ih))
    exact za14 (zf9 hc _ _ _ fun x hx => by rw [List.mem_singleton] at hx; rw [hx]; exact hc _)
end
theorem zp11 {g : E → ByteArray} {b : ByteArray} {c : E → Nat} (hb : b.size ≤ 1) : ∀ {l : List E} {n : Nat}, (∀ x ∈ l, (g x).size + 3 ≤ 16 * c x) → sumI c l n ≤ 60 → (tailT g b l).size + 16 * n ≤ 16 * sumI c l n
  | [], n, _, _ => by unfold tailT sumI; rw [zo7]; omega
  | x :: r, n, h, hs => by
    have h1 := h x List.mem_cons_self
    unfold sumI at hs ⊢
    split at hs
    · omega
    · rename_i hn
      rw [if_neg hn]
      have h2 := zp11 hb (n := n + c x) (fun y hy => h y (List.mem_cons_of_mem _ hy)) hs
      have h3 : (brk g x).size ≤ (g x).size + 2 := by
        unfold brk
        split
        · simp only [zi3]; show 1 + _ + 1 ≤ _; omega
        · omega
      unfold tailT
      simp only [zi3]
      omega
theorem zq11 (f : Nat) : ∀ e, partsI f e ≤ 60 → (textS f e).size + 3 ≤ 16 * partsI f e := by
  induction f with
  | zero => intro e h; simp [partsI] at h
  | succ f ih =>
    intro e h
    unfold partsI at h ⊢
    split at h
    · rename_i hh
      rw [if_pos hh]
      have hd := (zg20 hh).1
      have hk := (zg8 h).2
      have h1 : 1 ≤ sumI (partsI f) e.rl 1 := by
        have : ∀ (l : List E) (n : Nat), sumI (partsI f) l n ≤ 60 → n ≤ sumI (partsI f) l n := by
          intro l
          induction l with
          | nil => intro n _; exact Nat.le_refl _
          | cons x r ihl =>
            intro n hn
            unfold sumI at hn ⊢
            split at hn
            · omega
            · rename_i hc
              rw [if_neg hc]
              have := ihl _ hn
              omega
        exact this _ _ h
      unfold textS
      rcases zz4 hd with ⟨k, q1, q2, q3⟩ | ⟨k, q1, q3⟩ | ⟨k, q1, q3⟩ | ⟨k, q1, q2, q3⟩ | ⟨k, q1, x, q2, q3⟩
      · rw [if_pos k, q1]; omega
      · rw [k]
        have : e.rs.size ≤ 10 := by
          unfold setOkB at q1
          simp only [Bool.and_eq_true, decide_eq_true_iff] at q1
          exact q1.2.2
        show (ByteArray.mk #[91] ++ e.rs ++ ByteArray.mk #[93]).size + 3 ≤ _
        simp only [zi3]
        show 1 + e.rs.size + 1 + 3 ≤ _
        omega
      · rcases k with k | k | k | k <;> rw [k]
        · show 1 + 3 ≤ _; omega
        · show 2 + 3 ≤ _; omega
        · show 1 + 3 ≤ _; omega
        · show 1 + 3 ≤ _; omega
      · have key : ∀ b : ByteArray, b.size ≤ 1 → (joinT (textS f) b e.rl).size + 3 ≤ 16 * sumI (partsI f) e.rl 1 := by
          intro b hb
          have h3 := zp11 (g := textS f) (b := b) (c := partsI f) hb (fun x hx => ih x (hk x hx)) h
          have h4 : (joinT (textS f) b e.rl).size ≤ (tailT (textS f) b e.rl).size := by
            cases e.rl with
            | nil => exact Nat.le_refl _
            | cons x r => unfold joinT; conv => rhs; unfold tailT
                          simp only [zi3]; omega
          omega
        rcases k with k | k <;> rw [k]
        · exact key ByteArray.empty (by rw [zo7]; omega)
        · exact key ⟨#[124]⟩ (Nat.le_refl 1)
      · have h3 := ih x (hk x (by rw [q2]; exact List.mem_cons_self))
        rw [q2] at h h1 ⊢
        have h5 : sumI (partsI f) [x] 1 = 1 + partsI f x := by
          unfold sumI at h ⊢
          split at h
          · omega
          · rename_i hc; rw [if_neg hc]; rfl
        have h6 : (oneT (textS f) x).size ≤ (textS f x).size + 2 := by
          unfold oneT
          split
          · simp only [zi3]; show 1 + _ + 1 ≤ _; omega
          · omega
        rw [h5]
        rcases k with k | k | k <;> rw [k]
        · show (oneT (textS f) x ++ ByteArray.mk #[42]).size + 3 ≤ _
          rw [zi3]; show (oneT (textS f) x).size + 1 + 3 ≤ _; omega
        · show (oneT (textS f) x ++ ByteArray.mk #[43]).size + 3 ≤ _
          rw [zi3]; show (oneT (textS f) x).size + 1 + 3 ≤ _; omega
        · show (oneT (textS f) x ++ ByteArray.mk #[63]).size + 3 ≤ _
          rw [zi3]; show (oneT (textS f) x).size + 1 + 3 ≤ _; omega
    · omega
def rexT (e : E) : ByteArray := if rexOkI e then textS 6 e else ByteArray.empty
def p00 : PS := ⟨0, 0, false⟩
def readI (s : ByteArray) : E × PS := altI s (s.size + 8) p00
def readS (s : ByteArray) : E × PS := altS s (s.size + 8) p00
def parI (s : ByteArray) : Bool := !(readI s).2.b && ((readI s).2.a == s.size) && rexOkI (readI s).1 && (rexT (readI s).1).toList == s.toList
def parS (s : ByteArray) : Bool := decide (s.size ≤ 1000) && !(readS s).2.b && ((readS s).2.a == s.size) && (rexT (readS s).1).toList == s.toList
theorem toList_inj {a b : ByteArray} (h : a.toList = b.toList) : a = b := by
  rw [ByteArray.toList_eq, ByteArray.toList_eq] at h
  exact ByteArray.ext (Array.toList_inj.1 h)
theorem zq20 (s : ByteArray) : Here s 0 s := ⟨by omega, fun j hj => by rw [Nat.zero_add]⟩
theorem par_to {s : ByteArray} (h : parS s = true) : parI s = true ∧ readI s = readS s := by
  unfold parS at h
  simp only [Bool.and_eq_true, Bool.not_eq_true', decide_eq_true_iff] at h
  obtain ⟨⟨⟨h0, h1⟩, h2⟩, h3⟩ := h
  have e : readI s = readS s := (zk16 (s.size + 8) p00 rfl (by decide) h1).1
  refine ⟨?_, e⟩
  unfold parI
  rw [e, h1, h2, h3]
  have : rexOkI (readS s).1 = true := by
    cases hk : rexOkI (readS s).1 with
    | true => rfl
    | false =>
      have ht : rexT (readS s).1 = ByteArray.empty := by unfold rexT; rw [hk]; rfl
      rw [ht] at h3
      have hs := toList_inj (eq_of_beq h3)
      rw [← hs] at h1
      exact absurd h1 (by decide)
  rw [this]; rfl
theorem par_back {s : ByteArray} (h : parI s = true) : parS s = true := by
  unfold parI at h
  simp only [Bool.and_eq_true, Bool.not_eq_true'] at h
  obtain ⟨⟨⟨h1, h2⟩, h3⟩, h4⟩ := h
  have ht : rexT (readI s).1 = textS 6 (readI s).1 := by unfold rexT; rw [h3]; rfl
  have hs : textS 6 (readI s).1 = s := ht ▸ toList_inj (eq_of_beq h4)
  have hp : partsI 6 (readI s).1 ≤ 60 := by unfold rexOkI at h3; exact of_decide_eq_true h3
  have hok : okS 6 (readI s).1 = true := ((zj16 6 _).1.1 hp).2
  have hsz := zq11 6 _ hp
  rw [hs] at hsz
  have hb := alt_back s (s.size + 8) 6 (by omega) (readI s).1 (altI_can _ _) hok p00 rfl (by decide) (by rw [hs]; exact zq20 s) (.inl (by rw [hs]; show s.size ≤ 0 + s.size; omega))
  rw [hs] at hb
  have e : readS s = ((readI s).1, p00.go s.size) := hb
  unfold parS
  rw [e]
  simp only
  rw [h4]
  have : decide (s.size ≤ 1000) = true := by simp; omega
  rw [this]
  simp [PS.go, p00]
theorem zo16 (s : ByteArray) : parI s = parS s := by
  cases h : parS s with
  | true => exact (par_to h).1
  | false =>
    cases h2 : parI s with
    | false => rfl
    | true => rw [par_back h2] at h; cases h
def rexR (s : ByteArray) : E := if parI s then (readI s).1 else zeroR
theorem rexR_S (s : ByteArray) : rexR s = if parS s then (readS s).1 else zeroR := by
  unfold rexR
  rw [zo16]
  cases h : parS s with
  | true => rw [if_pos rfl, if_pos rfl, (par_to h).2]
  | false => rfl
inductive Fine : E → Prop
  | mk (k : Int) (s : ByteArray) (l : List E) (hk : 0 ≤ k ∧ k ≤ 11) (hs : s.size ≤ 1073741824) (hl : ∀ x ∈ l, Fine x) : Fine (rexE k s l)
theorem Fine.ty {e : E} (h : Fine e) : e.Ty Try.prog 141 ∧ e.enc.length = 3 := by
  induction h with
  | mk k s l hk hs hl ih =>
    refine ⟨E.Ty.mk_agg Try.underlying141 (E.TyF.mk_cons ?_ (E.TyF.mk_cons ?_ (E.TyF.mk_cons (E.Ty.mk_lst Try.underlying139 (by kernel_rfl) (fun x hx => (ih x hx).1) fun x hx => (ih x hx).2) E.TyF.mk_nil))), rfl⟩
    · simp only [E.Ty]
      refine ⟨Try.underlying3, ?_⟩
      have e1 : IntKind.i64.min = -9223372036854775808 := rfl
      have e2 : IntKind.i64.max = 9223372036854775807 := rfl
      simp only [Lit.wf, decide_eq_true_iff, Bool.and_eq_true, e1, e2]
      omega
    · simp only [E.Ty]
      exact ⟨Try.underlying9, by unfold maxLen; omega⟩
theorem Fine.leaf {k : Int} {s : ByteArray} (hk : 0 ≤ k ∧ k ≤ 11) (hs : s.size ≤ 1073741824) : Fine (rexE k s []) := .mk k s [] hk hs fun _ h => absurd h List.not_mem_nil
theorem Fine.zero : Fine zeroR := Fine.leaf ⟨by omega, by omega⟩ (by show (0 : Nat) ≤ _; omega)
theorem zl8 (k : Int) (s : ByteArray) (l : List E) : (rexE k s l).sz = s.size + (l.length + E.szL l) := by
  simp only [rexE, E.sz, E.szL]; omega
theorem zn9 : zeroR.sz = 0 := rfl
structure Good (s : ByteArray) (p : PS) (r : E × PS) (lo k m : Nat) : Prop where
  fine : Fine r.1
  ge : p.a + lo ≤ r.2.a
  le : r.2.a ≤ s.size
  d : r.2.d = p.d
  sz : r.1.sz + k + 2 * p.a ≤ 2 * r.2.a + m
section
variable {s : ByteArray} (hs : s.size ≤ 1048576)
theorem zi15 {c : Nat} : ∀ (f a : Nat), a ≤ s.size → a ≤ untB s c f a ∧ untB s c f a ≤ s.size
  | 0, a, h => ⟨Nat.le_refl _, h⟩
  | f + 1, a, h => by
    unfold untB
    split
    · rename_i h2
      have := zi15 (c := c) f (a + 1) (by omega)
      omega
    · exact ⟨Nat.le_refl _, h⟩
include hs
theorem zr11 {alt : PS → E × PS} {p : PS} (hp : p.a < s.size) (ha : Good s (p.go 1) (alt (p.go 1)) 0 0 1) : Good s p (atomI s alt p) 1 1 0 := by
  have e0 : ByteArray.empty.size = 0 := rfl
  have h1 : (p.go 1).a = p.a + 1 := rfl
  have h2 : (p.go 1).d = p.d := rfl
  have leaf : ∀ (k : Int) (t : ByteArray), 0 ≤ k ∧ k ≤ 11 → t.size ≤ 1 → Good s p (rexE k t [], p.go 1) 1 1 0 := fun k t hk ht =>
    ⟨Fine.leaf hk (by show t.size ≤ _; omega), by show p.a + 1 ≤ p.a + 1; omega, by show p.a + 1 ≤ _; omega, rfl, by
      show (rexE k t []).sz + 1 + 2 * p.a ≤ 2 * (p.a + 1) + 0
      rw [zl8]; simp only [List.length_nil, E.szL]; omega⟩
  unfold atomI atomIc
  split
  · exact leaf 1 _ (by omega) (by show (1 : Nat) ≤ 1; omega)
  split
  · exact leaf 2 _ (by omega) (by omega)
  split
  · exact leaf 10 _ (by omega) (by omega)
  split
  · exact leaf 11 _ (by omega) (by omega)
  split
  · have hu := zi15 (s := s) (c := 93) s.size (p.go 1).a (by omega)
    dsimp only
    split
    · rename_i hlt
      have hc : (cutB s (p.go 1).a (untB s 93 s.size (p.go 1).a)).size ≤ untB s 93 s.size (p.go 1).a - (p.go 1).a := by
        unfold cutB; rw [ByteArray.size_extract]; omega
      refine ⟨Fine.leaf (by omega) (by show (cutB _ _ _).size ≤ _; omega), ?_, ?_, rfl, ?_⟩
      · show p.a + 1 ≤ untB s 93 s.size (p.go 1).a + 1; omega
      · show untB s 93 s.size (p.go 1).a + 1 ≤ s.size; omega
      · show (rexE 3 (cutB s (p.go 1).a (untB s 93 s.size (p.go 1).a)) []).sz + 1 + 2 * p.a ≤ 2 * (untB s 93 s.size (p.go 1).a + 1) + 0
        rw [zl8]; simp only [List.length_nil, E.szL]; omega
    · exact ⟨Fine.zero, by show p.a + 1 ≤ p.a + 1; omega, by show p.a + 1 ≤ _; omega, rfl, by show zeroR.sz + 1 + 2 * p.a ≤ 2 * (p.a + 1) + 0; rw [zn9]; omega⟩
  split
  · split
    · rename_i h41
      have hl : (p.go 1).a < s.size := zw4 (by rw [h41]; decide)
      exact ⟨Fine.leaf (by omega) (by show (0 : Nat) ≤ _; omega), by show p.a + 1 ≤ (p.go 1).a + 1; omega, by show (p.go 1).a + 1 ≤ _; omega, rfl, by
        show (rexE 9 ByteArray.empty []).sz + 1 + 2 * p.a ≤ 2 * ((p.go 1).a + 1) + 0
        rw [zl8]; simp only [List.length_nil, E.szL]; omega⟩
    · obtain ⟨g1, g2, g3, g4, g5⟩ := ha
      dsimp only
      split
      · rename_i h41
        have hl : (alt (p.go 1)).2.a < s.size := zw4 (by rw [h41]; decide)
        exact ⟨g1, by show p.a + 1 ≤ (alt (p.go 1)).2.a + 1; omega, by show (alt (p.go 1)).2.a + 1 ≤ _; omega, by show (alt (p.go 1)).2.d = p.d; omega, by
          show (alt (p.go 1)).1.sz + 1 + 2 * p.a ≤ 2 * ((alt (p.go 1)).2.a + 1) + 0; omega⟩
      · exact ⟨Fine.zero, by show p.a + 1 ≤ (alt (p.go 1)).2.a; omega, g3, by show (alt (p.go 1)).2.d = p.d; omega, by
          show zeroR.sz + 1 + 2 * p.a ≤ 2 * (alt (p.go 1)).2.a + 0; rw [zn9]; omega⟩
  · exact ⟨Fine.zero, by show p.a + 1 ≤ p.a + 1; omega, by show p.a + 1 ≤ _; omega, rfl, by show zeroR.sz + 1 + 2 * p.a ≤ 2 * (p.a + 1) + 0; rw [zn9]; omega⟩
omit hs in
theorem zm8 {atom : PS → E × PS} {p : PS} (ha : Good s p (atom p) 1 1 0) : Good s p (itemI s atom p) 1 1 0 := by
  obtain ⟨g1, g2, g3, g4, g5⟩ := ha
  have e0 : ByteArray.empty.size = 0 := rfl
  have star : ∀ k : Int, 0 ≤ k ∧ k ≤ 11 → (atom p).2.a < s.size → Good s p (rexE k ByteArray.empty [(atom p).1], (atom p).2.go 1) 1 1 0 := fun k hk hl =>
    ⟨.mk k _ _ hk (by omega) (fun x hx => by obtain rfl := List.mem_singleton.1 hx; exact g1), by show p.a + 1 ≤ (atom p).2.a + 1; omega, by show (atom p).2.a + 1 ≤ _; omega, g4, by
      show (rexE k ByteArray.empty [(atom p).1]).sz + 1 + 2 * p.a ≤ 2 * ((atom p).2.a + 1) + 0
      rw [zl8]; simp only [List.length_cons, List.length_nil, E.szL]; omega⟩
  unfold itemI
  dsimp only
  split
  · rename_i h; exact star 6 (by omega) (zw4 (by rw [h]; decide))
  split
  · rename_i h; exact star 7 (by omega) (zw4 (by rw [h]; decide))
  split
  · rename_i h; exact star 8 (by omega) (zw4 (by rw [h]; decide))
  · exact ⟨g1, g2, g3, g4, g5⟩
omit hs in
theorem zr7 (x : E) : ∀ l : List E, E.szL (l ++ [x]) = E.szL l + x.sz
  | [] => by simp only [List.nil_append, E.szL]; omega
  | y :: r => by have := zr7 x r; simp only [List.cons_append, E.szL]; omega
structure GoodL (s : ByteArray) (p0 : PS) (l : List E) (q : PS) (m : Nat) : Prop where
  fine : ∀ x ∈ l, Fine x
  ge : p0.a ≤ q.a
  le : q.a ≤ s.size
  d : q.d = p0.d
  len : l.length + p0.a ≤ q.a + 1
  sz : E.szL l + l.length + 2 * p0.a ≤ 2 * q.a + m
omit hs in
theorem goI_lt {p : PS} (h : goI s p = true) : p.b = false ∧ p.a < s.size ∧ bAt s p.a ≠ 0 := by
  unfold goI at h
  simp only [Bool.and_eq_true, Bool.not_eq_true', beq_eq_false_iff_ne] at h
  exact ⟨h.1.1.1, zw4 h.1.1.2, h.1.1.2⟩
omit hs in
theorem zs7 {item : PS → E × PS} {p0 : PS} (hi : ∀ p, p.a < s.size → p.d = p0.d → p0.a ≤ p.a → Good s p (item p) 1 1 0) : ∀ (n : Nat) (l : List E) (p : PS), GoodL s p0 l p 0 → GoodL s p0 (catLoopI s item n l p).1 (catLoopI s item n l p).2 0
  | 0, l, p, h => h
  | n + 1, l, p, h => by
    unfold catLoopI
    split
    · rename_i hg
      obtain ⟨hb, hlt, -⟩ := goI_lt hg
      obtain ⟨g1, g2, g3, g4, g5⟩ := hi p hlt h.d h.ge
      obtain ⟨k1, k2, k3, k4, k5, k6⟩ := h
      refine zs7 hi n _ _ ⟨fun x hx => ?_, by omega, g3, by omega, ?_, ?_⟩
      · rcases List.mem_append.1 hx with hx | hx
        · exact k1 x hx
        · obtain rfl := List.mem_singleton.1 hx; exact g1
      · rw [List.length_append, List.length_singleton]; omega
      · rw [zr7, List.length_append, List.length_singleton]; omega
    · exact h
omit hs in
theorem zn8 {k : Int} (hk : 0 ≤ k ∧ k ≤ 11) {l : List E} (h : ∀ x ∈ l, Fine x) : Fine (oneOr k l) ∧ (oneOr k l).sz ≤ E.szL l + l.length := by
  match l, h with
  | [x], h => exact ⟨h x (List.mem_singleton.2 rfl), by show x.sz ≤ E.szL [x] + 1; simp only [E.szL]; omega⟩
  | [], h => exact ⟨.mk _ _ _ hk (by show (0 : Nat) ≤ _; omega) h, by show (rexE k ByteArray.empty []).sz ≤ _; rw [zl8]; have : ByteArray.empty.size = 0 := rfl; omega⟩
  | x :: y :: r, h => exact ⟨.mk _ _ _ hk (by show (0 : Nat) ≤ _; omega) h, by show (rexE k ByteArray.empty (x :: y :: r)).sz ≤ _; rw [zl8]; have : ByteArray.empty.size = 0 := rfl; omega⟩
omit hs in
theorem zb14 {item : PS → E × PS} {p : PS} (hp : p.a ≤ s.size) (hi : ∀ q, q.a < s.size → q.d = p.d → p.a ≤ q.a → Good s q (item q) 1 1 0) : Good s p (catI s item p) 0 0 0 := by
  have hL := zs7 (p0 := p) hi (s.size + 2) [] p ⟨fun _ h => absurd h List.not_mem_nil, Nat.le_refl _, hp, rfl, by simp, by simp [E.szL]⟩
  obtain ⟨k1, k2, k3, k4, k5, k6⟩ := hL
  unfold catI
  dsimp only
  split
  · exact ⟨Fine.zero, by show p.a + 0 ≤ (catLoopI s item (s.size + 2) [] p).2.a; omega, k3, k4, by show zeroR.sz + 0 + 2 * p.a ≤ 2 * (catLoopI s item (s.size + 2) [] p).2.a + 0; rw [zn9]; omega⟩
  · obtain ⟨f1, f2⟩ := zn8 (k := 4) (by omega) k1
    refine ⟨f1, ?_, k3, k4, ?_⟩ <;> dsimp only at * <;> omega
omit hs in
theorem barI_lt {p : PS} (h : barI s p = true) : p.b = false ∧ p.a < s.size := by
  unfold barI at h
  simp only [Bool.and_eq_true, Bool.not_eq_true', beq_iff_eq] at h
  exact ⟨h.1, zw4 (by rw [h.2]; decide)⟩
omit hs in
theorem zt7 {cat : PS → E × PS} {p0 : PS} (hc : ∀ p, p.a ≤ s.size → p.d = p0.d → p0.a ≤ p.a → Good s p (cat p) 0 0 0) : ∀ (n : Nat) (l : List E) (p : PS), GoodL s p0 l p 1 → GoodL s p0 (altLoopI s cat n l p).1 (altLoopI s cat n l p).2 1
  | 0, l, p, h => h
  | n + 1, l, p, h => by
    unfold altLoopI
    split
    · rename_i hg
      obtain ⟨hb, hlt⟩ := barI_lt hg
      obtain ⟨k1, k2, k3, k4, k5, k6⟩ := h
      have e1 : (p.go 1).a = p.a + 1 := rfl
      have e2 : (p.go 1).d = p.d := rfl
      obtain ⟨g1, g2, g3, g4, g5⟩ := hc (p.go 1) (by omega) (by omega) (by omega)
      refine zt7 hc n _ _ ⟨fun x hx => ?_, by omega, g3, by omega, ?_, ?_⟩
      · rcases List.mem_append.1 hx with hx | hx
        · exact k1 x hx
        · obtain rfl := List.mem_singleton.1 hx; exact g1
      · rw [List.length_append, List.length_singleton]; omega
      · rw [zr7, List.length_append, List.length_singleton]; omega
    · exact h
omit hs in
theorem zr20 {cat : PS → E × PS} {p : PS} (hp : p.a ≤ s.size) (hc : ∀ q, q.a ≤ s.size → q.d = p.d + 1 → p.a ≤ q.a → Good s q (cat q) 0 0 0) : Good s p (altB s cat p) 0 0 1 := by
  obtain ⟨q0, hq0⟩ : ∃ q0 : PS, q0 = ⟨p.a, p.d + 1, p.b || decide (40 < p.d + 1)⟩ := ⟨_, rfl⟩
  have e1 : q0.a = p.a := by rw [hq0]
  have e2 : q0.d = p.d + 1 := by rw [hq0]
  obtain ⟨g1, g2, g3, g4, g5⟩ := hc q0 (by omega) e2 (by omega)
  have hL := zt7 (p0 := q0) (fun q h1 h2 h3 => hc q h1 (by omega) (by omega)) (s.size + 1) [(cat q0).1] (cat q0).2
    ⟨fun x hx => by obtain rfl := List.mem_singleton.1 hx; exact g1, by omega, g3, g4, by simp only [List.length_singleton]; omega, by simp only [E.szL, List.length_singleton]; omega⟩
  obtain ⟨k1, k2, k3, k4, k5, k6⟩ := hL
  obtain ⟨f1, f2⟩ := zn8 (k := 5) (by omega) k1
  unfold altB
  rw [← hq0]
  refine ⟨f1, ?_, k3, ?_, ?_⟩ <;> dsimp only at * <;> omega
theorem zj10 (f : Nat) : ∀ p : PS, p.a ≤ s.size → s.size + 1 ≤ p.a + f → Good s p (altI s f p) 0 0 1 := by
  induction f with
  | zero => intro p h1 h2; omega
  | succ f ih =>
    intro p h1 h2
    exact zr20 h1 fun q hq hqd hqa => zb14 hq fun r hr hrd hra => zm8 (zr11 hs hr (ih _ (by show r.a + 1 ≤ _; omega) (by show s.size + 1 ≤ r.a + 1 + f; omega)))
end
end Go.Proofs.Ytghljnfbbaklnaa
