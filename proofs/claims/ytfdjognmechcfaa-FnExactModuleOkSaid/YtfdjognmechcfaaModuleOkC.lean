/- Regular expressions come back of their texts: the reference's reader. -/
import Derived.Shelf.Lays
import Derived.Shelf.Strings.BuilderX
import Derived.Shelf.Small.Strs
import Derived.Shelf.Strings.OnBuilder
import Derived.Deep.RegionHeld3
import Derived.Test.YtfdjognmechcfaaModuleOkA
import Derived.Test.YtfdjognmechcfaaModuleOkB
namespace Go.Proofs.Ytfdjognmechcfaa
open Go.RowKit
set_option maxRecDepth 100000
def brk (g : E → ByteArray) (x : E) : ByteArray := if x.rk = 5 then ⟨#[40]⟩ ++ g x ++ ⟨#[41]⟩ else g x
def oneT (g : E → ByteArray) (x : E) : ByteArray := if x.rk = 4 ∨ x.rk = 5 then ⟨#[40]⟩ ++ g x ++ ⟨#[41]⟩ else g x
def tailT (g : E → ByteArray) (by_ : ByteArray) : List E → ByteArray
  | [] => ByteArray.empty
  | y :: r => by_ ++ (brk g y ++ tailT g by_ r)
def joinT (g : E → ByteArray) (by_ : ByteArray) : List E → ByteArray
  | [] => ByteArray.empty
  | x :: r => brk g x ++ tailT g by_ r
def textS : Nat → E → ByteArray
  | 0, _ => ByteArray.empty
  | f + 1, e =>
    if e.rk = 1 then e.rs
    else if e.rk = 2 then ⟨#[46]⟩
    else if e.rk = 3 then ⟨#[91]⟩ ++ e.rs ++ ⟨#[93]⟩
    else if e.rk = 4 then joinT (textS f) ByteArray.empty e.rl
    else if e.rk = 5 then joinT (textS f) ⟨#[124]⟩ e.rl
    else if e.rk = 6 then oneT (textS f) (e.rl.headD zeroR) ++ ⟨#[42]⟩
    else if e.rk = 7 then oneT (textS f) (e.rl.headD zeroR) ++ ⟨#[43]⟩
    else if e.rk = 8 then oneT (textS f) (e.rl.headD zeroR) ++ ⟨#[63]⟩
    else if e.rk = 10 then ⟨#[94]⟩
    else if e.rk = 11 then ⟨#[36]⟩
    else ⟨#[40, 41]⟩
theorem zz4 {k : Int} {s : ByteArray} {l : List E} (h : headR k s l = true) :
    (k = 1 ∧ s.size = 1 ∧ litB (bAt s 0) = true ∧ l = []) ∨ (k = 3 ∧ setOkB s = true ∧ l = []) ∨ ((k = 2 ∨ k = 9 ∨ k = 10 ∨ k = 11) ∧ s.size = 0 ∧ l = []) ∨
    ((k = 4 ∨ k = 5) ∧ s.size = 0 ∧ 2 ≤ l.length ∧ l.length ≤ 8) ∨ ((k = 6 ∨ k = 7 ∨ k = 8) ∧ s.size = 0 ∧ ∃ x, l = [x] ∧ loopK x.rk = false) := by
  have nil : (l.length == 0) = true → l = [] := fun h => List.length_eq_zero_iff.1 (eq_of_beq h)
  unfold headR at h
  split at h
  · rename_i k1
    simp only [Bool.and_eq_true] at h
    exact .inl ⟨k1, eq_of_beq h.1.1, h.1.2, nil h.2⟩
  split at h
  · rename_i _ k1
    simp only [Bool.and_eq_true] at h
    exact .inr (.inl ⟨k1, h.1, nil h.2⟩)
  split at h
  · rename_i _ _ k1
    simp only [Bool.and_eq_true] at h
    exact .inr (.inr (.inl ⟨k1, eq_of_beq h.1, nil h.2⟩))
  split at h
  · rename_i _ _ _ k1
    simp only [Bool.and_eq_true, decide_eq_true_iff] at h
    exact .inr (.inr (.inr (.inl ⟨k1, eq_of_beq h.1, h.2.1, h.2.2⟩)))
  split at h
  · rename_i _ _ _ _ k1
    simp only [Bool.and_eq_true] at h
    refine .inr (.inr (.inr (.inr ⟨k1, eq_of_beq h.1.1, ?_⟩)))
    have hl := eq_of_beq h.1.2
    match l, hl, h.2 with
    | [x], _, h2 => exact ⟨x, rfl, by simpa using h2⟩
  · cases h
theorem zg7 {a b : ByteArray} {j : Nat} : bAt (a ++ b) j = if j < a.size then bAt a j else bAt b (j - a.size) := by
  unfold bAt
  have h1 : (a ++ b).data = a.data ++ b.data := ByteArray.data_append
  rw [h1, Array.getElem?_append]
  have : a.data.size = a.size := rfl
  rw [this]
  split <;> rfl
theorem zi3 (a b : ByteArray) : (a ++ b).size = a.size + b.size := by
  show (a ++ b).data.size = a.data.size + b.data.size
  rw [ByteArray.data_append, Array.size_append]
theorem zo7 : ByteArray.empty.size = 0 := rfl
theorem zk8 (a : ByteArray) : ByteArray.empty ++ a = a := by
  apply ByteArray.ext; rw [ByteArray.data_append]; exact Array.empty_append
theorem zh15 (a : ByteArray) : a ++ ByteArray.empty = a := by
  apply ByteArray.ext; rw [ByteArray.data_append]; exact Array.append_empty
theorem zy6 (a b c : ByteArray) : a ++ b ++ c = a ++ (b ++ c) := by
  apply ByteArray.ext; simp only [ByteArray.data_append, Array.append_assoc]
theorem zh10 {a b : ByteArray} (h : a.size = b.size) (h2 : ∀ j, j < a.size → bAt a j = bAt b j) : a = b := by
  apply ByteArray.ext
  refine Array.ext h fun i hi hi' => ?_
  have := h2 i hi
  unfold bAt at this
  rw [Array.getElem?_eq_getElem hi, Array.getElem?_eq_getElem hi'] at this
  exact UInt8.toNat_inj.1 this
theorem zp7 {s : ByteArray} (h : s.size = 0) : s = ByteArray.empty := zh10 h fun j hj => by omega
theorem one_eta {s : ByteArray} (h : s.size = 1) : oneB (bAt s 0) = s := by
  refine zh10 (by rw [h]; rfl) fun j hj => ?_
  have hj : j < 1 := hj
  obtain rfl : j = 0 := by omega
  unfold oneB
  show (UInt8.ofNat (bAt s 0)).toNat = bAt s 0
  rw [UInt8.toNat_ofNat']
  exact Nat.mod_eq_of_lt (zn7 s 0)
def Here (s : ByteArray) (p : Nat) (t : ByteArray) : Prop := p + t.size ≤ s.size ∧ ∀ j, j < t.size → bAt s (p + j) = bAt t j
theorem Here.app {s a b : ByteArray} {p : Nat} (h : Here s p (a ++ b)) : Here s p a ∧ Here s (p + a.size) b := by
  obtain ⟨h1, h2⟩ := h
  rw [zi3] at h1 h2
  refine ⟨⟨by omega, fun j hj => ?_⟩, ⟨by omega, fun j hj => ?_⟩⟩
  · rw [h2 j (by omega), zg7, if_pos hj]
  · have := h2 (a.size + j) (by omega)
    rw [zg7, if_neg (by omega), Nat.add_sub_cancel_left] at this
    rw [Nat.add_assoc]; exact this
theorem Here.at0 {s t : ByteArray} {p : Nat} (h : Here s p t) (ht : 0 < t.size) : bAt s p = bAt t 0 := h.2 0 ht
theorem Here.cut {s t : ByteArray} {p : Nat} (h : Here s p t) : cutB s p (p + t.size) = t := by
  refine zh10 (by rw [zs13 (by omega) h.1]; omega) fun j hj => ?_
  rw [zs13 (by omega) h.1] at hj
  rw [bAt_cut h.1 (by omega), h.2 j (by omega)]
def okFst (c : Nat) : Bool := litB c || c == 46 || c == 91 || c == 40 || c == 94 || c == 36
theorem zh12 {c : Nat} (h : okFst c = true) : c ≠ 0 ∧ c ≠ 41 ∧ c ≠ 124 ∧ c ≠ 42 ∧ c ≠ 43 ∧ c ≠ 63 := by
  refine ⟨?_, ?_, ?_, ?_, ?_, ?_⟩ <;> (rintro rfl; cases h)
theorem zi12 {g : E → ByteArray} {x : E} (h : 0 < (g x).size ∧ okFst (bAt (g x) 0) = true) : 0 < (brk g x).size ∧ okFst (bAt (brk g x) 0) = true := by
  unfold brk
  split
  · refine ⟨by simp only [zi3]; show 0 < 1 + _ + 1; omega, ?_⟩
    rw [zy6, zg7]
    rfl
  · exact h
theorem oneT_fst {g : E → ByteArray} {x : E} (h : 0 < (g x).size ∧ okFst (bAt (g x) 0) = true) : 0 < (oneT g x).size ∧ okFst (bAt (oneT g x) 0) = true := by
  unfold oneT
  split
  · refine ⟨by simp only [zi3]; show 0 < 1 + _ + 1; omega, ?_⟩
    rw [zy6, zg7]
    rfl
  · exact h
theorem zi20 {g : E → ByteArray} {b : ByteArray} {x : E} {r : List E} (h : 0 < (g x).size ∧ okFst (bAt (g x) 0) = true) : 0 < (joinT g b (x :: r)).size ∧ okFst (bAt (joinT g b (x :: r)) 0) = true := by
  obtain ⟨h1, h2⟩ := zi12 h
  unfold joinT
  refine ⟨by rw [zi3]; omega, ?_⟩
  rw [zg7, if_pos h1]; exact h2
theorem zj20 {a b : ByteArray} (h : 0 < a.size ∧ okFst (bAt a 0) = true) : 0 < (a ++ b).size ∧ okFst (bAt (a ++ b) 0) = true := by
  refine ⟨by rw [zi3]; omega, ?_⟩
  rw [zg7, if_pos h.1]; exact h.2
theorem zq7 {f : Nat} {e : E} (h : okS (f + 1) e = true) : (∀ x ∈ e.rl, okS f x = true ∧ (x.rk = e.rk → loopK e.rk = true)) ∧ headR e.rk e.rs e.rl = true := by
  unfold okS at h
  rw [Bool.and_eq_true] at h
  refine ⟨fun x hx => ?_, h.2⟩
  have := List.all_eq_true.1 h.1 x hx
  rw [Bool.and_eq_true] at this
  refine ⟨this.1, fun hk => ?_⟩
  have h2 := this.2
  rw [hk] at h2
  simpa using h2
theorem zs6 (f : Nat) : ∀ e, okS f e = true → 0 < (textS f e).size ∧ okFst (bAt (textS f e) 0) = true := by
  induction f with
  | zero => intro e h; cases h
  | succ f ih =>
    intro e h
    obtain ⟨hk, hh⟩ := zq7 h
    unfold textS
    rcases zz4 hh with ⟨k, h1, h2, h3⟩ | ⟨k, h1, h3⟩ | ⟨k, h1, h3⟩ | ⟨k, h1, h2, h3⟩ | ⟨k, h1, x, h2, h3⟩
    · rw [if_pos k]
      refine ⟨by omega, ?_⟩
      unfold okFst
      rw [h2]; rfl
    · rw [k]
      simp only [Int.reduceEq, if_false, if_true]
      rw [zy6]
      exact zj20 ⟨by decide, rfl⟩
    · rcases k with k | k | k | k <;> (rw [k]; exact ⟨Nat.zero_lt_succ _, rfl⟩)
    · obtain ⟨x, r, hl⟩ : ∃ x r, e.rl = x :: r := by
        match hq : e.rl, h2 with
        | x :: r, _ => exact ⟨x, r, rfl⟩
      have hx := ih x (hk x (by rw [hl]; exact List.mem_cons_self)).1
      rw [hl]
      rcases k with k | k <;> (rw [k]; exact zi20 hx)
    · have hx := oneT_fst (ih x (hk x (by rw [h2]; exact List.mem_cons_self)).1)
      rw [h2]
      rcases k with k | k | k <;> (rw [k]; exact zj20 hx)
inductive Can : E → Prop
  | mk (k : Int) (s : ByteArray) (l : List E) (h : ∀ x ∈ l, Can x) : Can (rexE k s l)
theorem Can.eta {e : E} (h : Can e) : e = rexE e.rk e.rs e.rl := by cases h; rfl
theorem Can.kid {e x : E} (h : Can e) (hx : x ∈ e.rl) : Can x := by cases h with | mk k s l h => exact h x hx
theorem zk20 {s : ByteArray} {c : Nat} : ∀ (n a f : Nat), n ≤ f → (∀ j, j < n → a + j < s.size ∧ bAt s (a + j) ≠ c) → (s.size ≤ a + n ∨ bAt s (a + n) = c) → untB s c f a = a + n
  | 0, a, 0, _, _, _ => rfl
  | 0, a, f + 1, _, _, h2 => by
    unfold untB
    rw [if_neg]; · rfl
    rintro ⟨h3, h4⟩
    rcases h2 with h2 | h2
    · omega
    · exact h4 h2
  | n + 1, a, 0, h, _, _ => by omega
  | n + 1, a, f + 1, h, h1, h2 => by
    unfold untB
    rw [if_pos (by simpa using h1 0 (by omega))]
    rw [zk20 n (a + 1) f (by omega) (fun j hj => by have := h1 (j + 1) (by omega); rw [show a + 1 + j = a + (j + 1) by omega]; exact this) (by rw [show a + 1 + n = a + (n + 1) by omega]; exact h2)]
    omega
theorem zl20 {s : ByteArray} (h : setOkB s = true) : ∀ j, j < s.size → litB (bAt s j) = true := by
  intro j hj
  unfold setOkB at h
  rw [Bool.and_eq_true] at h
  have := List.all_eq_true.1 h.1 j (List.mem_range.2 hj)
  unfold setAtB at this
  rw [Bool.and_eq_true] at this
  exact this.1
section
variable {s : ByteArray} {alt : PS → E × PS}
theorem zl16 {p : PS} (hb : p.b = false) (hp : p.a < s.size) : atomS s alt p = atomSc s alt (bAt s p.a) (p.go 1) := by
  unfold atomS
  rw [if_neg]
  rintro (h | h)
  · rw [hb] at h; cases h
  · omega
theorem zh7 {p : PS} {c : Nat} (hb : p.b = false) (hc : c ≠ 0) (h : bAt s p.a = c) : isB s c p = true := by
  rw [zf10 hc hb, h]; simp
theorem zt6 {p : PS} {c : Nat} (h : bAt s p.a ≠ c) : isB s c p = false := by
  unfold isB
  have : (bAt s p.a == c) = false := by simpa using h
  rw [this, Bool.and_false]
theorem zy13 {g : Nat} {e : E} {p : PS} (hc : Can e) (ho : okS g e = true) (hk : e.rk ≠ 4 ∧ e.rk ≠ 5 ∧ loopK e.rk = false) (hb : p.b = false) (hh : Here s p.a (textS g e)) : atomS s alt p = (e, p.go (textS g e).size) := by
  have h0 := zs6 g e ho
  rw [zl16 hb (by have := hh.1; omega)]
  cases g with
  | zero => cases ho
  | succ f =>
  obtain ⟨_, hd⟩ := zq7 ho
  rw [hh.at0 h0.1]
  clear h0
  have he := hc.eta
  rcases zz4 hd with ⟨k, h1, h2, h3⟩ | ⟨k, h1, h3⟩ | ⟨k, h1, h3⟩ | ⟨k, h1, h2, h3⟩ | ⟨k, h1, x, h2, h3⟩
  · have ht : textS (f + 1) e = e.rs := by unfold textS; rw [if_pos k]
    rw [ht, zi8 h2, one_eta h1, h1]
    rw [k, h3] at he
    exact congrArg (·, p.go 1) he.symm
  · have ht : textS (f + 1) e = ⟨#[91]⟩ ++ e.rs ++ ⟨#[93]⟩ := by unfold textS; rw [k]; rfl
    rw [ht] at hh ⊢
    have q := hh.app
    have q1 := q.1.app
    have hu : untB s 93 s.size (p.a + 1) = p.a + 1 + e.rs.size := by
      refine zk20 _ _ _ ?_ (fun j hj => ⟨?_, ?_⟩) (.inr ?_)
      · have := q1.2.1; have e1 : (ByteArray.mk #[91]).size = 1 := rfl; omega
      · have := q1.2.1; have e1 : (ByteArray.mk #[91]).size = 1 := rfl; omega
      · rw [show bAt s (p.a + 1 + j) = bAt e.rs j from q1.2.2 j hj]
        have := lit_ne (zl20 h1 j hj)
        intro e9
        have h9 := zl20 h1 j hj
        rw [e9] at h9
        cases h9
      · have := q.2.2 0 (by decide)
        rw [zi3, show p.a + ((ByteArray.mk #[91]).size + e.rs.size) + 0 = p.a + 1 + e.rs.size by show p.a + (1 + e.rs.size) + 0 = _; omega] at this
        exact this
    rw [zy6, zg7]
    show atomSc s alt 91 (p.go 1) = _
    rw [zn11]
    show (if isB s 93 ⟨untB s 93 s.size (p.a + 1), p.d, p.b⟩ = true then (rexE 3 (cutB s (p.a + 1) (untB s 93 s.size (p.a + 1))) [], (⟨untB s 93 s.size (p.a + 1) + 1, p.d, p.b⟩ : PS)) else _) = _
    have h93 : bAt s (p.a + 1 + e.rs.size) = 93 := by
      have := q.2.2 0 (by decide)
      rw [zi3, show p.a + ((ByteArray.mk #[91]).size + e.rs.size) + 0 = p.a + 1 + e.rs.size by show p.a + (1 + e.rs.size) + 0 = _; omega] at this
      exact this
    rw [hu, zh7 (p := ⟨p.a + 1 + e.rs.size, p.d, p.b⟩) hb (by decide) h93]
    · rw [if_pos rfl, show cutB s (p.a + 1) (p.a + 1 + e.rs.size) = e.rs from q1.2.cut]
      rw [k, h3] at he
      rw [← he]
      refine congrArg (e, ·) ?_
      unfold PS.go
      have e1 : (ByteArray.mk #[91]).size = 1 := rfl
      have e2 : (ByteArray.mk #[93]).size = 1 := rfl
      simp only [zi3, e1, e2]
      congr 1
      omega
  · have hs := zp7 h1
    rw [hs, h3] at he
    rcases k with k | k | k | k
    · have ht : textS (f + 1) e = ⟨#[46]⟩ := by unfold textS; rw [k]; rfl
      rw [k] at he
      rw [ht]; exact congrArg (·, p.go 1) he.symm
    · have ht : textS (f + 1) e = ⟨#[40, 41]⟩ := by unfold textS; rw [k]; rfl
      rw [k] at he
      rw [ht] at hh ⊢
      show groupS s alt (p.go 1) = _
      unfold groupS
      rw [zh7 (p := p.go 1) hb (by decide) (show bAt s (p.a + 1) = 41 from hh.2 1 (by decide))]
      rw [if_pos rfl]; exact congrArg (·, p.go 2) he.symm
    · have ht : textS (f + 1) e = ⟨#[94]⟩ := by unfold textS; rw [k]; rfl
      rw [k] at he
      rw [ht]; exact congrArg (·, p.go 1) he.symm
    · have ht : textS (f + 1) e = ⟨#[36]⟩ := by unfold textS; rw [k]; rfl
      rw [k] at he
      rw [ht]; exact congrArg (·, p.go 1) he.symm
  · rcases k with k | k
    · exact absurd k hk.1
    · exact absurd k hk.2.1
  · have := hk.2.2
    rcases k with k | k | k <;> (rw [k] at this; cases this)
end
def Stop (s : ByteArray) (a : Nat) : Prop := s.size ≤ a ∨ bAt s a = 41
def StopC (s : ByteArray) (a : Nat) : Prop := s.size ≤ a ∨ bAt s a = 41 ∨ bAt s a = 124
def NoPost (s : ByteArray) (a : Nat) : Prop := bAt s a ≠ 42 ∧ bAt s a ≠ 43 ∧ bAt s a ≠ 63
theorem StopC.post {s : ByteArray} {a : Nat} (h : StopC s a) : NoPost s a := by
  rcases h with h | h | h
  · unfold NoPost; rw [zh8 h]; decide
  · unfold NoPost; rw [h]; decide
  · unfold NoPost; rw [h]; decide
theorem zm16 {s : ByteArray} {a : Nat} (h : okFst (bAt s a) = true) : NoPost s a := (zh12 h).2.2.2
def AltOk (s : ByteArray) (F f : Nat) : Prop := ∀ e, Can e → okS f e = true → ∀ p : PS, p.b = false → p.d + f ≤ 9 → Here s p.a (textS f e) → Stop s (p.a + (textS f e).size) → altS s F p = (e, p.go (textS f e).size)
theorem zm20 (p : PS) (m n : Nat) : (p.go m).go n = p.go (m + n) := by unfold PS.go; simp only [Nat.add_assoc]
section
variable {s : ByteArray} {F : Nat}
theorem zo11 {g : Nat} {y : E} {p : PS} (hA : AltOk s F g) (hc : Can y) (ho : okS g y = true) (hb : p.b = false) (hd : p.d + 1 + g ≤ 9) (hh : Here s p.a (⟨#[40]⟩ ++ textS g y ++ ⟨#[41]⟩)) : atomS s (altS s F) p = (y, p.go ((textS g y).size + 2)) := by
  have q := hh.app
  have q1 := q.1.app
  have e1 : (ByteArray.mk #[40]).size = 1 := rfl
  have e2 : (ByteArray.mk #[41]).size = 1 := rfl
  rw [zi3, e1] at q
  rw [e1] at q1
  rw [zl16 hb (by have := q1.1.1; omega)]
  have hg : 0 < g := by cases g with
    | zero => cases ho
    | succ g => omega
  rw [show bAt s p.a = 40 from q1.1.2 0 (by decide)]
  show groupS s (altS s F) (p.go 1) = _
  unfold groupS
  have h0 := zs6 g y ho
  have h41 : bAt s (p.a + 1) ≠ 41 := by
    rw [q1.2.at0 h0.1]
    exact (zh12 h0.2).2.1
  rw [zt6 (show bAt s (p.go 1).a ≠ 41 from h41)]
  simp only [Bool.false_eq_true, if_false]
  rw [if_neg (by show ¬ 8 < p.d + 1; omega)]
  have hr := hA y hc ho ⟨p.a + 1, p.d + 1, p.b⟩ hb hd q1.2 (.inr (by have := q.2.2 0 (by decide); rw [show p.a + (1 + (textS g y).size) + 0 = p.a + 1 + (textS g y).size by omega] at this; exact this))
  have e3 : altS s F ⟨(p.go 1).a, (p.go 1).d + 1, (p.go 1).b⟩ = (y, ⟨p.a + 1 + (textS g y).size, p.d + 1, p.b⟩) := hr
  rw [e3]
  simp only [Nat.add_sub_cancel]
  have h3 : bAt s (p.a + 1 + (textS g y).size) = 41 := by
    have := q.2.2 0 (by decide)
    rw [show p.a + (1 + (textS g y).size) + 0 = p.a + 1 + (textS g y).size by omega] at this
    exact this
  rw [zh7 (p := ⟨p.a + 1 + (textS g y).size, p.d, p.b⟩) hb (by decide) h3, if_pos rfl]
  refine congrArg (y, ·) ?_
  unfold PS.go
  congr 1
  simp only
  omega
theorem zn20 {e : E} {p q : PS} {atom : PS → E × PS} (h : atom p = (e, q)) (hn : NoPost s q.a) : itemS s atom p = (e, q) := by
  unfold itemS
  rw [h]
  simp only [zt6 hn.1, zt6 hn.2.1, zt6 hn.2.2, Bool.false_eq_true, if_false]
theorem zz13 {g : Nat} {e : E} {p : PS} (hA : ∀ g', g = g' + 1 → AltOk s F g') (hc : Can e) (ho : okS g e = true) (h4 : e.rk ≠ 4) (h5 : e.rk ≠ 5) (hb : p.b = false) (hd : p.d + g ≤ 9) (hh : Here s p.a (textS g e)) (hn : NoPost s (p.a + (textS g e).size)) : itemS s (atomS s (altS s F)) p = (e, p.go (textS g e).size) := by
  by_cases hl : loopK e.rk = true
  · cases g with
    | zero => cases ho
    | succ f =>
    obtain ⟨hkk, hdd⟩ := zq7 ho
    have he := hc.eta
    rcases zz4 hdd with ⟨k, h1, h2, h3⟩ | ⟨k, h1, h3⟩ | ⟨k, h1, h3⟩ | ⟨k, h1, h2, h3⟩ | ⟨k, h1, x, h2, h3⟩
    · rw [k] at hl; cases hl
    · rw [k] at hl; cases hl
    · rcases k with k | k | k | k <;> (rw [k] at hl; cases hl)
    · rcases k with k | k <;> (rw [k] at hl; cases hl)
    · have hx := hkk x (by rw [h2]; exact List.mem_cons_self)
      have hcx := hc.kid (x := x) (by rw [h2]; exact List.mem_cons_self)
      rw [zp7 h1, h2] at he
      have unit : ∀ c : Nat, Here s p.a (oneT (textS f) x ++ oneB c) → atomS s (altS s F) p = (x, p.go (oneT (textS f) x).size) := by
        intro c hc2
        have q := hc2.app.1
        unfold oneT at q ⊢
        split at q
        · rename_i hk
          rw [if_pos hk]
          rw [zo11 (hA f rfl) hcx hx.1 hb (by omega) q]
          refine congrArg (fun n => (x, p.go n)) ?_
          simp only [zi3]
          show _ = 1 + _ + 1
          omega
        · rename_i hk
          rw [if_neg hk]
          exact zy13 hcx hx.1 ⟨fun h => hk (.inl h), fun h => hk (.inr h), h3⟩ hb q
      have fin : ∀ (c : Nat) (K : Int), c ≠ 0 → c < 256 → e = rexE K ByteArray.empty [x] → textS (f + 1) e = oneT (textS f) x ++ oneB c →
          (∀ r : E × PS, r.2.b = false → bAt s r.2.a = c → (if isB s 42 r.2 then (rexE 6 ByteArray.empty [r.1], r.2.go 1) else if isB s 43 r.2 then (rexE 7 ByteArray.empty [r.1], r.2.go 1) else if isB s 63 r.2 then (rexE 8 ByteArray.empty [r.1], r.2.go 1) else r) = (rexE K ByteArray.empty [r.1], r.2.go 1)) → itemS s (atomS s (altS s F)) p = (e, p.go (textS (f + 1) e).size) := by
        intro c K hc0 hc256 he2 ht hsel
        rw [ht] at hh ⊢
        unfold itemS
        rw [unit c hh]
        have hq := hh.app.2.2 0 (show 0 < 1 by omega)
        have hcc : bAt (oneB c) 0 = c := by
          show (UInt8.ofNat c).toNat = c
          rw [UInt8.toNat_ofNat']; exact Nat.mod_eq_of_lt hc256
        rw [hcc] at hq
        have := hsel (x, p.go (oneT (textS f) x).size) hb hq
        simp only at this ⊢
        rw [this, zm20, ← he2, zi3]
        rfl
      rw [h2] at hkk
      rcases k with k | k | k
      · rw [k] at he
        refine fin 42 6 (by decide) (by decide) he ?_ fun r hr1 hr2 => ?_
        · unfold textS; rw [k, h2]; rfl
        · rw [zh7 hr1 (by decide) hr2]; rfl
      · rw [k] at he
        refine fin 43 7 (by decide) (by decide) he ?_ fun r hr1 hr2 => ?_
        · unfold textS; rw [k, h2]; rfl
        · rw [zt6 (by rw [hr2]; decide), zh7 hr1 (by decide) hr2]; rfl
      · rw [k] at he
        refine fin 63 8 (by decide) (by decide) he ?_ fun r hr1 hr2 => ?_
        · unfold textS; rw [k, h2]; rfl
        · rw [zt6 (by rw [hr2]; decide), zt6 (by rw [hr2]; decide), zh7 hr1 (by decide) hr2]; rfl
  · exact zn20 (zy13 hc ho ⟨h4, h5, by simpa using hl⟩ hb hh) hn
theorem zn16 {g : Nat} {x : E} {p : PS} (hA : ∀ g', g' ≤ g → AltOk s F g') (hc : Can x) (ho : okS g x = true) (h4 : x.rk ≠ 4) (hb : p.b = false) (hd : p.d + 1 + g ≤ 9) (hh : Here s p.a (brk (textS g) x)) (hn : NoPost s (p.a + (brk (textS g) x).size)) : itemS s (atomS s (altS s F)) p = (x, p.go (brk (textS g) x).size) := by
  unfold brk at hh hn ⊢
  split at hh
  · rename_i hk
    rw [if_pos hk] at hn ⊢
    have e1 : (ByteArray.mk #[40] ++ textS g x ++ ByteArray.mk #[41]).size = (textS g x).size + 2 := by
      simp only [zi3]
      show 1 + _ + 1 = _
      omega
    rw [e1] at hn ⊢
    exact zn20 (zo11 (hA g (Nat.le_refl _)) hc ho hb hd hh) hn
  · rename_i hk
    rw [if_neg hk] at hn ⊢
    exact zz13 (fun g' e => hA g' (by omega)) hc ho h4 hk hb (by omega) hh hn
theorem zc9 {g : Nat} (hA : ∀ g', g' ≤ g → AltOk s F g') : ∀ (r acc : List E) (n : Nat) (p : PS), r.length ≤ n → (∀ x ∈ r, Can x ∧ okS g x = true ∧ x.rk ≠ 4) → p.b = false → p.d + 1 + g ≤ 9 → Here s p.a (tailT (textS g) ByteArray.empty r) → StopC s (p.a + (tailT (textS g) ByteArray.empty r).size) →
    catLoopS s (itemS s (atomS s (altS s F))) n acc p = (acc ++ r, p.go (tailT (textS g) ByteArray.empty r).size)
  | [], acc, n, p, _, _, hb, _, _, hs => by
    have e : p.go (tailT (textS g) ByteArray.empty []).size = p := rfl
    rw [e, List.append_nil]
    cases n with
    | zero => rfl
    | succ n =>
      unfold catLoopS
      have hg : goS s p = false := by
        unfold goS
        rcases hs with h | h | h
        · have h : s.size ≤ p.a := h
          have : decide (p.a < s.size) = false := by simpa using h
          simp [this]
        · have h : bAt s p.a = 41 := h
          simp [h]
        · have h : bAt s p.a = 124 := h
          simp [h]
      rw [hg]; rfl
  | x :: r, acc, 0, p, h, _, _, _, _, _ => by simp at h
  | x :: r, acc, n + 1, p, hl, hr, hb, hd, hh, hs => by
    obtain ⟨hc, ho, h4⟩ := hr x List.mem_cons_self
    unfold tailT at hh hs ⊢
    rw [zk8] at hh hs ⊢
    have q := hh.app
    have h0 := zi12 (g := textS g) (zs6 g x ho)
    have hne := zh12 h0.2
    rw [← q.1.at0 h0.1] at hne
    unfold catLoopS
    have hlt : p.a < s.size := by have := q.1.1; omega
    have hg : goS s p = true := by
      unfold goS
      rw [hb]
      simp [hlt, hne.2.1, hne.2.2.1]
    rw [if_pos hg]
    have hn : NoPost s (p.a + (brk (textS g) x).size) := by
      cases r with
      | nil =>
        rw [zi3] at hs
        exact StopC.post (by simpa [tailT, zo7] using hs)
      | cons y r' =>
        have hy := zi12 (g := textS g) (zs6 g y (hr y (by simp)).2.1)
        have q2 := q.2
        unfold tailT at q2
        rw [zk8] at q2
        have := q2.app.1.at0 hy.1
        refine zm16 ?_
        rw [this]; exact hy.2
    rw [zn16 hA hc ho h4 hb hd q.1 hn]
    simp only
    rw [zc9 hA r (acc ++ [x]) n (p.go (brk (textS g) x).size) (by simpa using hl) (fun y hy => hr y (List.mem_cons_of_mem _ hy)) hb hd q.2 (by rw [zi3] at hs; rw [show p.a + ((brk (textS g) x).size + (tailT (textS g) ByteArray.empty r).size) = p.a + (brk (textS g) x).size + (tailT (textS g) ByteArray.empty r).size by omega] at hs; exact hs)]
    rw [zm20, zi3, List.append_assoc]
    rfl
theorem zj12 {g : E → ByteArray} {b : ByteArray} : ∀ {r : List E}, (∀ x ∈ r, 0 < (g x).size) → r.length ≤ (tailT g b r).size
  | [], _ => Nat.zero_le _
  | x :: r, h => by
    have h1 := zj12 (b := b) (r := r) fun y hy => h y (List.mem_cons_of_mem _ hy)
    have h2 : 0 < (brk g x).size := by
      unfold brk
      split
      · simp only [zi3]; show 0 < 1 + _ + 1; omega
      · exact h x List.mem_cons_self
    unfold tailT
    simp only [zi3, List.length_cons]
    omega
theorem zk12 {g : Nat} {e : E} {p : PS} (hA : ∀ g', g' < g → AltOk s F g') (hc : Can e) (ho : okS g e = true) (h5 : e.rk ≠ 5) (hb : p.b = false) (hd : p.d + g ≤ 9) (hh : Here s p.a (textS g e)) (hs : StopC s (p.a + (textS g e).size)) : catS s (itemS s (atomS s (altS s F))) p = (e, p.go (textS g e).size) := by
  cases g with
  | zero => cases ho
  | succ f =>
  by_cases h4 : e.rk = 4
  · obtain ⟨hkk, hdd⟩ := zq7 ho
    have he := hc.eta
    rcases zz4 hdd with ⟨k, h1, h2, h3⟩ | ⟨k, h1, h3⟩ | ⟨k, h1, h3⟩ | ⟨k, h1, h2, h3⟩ | ⟨k, h1, x, h2, h3⟩
    · rw [h4] at k; cases k
    · rw [h4] at k; cases k
    · rw [h4] at k; rcases k with k | k | k | k <;> cases k
    · have ht : textS (f + 1) e = joinT (textS f) ByteArray.empty e.rl := by unfold textS; rw [h4]; rfl
      rw [ht] at hh hs ⊢
      have hkid : ∀ x ∈ e.rl, Can x ∧ okS f x = true ∧ x.rk ≠ 4 := fun x hx => ⟨hc.kid hx, (hkk x hx).1, fun h => by have := (hkk x hx).2 (h.trans h4.symm); rw [h4] at this; cases this⟩
      match hl : e.rl, h2 with
      | x :: r, h2 =>
        rw [hl] at hh hs hkid
        obtain ⟨hcx, hox, h4x⟩ := hkid x List.mem_cons_self
        unfold joinT at hh hs ⊢
        have q := hh.app
        have hlen := zj12 (g := textS f) (b := ByteArray.empty) (r := r) fun y hy => (zs6 f y (hkid y (List.mem_cons_of_mem _ hy)).2.1).1
        have hn : NoPost s (p.a + (brk (textS f) x).size) := by
          cases r with
          | nil => simp at h2
          | cons y r' =>
            have hy := zi12 (g := textS f) (zs6 f y (hkid y (by simp)).2.1)
            have q2 := q.2
            unfold tailT at q2
            rw [zk8] at q2
            refine zm16 ?_
            rw [q2.app.1.at0 hy.1]; exact hy.2
        unfold catS
        rw [zn16 (fun g' hg' => hA g' (by omega)) hcx hox h4x hb (by omega) q.1 hn]
        simp only
        rw [zc9 (fun g' hg' => hA g' (by omega)) r [x] (s.size + 1) (p.go (brk (textS f) x).size) (by have := q.2.1; omega) (fun y hy => hkid y (List.mem_cons_of_mem _ hy)) hb (by show p.d + 1 + f ≤ 9; omega) q.2 (by rw [zi3] at hs; show StopC s (p.a + (brk (textS f) x).size + (tailT (textS f) ByteArray.empty r).size); rw [Nat.add_assoc]; exact hs)]
        rw [zm20, zi3]
        refine congrArg (·, _) ?_
        rw [zp7 h1, hl, h4] at he
        rw [he]
        cases r with
        | nil => simp at h2
        | cons y r' => rfl
    · rw [h4] at k; rcases k with k | k | k <;> cases k
  · have hi := zz13 (fun g' e => hA g' (by omega)) hc ho h4 h5 hb hd hh hs.post
    unfold catS
    rw [hi]
    simp only
    have hg : goS s (p.go (textS (f + 1) e).size) = false := by
      unfold goS
      rcases hs with h | h | h
      · have h : s.size ≤ (p.go (textS (f + 1) e).size).a := h
        have : decide ((p.go (textS (f + 1) e).size).a < s.size) = false := by simpa using h
        simp [this]
      · have h : bAt s (p.go (textS (f + 1) e).size).a = 41 := h
        simp [h]
      · have h : bAt s (p.go (textS (f + 1) e).size).a = 124 := h
        simp [h]
    have : catLoopS s (itemS s (atomS s (altS s F))) (s.size + 1) [e] (p.go (textS (f + 1) e).size) = ([e], p.go (textS (f + 1) e).size) := by
      unfold catLoopS
      rw [hg]; rfl
    rw [this]
    rfl
theorem zd9 {g : Nat} (hA : ∀ g', g' < g → AltOk s F g') : ∀ (r acc : List E) (n : Nat) (p : PS), r.length ≤ n → (∀ x ∈ r, Can x ∧ okS g x = true ∧ x.rk ≠ 5) → p.b = false → p.d + g ≤ 9 → Here s p.a (tailT (textS g) ⟨#[124]⟩ r) → Stop s (p.a + (tailT (textS g) ⟨#[124]⟩ r).size) →
    altLoopS s (catS s (itemS s (atomS s (altS s F)))) n acc p = (acc ++ r, p.go (tailT (textS g) ⟨#[124]⟩ r).size)
  | [], acc, n, p, _, _, hb, _, _, hs => by
    have e : p.go (tailT (textS g) ⟨#[124]⟩ []).size = p := rfl
    rw [e, List.append_nil]
    cases n with
    | zero => rfl
    | succ n =>
      unfold altLoopS
      have hg : isB s 124 p = false := by
        refine zt6 ?_
        rcases hs with h | h
        · have h : s.size ≤ p.a := h
          rw [zh8 h]; decide
        · have h : bAt s p.a = 41 := h
          rw [h]; decide
      rw [hg]; rfl
  | x :: r, acc, 0, p, h, _, _, _, _, _ => by simp at h
  | x :: r, acc, n + 1, p, hl, hr, hb, hd, hh, hs => by
    obtain ⟨hc, ho, h5⟩ := hr x List.mem_cons_self
    unfold tailT at hh hs ⊢
    have hbx : brk (textS g) x = textS g x := by unfold brk; rw [if_neg h5]
    rw [hbx] at hh hs ⊢
    have e1 : (ByteArray.mk #[124]).size = 1 := rfl
    have q := hh.app
    have q2 := q.2.app
    rw [e1] at q2
    unfold altLoopS
    rw [zh7 hb (by decide) (show bAt s p.a = 124 from q.1.2 0 (by decide)), if_pos rfl]
    have hn : StopC s (p.a + 1 + (textS g x).size) := by
      cases r with
      | nil =>
        simp only [zi3, e1] at hs
        rcases hs with h | h
        · exact .inl (by simpa [tailT, zo7, Nat.add_assoc] using h)
        · exact .inr (.inl (by simpa [tailT, zo7, Nat.add_assoc] using h))
      | cons y r' =>
        have q3 := q2.2
        unfold tailT at q3
        exact .inr (.inr (q3.app.1.2 0 (by decide)))
    rw [zk12 hA hc ho h5 (p := p.go 1) hb hd q2.1 hn]
    simp only
    rw [zd9 hA r (acc ++ [x]) n ((p.go 1).go (textS g x).size) (by simpa using hl) (fun y hy => hr y (List.mem_cons_of_mem _ hy)) hb hd q2.2 (by simp only [zi3, e1] at hs; show Stop s (p.a + 1 + (textS g x).size + (tailT (textS g) ⟨#[124]⟩ r).size); rw [show p.a + 1 + (textS g x).size + (tailT (textS g) ⟨#[124]⟩ r).size = p.a + (1 + ((textS g x).size + (tailT (textS g) ⟨#[124]⟩ r).size)) by omega]; exact hs)]
    simp only [zm20, zi3, e1, List.append_assoc]
    rw [show 1 + ((textS g x).size + (tailT (textS g) ⟨#[124]⟩ r).size) = 1 + (textS g x).size + (tailT (textS g) ⟨#[124]⟩ r).size by omega]
    rfl
end
theorem alt_back (s : ByteArray) (F : Nat) : ∀ f, f ≤ F → AltOk s F f := by
  induction F with
  | zero =>
    intro f hf e _ ho
    obtain rfl : f = 0 := by omega
    cases ho
  | succ F ih =>
    intro f hf e hc ho p hb hd hh hs
    have hA : ∀ g', g' < f → AltOk s F g' := fun g' hg => ih g' (by omega)
    cases f with
    | zero => cases ho
    | succ f =>
    show altC s (catS s (itemS s (atomS s (altS s F)))) p = _
    by_cases h5 : e.rk = 5
    · obtain ⟨hkk, hdd⟩ := zq7 ho
      have he := hc.eta
      rcases zz4 hdd with ⟨k, h1, h2, h3⟩ | ⟨k, h1, h3⟩ | ⟨k, h1, h3⟩ | ⟨k, h1, h2, h3⟩ | ⟨k, h1, x, h2, h3⟩
      · rw [h5] at k; cases k
      · rw [h5] at k; cases k
      · rw [h5] at k; rcases k with k | k | k | k <;> cases k
      · have ht : textS (f + 1) e = joinT (textS f) ⟨#[124]⟩ e.rl := by unfold textS; rw [h5]; rfl
        rw [ht] at hh hs ⊢
        have hkid : ∀ x ∈ e.rl, Can x ∧ okS f x = true ∧ x.rk ≠ 5 := fun x hx => ⟨hc.kid hx, (hkk x hx).1, fun h => by have := (hkk x hx).2 (h.trans h5.symm); rw [h5] at this; cases this⟩
        match hl : e.rl, h2 with
        | x :: r, h2 =>
          rw [hl] at hh hs hkid
          obtain ⟨hcx, hox, h5x⟩ := hkid x List.mem_cons_self
          have hbx : brk (textS f) x = textS f x := by unfold brk; rw [if_neg h5x]
          have hj : joinT (textS f) ⟨#[124]⟩ (x :: r) = textS f x ++ tailT (textS f) ⟨#[124]⟩ r := by rw [← hbx]; rfl
          rw [hj] at hh hs ⊢
          have q := hh.app
          have hlen := zj12 (g := textS f) (b := ⟨#[124]⟩) (r := r) fun y hy => (zs6 f y (hkid y (List.mem_cons_of_mem _ hy)).2.1).1
          have hn : StopC s (p.a + (textS f x).size) := by
            cases r with
            | nil => simp at h2
            | cons y r' =>
              have q3 := q.2
              unfold tailT at q3
              exact .inr (.inr (q3.app.1.2 0 (by decide)))
          unfold altC
          rw [zk12 (fun g' hg' => hA g' (by omega)) hcx hox h5x hb (by omega) q.1 hn]
          simp only
          rw [zd9 (fun g' hg' => hA g' (by omega)) r [x] (s.size + 1) (p.go (textS f x).size) (by have := q.2.1; omega) (fun y hy => hkid y (List.mem_cons_of_mem _ hy)) hb (by show p.d + f ≤ 9; omega) q.2 (by rw [zi3] at hs; show Stop s (p.a + (textS f x).size + (tailT (textS f) ⟨#[124]⟩ r).size); rw [Nat.add_assoc]; exact hs)]
          rw [zm20, zi3]
          refine congrArg (·, _) ?_
          rw [zp7 h1, hl, h5] at he
          rw [he]
          cases r with
          | nil => simp at h2
          | cons y r' => rfl
      · rw [h5] at k; rcases k with k | k | k <;> cases k
    · have hcc := zk12 hA hc ho h5 hb hd hh (hs.elim .inl fun h => .inr (.inl h))
      unfold altC
      rw [hcc]
      simp only
      have : altLoopS s (catS s (itemS s (atomS s (altS s F)))) (s.size + 1) [e] (p.go (textS (f + 1) e).size) = ([e], p.go (textS (f + 1) e).size) := by
        unfold altLoopS
        rw [zt6]
        · rfl
        · rcases hs with h | h
          · have h : s.size ≤ (p.go (textS (f + 1) e).size).a := h
            rw [zh8 h]; decide
          · have h : bAt s (p.go (textS (f + 1) e).size).a = 41 := h
            rw [h]; decide
      rw [this]
      rfl
theorem za14 {k : Int} : ∀ {l : List E}, (∀ x ∈ l, Can x) → Can (oneOr k l)
  | [], h => Can.mk _ _ _ h
  | [x], h => h x List.mem_cons_self
  | x :: y :: r, h => Can.mk _ _ _ h
theorem zi10 : Can zeroR := Can.mk _ _ _ fun _ h => absurd h List.not_mem_nil
theorem leaf_can (k : Int) (s : ByteArray) : Can (rexE k s []) := Can.mk _ _ _ fun _ h => absurd h List.not_mem_nil
section
variable {s : ByteArray}
theorem zo20 {alt : PS → E × PS} (h : ∀ p, Can (alt p).1) (p : PS) : Can (atomI s alt p).1 := by
  unfold atomI atomIc
  dsimp only
  repeat' split
  all_goals first | exact leaf_can _ _ | exact zi10 | exact h _
theorem zp20 {f : PS → E × PS} (h : ∀ p, Can (f p).1) (p : PS) : Can (itemI s f p).1 := by
  unfold itemI
  have h1 : ∀ k, Can (rexE k ByteArray.empty [(f p).1]) := fun k => Can.mk _ _ _ fun x hx => by
    rw [List.mem_singleton] at hx; rw [hx]; exact h p
  dsimp only
  repeat' split
  all_goals first | exact h1 _ | exact h _
theorem ze9 {f : PS → E × PS} (h : ∀ p, Can (f p).1) : ∀ (n : Nat) (l : List E) (p : PS), (∀ x ∈ l, Can x) → ∀ x ∈ (catLoopI s f n l p).1, Can x
  | 0, l, p, hl => hl
  | n + 1, l, p, hl => by
    unfold catLoopI
    split
    · refine ze9 h n _ _ fun x hx => ?_
      rcases List.mem_append.1 hx with hx | hx
      · exact hl x hx
      · rw [List.mem_singleton] at hx; rw [hx]; exact h p
    · exact hl
theorem catI_can {f : PS → E × PS} (h : ∀ p, Can (f p).1) (p : PS) : Can (catI s f p).1 := by
  unfold catI
  simp only
  split
  · exact zi10
  · exact za14 (ze9 h _ _ _ fun _ h => absurd h List.not_mem_nil)
theorem zf9 {f : PS → E × PS} (h : ∀ p, Can (f p).1) : ∀ (n : Nat) (l : List E) (p : PS), (∀ x ∈ l, Can x) → ∀ x ∈ (altLoopI s f n l p).1, Can x
  | 0, l, p, hl => hl
  | n + 1, l, p, hl => by
    unfold altLoopI
    split
    · refine zf9 h n _ _ fun x hx => ?_
      rcases List.mem_append.1 hx with hx | hx
      · exact hl x hx
      · rw [List.mem_singleton] at hx; rw [hx]; exact h _
    · exact hl
theorem altI_can (f : Nat) : ∀ p, Can (altI s f p).1 := by
  induction f with
  | zero => exact fun p => zi10
  | succ f ih =>
    intro p
    unfold altI altB
    have hc := catI_can (s := s) (zp20 (s := s) (zo20 (s := s) ih))
    exact za14 (zf9 hc _ _ _ fun x hx => by rw [List.mem_singleton] at hx; rw [hx]; exact hc _)
end
theorem zp11 {g : E → ByteArray} {b : ByteArray} {c : E → Nat} (hb : b.size ≤ 1) : ∀ {l : List E} {n : Nat}, (∀ x ∈ l, (g x).size + 3 ≤ 16 * c x) → sumI c l n ≤ 60 → (tailT g b l).size + 16 * n ≤ 16 * sumI c l n
  | [], n, _, _ => by unfold tailT sumI; rw [zo7]; omega
  | x :: r, n, h, hs => by
    have h1 := h x List.mem_cons_self
    unfold sumI at hs ⊢
    split at hs
    · omega
    · rename_i hn
      rw [if_neg hn]
      have h2 := zp11 hb (n := n + c x) (fun y hy => h y (List.mem_cons_of_mem _ hy)) hs
      have h3 : (brk g x).size ≤ (g x).size + 2 := by
        unfold brk
        split
        · simp only [zi3]; show 1 + _ + 1 ≤ _; omega
        · omega
      unfold tailT
      simp only [zi3]
      omega
theorem zq11 (f : Nat) : ∀ e, partsI f e ≤ 60 → (textS f e).size + 3 ≤ 16 * partsI f e := by
  induction f with
  | zero => intro e h; simp [partsI] at h
  | succ f ih =>
    intro e h
    unfold partsI at h ⊢
    split at h
    · rename_i hh
      rw [if_pos hh]
      have hd := (zg20 hh).1
      have hk := (zg8 h).2
      have h1 : 1 ≤ sumI (partsI f) e.rl 1 := by
        have : ∀ (l : List E) (n : Nat), sumI (partsI f) l n ≤ 60 → n ≤ sumI (partsI f) l n := by
          intro l
          induction l with
          | nil => intro n _; exact Nat.le_refl _
          | cons x r ihl =>
            intro n hn
            unfold sumI at hn ⊢
            split at hn
            · omega
            · rename_i hc
              rw [if_neg hc]
              have := ihl _ hn
              omega
        exact this _ _ h
      unfold textS
      rcases zz4 hd with ⟨k, q1, q2, q3⟩ | ⟨k, q1, q3⟩ | ⟨k, q1, q3⟩ | ⟨k, q1, q2, q3⟩ | ⟨k, q1, x, q2, q3⟩
      · rw [if_pos k, q1]; omega
      · rw [k]
        have : e.rs.size ≤ 10 := by
          unfold setOkB at q1
          simp only [Bool.and_eq_true, decide_eq_true_iff] at q1
          exact q1.2.2
        show (ByteArray.mk #[91] ++ e.rs ++ ByteArray.mk #[93]).size + 3 ≤ _
        simp only [zi3]
        show 1 + e.rs.size + 1 + 3 ≤ _
        omega
      · rcases k with k | k | k | k <;> rw [k]
        · show 1 + 3 ≤ _; omega
        · show 2 + 3 ≤ _; omega
        · show 1 + 3 ≤ _; omega
        · show 1 + 3 ≤ _; omega
      · have key : ∀ b : ByteArray, b.size ≤ 1 → (joinT (textS f) b e.rl).size + 3 ≤ 16 * sumI (partsI f) e.rl 1 := by
          intro b hb
          have h3 := zp11 (g := textS f) (b := b) (c := partsI f) hb (fun x hx => ih x (hk x hx)) h
          have h4 : (joinT (textS f) b e.rl).size ≤ (tailT (textS f) b e.rl).size := by
            cases e.rl with
            | nil => exact Nat.le_refl _
            | cons x r => unfold joinT; conv => rhs; unfold tailT
                          simp only [zi3]; omega
          omega
        rcases k with k | k <;> rw [k]
        · exact key ByteArray.empty (by rw [zo7]; omega)
        · exact key ⟨#[124]⟩ (Nat.le_refl 1)
      · have h3 := ih x (hk x (by rw [q2]; exact List.mem_cons_self))
        rw [q2] at h h1 ⊢
        have h5 : sumI (partsI f) [x] 1 = 1 + partsI f x := by
          unfold sumI at h ⊢
          split at h
          · omega
          · rename_i hc; rw [if_neg hc]; rfl
        have h6 : (oneT (textS f) x).size ≤ (textS f x).size + 2 := by
          unfold oneT
          split
          · simp only [zi3]; show 1 + _ + 1 ≤ _; omega
          · omega
        rw [h5]
        rcases k with k | k | k <;> rw [k]
        · show (oneT (textS f) x ++ ByteArray.mk #[42]).size + 3 ≤ _
          rw [zi3]; show (oneT (textS f) x).size + 1 + 3 ≤ _; omega
        · show (oneT (textS f) x ++ ByteArray.mk #[43]).size + 3 ≤ _
          rw [zi3]; show (oneT (textS f) x).size + 1 + 3 ≤ _; omega
        · show (oneT (textS f) x ++ ByteArray.mk #[63]).size + 3 ≤ _
          rw [zi3]; show (oneT (textS f) x).size + 1 + 3 ≤ _; omega
    · omega
def rexT (e : E) : ByteArray := if rexOkI e then textS 6 e else ByteArray.empty
def p00 : PS := ⟨0, 0, false⟩
def readI (s : ByteArray) : E × PS := altI s (s.size + 8) p00
def readS (s : ByteArray) : E × PS := altS s (s.size + 8) p00
def parI (s : ByteArray) : Bool := !(readI s).2.b && ((readI s).2.a == s.size) && rexOkI (readI s).1 && (rexT (readI s).1).toList == s.toList
def parS (s : ByteArray) : Bool := decide (s.size ≤ 1000) && !(readS s).2.b && ((readS s).2.a == s.size) && (rexT (readS s).1).toList == s.toList
theorem toList_inj {a b : ByteArray} (h : a.toList = b.toList) : a = b := by
  rw [ByteArray.toList_eq, ByteArray.toList_eq] at h
  exact ByteArray.ext (Array.toList_inj.1 h)
theorem zq20 (s : ByteArray) : Here s 0 s := ⟨by omega, fun j hj => by rw [Nat.zero_add]⟩
theorem par_to {s : ByteArray} (h : parS s = true) : parI s = true ∧ readI s = readS s := by
  unfold parS at h
  simp only [Bool.and_eq_true, Bool.not_eq_true', decide_eq_true_iff] at h
  obtain ⟨⟨⟨h0, h1⟩, h2⟩, h3⟩ := h
  have e : readI s = readS s := (zk16 (s.size + 8) p00 rfl (by decide) h1).1
  refine ⟨?_, e⟩
  unfold parI
  rw [e, h1, h2, h3]
  have : rexOkI (readS s).1 = true := by
    cases hk : rexOkI (readS s).1 with
    | true => rfl
    | false =>
      have ht : rexT (readS s).1 = ByteArray.empty := by unfold rexT; rw [hk]; rfl
      rw [ht] at h3
      have hs := toList_inj (eq_of_beq h3)
      rw [← hs] at h1
      exact absurd h1 (by decide)
  rw [this]; rfl
theorem par_back {s : ByteArray} (h : parI s = true) : parS s = true := by
  unfold parI at h
  simp only [Bool.and_eq_true, Bool.not_eq_true'] at h
  obtain ⟨⟨⟨h1, h2⟩, h3⟩, h4⟩ := h
  have ht : rexT (readI s).1 = textS 6 (readI s).1 := by unfold rexT; rw [h3]; rfl
  have hs : textS 6 (readI s).1 = s := ht ▸ toList_inj (eq_of_beq h4)
  have hp : partsI 6 (readI s).1 ≤ 60 := by unfold rexOkI at h3; exact of_decide_eq_true h3
  have hok : okS 6 (readI s).1 = true := ((zj16 6 _).1.1 hp).2
  have hsz := zq11 6 _ hp
  rw [hs] at hsz
  have hb := alt_back s (s.size + 8) 6 (by omega) (readI s).1 (altI_can _ _) hok p00 rfl (by decide) (by rw [hs]; exact zq20 s) (.inl (by rw [hs]; show s.size ≤ 0 + s.size; omega))
  rw [hs] at hb
  have e : readS s = ((readI s).1, p00.go s.size) := hb
  unfold parS
  rw [e]
  simp only
  rw [h4]
  have : decide (s.size ≤ 1000) = true := by simp; omega
  rw [this]
  simp [PS.go, p00]
theorem zo16 (s : ByteArray) : parI s = parS s := by
  cases h : parS s with
  | true => exact (par_to h).1
  | false =>
    cases h2 : parI s with
    | false => rfl
    | true => rw [par_back h2] at h; cases h
def rexR (s : ByteArray) : E := if parI s then (readI s).1 else zeroR
theorem rexR_S (s : ByteArray) : rexR s = if parS s then (readS s).1 else zeroR := by
  unfold rexR
  rw [zo16]
  cases h : parS s with
  | true => rw [if_pos rfl, if_pos rfl, (par_to h).2]
  | false => rfl
inductive Fine : E → Prop
  | mk (k : Int) (s : ByteArray) (l : List E) (hk : 0 ≤ k ∧ k ≤ 11) (hs : s.size ≤ 1073741824) (hl : ∀ x ∈ l, Fine x) : Fine (rexE k s l)
theorem Fine.ty {e : E} (h : Fine e) : e.Ty Try.prog 86 ∧ e.enc.length = 3 := by
  induction h with
  | mk k s l hk hs hl ih =>
    refine ⟨E.Ty.mk_agg Try.underlying86 (E.TyF.mk_cons ?_ (E.TyF.mk_cons ?_ (E.TyF.mk_cons (E.Ty.mk_lst Try.underlying84 (by kernel_rfl) (fun x hx => (ih x hx).1) fun x hx => (ih x hx).2) E.TyF.mk_nil))), rfl⟩
    · simp only [E.Ty]
      refine ⟨Try.underlying3, ?_⟩
      have e1 : IntKind.i64.min = -9223372036854775808 := rfl
      have e2 : IntKind.i64.max = 9223372036854775807 := rfl
      simp only [Lit.wf, decide_eq_true_iff, Bool.and_eq_true, e1, e2]
      omega
    · simp only [E.Ty]
      exact ⟨Try.underlying9, by unfold maxLen; omega⟩
theorem Fine.leaf {k : Int} {s : ByteArray} (hk : 0 ≤ k ∧ k ≤ 11) (hs : s.size ≤ 1073741824) : Fine (rexE k s []) := .mk k s [] hk hs fun _ h => absurd h List.not_mem_nil
theorem Fine.zero : Fine zeroR := Fine.leaf ⟨by omega, by omega⟩ (by show (0 : Nat) ≤ _; omega)
theorem zl8 (k : Int) (s : ByteArray) (l : List E) : (rexE k s l).sz = s.size + (l.length + E.szL l) := by
  simp only [rexE, E.sz, E.szL]; omega
theorem zn9 : zeroR.sz = 0 := rfl
structure Good (s : ByteArray) (p : PS) (r : E × PS) (lo k m : Nat) : Prop where
  fine : Fine r.1
  ge : p.a + lo ≤ r.2.a
  le : r.2.a ≤ s.size
  d : r.2.d = p.d
  sz : r.1.sz + k + 2 * p.a ≤ 2 * r.2.a + m
section
variable {s : ByteArray} (hs : s.size ≤ 1048576)
theorem zi15 {c : Nat} : ∀ (f a : Nat), a ≤ s.size → a ≤ untB s c f a ∧ untB s c f a ≤ s.size
  | 0, a, h => ⟨Nat.le_refl _, h⟩
  | f + 1, a, h => by
    unfold untB
    split
    · rename_i h2
      have := zi15 (c := c) f (a + 1) (by omega)
      omega
    · exact ⟨Nat.le_refl _, h⟩
include hs
theorem zr11 {alt : PS → E × PS} {p : PS} (hp : p.a < s.size) (ha : Good s (p.go 1) (alt (p.go 1)) 0 0 1) : Good s p (atomI s alt p) 1 1 0 := by
  have e0 : ByteArray.empty.size = 0 := rfl
  have h1 : (p.go 1).a = p.a + 1 := rfl
  have h2 : (p.go 1).d = p.d := rfl
  have leaf : ∀ (k : Int) (t : ByteArray), 0 ≤ k ∧ k ≤ 11 → t.size ≤ 1 → Good s p (rexE k t [], p.go 1) 1 1 0 := fun k t hk ht =>
    ⟨Fine.leaf hk (by show t.size ≤ _; omega), by show p.a + 1 ≤ p.a + 1; omega, by show p.a + 1 ≤ _; omega, rfl, by
      show (rexE k t []).sz + 1 + 2 * p.a ≤ 2 * (p.a + 1) + 0
      rw [zl8]; simp only [List.length_nil, E.szL]; omega⟩
  unfold atomI atomIc
  split
  · exact leaf 1 _ (by omega) (by show (1 : Nat) ≤ 1; omega)
  split
  · exact leaf 2 _ (by omega) (by omega)
  split
  · exact leaf 10 _ (by omega) (by omega)
  split
  · exact leaf 11 _ (by omega) (by omega)
  split
  · have hu := zi15 (s := s) (c := 93) s.size (p.go 1).a (by omega)
    dsimp only
    split
    · rename_i hlt
      have hc : (cutB s (p.go 1).a (untB s 93 s.size (p.go 1).a)).size ≤ untB s 93 s.size (p.go 1).a - (p.go 1).a := by
        unfold cutB; rw [ByteArray.size_extract]; omega
      refine ⟨Fine.leaf (by omega) (by show (cutB _ _ _).size ≤ _; omega), ?_, ?_, rfl, ?_⟩
      · show p.a + 1 ≤ untB s 93 s.size (p.go 1).a + 1; omega
      · show untB s 93 s.size (p.go 1).a + 1 ≤ s.size; omega
      · show (rexE 3 (cutB s (p.go 1).a (untB s 93 s.size (p.go 1).a)) []).sz + 1 + 2 * p.a ≤ 2 * (untB s 93 s.size (p.go 1).a + 1) + 0
        rw [zl8]; simp only [List.length_nil, E.szL]; omega
    · exact ⟨Fine.zero, by show p.a + 1 ≤ p.a + 1; omega, by show p.a + 1 ≤ _; omega, rfl, by show zeroR.sz + 1 + 2 * p.a ≤ 2 * (p.a + 1) + 0; rw [zn9]; omega⟩
  split
  · split
    · rename_i h41
      have hl : (p.go 1).a < s.size := zw4 (by rw [h41]; decide)
      exact ⟨Fine.leaf (by omega) (by show (0 : Nat) ≤ _; omega), by show p.a + 1 ≤ (p.go 1).a + 1; omega, by show (p.go 1).a + 1 ≤ _; omega, rfl, by
        show (rexE 9 ByteArray.empty []).sz + 1 + 2 * p.a ≤ 2 * ((p.go 1).a + 1) + 0
        rw [zl8]; simp only [List.length_nil, E.szL]; omega⟩
    · obtain ⟨g1, g2, g3, g4, g5⟩ := ha
      dsimp only
      split
      · rename_i h41
        have hl : (alt (p.go 1)).2.a < s.size := zw4 (by rw [h41]; decide)
        exact ⟨g1, by show p.a + 1 ≤ (alt (p.go 1)).2.a + 1; omega, by show (alt (p.go 1)).2.a + 1 ≤ _; omega, by show (alt (p.go 1)).2.d = p.d; omega, by
          show (alt (p.go 1)).1.sz + 1 + 2 * p.a ≤ 2 * ((alt (p.go 1)).2.a + 1) + 0; omega⟩
      · exact ⟨Fine.zero, by show p.a + 1 ≤ (alt (p.go 1)).2.a; omega, g3, by show (alt (p.go 1)).2.d = p.d; omega, by
          show zeroR.sz + 1 + 2 * p.a ≤ 2 * (alt (p.go 1)).2.a + 0; rw [zn9]; omega⟩
  · exact ⟨Fine.zero, by show p.a + 1 ≤ p.a + 1; omega, by show p.a + 1 ≤ _; omega, rfl, by show zeroR.sz + 1 + 2 * p.a ≤ 2 * (p.a + 1) + 0; rw [zn9]; omega⟩
omit hs in
theorem zm8 {atom : PS → E × PS} {p : PS} (ha : Good s p (atom p) 1 1 0) : Good s p (itemI s atom p) 1 1 0 := by
  obtain ⟨g1, g2, g3, g4, g5⟩ := ha
  have e0 : ByteArray.empty.size = 0 := rfl
  have star : ∀ k : Int, 0 ≤ k ∧ k ≤ 11 → (atom p).2.a < s.size → Good s p (rexE k ByteArray.empty [(atom p).1], (atom p).2.go 1) 1 1 0 := fun k hk hl =>
    ⟨.mk k _ _ hk (by omega) (fun x hx => by obtain rfl := List.mem_singleton.1 hx; exact g1), by show p.a + 1 ≤ (atom p).2.a + 1; omega, by show (atom p).2.a + 1 ≤ _; omega, g4, by
      show (rexE k ByteArray.empty [(atom p).1]).sz + 1 + 2 * p.a ≤ 2 * ((atom p).2.a + 1) + 0
      rw [zl8]; simp only [List.length_cons, List.length_nil, E.szL]; omega⟩
  unfold itemI
  dsimp only
  split
  · rename_i h; exact star 6 (by omega) (zw4 (by rw [h]; decide))
  split
  · rename_i h; exact star 7 (by omega) (zw4 (by rw [h]; decide))
  split
  · rename_i h; exact star 8 (by omega) (zw4 (by rw [h]; decide))
  · exact ⟨g1, g2, g3, g4, g5⟩
omit hs in
theorem zr7 (x : E) : ∀ l : List E, E.szL (l ++ [x]) = E.szL l + x.sz
  | [] => by simp only [List.nil_append, E.szL]; omega
  | y :: r => by have := zr7 x r; simp only [List.cons_append, E.szL]; omega
structure GoodL (s : ByteArray) (p0 : PS) (l : List E) (q : PS) (m : Nat) : Prop where
  fine : ∀ x ∈ l, Fine x
  ge : p0.a ≤ q.a
  le : q.a ≤ s.size
  d : q.d = p0.d
  len : l.length + p0.a ≤ q.a + 1
  sz : E.szL l + l.length + 2 * p0.a ≤ 2 * q.a + m
omit hs in
theorem goI_lt {p : PS} (h : goI s p = true) : p.b = false ∧ p.a < s.size ∧ bAt s p.a ≠ 0 := by
  unfold goI at h
  simp only [Bool.and_eq_true, Bool.not_eq_true', beq_eq_false_iff_ne] at h
  exact ⟨h.1.1.1, zw4 h.1.1.2, h.1.1.2⟩
omit hs in
theorem zs7 {item : PS → E × PS} {p0 : PS} (hi : ∀ p, p.a < s.size → p.d = p0.d → p0.a ≤ p.a → Good s p (item p) 1 1 0) : ∀ (n : Nat) (l : List E) (p : PS), GoodL s p0 l p 0 → GoodL s p0 (catLoopI s item n l p).1 (catLoopI s item n l p).2 0
  | 0, l, p, h => h
  | n + 1, l, p, h => by
    unfold catLoopI
    split
    · rename_i hg
      obtain ⟨hb, hlt, -⟩ := goI_lt hg
      obtain ⟨g1, g2, g3, g4, g5⟩ := hi p hlt h.d h.ge
      obtain ⟨k1, k2, k3, k4, k5, k6⟩ := h
      refine zs7 hi n _ _ ⟨fun x hx => ?_, by omega, g3, by omega, ?_, ?_⟩
      · rcases List.mem_append.1 hx with hx | hx
        · exact k1 x hx
        · obtain rfl := List.mem_singleton.1 hx; exact g1
      · rw [List.length_append, List.length_singleton]; omega
      · rw [zr7, List.length_append, List.length_singleton]; omega
    · exact h
omit hs in
theorem zn8 {k : Int} (hk : 0 ≤ k ∧ k ≤ 11) {l : List E} (h : ∀ x ∈ l, Fine x) : Fine (oneOr k l) ∧ (oneOr k l).sz ≤ E.szL l + l.length := by
  match l, h with
  | [x], h => exact ⟨h x (List.mem_singleton.2 rfl), by show x.sz ≤ E.szL [x] + 1; simp only [E.szL]; omega⟩
  | [], h => exact ⟨.mk _ _ _ hk (by show (0 : Nat) ≤ _; omega) h, by show (rexE k ByteArray.empty []).sz ≤ _; rw [zl8]; have : ByteArray.empty.size = 0 := rfl; omega⟩
  | x :: y :: r, h => exact ⟨.mk _ _ _ hk (by show (0 : Nat) ≤ _; omega) h, by show (rexE k ByteArray.empty (x :: y :: r)).sz ≤ _; rw [zl8]; have : ByteArray.empty.size = 0 := rfl; omega⟩
omit hs in
theorem zb14 {item : PS → E × PS} {p : PS} (hp : p.a ≤ s.size) (hi : ∀ q, q.a < s.size → q.d = p.d → p.a ≤ q.a → Good s q (item q) 1 1 0) : Good s p (catI s item p) 0 0 0 := by
  have hL := zs7 (p0 := p) hi (s.size + 2) [] p ⟨fun _ h => absurd h List.not_mem_nil, Nat.le_refl _, hp, rfl, by simp, by simp [E.szL]⟩
  obtain ⟨k1, k2, k3, k4, k5, k6⟩ := hL
  unfold catI
  dsimp only
  split
  · exact ⟨Fine.zero, by show p.a + 0 ≤ (catLoopI s item (s.size + 2) [] p).2.a; omega, k3, k4, by show zeroR.sz + 0 + 2 * p.a ≤ 2 * (catLoopI s item (s.size + 2) [] p).2.a + 0; rw [zn9]; omega⟩
  · obtain ⟨f1, f2⟩ := zn8 (k := 4) (by omega) k1
    refine ⟨f1, ?_, k3, k4, ?_⟩ <;> dsimp only at * <;> omega
omit hs in
theorem barI_lt {p : PS} (h : barI s p = true) : p.b = false ∧ p.a < s.size := by
  unfold barI at h
  simp only [Bool.and_eq_true, Bool.not_eq_true', beq_iff_eq] at h
  exact ⟨h.1, zw4 (by rw [h.2]; decide)⟩
omit hs in
theorem zt7 {cat : PS → E × PS} {p0 : PS} (hc : ∀ p, p.a ≤ s.size → p.d = p0.d → p0.a ≤ p.a → Good s p (cat p) 0 0 0) : ∀ (n : Nat) (l : List E) (p : PS), GoodL s p0 l p 1 → GoodL s p0 (altLoopI s cat n l p).1 (altLoopI s cat n l p).2 1
  | 0, l, p, h => h
  | n + 1, l, p, h => by
    unfold altLoopI
    split
    · rename_i hg
      obtain ⟨hb, hlt⟩ := barI_lt hg
      obtain ⟨k1, k2, k3, k4, k5, k6⟩ := h
      have e1 : (p.go 1).a = p.a + 1 := rfl
      have e2 : (p.go 1).d = p.d := rfl
      obtain ⟨g1, g2, g3, g4, g5⟩ := hc (p.go 1) (by omega) (by omega) (by omega)
      refine zt7 hc n _ _ ⟨fun x hx => ?_, by omega, g3, by omega, ?_, ?_⟩
      · rcases List.mem_append.1 hx with hx | hx
        · exact k1 x hx
        · obtain rfl := List.mem_singleton.1 hx; exact g1
      · rw [List.length_append, List.length_singleton]; omega
      · rw [zr7, List.length_append, List.length_singleton]; omega
    · exact h
omit hs in
theorem zr20 {cat : PS → E × PS} {p : PS} (hp : p.a ≤ s.size) (hc : ∀ q, q.a ≤ s.size → q.d = p.d + 1 → p.a ≤ q.a → Good s q (cat q) 0 0 0) : Good s p (altB s cat p) 0 0 1 := by
  obtain ⟨q0, hq0⟩ : ∃ q0 : PS, q0 = ⟨p.a, p.d + 1, p.b || decide (40 < p.d + 1)⟩ := ⟨_, rfl⟩
  have e1 : q0.a = p.a := by rw [hq0]
  have e2 : q0.d = p.d + 1 := by rw [hq0]
  obtain ⟨g1, g2, g3, g4, g5⟩ := hc q0 (by omega) e2 (by omega)
  have hL := zt7 (p0 := q0) (fun q h1 h2 h3 => hc q h1 (by omega) (by omega)) (s.size + 1) [(cat q0).1] (cat q0).2
    ⟨fun x hx => by obtain rfl := List.mem_singleton.1 hx; exact g1, by omega, g3, g4, by simp only [List.length_singleton]; omega, by simp only [E.szL, List.length_singleton]; omega⟩
  obtain ⟨k1, k2, k3, k4, k5, k6⟩ := hL
  obtain ⟨f1, f2⟩ := zn8 (k := 5) (by omega) k1
  unfold altB
  rw [← hq0]
  refine ⟨f1, ?_, k3, ?_, ?_⟩ <;> dsimp only at * <;> omega
theorem zj10 (f : Nat) : ∀ p : PS, p.a ≤ s.size → s.size + 1 ≤ p.a + f → Good s p (altI s f p) 0 0 1 := by
  induction f with
  | zero => intro p h1 h2; omega
  | succ f ih =>
    intro p h1 h2
    exact zr20 h1 fun q hq hqd hqa => zb14 hq fun r hr hrd hra => zm8 (zr11 hs hr (ih _ (by show r.a + 1 ≤ _; omega) (by show s.size + 1 ≤ r.a + 1 + f; omega)))
end
structure WalkO (P : Program) (ops : Array Oper) (Q : Exit → Act → World → Prop) (C : Ctx) (dr : Bool) (H : List (Nat × Oper × Inf)) (i : Nat) (o : Oper) (r : List Nat) (σ : AS) : Prop where
  h : ops[i]? = some o → Walk P ops Q C dr H (i :: r) σ
section
variable {ops : Array Oper} {Q : Exit → Act → World → Prop} {C : Ctx} {H H' : List (Nat × Oper × Inf)} {i : Nat} {r : List Nat} {dr : Bool}
variable {tm : Nat → AV} {hp : Nat → Option Row} {gn L : Nat} {us : List Nat}
theorem drop_at {l : List Oper} {i : Nat} {o : Oper} {t : List Oper} (h : l.drop i = o :: t) : l[i]? = some o := by
  have := List.getElem?_drop (xs := l) (i := i) (j := 0)
  rw [h] at this
  simpa using this.symm
theorem zy {P : Program} {o : Oper} {σ : AS} {t : List Oper} (h : WalkO P ops Q C dr H i o r σ) (hop : ops.toList.drop i = o :: t := by exact rfl) : Walk P ops Q C dr H (i :: r) σ := h.1 (by rw [← Array.getElem?_toList]; exact drop_at hop)
theorem o_sk {ty : TypeId} {gb : Nat × Bool} {op : Op} {ps : String} {af : Array Edge} {t : Nat} (h : Walk Try.prog ops Q C dr (keepH dr (i, (⟨some t, op, ty, ps, af, some gb⟩ : Oper), infSkip) H) r ⟨upd tm t (.tu []), hp, gn, us, L⟩) (ht : Nat.blt t L = true := by exact rfl) (hg : gw ops tm (⟨some t, op, ty, ps, af, some gb⟩ : Oper) = some false := by exact rfl) (hc : chk dr ops i (⟨some t, op, ty, ps, af, some gb⟩ : Oper) infSkip H = true := by first | (with_reducible exact zt2) | kernel_rfl) : WalkO Try.prog ops Q C dr H i (⟨some t, op, ty, ps, af, some gb⟩ : Oper) r ⟨tm, hp, gn, us, L⟩ := ⟨fun hop => x_sk (h := h) (hop := hop) (hd := rfl) (ht := ht) (hg := hg) (hc := hc)⟩
theorem za4 {ty : TypeId} {gb : Nat × Bool} {op : Op} {ps : String} {af : Array Edge} (h : Walk Try.prog ops Q C dr (keepH dr (i, (⟨none, op, ty, ps, af, some gb⟩ : Oper), infSkip) H) r ⟨tm, hp, gn, us, L⟩) (hg : gw ops tm (⟨none, op, ty, ps, af, some gb⟩ : Oper) = some false := by exact rfl) (hc : chk dr ops i (⟨none, op, ty, ps, af, some gb⟩ : Oper) infSkip H = true := by first | (with_reducible exact zt2) | kernel_rfl) : WalkO Try.prog ops Q C dr H i (⟨none, op, ty, ps, af, some gb⟩ : Oper) r ⟨tm, hp, gn, us, L⟩ := ⟨fun hop => ze4 (h := h) (hop := hop) (hd := rfl) (hg := hg) (hc := hc)⟩
theorem o_gm {gd : Option (Nat × Bool)} {op : Op} {ps : String} {af : Array Edge} {t : Nat} {b : Bool} (h1 : b = true → Walk Try.prog ops Q C dr (keepH dr (i, (⟨some t, op, 4, ps, af, gd⟩ : Oper), ⟨fpO (AS.ev ⟨tm, hp, gn, us, L⟩) (⟨some t, op, 4, ps, af, gd⟩ : Oper), [], [], .c (.v (.bool true))⟩) H) r ⟨upd tm t (.c (.v (.bool true))), hp, gn, us, L⟩) (h2 : b = false → Walk Try.prog ops Q C dr (keepH dr (i, (⟨some t, op, 4, ps, af, gd⟩ : Oper), ⟨fpO (AS.ev ⟨tm, hp, gn, us, L⟩) (⟨some t, op, 4, ps, af, gd⟩ : Oper), [], [], .c (.v (.bool false))⟩) H) r ⟨upd tm t (.c (.v (.bool false))), hp, gn, us, L⟩) (hgd : gdL i ops.toList = true := by exact rfl) (ht : Nat.blt t L = true := by exact rfl) (hg : gw ops tm (⟨some t, op, 4, ps, af, gd⟩ : Oper) = some true := by exact rfl) (he : EffD Try.prog (⟨some t, op, 4, ps, af, gd⟩ : Oper) (AS.ev ⟨tm, hp, gn, us, L⟩) hp 0 = some (.c (.v (.bool b)), .nop) := by rfl) (hc1 : chk dr ops i (⟨some t, op, 4, ps, af, gd⟩ : Oper) ⟨fpO (AS.ev ⟨tm, hp, gn, us, L⟩) (⟨some t, op, 4, ps, af, gd⟩ : Oper), [], [], .c (.v (.bool true))⟩ H = true := by first | (with_reducible exact zt2) | kernel_rfl) (hc2 : chk dr ops i (⟨some t, op, 4, ps, af, gd⟩ : Oper) ⟨fpO (AS.ev ⟨tm, hp, gn, us, L⟩) (⟨some t, op, 4, ps, af, gd⟩ : Oper), [], [], .c (.v (.bool false))⟩ H = true := by first | (with_reducible exact zt2) | kernel_rfl) : WalkO Try.prog ops Q C dr H i (⟨some t, op, 4, ps, af, gd⟩ : Oper) r ⟨tm, hp, gn, us, L⟩ := ⟨fun hop => x_gm (h1 := h1) (h2 := h2) (hop := hop) (hgd := hgd) (hd := rfl) (ht := ht) (hg := hg) (he := he) (hc1 := hc1) (hc2 := hc2)⟩
theorem zn5 {ty : TypeId} {gd : Option (Nat × Bool)} {cas : Array Operand} {cts : Array TypeId} {ps : String} {af : Array Edge} {t : Nat} {fv : Operand} {f : FuncId} {caps : List AC} {args ins : List AV} {res : AV} {nv : AV} {nr : List (Nat × Row)} (hctr : Ctr Try.prog f ins [] res []) (h : Walk Try.prog ops Q C dr (keepH dr (i, (⟨some t, .call ⟨.value fv, cas, cts⟩, ty, ps, af, gd⟩ : Oper), ⟨args.flatMap snV ++ [], nr.map (fun p => (p.1, some p.2)), nr.map (·.1), nv⟩) H) r ⟨upd tm t nv, updL hp (nr.map (fun p => (p.1, some p.2))), gn, nr.map (·.1) ++ us, L⟩) (ht : Nat.blt t L = true := by exact rfl) (hg : gw ops tm (⟨some t, .call ⟨.value fv, cas, cts⟩, ty, ps, af, gd⟩ : Oper) = some true := by exact rfl) (hfv : AS.ev ⟨tm, hp, gn, us, L⟩ fv = .c (.fn f caps) := by exact rfl) (hargs : callArgs ⟨tm, hp, gn, us, L⟩ ⟨.value fv, cas, cts⟩ caps = args := by exact rfl) (hcv : args.map (cvV hp []) = ins := by ((repeat' (first | rfl | exact zx6 | refine zi6 ?_ ?_ | refine zo13 ?_ | refine cv_c ?_ | refine zj6 ?_ ?_ | (refine zt8 ?_; (first | rfl | (simp [cloV, cloL, clo, zj, zf, zk, zg, zd]; done))) | (refine zu8 ?_; (first | rfl | (simp [cloV, cloL, clo, zj, zf, zk, zg, zd]; done))) | refine zv8 ?_ | (refine cvC_sl' (by rfl) (by rfl) (by rfl) (by rfl) ?_ ?_; (focus (first | rfl | (simp [cloV, cloL, clo, zj, zf, zk, zg, zd]; done))); (first | rfl | exact zr5 _)))) <;> exact rfl)) (hm : rofrV res = true := by (first | rfl | exact zl4 _ | (simp [rofrV, rofrVL, rofrL, rofr, zl4, za5, zy4]; done))) (hopn : opV (100 * (t + 1)) res = (nv, nr) := by exact rfl) (hf : (nr.all fun p => Nat.ble gn p.1 && !us.contains p.1) = true := by exact rfl) (hc : chk dr ops i (⟨some t, .call ⟨.value fv, cas, cts⟩, ty, ps, af, gd⟩ : Oper) ⟨args.flatMap snV ++ [], nr.map (fun p => (p.1, some p.2)), nr.map (·.1), nv⟩ H = true := by first | (with_reducible exact zt2) | kernel_rfl) : WalkO Try.prog ops Q C dr H i (⟨some t, .call ⟨.value fv, cas, cts⟩, ty, ps, af, gd⟩ : Oper) r ⟨tm, hp, gn, us, L⟩ := ⟨fun hop => zu6 (hctr := hctr) (h := h) (hop := hop) (hoc := rfl) (hcal := rfl) (hd := rfl) (ht := ht) (hg := hg) (hfv := hfv) (hargs := hargs) (hcv := hcv) (hm := hm) (hopn := hopn) (hf := hf) (hc := hc)⟩
theorem zv4 {ty : TypeId} {gd : Option (Nat × Bool)} {cas : Array Operand} {cts : Array TypeId} {ps : String} {af : Array Edge} {t : Nat} {fv : Operand} {f : FuncId} {caps : List AC} {args ins : List AV} {par : List AC} {rows : List (List AC)} {res : AV} {nv : AV} {nr : List (Nat × Row)} (lr : Nat) (hctr : Ctr Try.prog f ins [par] res rows) (h : Walk Try.prog ops Q C dr (keepH dr (i, (⟨some t, .call ⟨.value fv, cas, cts⟩, ty, ps, af, gd⟩ : Oper), callInf ⟨tm, hp, gn, us, L⟩ (args.flatMap snV) [lr] [] (100 * (t + 1)) res rows) H) r ⟨upd tm t nv, updL hp (backU hp [lr] rows ++ [] ++ nr.map (fun p => (p.1, some p.2))), gn, nr.map (·.1) ++ us, L⟩) (ht : Nat.blt t L = true := by exact rfl) (hg : gw ops tm (⟨some t, .call ⟨.value fv, cas, cts⟩, ty, ps, af, gd⟩ : Oper) = some true := by exact rfl) (hfv : AS.ev ⟨tm, hp, gn, us, L⟩ fv = .c (.fn f caps) := by exact rfl) (hargs : callArgs ⟨tm, hp, gn, us, L⟩ ⟨.value fv, cas, cts⟩ caps = args := by exact rfl) (hcv : args.map (cvV hp [lr]) = ins := by ((repeat' (first | rfl | exact zx6 | refine zi6 ?_ ?_ | refine zo13 ?_ | refine cv_c ?_ | refine zj6 ?_ ?_ | (refine zt8 ?_; (first | rfl | (simp [cloV, cloL, clo, zj, zf, zk, zg, zd]; done))) | (refine zu8 ?_; (first | rfl | (simp [cloV, cloL, clo, zj, zf, zk, zg, zd]; done))) | refine zv8 ?_ | (refine cvC_sl' (by rfl) (by rfl) (by rfl) (by rfl) ?_ ?_; (focus (first | rfl | (simp [cloV, cloL, clo, zj, zf, zk, zg, zd]; done))); (first | rfl | exact zr5 _)))) <;> exact rfl)) (hl : lend hp [lr] = some [par] := by exact zc20 (by rfl) (by first | rfl | (simp [cloV, cloL, clo, zj, zf, zk, zg, zd]; done))) (hRD : ((args.flatMap snV).all fun z => ![lr].contains z) = true := by exact rfl) (hmm : (rofrV res = true ∧ ∀ c ∈ rows, rofrL c = true) ∨ ((args.flatMap snV).all fun z => ([] : List Nat).contains z) = true := by first | exact .inr rfl | exact .inl ⟨by (first | rfl | exact zl4 _ | (simp [rofrV, rofrVL, rofrL, rofr, zl4, za5, zy4]; done)), ze12 (by (first | rfl | exact zl4 _ | (simp [rofrV, rofrVL, rofrL, rofr, zl4, za5, zy4]; done)))⟩) (hopn : opV (100 * (t + 1)) res = (nv, nr) := by exact rfl) (hf : (nr.all fun p => Nat.ble gn p.1 && !us.contains p.1) = true := by exact rfl) (hc : chk dr ops i (⟨some t, .call ⟨.value fv, cas, cts⟩, ty, ps, af, gd⟩ : Oper) (callInf ⟨tm, hp, gn, us, L⟩ (args.flatMap snV) [lr] [] (100 * (t + 1)) res rows) H = true := by first | (with_reducible exact zt2) | kernel_rfl) : WalkO Try.prog ops Q C dr H i (⟨some t, .call ⟨.value fv, cas, cts⟩, ty, ps, af, gd⟩ : Oper) r ⟨tm, hp, gn, us, L⟩ := ⟨fun hop => x_cad (lr := lr) (hctr := hctr) (h := h) (hop := hop) (hoc := rfl) (hcal := rfl) (hd := rfl) (ht := ht) (hg := hg) (hfv := hfv) (hargs := hargs) (hcv := hcv) (hl := hl) (hRD := hRD) (hmm := hmm) (hopn := hopn) (hf := hf) (hc := hc)⟩
theorem zw2 {ty : TypeId} {gd : Option (Nat × Bool)} {ps : String} {af : Array Edge} {t j n m k nm : Nat} {rw : Row} {e T T2 : TypeId} {xo yo : Operand} {ys zs : List AC} (h : Walk Try.prog ops Q C dr (keepH dr (i, (⟨some t, .call ⟨.builtin .append, #[xo, yo], #[T, T2]⟩, ty, ps, af, gd⟩ : Oper), ⟨fpO (AS.ev ⟨tm, hp, gn, us, L⟩) (⟨some t, .call ⟨.builtin .append, #[xo, yo], #[T, T2]⟩, ty, ps, af, gd⟩ : Oper), [(j, none), (t, some ⟨e, k, nm, false, zs⟩)], [t], .c (.sl t nm)⟩) H) r ⟨upd tm t (.c (.sl t nm)), upd (upd hp j none) t (some ⟨e, k, nm, false, zs⟩), gn, t :: us, L⟩) (ht : Nat.blt t L = true := by exact rfl) (hg : gw ops tm (⟨some t, .call ⟨.builtin .append, #[xo, yo], #[T, T2]⟩, ty, ps, af, gd⟩ : Oper) = some true := by exact rfl) (hf : (Nat.ble gn t && !us.contains t) = true := by exact rfl) (hx : AS.ev ⟨tm, hp, gn, us, L⟩ xo = .c (.sl j n) := by exact rfl) (hr : hp j = some rw := by exact rfl) (hT : appB Try.prog T T2 = some (e, k) := by first | exact (rfl : _ = some ((9 : Nat), (1 : Nat))) | exact (rfl : _ = some ((58 : Nat), (3 : Nat))) | exact (rfl : _ = some ((63 : Nat), (2 : Nat))) | exact (rfl : _ = some ((70 : Nat), (2 : Nat))) | exact (rfl : _ = some ((86 : Nat), (3 : Nat))) | exact (rfl : _ = some ((5 : Nat), (1 : Nat))) | exact (rfl : _ = some ((3 : Nat), (1 : Nat)))) (hy : srcOf hp k (AS.ev ⟨tm, hp, gn, us, L⟩ yo) = some (m, ys) := by first | rfl | exact zr6 rfl rfl rfl rfl) (hnu : ys.all noUn = true := by first | rfl | exact zh6 _) (hr1 : rw.T = e := by exact rfl) (hr2 : rw.k = k := by exact rfl) (hr3 : rw.n = n := by exact rfl) (hr4 : rw.box = false := by exact rfl) (hsz : n + m ≤ 4294967296 := by omega) (hnm : n + m = nm := by first | exact Nat.zero_add _ | rfl) (hz : rw.cs ++ ys = zs := by first | exact List.nil_append _ | rfl) (hc : chk dr ops i (⟨some t, .call ⟨.builtin .append, #[xo, yo], #[T, T2]⟩, ty, ps, af, gd⟩ : Oper) ⟨fpO (AS.ev ⟨tm, hp, gn, us, L⟩) (⟨some t, .call ⟨.builtin .append, #[xo, yo], #[T, T2]⟩, ty, ps, af, gd⟩ : Oper), [(j, none), (t, some ⟨e, k, nm, false, zs⟩)], [t], .c (.sl t nm)⟩ H = true := by first | (with_reducible exact zt2) | kernel_rfl) : WalkO Try.prog ops Q C dr H i (⟨some t, .call ⟨.builtin .append, #[xo, yo], #[T, T2]⟩, ty, ps, af, gd⟩ : Oper) r ⟨tm, hp, gn, us, L⟩ := ⟨fun hop => zu3 (h := h) (hop := hop) (ho := rfl) (hd := rfl) (ht := ht) (hg := hg) (hf := hf) (hx := hx) (hr := hr) (hT := hT) (hy := hy) (hnu := hnu) (hr1 := hr1) (hr2 := hr2) (hr3 := hr3) (hr4 := hr4) (hsz := hsz) (hnm := hnm) (hz := hz) (hc := hc)⟩
theorem zx1 {ty : TypeId} {gd : Option (Nat × Bool)} {ps : String} {af : Array Edge} {t m k : Nat} {e T T2 : TypeId} {xo yo : Operand} {ys : List AC} (h : Walk Try.prog ops Q C dr (keepH dr (i, (⟨some t, .call ⟨.builtin .append, #[xo, yo], #[T, T2]⟩, ty, ps, af, gd⟩ : Oper), ⟨fpO (AS.ev ⟨tm, hp, gn, us, L⟩) (⟨some t, .call ⟨.builtin .append, #[xo, yo], #[T, T2]⟩, ty, ps, af, gd⟩ : Oper), [(t, some ⟨e, k, m, false, ys⟩)], [t], .c (.sl t m)⟩) H) r ⟨upd tm t (.c (.sl t m)), upd hp t (some ⟨e, k, m, false, ys⟩), gn, t :: us, L⟩) (ht : Nat.blt t L = true := by exact rfl) (hg : gw ops tm (⟨some t, .call ⟨.builtin .append, #[xo, yo], #[T, T2]⟩, ty, ps, af, gd⟩ : Oper) = some true := by exact rfl) (hf : (Nat.ble gn t && !us.contains t) = true := by exact rfl) (hx : AS.ev ⟨tm, hp, gn, us, L⟩ xo = .c (.v (.slice none 0 0)) := by exact rfl) (hT : appB Try.prog T T2 = some (e, k) := by first | exact (rfl : _ = some ((9 : Nat), (1 : Nat))) | exact (rfl : _ = some ((58 : Nat), (3 : Nat))) | exact (rfl : _ = some ((63 : Nat), (2 : Nat))) | exact (rfl : _ = some ((70 : Nat), (2 : Nat))) | exact (rfl : _ = some ((86 : Nat), (3 : Nat))) | exact (rfl : _ = some ((5 : Nat), (1 : Nat))) | exact (rfl : _ = some ((3 : Nat), (1 : Nat)))) (hy : srcOf hp k (AS.ev ⟨tm, hp, gn, us, L⟩ yo) = some (m, ys) := by first | rfl | exact zr6 rfl rfl rfl rfl) (hnu : ys.all noUn = true := by first | rfl | exact zh6 _) (hsz : m ≤ 4294967296 := by omega) (hc : chk dr ops i (⟨some t, .call ⟨.builtin .append, #[xo, yo], #[T, T2]⟩, ty, ps, af, gd⟩ : Oper) ⟨fpO (AS.ev ⟨tm, hp, gn, us, L⟩) (⟨some t, .call ⟨.builtin .append, #[xo, yo], #[T, T2]⟩, ty, ps, af, gd⟩ : Oper), [(t, some ⟨e, k, m, false, ys⟩)], [t], .c (.sl t m)⟩ H = true := by first | (with_reducible exact zt2) | kernel_rfl) : WalkO Try.prog ops Q C dr H i (⟨some t, .call ⟨.builtin .append, #[xo, yo], #[T, T2]⟩, ty, ps, af, gd⟩ : Oper) r ⟨tm, hp, gn, us, L⟩ := ⟨fun hop => zv2 (h := h) (hop := hop) (ho := rfl) (hd := rfl) (ht := ht) (hg := hg) (hf := hf) (hx := hx) (hT := hT) (hy := hy) (hnu := hnu) (hsz := hsz) (hc := hc)⟩
theorem o_bs {ty : TypeId} {gd : Option (Nat × Bool)} {ps : String} {af : Array Edge} {t n k : Nat} {T e : TypeId} {parts : Array (Nat × Operand)} {zs : List AC} (h : Walk Try.prog ops Q C dr (keepH dr (i, (⟨some t, .buildSlice T n parts, ty, ps, af, gd⟩ : Oper), ⟨fpO (AS.ev ⟨tm, hp, gn, us, L⟩) (⟨some t, .buildSlice T n parts, ty, ps, af, gd⟩ : Oper), [(t, some ⟨e, k, n, false, zs⟩)], [t], .c (.sl t n)⟩) H) r ⟨upd tm t (.c (.sl t n)), upd hp t (some ⟨e, k, n, false, zs⟩), gn, t :: us, L⟩) (ht : Nat.blt t L = true := by exact rfl) (hg : gw ops tm (⟨some t, .buildSlice T n parts, ty, ps, af, gd⟩ : Oper) = some true := by exact rfl) (hf : (Nat.ble gn t && !us.contains t) = true := by exact rfl) (hT : sliT Try.prog T = some (e, k) := by first | exact (rfl : _ = some ((9 : Nat), (1 : Nat))) | exact (rfl : _ = some ((58 : Nat), (3 : Nat))) | exact (rfl : _ = some ((63 : Nat), (2 : Nat))) | exact (rfl : _ = some ((70 : Nat), (2 : Nat))) | exact (rfl : _ = some ((86 : Nat), (3 : Nat))) | exact (rfl : _ = some ((5 : Nat), (1 : Nat))) | exact (rfl : _ = some ((3 : Nat), (1 : Nat)))) (hz : catP k 0 (parts.toList.map fun p => (p.1, AS.ev ⟨tm, hp, gn, us, L⟩ p.2)) = some zs := by rfl) (hn : n = parts.toList.length := by rfl) (hb : (Nat.ble (n * k) 16777216 && Nat.ble n 16777216) = true := by rfl) (hc : chk dr ops i (⟨some t, .buildSlice T n parts, ty, ps, af, gd⟩ : Oper) ⟨fpO (AS.ev ⟨tm, hp, gn, us, L⟩) (⟨some t, .buildSlice T n parts, ty, ps, af, gd⟩ : Oper), [(t, some ⟨e, k, n, false, zs⟩)], [t], .c (.sl t n)⟩ H = true := by first | (with_reducible exact zt2) | kernel_rfl) : WalkO Try.prog ops Q C dr H i (⟨some t, .buildSlice T n parts, ty, ps, af, gd⟩ : Oper) r ⟨tm, hp, gn, us, L⟩ := ⟨fun hop => x_bs (h := h) (hop := hop) (ho := rfl) (hd := rfl) (ht := ht) (hg := hg) (hf := hf) (hT := hT) (hz := hz) (hn := hn) (hb := hb) (hc := hc)⟩
theorem o_al {ty : TypeId} {gd : Option (Nat × Bool)} {aT : TypeId} {ps : String} {af : Array Edge} {x : AV} {t : Nat} {rw : Row} (h : Walk Try.prog ops Q C dr (keepH dr (i, (⟨some t, .alloc aT, ty, ps, af, gd⟩ : Oper), ⟨fpO (AS.ev ⟨tm, hp, gn, us, L⟩) (⟨some t, .alloc aT, ty, ps, af, gd⟩ : Oper), [(t, some rw)], [t], x⟩) H) r ⟨upd tm t x, upd hp t (some rw), gn, t :: us, L⟩) (ht : Nat.blt t L = true := by exact rfl) (hg : gw ops tm (⟨some t, .alloc aT, ty, ps, af, gd⟩ : Oper) = some true := by exact rfl) (hf : (Nat.ble gn t && !us.contains t) = true := by exact rfl) (he : EffD Try.prog (⟨some t, .alloc aT, ty, ps, af, gd⟩ : Oper) (AS.ev ⟨tm, hp, gn, us, L⟩) hp t = some (x, .gr t rw) := by rfl) (hc : chk dr ops i (⟨some t, .alloc aT, ty, ps, af, gd⟩ : Oper) ⟨fpO (AS.ev ⟨tm, hp, gn, us, L⟩) (⟨some t, .alloc aT, ty, ps, af, gd⟩ : Oper), [(t, some rw)], [t], x⟩ H = true := by first | (with_reducible exact zt2) | kernel_rfl) : WalkO Try.prog ops Q C dr H i (⟨some t, .alloc aT, ty, ps, af, gd⟩ : Oper) r ⟨tm, hp, gn, us, L⟩ := ⟨fun hop => x_gr (h := h) (hop := hop) (hd := rfl) (ht := ht) (hg := hg) (hf := hf) (he := he) (hc := hc)⟩
theorem o_bo {ty : TypeId} {gd : Option (Nat × Bool)} {aT : TypeId} {ax : Operand} {ps : String} {af : Array Edge} {x : AV} {t : Nat} {rw : Row} (h : Walk Try.prog ops Q C dr (keepH dr (i, (⟨some t, .box aT ax, ty, ps, af, gd⟩ : Oper), ⟨fpO (AS.ev ⟨tm, hp, gn, us, L⟩) (⟨some t, .box aT ax, ty, ps, af, gd⟩ : Oper), [(t, some rw)], [t], x⟩) H) r ⟨upd tm t x, upd hp t (some rw), gn, t :: us, L⟩) (ht : Nat.blt t L = true := by exact rfl) (hg : gw ops tm (⟨some t, .box aT ax, ty, ps, af, gd⟩ : Oper) = some true := by exact rfl) (hf : (Nat.ble gn t && !us.contains t) = true := by exact rfl) (he : EffD Try.prog (⟨some t, .box aT ax, ty, ps, af, gd⟩ : Oper) (AS.ev ⟨tm, hp, gn, us, L⟩) hp t = some (x, .gr t rw) := by rfl) (hc : chk dr ops i (⟨some t, .box aT ax, ty, ps, af, gd⟩ : Oper) ⟨fpO (AS.ev ⟨tm, hp, gn, us, L⟩) (⟨some t, .box aT ax, ty, ps, af, gd⟩ : Oper), [(t, some rw)], [t], x⟩ H = true := by first | (with_reducible exact zt2) | kernel_rfl) : WalkO Try.prog ops Q C dr H i (⟨some t, .box aT ax, ty, ps, af, gd⟩ : Oper) r ⟨tm, hp, gn, us, L⟩ := ⟨fun hop => x_gr (h := h) (hop := hop) (hd := rfl) (ht := ht) (hg := hg) (hf := hf) (he := he) (hc := hc)⟩
theorem o_st {ty : TypeId} {gd : Option (Nat × Bool)} {sT : TypeId} {sp sy : Operand} {ps : String} {af : Array Edge} {x : AV} {j : Nat} {rw : Row} (h : Walk Try.prog ops Q C dr (keepH dr (i, (⟨none, .store sT sp sy, ty, ps, af, gd⟩ : Oper), ⟨fpO (AS.ev ⟨tm, hp, gn, us, L⟩) (⟨none, .store sT sp sy, ty, ps, af, gd⟩ : Oper), [(j, some rw)], [], x⟩) H) r ⟨tm, upd hp j (some rw), gn, us, L⟩) (hg : gw ops tm (⟨none, .store sT sp sy, ty, ps, af, gd⟩ : Oper) = some true := by exact rfl) (he : EffD Try.prog (⟨none, .store sT sp sy, ty, ps, af, gd⟩ : Oper) (AS.ev ⟨tm, hp, gn, us, L⟩) hp 0 = some (x, .st j rw) := by rfl) (hc : chk dr ops i (⟨none, .store sT sp sy, ty, ps, af, gd⟩ : Oper) ⟨fpO (AS.ev ⟨tm, hp, gn, us, L⟩) (⟨none, .store sT sp sy, ty, ps, af, gd⟩ : Oper), [(j, some rw)], [], x⟩ H = true := by first | (with_reducible exact zt2) | kernel_rfl) : WalkO Try.prog ops Q C dr H i (⟨none, .store sT sp sy, ty, ps, af, gd⟩ : Oper) r ⟨tm, hp, gn, us, L⟩ := ⟨fun hop => x_st (h := h) (hop := hop) (hd := rfl) (hg := hg) (he := he) (hc := hc)⟩
theorem zq4 {ty : TypeId} {gd : Option (Nat × Bool)} {ps : String} {af : Array Edge} {s off : Nat} {RT : TypeId} {Rk Rn : Nat} {Rb : Bool} {Rc : List AC} {T : TypeId} {p y : Operand} {cs : List AC} (h : Walk Try.prog ops Q C dr (keepH dr (i, (⟨none, .store T p y, ty, ps, af, gd⟩ : Oper), ⟨fpO (AS.ev ⟨tm, hp, gn, us, L⟩) (⟨none, .store T p y, ty, ps, af, gd⟩ : Oper), [(s, some (⟨RT, Rk, Rn, Rb, spl Rc off cs⟩ : Row))], [], .c .un⟩) H) r ⟨tm, upd hp s (some (⟨RT, Rk, Rn, Rb, spl Rc off cs⟩ : Row)), gn, us, L⟩) (hg : gw ops tm (⟨none, .store T p y, ty, ps, af, gd⟩ : Oper) = some true := by exact rfl) (hx : AS.ev ⟨tm, hp, gn, us, L⟩ p = .c (.pt s off) := by exact rfl) (hr : hp s = some ⟨RT, Rk, Rn, Rb, Rc⟩ := by exact rfl) (hy : (AS.ev ⟨tm, hp, gn, us, L⟩ y).cells = some cs := by exact rfl) (hT : (Try.prog.info? T).map (·.size) = some cs.length := by exact rfl) (hnu : cs.all noUn = true := by exact rfl) (hle : off + cs.length ≤ Rc.length := by assumption) (hc : chk dr ops i (⟨none, .store T p y, ty, ps, af, gd⟩ : Oper) ⟨fpO (AS.ev ⟨tm, hp, gn, us, L⟩) (⟨none, .store T p y, ty, ps, af, gd⟩ : Oper), [(s, some (⟨RT, Rk, Rn, Rb, spl Rc off cs⟩ : Row))], [], .c .un⟩ H = true := by first | (with_reducible exact zt2) | kernel_rfl) : WalkO Try.prog ops Q C dr H i (⟨none, .store T p y, ty, ps, af, gd⟩ : Oper) r ⟨tm, hp, gn, us, L⟩ := ⟨fun hop => zg4 (h := h) (hop := hop) (ho := rfl) (hd := rfl) (hg := hg) (hx := hx) (hr := hr) (hy := hy) (hT := hT) (hnu := hnu) (hle := hle) (hc := hc)⟩
theorem o_mv {ty : TypeId} {gd : Option (Nat × Bool)} {sT : TypeId} {sx : Operand} {slo shi smx : Option Operand} {ps : String} {af : Array Edge} {x : AV} {t : Nat} {j : Nat} {rw : Row} (h : Walk Try.prog ops Q C dr (keepH dr (i, (⟨some t, .slice sT sx slo shi smx, ty, ps, af, gd⟩ : Oper), ⟨fpO (AS.ev ⟨tm, hp, gn, us, L⟩) (⟨some t, .slice sT sx slo shi smx, ty, ps, af, gd⟩ : Oper), [(j, none), (t, some rw)], [t], x⟩) H) r ⟨upd tm t x, upd (upd hp j none) t (some rw), gn, t :: us, L⟩) (ht : Nat.blt t L = true := by exact rfl) (hg : gw ops tm (⟨some t, .slice sT sx slo shi smx, ty, ps, af, gd⟩ : Oper) = some true := by exact rfl) (hf : (Nat.ble gn t && !us.contains t) = true := by exact rfl) (he : EffD Try.prog (⟨some t, .slice sT sx slo shi smx, ty, ps, af, gd⟩ : Oper) (AS.ev ⟨tm, hp, gn, us, L⟩) hp t = some (x, .mv j t rw) := by rfl) (hc : chk dr ops i (⟨some t, .slice sT sx slo shi smx, ty, ps, af, gd⟩ : Oper) ⟨fpO (AS.ev ⟨tm, hp, gn, us, L⟩) (⟨some t, .slice sT sx slo shi smx, ty, ps, af, gd⟩ : Oper), [(j, none), (t, some rw)], [t], x⟩ H = true := by first | (with_reducible exact zt2) | kernel_rfl) : WalkO Try.prog ops Q C dr H i (⟨some t, .slice sT sx slo shi smx, ty, ps, af, gd⟩ : Oper) r ⟨tm, hp, gn, us, L⟩ := ⟨fun hop => x_mv (h := h) (hop := hop) (hd := rfl) (ht := ht) (hg := hg) (hf := hf) (he := he) (hc := hc)⟩
theorem o_ld {ty : TypeId} {gd : Option (Nat × Bool)} {ps : String} {af : Array Edge} {x : AV} {t s off : Nat} {rw : Row} {T : TypeId} {p : Operand} {cs : List AC} (h : Walk Try.prog ops Q C dr (keepH dr (i, (⟨some t, .load T p, ty, ps, af, gd⟩ : Oper), ⟨fpO (AS.ev ⟨tm, hp, gn, us, L⟩) (⟨some t, .load T p, ty, ps, af, gd⟩ : Oper), [], [], x⟩) H) r ⟨upd tm t x, hp, gn, us, L⟩) (ht : Nat.blt t L = true := by exact rfl) (hg : gw ops tm (⟨some t, .load T p, ty, ps, af, gd⟩ : Oper) = some true := by rfl) (hx : AS.ev ⟨tm, hp, gn, us, L⟩ p = .c (.pt s off) := by exact rfl) (hr : hp s = some rw := by exact rfl) (hs : subL rw.cs off (Try.prog.cellsOf T) = cs := by assumption) (hm : mkAV Try.prog T cs = some x := by rfl) (hc : chk dr ops i (⟨some t, .load T p, ty, ps, af, gd⟩ : Oper) ⟨fpO (AS.ev ⟨tm, hp, gn, us, L⟩) (⟨some t, .load T p, ty, ps, af, gd⟩ : Oper), [], [], x⟩ H = true := by first | (with_reducible exact zt2) | kernel_rfl) : WalkO Try.prog ops Q C dr H i (⟨some t, .load T p, ty, ps, af, gd⟩ : Oper) r ⟨tm, hp, gn, us, L⟩ := ⟨fun hop => x_ld (h := h) (hop := hop) (ho := rfl) (hd := rfl) (ht := ht) (hg := hg) (hx := hx) (hr := hr) (hs := hs) (hm := hm) (hc := hc)⟩
theorem o_ix {ty : TypeId} {gd : Option (Nat × Bool)} {ps : String} {af : Array Edge} {t n k j : Nat} {l : List E} {e : E} {kd : IntKind} {z : Int} {T : TypeId} {xo io : Operand} (h : Walk Try.prog ops Q C dr (keepH dr (i, (⟨some t, .indexAddr T xo io, ty, ps, af, gd⟩ : Oper), ⟨fpO (AS.ev ⟨tm, hp, gn, us, L⟩) (⟨some t, .indexAddr T xo io, ty, ps, af, gd⟩ : Oper), [], [], .c (.rp (acE e) 0)⟩) H) r ⟨upd tm t (.c (.rp (acE e) 0)), hp, gn, us, L⟩) (ht : Nat.blt t L = true := by exact rfl) (hg : gw ops tm (⟨some t, .indexAddr T xo io, ty, ps, af, gd⟩ : Oper) = some true := by exact rfl) (hx : AS.ev ⟨tm, hp, gn, us, L⟩ xo = .c (.ro n k (acL l)) := by exact rfl) (hi : AS.ev ⟨tm, hp, gn, us, L⟩ io = .c (.v (.int kd z)) := by exact rfl) (hT : eltB Try.prog T k = true := by exact rfl) (hz : z = (j : Int) := by first | rfl | omega | assumption) (hn : n = l.length := by exact rfl) (hk : ∀ e ∈ l, e.enc.length = k := by assumption) (he : l[j]? = some e := by assumption) (hc : chk dr ops i (⟨some t, .indexAddr T xo io, ty, ps, af, gd⟩ : Oper) ⟨fpO (AS.ev ⟨tm, hp, gn, us, L⟩) (⟨some t, .indexAddr T xo io, ty, ps, af, gd⟩ : Oper), [], [], .c (.rp (acE e) 0)⟩ H = true := by first | (with_reducible exact zt2) | kernel_rfl) : WalkO Try.prog ops Q C dr H i (⟨some t, .indexAddr T xo io, ty, ps, af, gd⟩ : Oper) r ⟨tm, hp, gn, us, L⟩ := ⟨fun hop => x_ix (h := h) (hop := hop) (ho := rfl) (hd := rfl) (ht := ht) (hg := hg) (hx := hx) (hi := hi) (hT := hT) (hz := hz) (hn := hn) (hk := hk) (he := he) (hc := hc)⟩
theorem zz6 {ty : TypeId} {gd : Option (Nat × Bool)} {ps : String} {af : Array Edge} {t n k j s : Nat} {rw : Row} {kd : IntKind} {z : Int} {T : TypeId} {xo io : Operand} (h : Walk Try.prog ops Q C dr (keepH dr (i, (⟨some t, .indexAddr T xo io, ty, ps, af, gd⟩ : Oper), ⟨fpO (AS.ev ⟨tm, hp, gn, us, L⟩) (⟨some t, .indexAddr T xo io, ty, ps, af, gd⟩ : Oper), [], [], .c (.pt s (j * k))⟩) H) r ⟨upd tm t (.c (.pt s (j * k))), hp, gn, us, L⟩) (ht : Nat.blt t L = true := by exact rfl) (hg : gw ops tm (⟨some t, .indexAddr T xo io, ty, ps, af, gd⟩ : Oper) = some true := by exact rfl) (hx : AS.ev ⟨tm, hp, gn, us, L⟩ xo = .c (.sl s n) := by exact rfl) (hi : AS.ev ⟨tm, hp, gn, us, L⟩ io = .c (.v (.int kd z)) := by exact rfl) (hr : hp s = some rw := by exact rfl) (hb : rw.box = false := by exact rfl) (hn : rw.n = n := by exact rfl) (hk : rw.k = k := by exact rfl) (hT : eltB Try.prog T k = true := by rfl) (hz : z = (j : Int) := by first | rfl | omega | assumption) (hj : j < n := by first | assumption | omega) (hc : chk dr ops i (⟨some t, .indexAddr T xo io, ty, ps, af, gd⟩ : Oper) ⟨fpO (AS.ev ⟨tm, hp, gn, us, L⟩) (⟨some t, .indexAddr T xo io, ty, ps, af, gd⟩ : Oper), [], [], .c (.pt s (j * k))⟩ H = true := by first | (with_reducible exact zt2) | kernel_rfl) : WalkO Try.prog ops Q C dr H i (⟨some t, .indexAddr T xo io, ty, ps, af, gd⟩ : Oper) r ⟨tm, hp, gn, us, L⟩ := ⟨fun hop => zf4 (h := h) (hop := hop) (ho := rfl) (hd := rfl) (ht := ht) (hg := hg) (hx := hx) (hi := hi) (hr := hr) (hb := hb) (hn := hn) (hk := hk) (hT := hT) (hz := hz) (hj := hj) (hc := hc)⟩
theorem zo4 {ty : TypeId} {gd : Option (Nat × Bool)} {ps : String} {af : Array Edge} {t j : Nat} {T : TypeId} {xo io : Operand} {s : ByteArray} {kd : IntKind} {z : Int} (h : Walk Try.prog ops Q C dr (keepH dr (i, (⟨some t, .index T xo io, ty, ps, af, gd⟩ : Oper), ⟨fpO (AS.ev ⟨tm, hp, gn, us, L⟩) (⟨some t, .index T xo io, ty, ps, af, gd⟩ : Oper), [], [], .c (.v (.int .u8 (bAt s j)))⟩) H) r ⟨upd tm t (.c (.v (.int .u8 (bAt s j)))), hp, gn, us, L⟩) (hT : (Try.prog).underlying T = some .string := by exact Try.underlying9) (ht : Nat.blt t L = true := by exact rfl) (hg : gw ops tm (⟨some t, .index T xo io, ty, ps, af, gd⟩ : Oper) = some true := by exact rfl) (hx : AS.ev ⟨tm, hp, gn, us, L⟩ xo = .c (.v (.string s)) := by exact rfl) (hi : AS.ev ⟨tm, hp, gn, us, L⟩ io = .c (.v (.int kd z)) := by exact rfl) (hz : z = (j : Int) := by first | assumption | rfl) (hj : j < s.size := by first | assumption | omega | (simp only [beq_iff_eq, decide_eq_true_iff] at *; omega)) (hc : chk dr ops i (⟨some t, .index T xo io, ty, ps, af, gd⟩ : Oper) ⟨fpO (AS.ev ⟨tm, hp, gn, us, L⟩) (⟨some t, .index T xo io, ty, ps, af, gd⟩ : Oper), [], [], .c (.v (.int .u8 (bAt s j)))⟩ H = true := by first | (with_reducible exact zt2) | kernel_rfl) : WalkO Try.prog ops Q C dr H i (⟨some t, .index T xo io, ty, ps, af, gd⟩ : Oper) r ⟨tm, hp, gn, us, L⟩ := ⟨fun hop => zt13 (h := h) (hop := hop) (ho := rfl) (hT := hT) (hd := rfl) (ht := ht) (hg := hg) (hx := hx) (hi := hi) (hz := hz) (hj := hj) (hc := hc)⟩
theorem zb5 {ty : TypeId} {gd : Option (Nat × Bool)} {ps : String} {af : Array Edge} {t a b : Nat} {T : TypeId} {xo lo hi : Operand} {s : ByteArray} {k1 k2 : IntKind} {y z : Int} (h : Walk Try.prog ops Q C dr (keepH dr (i, (⟨some t, .slice T xo (some lo) (some hi) none, ty, ps, af, gd⟩ : Oper), ⟨fpO (AS.ev ⟨tm, hp, gn, us, L⟩) (⟨some t, .slice T xo (some lo) (some hi) none, ty, ps, af, gd⟩ : Oper), [], [], .c (.v (.string (cutB s a b)))⟩) H) r ⟨upd tm t (.c (.v (.string (cutB s a b)))), hp, gn, us, L⟩) (hT : (Try.prog).underlying T = some .string := by exact Try.underlying9) (ht : Nat.blt t L = true := by exact rfl) (hg : gw ops tm (⟨some t, .slice T xo (some lo) (some hi) none, ty, ps, af, gd⟩ : Oper) = some true := by exact rfl) (hx : AS.ev ⟨tm, hp, gn, us, L⟩ xo = .c (.v (.string s)) := by exact rfl) (hl : AS.ev ⟨tm, hp, gn, us, L⟩ lo = .c (.v (.int k1 y)) := by exact rfl) (hh : AS.ev ⟨tm, hp, gn, us, L⟩ hi = .c (.v (.int k2 z)) := by exact rfl) (hy : y = (a : Int) := by first | assumption | rfl) (hz : z = (b : Int) := by first | assumption | rfl) (h1 : a ≤ b := by first | assumption | omega) (h2 : b ≤ s.size := by first | assumption | omega) (hc : chk dr ops i (⟨some t, .slice T xo (some lo) (some hi) none, ty, ps, af, gd⟩ : Oper) ⟨fpO (AS.ev ⟨tm, hp, gn, us, L⟩) (⟨some t, .slice T xo (some lo) (some hi) none, ty, ps, af, gd⟩ : Oper), [], [], .c (.v (.string (cutB s a b)))⟩ H = true := by first | (with_reducible exact zt2) | kernel_rfl) : WalkO Try.prog ops Q C dr H i (⟨some t, .slice T xo (some lo) (some hi) none, ty, ps, af, gd⟩ : Oper) r ⟨tm, hp, gn, us, L⟩ := ⟨fun hop => zu13 (h := h) (hop := hop) (ho := rfl) (hT := hT) (hd := rfl) (ht := ht) (hg := hg) (hx := hx) (hl := hl) (hh := hh) (hy := hy) (hz := hz) (h1 := h1) (h2 := h2) (hc := hc)⟩
theorem zc5 {ty : TypeId} {gd : Option (Nat × Bool)} {ps : String} {af : Array Edge} {t a : Nat} {T : TypeId} {xo lo : Operand} {s : ByteArray} {k1 : IntKind} {y : Int} (h : Walk Try.prog ops Q C dr (keepH dr (i, (⟨some t, .slice T xo (some lo) none none, ty, ps, af, gd⟩ : Oper), ⟨fpO (AS.ev ⟨tm, hp, gn, us, L⟩) (⟨some t, .slice T xo (some lo) none none, ty, ps, af, gd⟩ : Oper), [], [], .c (.v (.string (cutB s a s.size)))⟩) H) r ⟨upd tm t (.c (.v (.string (cutB s a s.size)))), hp, gn, us, L⟩) (hT : (Try.prog).underlying T = some .string := by exact Try.underlying9) (ht : Nat.blt t L = true := by exact rfl) (hg : gw ops tm (⟨some t, .slice T xo (some lo) none none, ty, ps, af, gd⟩ : Oper) = some true := by exact rfl) (hx : AS.ev ⟨tm, hp, gn, us, L⟩ xo = .c (.v (.string s)) := by exact rfl) (hl : AS.ev ⟨tm, hp, gn, us, L⟩ lo = .c (.v (.int k1 y)) := by exact rfl) (hy : y = (a : Int) := by first | assumption | rfl) (h1 : a ≤ s.size := by first | assumption | omega) (hc : chk dr ops i (⟨some t, .slice T xo (some lo) none none, ty, ps, af, gd⟩ : Oper) ⟨fpO (AS.ev ⟨tm, hp, gn, us, L⟩) (⟨some t, .slice T xo (some lo) none none, ty, ps, af, gd⟩ : Oper), [], [], .c (.v (.string (cutB s a s.size)))⟩ H = true := by first | (with_reducible exact zt2) | kernel_rfl) : WalkO Try.prog ops Q C dr H i (⟨some t, .slice T xo (some lo) none none, ty, ps, af, gd⟩ : Oper) r ⟨tm, hp, gn, us, L⟩ := ⟨fun hop => zv13 (h := h) (hop := hop) (ho := rfl) (hT := hT) (hd := rfl) (ht := ht) (hg := hg) (hx := hx) (hl := hl) (hy := hy) (h1 := h1) (hc := hc)⟩
theorem zd5 {ty : TypeId} {gd : Option (Nat × Bool)} {ps : String} {af : Array Edge} {t b : Nat} {T : TypeId} {xo hi : Operand} {s : ByteArray} {k2 : IntKind} {z : Int} (h : Walk Try.prog ops Q C dr (keepH dr (i, (⟨some t, .slice T xo none (some hi) none, ty, ps, af, gd⟩ : Oper), ⟨fpO (AS.ev ⟨tm, hp, gn, us, L⟩) (⟨some t, .slice T xo none (some hi) none, ty, ps, af, gd⟩ : Oper), [], [], .c (.v (.string (cutB s 0 b)))⟩) H) r ⟨upd tm t (.c (.v (.string (cutB s 0 b)))), hp, gn, us, L⟩) (hT : (Try.prog).underlying T = some .string := by exact Try.underlying9) (ht : Nat.blt t L = true := by exact rfl) (hg : gw ops tm (⟨some t, .slice T xo none (some hi) none, ty, ps, af, gd⟩ : Oper) = some true := by exact rfl) (hx : AS.ev ⟨tm, hp, gn, us, L⟩ xo = .c (.v (.string s)) := by exact rfl) (hh : AS.ev ⟨tm, hp, gn, us, L⟩ hi = .c (.v (.int k2 z)) := by exact rfl) (hz : z = (b : Int) := by first | assumption | rfl) (h2 : b ≤ s.size := by first | assumption | omega) (hc : chk dr ops i (⟨some t, .slice T xo none (some hi) none, ty, ps, af, gd⟩ : Oper) ⟨fpO (AS.ev ⟨tm, hp, gn, us, L⟩) (⟨some t, .slice T xo none (some hi) none, ty, ps, af, gd⟩ : Oper), [], [], .c (.v (.string (cutB s 0 b)))⟩ H = true := by first | (with_reducible exact zt2) | kernel_rfl) : WalkO Try.prog ops Q C dr H i (⟨some t, .slice T xo none (some hi) none, ty, ps, af, gd⟩ : Oper) r ⟨tm, hp, gn, us, L⟩ := ⟨fun hop => zw13 (h := h) (hop := hop) (ho := rfl) (hT := hT) (hd := rfl) (ht := ht) (hg := hg) (hx := hx) (hh := hh) (hz := hz) (h2 := h2) (hc := hc)⟩
theorem zl1 {ty : TypeId} {gd : Option (Nat × Bool)} {bT bU : TypeId} {bx by_ : Operand} {ps : String} {af : Array Edge} {t : Nat} {z : Int} (h : Walk Try.prog ops Q C dr (keepH dr (i, (⟨some t, .binOp .add bT bx by_ bU, ty, ps, af, gd⟩ : Oper), ⟨fpO (AS.ev ⟨tm, hp, gn, us, L⟩) (⟨some t, .binOp .add bT bx by_ bU, ty, ps, af, gd⟩ : Oper), [], [], .c (.v (.int .i64 z))⟩) H) r ⟨upd tm t (.c (.v (.int .i64 z))), hp, gn, us, L⟩) (hb : ariB (.binOp .add bT bx by_ bU) = true := by exact rfl) (ht : Nat.blt t L = true := by exact rfl) (hg : gw ops tm (⟨some t, .binOp .add bT bx by_ bU, ty, ps, af, gd⟩ : Oper) = some true := by exact rfl) (he : EffD Try.prog (⟨some t, .binOp .add bT bx by_ bU, ty, ps, af, gd⟩ : Oper) (AS.ev ⟨tm, hp, gn, us, L⟩) hp 0 = some (.c (.v (.int .i64 (IntKind.i64.wrap z))), .nop) := by rfl) (hz : -9223372036854775808 ≤ z ∧ z ≤ 9223372036854775807 := by omega) (hc : chk dr ops i (⟨some t, .binOp .add bT bx by_ bU, ty, ps, af, gd⟩ : Oper) ⟨fpO (AS.ev ⟨tm, hp, gn, us, L⟩) (⟨some t, .binOp .add bT bx by_ bU, ty, ps, af, gd⟩ : Oper), [], [], .c (.v (.int .i64 z))⟩ H = true := by first | (with_reducible exact zt2) | kernel_rfl) : WalkO Try.prog ops Q C dr H i (⟨some t, .binOp .add bT bx by_ bU, ty, ps, af, gd⟩ : Oper) r ⟨tm, hp, gn, us, L⟩ := ⟨fun hop => zd10 (h := h) (hop := hop) (hb := hb) (hd := rfl) (ht := ht) (hg := hg) (he := he) (hz := hz) (hc := hc)⟩
theorem zm1 {ty : TypeId} {gd : Option (Nat × Bool)} {bT bU : TypeId} {bx by_ : Operand} {ps : String} {af : Array Edge} {t : Nat} {z : Int} (h : Walk Try.prog ops Q C dr (keepH dr (i, (⟨some t, .binOp .sub bT bx by_ bU, ty, ps, af, gd⟩ : Oper), ⟨fpO (AS.ev ⟨tm, hp, gn, us, L⟩) (⟨some t, .binOp .sub bT bx by_ bU, ty, ps, af, gd⟩ : Oper), [], [], .c (.v (.int .i64 z))⟩) H) r ⟨upd tm t (.c (.v (.int .i64 z))), hp, gn, us, L⟩) (hb : ariB (.binOp .sub bT bx by_ bU) = true := by exact rfl) (ht : Nat.blt t L = true := by exact rfl) (hg : gw ops tm (⟨some t, .binOp .sub bT bx by_ bU, ty, ps, af, gd⟩ : Oper) = some true := by exact rfl) (he : EffD Try.prog (⟨some t, .binOp .sub bT bx by_ bU, ty, ps, af, gd⟩ : Oper) (AS.ev ⟨tm, hp, gn, us, L⟩) hp 0 = some (.c (.v (.int .i64 (IntKind.i64.wrap z))), .nop) := by rfl) (hz : -9223372036854775808 ≤ z ∧ z ≤ 9223372036854775807 := by omega) (hc : chk dr ops i (⟨some t, .binOp .sub bT bx by_ bU, ty, ps, af, gd⟩ : Oper) ⟨fpO (AS.ev ⟨tm, hp, gn, us, L⟩) (⟨some t, .binOp .sub bT bx by_ bU, ty, ps, af, gd⟩ : Oper), [], [], .c (.v (.int .i64 z))⟩ H = true := by first | (with_reducible exact zt2) | kernel_rfl) : WalkO Try.prog ops Q C dr H i (⟨some t, .binOp .sub bT bx by_ bU, ty, ps, af, gd⟩ : Oper) r ⟨tm, hp, gn, us, L⟩ := ⟨fun hop => zd10 (h := h) (hop := hop) (hb := hb) (hd := rfl) (ht := ht) (hg := hg) (he := he) (hz := hz) (hc := hc)⟩
theorem zn1 {ty : TypeId} {gd : Option (Nat × Bool)} {bT bU : TypeId} {bx by_ : Operand} {ps : String} {af : Array Edge} {t : Nat} {z : Int} (h : Walk Try.prog ops Q C dr (keepH dr (i, (⟨some t, .binOp .mul bT bx by_ bU, ty, ps, af, gd⟩ : Oper), ⟨fpO (AS.ev ⟨tm, hp, gn, us, L⟩) (⟨some t, .binOp .mul bT bx by_ bU, ty, ps, af, gd⟩ : Oper), [], [], .c (.v (.int .i64 z))⟩) H) r ⟨upd tm t (.c (.v (.int .i64 z))), hp, gn, us, L⟩) (hb : ariB (.binOp .mul bT bx by_ bU) = true := by exact rfl) (ht : Nat.blt t L = true := by exact rfl) (hg : gw ops tm (⟨some t, .binOp .mul bT bx by_ bU, ty, ps, af, gd⟩ : Oper) = some true := by exact rfl) (he : EffD Try.prog (⟨some t, .binOp .mul bT bx by_ bU, ty, ps, af, gd⟩ : Oper) (AS.ev ⟨tm, hp, gn, us, L⟩) hp 0 = some (.c (.v (.int .i64 (IntKind.i64.wrap z))), .nop) := by rfl) (hz : -9223372036854775808 ≤ z ∧ z ≤ 9223372036854775807 := by omega) (hc : chk dr ops i (⟨some t, .binOp .mul bT bx by_ bU, ty, ps, af, gd⟩ : Oper) ⟨fpO (AS.ev ⟨tm, hp, gn, us, L⟩) (⟨some t, .binOp .mul bT bx by_ bU, ty, ps, af, gd⟩ : Oper), [], [], .c (.v (.int .i64 z))⟩ H = true := by first | (with_reducible exact zt2) | kernel_rfl) : WalkO Try.prog ops Q C dr H i (⟨some t, .binOp .mul bT bx by_ bU, ty, ps, af, gd⟩ : Oper) r ⟨tm, hp, gn, us, L⟩ := ⟨fun hop => zd10 (h := h) (hop := hop) (hb := hb) (hd := rfl) (ht := ht) (hg := hg) (he := he) (hz := hz) (hc := hc)⟩
theorem zc3 {ty : TypeId} {gd : Option (Nat × Bool)} {cs cd : TypeId} {cx : Operand} {ps : String} {af : Array Edge} {t : Nat} {z : Int} (h : Walk Try.prog ops Q C dr (keepH dr (i, (⟨some t, .convert cs cd cx, ty, ps, af, gd⟩ : Oper), ⟨fpO (AS.ev ⟨tm, hp, gn, us, L⟩) (⟨some t, .convert cs cd cx, ty, ps, af, gd⟩ : Oper), [], [], .c (.v (.int .i64 z))⟩) H) r ⟨upd tm t (.c (.v (.int .i64 z))), hp, gn, us, L⟩) (hb : ariB (.convert cs cd cx) = true := by exact rfl) (ht : Nat.blt t L = true := by exact rfl) (hg : gw ops tm (⟨some t, .convert cs cd cx, ty, ps, af, gd⟩ : Oper) = some true := by exact rfl) (he : EffD Try.prog (⟨some t, .convert cs cd cx, ty, ps, af, gd⟩ : Oper) (AS.ev ⟨tm, hp, gn, us, L⟩) hp 0 = some (.c (.v (.int .i64 (IntKind.i64.wrap z))), .nop) := by rfl) (hz : -9223372036854775808 ≤ z ∧ z ≤ 9223372036854775807 := by omega) (hc : chk dr ops i (⟨some t, .convert cs cd cx, ty, ps, af, gd⟩ : Oper) ⟨fpO (AS.ev ⟨tm, hp, gn, us, L⟩) (⟨some t, .convert cs cd cx, ty, ps, af, gd⟩ : Oper), [], [], .c (.v (.int .i64 z))⟩ H = true := by first | (with_reducible exact zt2) | kernel_rfl) : WalkO Try.prog ops Q C dr H i (⟨some t, .convert cs cd cx, ty, ps, af, gd⟩ : Oper) r ⟨tm, hp, gn, us, L⟩ := ⟨fun hop => zd10 (h := h) (hop := hop) (hb := hb) (hd := rfl) (ht := ht) (hg := hg) (he := he) (hz := hz) (hc := hc)⟩
theorem zw3 {gd : Option (Nat × Bool)} {ps : String} {af : Array Edge} {t : Nat} {T ty : TypeId} {xo yo : Operand} {a b : ByteArray} (h : Walk Try.prog ops Q C dr (keepH dr (i, (⟨some t, .binOp .add T xo yo ty, ty, ps, af, gd⟩ : Oper), ⟨fpO (AS.ev ⟨tm, hp, gn, us, L⟩) (⟨some t, .binOp .add T xo yo ty, ty, ps, af, gd⟩ : Oper), [], [], .c (.v (.string (a ++ b)))⟩) H) r ⟨upd tm t (.c (.v (.string (a ++ b)))), hp, gn, us, L⟩) (hT : (Try.prog).underlying T = some .string := by exact Try.underlying9) (ht : Nat.blt t L = true := by exact rfl) (hg : gw ops tm (⟨some t, .binOp .add T xo yo ty, ty, ps, af, gd⟩ : Oper) = some true := by exact rfl) (hx : AS.ev ⟨tm, hp, gn, us, L⟩ xo = .c (.v (.string a)) := by exact rfl) (hy : AS.ev ⟨tm, hp, gn, us, L⟩ yo = .c (.v (.string b)) := by exact rfl) (hs : a.size + b.size ≤ 9223372036854775807 := by first | omega | (simp only [ByteArray.size_append', ByteArray.size_mk', List.size_toArray, List.length_cons, List.length_nil]; omega)) (hc : chk dr ops i (⟨some t, .binOp .add T xo yo ty, ty, ps, af, gd⟩ : Oper) ⟨fpO (AS.ev ⟨tm, hp, gn, us, L⟩) (⟨some t, .binOp .add T xo yo ty, ty, ps, af, gd⟩ : Oper), [], [], .c (.v (.string (a ++ b)))⟩ H = true := by first | (with_reducible exact zt2) | kernel_rfl) : WalkO Try.prog ops Q C dr H i (⟨some t, .binOp .add T xo yo ty, ty, ps, af, gd⟩ : Oper) r ⟨tm, hp, gn, us, L⟩ := ⟨fun hop => zp13 (h := h) (hop := hop) (ho := rfl) (hT := hT) (hd := rfl) (ht := ht) (hg := hg) (hx := hx) (hy := hy) (hs := hs) (hc := hc)⟩
theorem zn4 {ty : TypeId} {gd : Option (Nat × Bool)} {ps : String} {af : Array Edge} {t c : Nat} {s d : TypeId} {xo : Operand} {k : IntKind} (h : Walk Try.prog ops Q C dr (keepH dr (i, (⟨some t, .convert s d xo, ty, ps, af, gd⟩ : Oper), ⟨fpO (AS.ev ⟨tm, hp, gn, us, L⟩) (⟨some t, .convert s d xo, ty, ps, af, gd⟩ : Oper), [], [], .c (.v (.string ⟨#[UInt8.ofNat c]⟩))⟩) H) r ⟨upd tm t (.c (.v (.string ⟨#[UInt8.ofNat c]⟩))), hp, gn, us, L⟩) (ht : Nat.blt t L = true := by exact rfl) (hg : gw ops tm (⟨some t, .convert s d xo, ty, ps, af, gd⟩ : Oper) = some true := by exact rfl) (hx : AS.ev ⟨tm, hp, gn, us, L⟩ xo = .c (.v (.int k (c : Int))) := by exact rfl) (hs : (Try.prog).underlying s = some (.int k) := by kernel_rfl) (hdd : (Try.prog).underlying d = some .string := by kernel_rfl) (hcl : c < 128 := by first | assumption | omega) (hc : chk dr ops i (⟨some t, .convert s d xo, ty, ps, af, gd⟩ : Oper) ⟨fpO (AS.ev ⟨tm, hp, gn, us, L⟩) (⟨some t, .convert s d xo, ty, ps, af, gd⟩ : Oper), [], [], .c (.v (.string ⟨#[UInt8.ofNat c]⟩))⟩ H = true := by first | (with_reducible exact zt2) | kernel_rfl) : WalkO Try.prog ops Q C dr H i (⟨some t, .convert s d xo, ty, ps, af, gd⟩ : Oper) r ⟨tm, hp, gn, us, L⟩ := ⟨fun hop => zx8 (h := h) (hop := hop) (ho := rfl) (hd := rfl) (ht := ht) (hg := hg) (hx := hx) (hs := hs) (hdd := hdd) (hcl := hcl) (hc := hc)⟩
theorem ze5 {ty : TypeId} {gd : Option (Nat × Bool)} {ps : String} {af : Array Edge} {t j n : Nat} {s d : TypeId} {xo : Operand} {rw : Row} {bs : List UInt8} (h : Walk Try.prog ops Q C dr (keepH dr (i, (⟨some t, .convert s d xo, ty, ps, af, gd⟩ : Oper), ⟨fpO (AS.ev ⟨tm, hp, gn, us, L⟩) (⟨some t, .convert s d xo, ty, ps, af, gd⟩ : Oper), [], [], .c (.v (.string ⟨bs.toArray⟩))⟩) H) r ⟨upd tm t (.c (.v (.string ⟨bs.toArray⟩))), hp, gn, us, L⟩) (ht : Nat.blt t L = true := by exact rfl) (hg : gw ops tm (⟨some t, .convert s d xo, ty, ps, af, gd⟩ : Oper) = some true := by exact rfl) (hx : AS.ev ⟨tm, hp, gn, us, L⟩ xo = .c (.sl j n) := by exact rfl) (hr : hp j = some rw := by exact rfl) (h1 : rw.k = 1 := by exact rfl) (h2 : rw.n = n := by exact rfl) (h3 : rw.box = false := by exact rfl) (hcs : rw.cs = bytC bs := by exact rfl) (hT : convB Try.prog s d = true := by kernel_rfl) (hc : chk dr ops i (⟨some t, .convert s d xo, ty, ps, af, gd⟩ : Oper) ⟨fpO (AS.ev ⟨tm, hp, gn, us, L⟩) (⟨some t, .convert s d xo, ty, ps, af, gd⟩ : Oper), [], [], .c (.v (.string ⟨bs.toArray⟩))⟩ H = true := by first | (with_reducible exact zt2) | kernel_rfl) : WalkO Try.prog ops Q C dr H i (⟨some t, .convert s d xo, ty, ps, af, gd⟩ : Oper) r ⟨tm, hp, gn, us, L⟩ := ⟨fun hop => zq13 (h := h) (hop := hop) (ho := rfl) (hd := rfl) (ht := ht) (hg := hg) (hx := hx) (hr := hr) (h1 := h1) (h2 := h2) (h3 := h3) (hcs := hcs) (hT := hT) (hc := hc)⟩
theorem zf5 {ty : TypeId} {gd : Option (Nat × Bool)} {ps : String} {af : Array Edge} {t n : Nat} {s d : TypeId} {xo : Operand} {l : List E} (h : Walk Try.prog ops Q C dr (keepH dr (i, (⟨some t, .convert s d xo, ty, ps, af, gd⟩ : Oper), ⟨fpO (AS.ev ⟨tm, hp, gn, us, L⟩) (⟨some t, .convert s d xo, ty, ps, af, gd⟩ : Oper), [], [], .c (.v (.string ⟨(bytE l).toArray⟩))⟩) H) r ⟨upd tm t (.c (.v (.string ⟨(bytE l).toArray⟩))), hp, gn, us, L⟩) (ht : Nat.blt t L = true := by exact rfl) (hg : gw ops tm (⟨some t, .convert s d xo, ty, ps, af, gd⟩ : Oper) = some true := by exact rfl) (hx : AS.ev ⟨tm, hp, gn, us, L⟩ xo = .c (.ro n 1 (acL l)) := by exact rfl) (hl : ∀ e ∈ l, ∃ z, e = .int .u8 z := by assumption) (hT : convB Try.prog s d = true := by kernel_rfl) (hc : chk dr ops i (⟨some t, .convert s d xo, ty, ps, af, gd⟩ : Oper) ⟨fpO (AS.ev ⟨tm, hp, gn, us, L⟩) (⟨some t, .convert s d xo, ty, ps, af, gd⟩ : Oper), [], [], .c (.v (.string ⟨(bytE l).toArray⟩))⟩ H = true := by first | (with_reducible exact zt2) | kernel_rfl) : WalkO Try.prog ops Q C dr H i (⟨some t, .convert s d xo, ty, ps, af, gd⟩ : Oper) r ⟨tm, hp, gn, us, L⟩ := ⟨fun hop => zr13 (h := h) (hop := hop) (ho := rfl) (hd := rfl) (ht := ht) (hg := hg) (hx := hx) (hl := hl) (hT := hT) (hc := hc)⟩
theorem zr {ty : TypeId} {gd : Option (Nat × Bool)} {op : Op} {ps : String} {af : Array Edge} {x : AV} {t : Nat} (h : Walk Try.prog ops Q C dr (keepH dr (i, (⟨some t, op, ty, ps, af, gd⟩ : Oper), ⟨fpO (AS.ev ⟨tm, hp, gn, us, L⟩) (⟨some t, op, ty, ps, af, gd⟩ : Oper), [], [], x⟩) H) r ⟨upd tm t x, hp, gn, us, L⟩) (ht : Nat.blt t L = true := by exact rfl) (hg : gw ops tm (⟨some t, op, ty, ps, af, gd⟩ : Oper) = some true := by exact rfl) (he : EffD Try.prog (⟨some t, op, ty, ps, af, gd⟩ : Oper) (AS.ev ⟨tm, hp, gn, us, L⟩) hp 0 = some (x, .nop) := by rfl) (hc : chk dr ops i (⟨some t, op, ty, ps, af, gd⟩ : Oper) ⟨fpO (AS.ev ⟨tm, hp, gn, us, L⟩) (⟨some t, op, ty, ps, af, gd⟩ : Oper), [], [], x⟩ H = true := by first | (with_reducible exact zt2) | kernel_rfl) : WalkO Try.prog ops Q C dr H i (⟨some t, op, ty, ps, af, gd⟩ : Oper) r ⟨tm, hp, gn, us, L⟩ := ⟨fun hop => zr3 (h := h) (hop := hop) (hd := rfl) (ht := ht) (hg := hg) (he := he) (hc := hc)⟩
end
section
variable {P : Program} {S T : TypeId} {f off n : Nat}
def fldB (P : Program) (S : TypeId) (f off : Nat) : Bool := match fldOf P S f with | some fl => (P.info? fl.type).isSome && !(Nat.beq (P.cellsOf fl.type) 0) && Nat.beq fl.offset off | none => false
class FldI (P : Program) (S : TypeId) (f : Nat) (off : outParam Nat) : Prop where
  h : fldB P S f off = true
def oneTB (P : Program) (T : TypeId) : Bool := match P.underlying T, P.info? T with | some d, some i => Nat.beq i.size 1 && !(aggD d) && Nat.beq (P.cellsOf T) 1 | _, _ => false
class OneI (P : Program) (T : TypeId) : Prop where
  h : oneTB P T = true
def aggTB (P : Program) (T : TypeId) (n : Nat) : Bool := match P.underlying T, P.info? T with | some d, some i => Nat.beq i.size n && aggD d && Nat.beq (P.cellsOf T) n | _, _ => false
class AggI (P : Program) (T : TypeId) (n : outParam Nat) : Prop where
  h : aggTB P T n = true
class StrI (P : Program) (T : TypeId) : Prop where
  h : (match P.underlying T with | some .string => true | _ => false) = true
class SlcI (P : Program) (T : TypeId) : Prop where
  h : (match P.underlying T with | some (.slice _) => true | _ => false) = true
theorem fld_to (h : fldB P S f off = true) : ∃ fl, fldOf P S f = some fl ∧ ((P.info? fl.type).isSome = true ∧ P.cellsOf fl.type ≠ 0) ∧ fl.offset = off := by
  unfold fldB at h
  split at h
  · rename_i fl e
    simp only [Bool.and_eq_true, Bool.not_eq_true'] at h
    refine ⟨fl, e, ⟨h.1.1, fun h0 => ?_⟩, Nat.eq_of_beq_eq_true h.2⟩
    rw [h0] at h; cases h.1.2
  · cases h
theorem zl12 (h : fldB P S f off = true) {i o : Nat} : aFieldAddr P S f (.c (.pt i o)) = some (.c (.pt i (o + off))) := by
  obtain ⟨fl, h1, h2, rfl⟩ := fld_to h
  unfold aFieldAddr
  rw [h1]
  simp only [if_pos h2]
theorem zm12 (h : fldB P S f off = true) {l : List AC} {o : Nat} : aFieldAddr P S f (.c (.rp l o)) = some (.c (.rp l (o + off))) := by
  obtain ⟨fl, h1, h2, rfl⟩ := fld_to h
  unfold aFieldAddr
  rw [h1]
  simp only [if_pos h2]
theorem one_to (h : oneTB P T = true) : P.cellsOf T = 1 ∧ ∀ c, mkAV P T [c] = some (.c (ld c)) := by
  unfold oneTB at h
  split at h
  · rename_i d i e1 e2
    simp only [Bool.and_eq_true, Bool.not_eq_true'] at h
    refine ⟨Nat.eq_of_beq_eq_true h.2, fun c => ?_⟩
    unfold mkAV
    rw [e1, e2]
    simp only [h.1.2, List.length_cons, List.length_nil, Nat.eq_of_beq_eq_true h.1.1, if_true, Bool.false_eq_true, if_false]
  · cases h
theorem agg_to (h : aggTB P T n = true) : P.cellsOf T = n ∧ ∀ cs : List AC, cs.length = n → mkAV P T cs = some (.ag (cs.map ld)) := by
  unfold aggTB at h
  split at h
  · rename_i d i e1 e2
    simp only [Bool.and_eq_true] at h
    refine ⟨Nat.eq_of_beq_eq_true h.2, fun cs hl => ?_⟩
    unfold mkAV
    rw [e1, e2]
    simp only [h.1.2, hl, Nat.eq_of_beq_eq_true h.1.1, if_true]
  · cases h
theorem zp16 {l : List AC} {o : Nat} {c : AC} (h : l[o]? = some c) : subL l o 1 = [c] := by
  unfold subL
  obtain ⟨ho, rfl⟩ := List.getElem?_eq_some_iff.1 h
  rw [List.drop_eq_getElem_cons ho]
  rfl
theorem zq16 {l : List AC} {n : Nat} (h : l.length = n) : subL l 0 n = l := by
  unfold subL
  rw [List.drop_zero, List.take_of_length_le (by omega)]
theorem zs20 {hp : Nat → Option Row} (h : oneTB P T = true) {i o : Nat} {rw_ : Row} {c : AC} (hr : hp i = some rw_) (hc : rw_.cs[o]? = some c) : aLoad P T hp (.c (.pt i o)) = some (.c (ld c)) := by
  obtain ⟨h1, h2⟩ := one_to h
  unfold aLoad
  simp only [hr, Option.bind_some, h1, zp16 hc, h2]
theorem zp17 {hp : Nat → Option Row} (h : oneTB P T = true) {l : List AC} {o : Nat} {c : AC} (hc : l[o]? = some c) : aLoad P T hp (.c (.rp l o)) = some (.c (ld c)) := by
  obtain ⟨h1, h2⟩ := one_to h
  unfold aLoad
  simp only [h1, zp16 hc, h2]
theorem zt20 {hp : Nat → Option Row} (h : aggTB P T n = true) {i : Nat} {rT : TypeId} {rk rn : Nat} {rb : Bool} {cs : List AC} (hr : hp i = some ⟨rT, rk, rn, rb, cs⟩) (hn : cs.length = n) : aLoad P T hp (.c (.pt i 0)) = some (.ag (cs.map ld)) := by
  obtain ⟨h1, h2⟩ := agg_to h
  unfold aLoad
  simp only [hr, Option.bind_some, h1, zq16 hn, h2 _ hn]
theorem zq17 {hp : Nat → Option Row} (h : aggTB P T n = true) {cs : List AC} (hn : cs.length = n) : aLoad P T hp (.c (.rp cs 0)) = some (.ag (cs.map ld)) := by
  obtain ⟨h1, h2⟩ := agg_to h
  unfold aLoad
  simp only [h1, zq16 hn, h2 _ hn]
theorem effLen_s {o : Oper} {ev : Operand → AV} {hp : Nat → Option Row} {id : Nat} {y : Operand} {s : ByteArray} (h : (match P.underlying T with | some .string => true | _ => false) = true) (hx : ev y = .c (.v (.string s))) : EffCallD P o ev hp id ⟨.builtin .len, #[y], #[T]⟩ = some (.c (.v (.int .i64 s.size)), .nop) := by
  show (if lenOk P T (ev y) = true then nop? (aLen (ev y)) else none) = _
  have : lenOk P T (ev y) = true := by
    unfold lenOk
    rw [hx]
    split at h
    · rename_i e; rw [e]; rfl
    · cases h
  rw [if_pos this, hx]
  rfl
theorem zr16 {o : Oper} {ev : Operand → AV} {hp : Nat → Option Row} {id : Nat} {y : Operand} {n : Nat} (h : (match P.underlying T with | some (.slice _) => true | _ => false) = true) (hx : isStr (ev y) = false) (hl : aLen (ev y) = some (.c (.v (.int .i64 n)))) : EffCallD P o ev hp id ⟨.builtin .len, #[y], #[T]⟩ = some (.c (.v (.int .i64 n)), .nop) := by
  show (if lenOk P T (ev y) = true then nop? (aLen (ev y)) else none) = _
  have : lenOk P T (ev y) = true := by
    unfold lenOk
    rw [hx]
    split at h
    · rename_i e; rw [e]; rfl
    · cases h
  rw [if_pos this, hl]
  rfl
end
instance : OneI Try.prog 3 := ⟨by kernel_rfl⟩
instance : OneI Try.prog 4 := ⟨by kernel_rfl⟩
instance : OneI Try.prog 5 := ⟨by kernel_rfl⟩
instance : OneI Try.prog 9 := ⟨by kernel_rfl⟩
instance : StrI Try.prog 9 := ⟨by kernel_rfl⟩
instance : OneI Try.prog 15 := ⟨by kernel_rfl⟩
instance : OneI Try.prog 16 := ⟨by kernel_rfl⟩
instance : OneI Try.prog 17 := ⟨by kernel_rfl⟩
instance : OneI Try.prog 22 := ⟨by kernel_rfl⟩
instance : SlcI Try.prog 22 := ⟨by kernel_rfl⟩
instance : FldI Try.prog 24 0 0 := ⟨by kernel_rfl⟩
instance : FldI Try.prog 24 1 1 := ⟨by kernel_rfl⟩
instance : AggI Try.prog 24 2 := ⟨by kernel_rfl⟩
instance : FldI Try.prog 26 0 0 := ⟨by kernel_rfl⟩
instance : FldI Try.prog 26 1 1 := ⟨by kernel_rfl⟩
instance : AggI Try.prog 26 2 := ⟨by kernel_rfl⟩
instance : OneI Try.prog 33 := ⟨by kernel_rfl⟩
instance : SlcI Try.prog 33 := ⟨by kernel_rfl⟩
instance : OneI Try.prog 34 := ⟨by kernel_rfl⟩
instance : SlcI Try.prog 34 := ⟨by kernel_rfl⟩
instance : FldI Try.prog 36 0 0 := ⟨by kernel_rfl⟩
instance : FldI Try.prog 36 1 1 := ⟨by kernel_rfl⟩
instance : FldI Try.prog 36 2 2 := ⟨by kernel_rfl⟩
instance : FldI Try.prog 36 3 3 := ⟨by kernel_rfl⟩
instance : FldI Try.prog 36 4 4 := ⟨by kernel_rfl⟩
instance : AggI Try.prog 36 5 := ⟨by kernel_rfl⟩
instance : OneI Try.prog 39 := ⟨by kernel_rfl⟩
instance : SlcI Try.prog 39 := ⟨by kernel_rfl⟩
instance : OneI Try.prog 40 := ⟨by kernel_rfl⟩
instance : SlcI Try.prog 40 := ⟨by kernel_rfl⟩
instance : FldI Try.prog 42 0 0 := ⟨by kernel_rfl⟩
instance : FldI Try.prog 42 1 1 := ⟨by kernel_rfl⟩
instance : FldI Try.prog 42 2 2 := ⟨by kernel_rfl⟩
instance : FldI Try.prog 42 3 3 := ⟨by kernel_rfl⟩
instance : FldI Try.prog 42 4 4 := ⟨by kernel_rfl⟩
instance : AggI Try.prog 42 5 := ⟨by kernel_rfl⟩
instance : FldI Try.prog 58 0 0 := ⟨by kernel_rfl⟩
instance : FldI Try.prog 58 1 1 := ⟨by kernel_rfl⟩
instance : FldI Try.prog 58 2 2 := ⟨by kernel_rfl⟩
instance : AggI Try.prog 58 3 := ⟨by kernel_rfl⟩
instance : OneI Try.prog 61 := ⟨by kernel_rfl⟩
instance : SlcI Try.prog 61 := ⟨by kernel_rfl⟩
instance : FldI Try.prog 63 0 0 := ⟨by kernel_rfl⟩
instance : FldI Try.prog 63 1 1 := ⟨by kernel_rfl⟩
instance : AggI Try.prog 63 2 := ⟨by kernel_rfl⟩
instance : FldI Try.prog 70 0 0 := ⟨by kernel_rfl⟩
instance : FldI Try.prog 70 1 1 := ⟨by kernel_rfl⟩
instance : AggI Try.prog 70 2 := ⟨by kernel_rfl⟩
instance : FldI Try.prog 78 0 0 := ⟨by kernel_rfl⟩
instance : FldI Try.prog 78 1 1 := ⟨by kernel_rfl⟩
instance : FldI Try.prog 78 2 2 := ⟨by kernel_rfl⟩
instance : AggI Try.prog 78 3 := ⟨by kernel_rfl⟩
instance : OneI Try.prog 80 := ⟨by kernel_rfl⟩
instance : SlcI Try.prog 80 := ⟨by kernel_rfl⟩
instance : FldI Try.prog 82 0 0 := ⟨by kernel_rfl⟩
instance : FldI Try.prog 82 1 1 := ⟨by kernel_rfl⟩
instance : AggI Try.prog 82 2 := ⟨by kernel_rfl⟩
instance : OneI Try.prog 84 := ⟨by kernel_rfl⟩
instance : SlcI Try.prog 84 := ⟨by kernel_rfl⟩
instance : FldI Try.prog 86 0 0 := ⟨by kernel_rfl⟩
instance : FldI Try.prog 86 1 1 := ⟨by kernel_rfl⟩
instance : FldI Try.prog 86 2 2 := ⟨by kernel_rfl⟩
instance : AggI Try.prog 86 3 := ⟨by kernel_rfl⟩
instance : OneI Try.prog 99 := ⟨by kernel_rfl⟩
instance : OneI Try.prog 100 := ⟨by kernel_rfl⟩
instance : SlcI Try.prog 100 := ⟨by kernel_rfl⟩
instance : OneI Try.prog 110 := ⟨by kernel_rfl⟩
instance : FldI Try.prog 112 0 0 := ⟨by kernel_rfl⟩
instance : FldI Try.prog 112 1 1 := ⟨by kernel_rfl⟩
instance : FldI Try.prog 112 2 2 := ⟨by kernel_rfl⟩
instance : FldI Try.prog 112 3 3 := ⟨by kernel_rfl⟩
instance : AggI Try.prog 112 4 := ⟨by kernel_rfl⟩
instance : OneI Try.prog 116 := ⟨by kernel_rfl⟩
instance : FldI Try.prog 118 0 0 := ⟨by kernel_rfl⟩
instance : FldI Try.prog 118 1 1 := ⟨by kernel_rfl⟩
instance : FldI Try.prog 118 2 2 := ⟨by kernel_rfl⟩
instance : FldI Try.prog 118 3 3 := ⟨by kernel_rfl⟩
instance : AggI Try.prog 118 4 := ⟨by kernel_rfl⟩
instance : OneI Try.prog 122 := ⟨by kernel_rfl⟩
instance : SlcI Try.prog 122 := ⟨by kernel_rfl⟩
instance : OneI Try.prog 125 := ⟨by kernel_rfl⟩
instance : FldI Try.prog 128 0 0 := ⟨by kernel_rfl⟩
instance : FldI Try.prog 128 1 1 := ⟨by kernel_rfl⟩
instance : AggI Try.prog 128 2 := ⟨by kernel_rfl⟩
instance : OneI Try.prog 139 := ⟨by kernel_rfl⟩
instance : SlcI Try.prog 139 := ⟨by kernel_rfl⟩
section
variable {ops : Array Oper} {Q : Exit → Act → World → Prop} {C : Ctx} {H H' : List (Nat × Oper × Inf)} {i : Nat} {r : List Nat} {dr : Bool}
variable {tm : Nat → AV} {hp : Nat → Option Row} {gn L : Nat} {us : List Nat}
theorem o_fa {t : Nat} {ty : TypeId} {gd : Option (Nat × Bool)} {ps : String} {af : Array Edge} {S : TypeId} {f : Nat} {p : Operand} {i0 o0 off : Nat} [hF : FldI Try.prog S f off] (h : Walk Try.prog ops Q C dr (keepH dr (i, (⟨some t, .fieldAddr S p f, ty, ps, af, gd⟩ : Oper), ⟨fpO (AS.ev ⟨tm, hp, gn, us, L⟩) (⟨some t, .fieldAddr S p f, ty, ps, af, gd⟩ : Oper), [], [], .c (.pt i0 (o0 + off))⟩) H) r ⟨upd tm t (.c (.pt i0 (o0 + off))), hp, gn, us, L⟩) (hx : AS.ev ⟨tm, hp, gn, us, L⟩ p = .c (.pt i0 o0) := by exact rfl) (ht : Nat.blt t L = true := by exact rfl) (hg : gw ops tm (⟨some t, .fieldAddr S p f, ty, ps, af, gd⟩ : Oper) = some true := by exact rfl) (hc : chk dr ops i (⟨some t, .fieldAddr S p f, ty, ps, af, gd⟩ : Oper) ⟨fpO (AS.ev ⟨tm, hp, gn, us, L⟩) (⟨some t, .fieldAddr S p f, ty, ps, af, gd⟩ : Oper), [], [], .c (.pt i0 (o0 + off))⟩ H = true := by first | (with_reducible exact zt2) | kernel_rfl) : WalkO Try.prog ops Q C dr H i (⟨some t, .fieldAddr S p f, ty, ps, af, gd⟩ : Oper) r ⟨tm, hp, gn, us, L⟩ := ⟨fun hop => zr3 h hop rfl ht hg (by show nop? (aFieldAddr _ S f (AS.ev ⟨tm, hp, gn, us, L⟩ p)) = _; rw [hx, zl12 hF.h]; rfl) hc⟩
theorem zb4 {t : Nat} {ty : TypeId} {gd : Option (Nat × Bool)} {ps : String} {af : Array Edge} {S : TypeId} {f : Nat} {p : Operand} {l : List AC} {o0 off : Nat} [hF : FldI Try.prog S f off] (h : Walk Try.prog ops Q C dr (keepH dr (i, (⟨some t, .fieldAddr S p f, ty, ps, af, gd⟩ : Oper), ⟨fpO (AS.ev ⟨tm, hp, gn, us, L⟩) (⟨some t, .fieldAddr S p f, ty, ps, af, gd⟩ : Oper), [], [], .c (.rp l (o0 + off))⟩) H) r ⟨upd tm t (.c (.rp l (o0 + off))), hp, gn, us, L⟩) (hx : AS.ev ⟨tm, hp, gn, us, L⟩ p = .c (.rp l o0) := by exact rfl) (ht : Nat.blt t L = true := by exact rfl) (hg : gw ops tm (⟨some t, .fieldAddr S p f, ty, ps, af, gd⟩ : Oper) = some true := by exact rfl) (hc : chk dr ops i (⟨some t, .fieldAddr S p f, ty, ps, af, gd⟩ : Oper) ⟨fpO (AS.ev ⟨tm, hp, gn, us, L⟩) (⟨some t, .fieldAddr S p f, ty, ps, af, gd⟩ : Oper), [], [], .c (.rp l (o0 + off))⟩ H = true := by first | (with_reducible exact zt2) | kernel_rfl) : WalkO Try.prog ops Q C dr H i (⟨some t, .fieldAddr S p f, ty, ps, af, gd⟩ : Oper) r ⟨tm, hp, gn, us, L⟩ := ⟨fun hop => zr3 h hop rfl ht hg (by show nop? (aFieldAddr _ S f (AS.ev ⟨tm, hp, gn, us, L⟩ p)) = _; rw [hx, zm12 hF.h]; rfl) hc⟩
theorem zc4 {t : Nat} {ty : TypeId} {gd : Option (Nat × Bool)} {ps : String} {af : Array Edge} {T : TypeId} {p : Operand} {i0 o0 : Nat} {rw : Row} {c : AC} [hF : OneI Try.prog T] (h : Walk Try.prog ops Q C dr (keepH dr (i, (⟨some t, .load T p, ty, ps, af, gd⟩ : Oper), ⟨fpO (AS.ev ⟨tm, hp, gn, us, L⟩) (⟨some t, .load T p, ty, ps, af, gd⟩ : Oper), [], [], .c c⟩) H) r ⟨upd tm t (.c c), hp, gn, us, L⟩) (hx : AS.ev ⟨tm, hp, gn, us, L⟩ p = .c (.pt i0 o0) := by exact rfl) (hr : hp i0 = some rw := by exact rfl) (hcs : rw.cs[o0]? = some c := by exact rfl) (hld : ld c = c := by exact rfl) (ht : Nat.blt t L = true := by exact rfl) (hg : gw ops tm (⟨some t, .load T p, ty, ps, af, gd⟩ : Oper) = some true := by exact rfl) (hc : chk dr ops i (⟨some t, .load T p, ty, ps, af, gd⟩ : Oper) ⟨fpO (AS.ev ⟨tm, hp, gn, us, L⟩) (⟨some t, .load T p, ty, ps, af, gd⟩ : Oper), [], [], .c c⟩ H = true := by first | (with_reducible exact zt2) | kernel_rfl) : WalkO Try.prog ops Q C dr H i (⟨some t, .load T p, ty, ps, af, gd⟩ : Oper) r ⟨tm, hp, gn, us, L⟩ := ⟨fun hop => zr3 h hop rfl ht hg (by show nop? (aLoad _ T hp (AS.ev ⟨tm, hp, gn, us, L⟩ p)) = _; rw [hx, zs20 hF.h hr hcs, hld]; rfl) hc⟩
theorem zz2 {t : Nat} {ty : TypeId} {gd : Option (Nat × Bool)} {ps : String} {af : Array Edge} {T : TypeId} {p : Operand} {l : List AC} {o0 : Nat} {c : AC} [hF : OneI Try.prog T] (h : Walk Try.prog ops Q C dr (keepH dr (i, (⟨some t, .load T p, ty, ps, af, gd⟩ : Oper), ⟨fpO (AS.ev ⟨tm, hp, gn, us, L⟩) (⟨some t, .load T p, ty, ps, af, gd⟩ : Oper), [], [], .c c⟩) H) r ⟨upd tm t (.c c), hp, gn, us, L⟩) (hx : AS.ev ⟨tm, hp, gn, us, L⟩ p = .c (.rp l o0) := by exact rfl) (hcs : l[o0]? = some c := by exact rfl) (hld : ld c = c := by exact rfl) (ht : Nat.blt t L = true := by exact rfl) (hg : gw ops tm (⟨some t, .load T p, ty, ps, af, gd⟩ : Oper) = some true := by exact rfl) (hc : chk dr ops i (⟨some t, .load T p, ty, ps, af, gd⟩ : Oper) ⟨fpO (AS.ev ⟨tm, hp, gn, us, L⟩) (⟨some t, .load T p, ty, ps, af, gd⟩ : Oper), [], [], .c c⟩ H = true := by first | (with_reducible exact zt2) | kernel_rfl) : WalkO Try.prog ops Q C dr H i (⟨some t, .load T p, ty, ps, af, gd⟩ : Oper) r ⟨tm, hp, gn, us, L⟩ := ⟨fun hop => zr3 h hop rfl ht hg (by show nop? (aLoad _ T hp (AS.ev ⟨tm, hp, gn, us, L⟩ p)) = _; rw [hx, zp17 hF.h hcs, hld]; rfl) hc⟩
theorem zd4 {t : Nat} {ty : TypeId} {gd : Option (Nat × Bool)} {ps : String} {af : Array Edge} {T : TypeId} {p : Operand} {i0 n : Nat} {cs : List AC} {rT : TypeId} {rk rn : Nat} {rb : Bool} [hF : AggI Try.prog T n] (h : Walk Try.prog ops Q C dr (keepH dr (i, (⟨some t, .load T p, ty, ps, af, gd⟩ : Oper), ⟨fpO (AS.ev ⟨tm, hp, gn, us, L⟩) (⟨some t, .load T p, ty, ps, af, gd⟩ : Oper), [], [], .ag cs⟩) H) r ⟨upd tm t (.ag cs), hp, gn, us, L⟩) (hx : AS.ev ⟨tm, hp, gn, us, L⟩ p = .c (.pt i0 0) := by exact rfl) (hr : hp i0 = some ⟨rT, rk, rn, rb, cs⟩ := by exact rfl) (hn : cs.length = n := by exact rfl) (hld : cs.map ld = cs := by exact rfl) (ht : Nat.blt t L = true := by exact rfl) (hg : gw ops tm (⟨some t, .load T p, ty, ps, af, gd⟩ : Oper) = some true := by exact rfl) (hc : chk dr ops i (⟨some t, .load T p, ty, ps, af, gd⟩ : Oper) ⟨fpO (AS.ev ⟨tm, hp, gn, us, L⟩) (⟨some t, .load T p, ty, ps, af, gd⟩ : Oper), [], [], .ag cs⟩ H = true := by first | (with_reducible exact zt2) | kernel_rfl) : WalkO Try.prog ops Q C dr H i (⟨some t, .load T p, ty, ps, af, gd⟩ : Oper) r ⟨tm, hp, gn, us, L⟩ := ⟨fun hop => zr3 h hop rfl ht hg (by show nop? (aLoad _ T hp (AS.ev ⟨tm, hp, gn, us, L⟩ p)) = _; rw [hx, zt20 hF.h hr hn, hld]; rfl) hc⟩
theorem za3 {t : Nat} {ty : TypeId} {gd : Option (Nat × Bool)} {ps : String} {af : Array Edge} {T : TypeId} {p : Operand} {n : Nat} {cs : List AC} [hF : AggI Try.prog T n] (h : Walk Try.prog ops Q C dr (keepH dr (i, (⟨some t, .load T p, ty, ps, af, gd⟩ : Oper), ⟨fpO (AS.ev ⟨tm, hp, gn, us, L⟩) (⟨some t, .load T p, ty, ps, af, gd⟩ : Oper), [], [], .ag cs⟩) H) r ⟨upd tm t (.ag cs), hp, gn, us, L⟩) (hx : AS.ev ⟨tm, hp, gn, us, L⟩ p = .c (.rp cs 0) := by exact rfl) (hn : cs.length = n := by exact rfl) (hld : cs.map ld = cs := by exact rfl) (ht : Nat.blt t L = true := by exact rfl) (hg : gw ops tm (⟨some t, .load T p, ty, ps, af, gd⟩ : Oper) = some true := by exact rfl) (hc : chk dr ops i (⟨some t, .load T p, ty, ps, af, gd⟩ : Oper) ⟨fpO (AS.ev ⟨tm, hp, gn, us, L⟩) (⟨some t, .load T p, ty, ps, af, gd⟩ : Oper), [], [], .ag cs⟩ H = true := by first | (with_reducible exact zt2) | kernel_rfl) : WalkO Try.prog ops Q C dr H i (⟨some t, .load T p, ty, ps, af, gd⟩ : Oper) r ⟨tm, hp, gn, us, L⟩ := ⟨fun hop => zr3 h hop rfl ht hg (by show nop? (aLoad _ T hp (AS.ev ⟨tm, hp, gn, us, L⟩ p)) = _; rw [hx, zq17 hF.h hn, hld]; rfl) hc⟩
theorem zm3 {t : Nat} {ty : TypeId} {gd : Option (Nat × Bool)} {ps : String} {af : Array Edge} {T : TypeId} {y : Operand} {s : ByteArray} [hF : StrI Try.prog T] (h : Walk Try.prog ops Q C dr (keepH dr (i, (⟨some t, .call ⟨.builtin .len, #[y], #[T]⟩, ty, ps, af, gd⟩ : Oper), ⟨fpO (AS.ev ⟨tm, hp, gn, us, L⟩) (⟨some t, .call ⟨.builtin .len, #[y], #[T]⟩, ty, ps, af, gd⟩ : Oper), [], [], .c (.v (.int .i64 s.size))⟩) H) r ⟨upd tm t (.c (.v (.int .i64 s.size))), hp, gn, us, L⟩) (hx : AS.ev ⟨tm, hp, gn, us, L⟩ y = .c (.v (.string s)) := by exact rfl) (ht : Nat.blt t L = true := by exact rfl) (hg : gw ops tm (⟨some t, .call ⟨.builtin .len, #[y], #[T]⟩, ty, ps, af, gd⟩ : Oper) = some true := by exact rfl) (hc : chk dr ops i (⟨some t, .call ⟨.builtin .len, #[y], #[T]⟩, ty, ps, af, gd⟩ : Oper) ⟨fpO (AS.ev ⟨tm, hp, gn, us, L⟩) (⟨some t, .call ⟨.builtin .len, #[y], #[T]⟩, ty, ps, af, gd⟩ : Oper), [], [], .c (.v (.int .i64 s.size))⟩ H = true := by first | (with_reducible exact zt2) | kernel_rfl) : WalkO Try.prog ops Q C dr H i (⟨some t, .call ⟨.builtin .len, #[y], #[T]⟩, ty, ps, af, gd⟩ : Oper) r ⟨tm, hp, gn, us, L⟩ := ⟨fun hop => zr3 h hop rfl ht hg (effLen_s (o := (⟨some t, .call ⟨.builtin .len, #[y], #[T]⟩, ty, ps, af, gd⟩ : Oper)) (hp := hp) (id := 0) hF.h hx) hc⟩
theorem zn3 {t : Nat} {ty : TypeId} {gd : Option (Nat × Bool)} {ps : String} {af : Array Edge} {T : TypeId} {y : Operand} {n k : Nat} {l : List AC} [hF : SlcI Try.prog T] (h : Walk Try.prog ops Q C dr (keepH dr (i, (⟨some t, .call ⟨.builtin .len, #[y], #[T]⟩, ty, ps, af, gd⟩ : Oper), ⟨fpO (AS.ev ⟨tm, hp, gn, us, L⟩) (⟨some t, .call ⟨.builtin .len, #[y], #[T]⟩, ty, ps, af, gd⟩ : Oper), [], [], .c (.v (.int .i64 n))⟩) H) r ⟨upd tm t (.c (.v (.int .i64 n))), hp, gn, us, L⟩) (hx : AS.ev ⟨tm, hp, gn, us, L⟩ y = .c (.ro n k l) := by exact rfl) (ht : Nat.blt t L = true := by exact rfl) (hg : gw ops tm (⟨some t, .call ⟨.builtin .len, #[y], #[T]⟩, ty, ps, af, gd⟩ : Oper) = some true := by exact rfl) (hc : chk dr ops i (⟨some t, .call ⟨.builtin .len, #[y], #[T]⟩, ty, ps, af, gd⟩ : Oper) ⟨fpO (AS.ev ⟨tm, hp, gn, us, L⟩) (⟨some t, .call ⟨.builtin .len, #[y], #[T]⟩, ty, ps, af, gd⟩ : Oper), [], [], .c (.v (.int .i64 n))⟩ H = true := by first | (with_reducible exact zt2) | kernel_rfl) : WalkO Try.prog ops Q C dr H i (⟨some t, .call ⟨.builtin .len, #[y], #[T]⟩, ty, ps, af, gd⟩ : Oper) r ⟨tm, hp, gn, us, L⟩ := ⟨fun hop => zr3 h hop rfl ht hg (zr16 (o := (⟨some t, .call ⟨.builtin .len, #[y], #[T]⟩, ty, ps, af, gd⟩ : Oper)) (hp := hp) (id := 0) hF.h (by rw [hx]; rfl) (by rw [hx]; rfl)) hc⟩
theorem zo3 {t : Nat} {ty : TypeId} {gd : Option (Nat × Bool)} {ps : String} {af : Array Edge} {T : TypeId} {y : Operand} {j n : Nat} [hF : SlcI Try.prog T] (h : Walk Try.prog ops Q C dr (keepH dr (i, (⟨some t, .call ⟨.builtin .len, #[y], #[T]⟩, ty, ps, af, gd⟩ : Oper), ⟨fpO (AS.ev ⟨tm, hp, gn, us, L⟩) (⟨some t, .call ⟨.builtin .len, #[y], #[T]⟩, ty, ps, af, gd⟩ : Oper), [], [], .c (.v (.int .i64 n))⟩) H) r ⟨upd tm t (.c (.v (.int .i64 n))), hp, gn, us, L⟩) (hx : AS.ev ⟨tm, hp, gn, us, L⟩ y = .c (.sl j n) := by exact rfl) (ht : Nat.blt t L = true := by exact rfl) (hg : gw ops tm (⟨some t, .call ⟨.builtin .len, #[y], #[T]⟩, ty, ps, af, gd⟩ : Oper) = some true := by exact rfl) (hc : chk dr ops i (⟨some t, .call ⟨.builtin .len, #[y], #[T]⟩, ty, ps, af, gd⟩ : Oper) ⟨fpO (AS.ev ⟨tm, hp, gn, us, L⟩) (⟨some t, .call ⟨.builtin .len, #[y], #[T]⟩, ty, ps, af, gd⟩ : Oper), [], [], .c (.v (.int .i64 n))⟩ H = true := by first | (with_reducible exact zt2) | kernel_rfl) : WalkO Try.prog ops Q C dr H i (⟨some t, .call ⟨.builtin .len, #[y], #[T]⟩, ty, ps, af, gd⟩ : Oper) r ⟨tm, hp, gn, us, L⟩ := ⟨fun hop => zr3 h hop rfl ht hg (zr16 (o := (⟨some t, .call ⟨.builtin .len, #[y], #[T]⟩, ty, ps, af, gd⟩ : Oper)) (hp := hp) (id := 0) hF.h (by rw [hx]; rfl) (by rw [hx]; rfl)) hc⟩
end
section
variable {P : Program} {ops : Array Oper} {Q : Exit → Act → World → Prop} {C : Ctx} {H : List (Nat × Oper × Inf)} {i : Nat} {r : List Nat} {dr : Bool} {σ : AS} {ty : TypeId} {ps : String} {af : Array Edge}
theorem d_gs {d : Option Tmp} {op : Op} {gb : Nat × Bool} (h : WalkO P ops Q C dr H i (⟨d, op, ty, ps, af, some gb⟩ : Oper) r σ) : WalkO P ops Q C dr H i (⟨d, op, ty, ps, af, some gb⟩ : Oper) r σ := h
theorem d_bo {t : Tmp} {op : Op} {gd : Option (Nat × Bool)} (h : WalkO P ops Q C dr H i (⟨some t, op, 4, ps, af, gd⟩ : Oper) r σ) : WalkO P ops Q C dr H i (⟨some t, op, 4, ps, af, gd⟩ : Oper) r σ := h
theorem d_ca {t : Tmp} {fv : Operand} {as_ : Array Operand} {ts : Array TypeId} {gd : Option (Nat × Bool)} (h : WalkO P ops Q C dr H i (⟨some t, .call ⟨.value fv, as_, ts⟩, ty, ps, af, gd⟩ : Oper) r σ) : WalkO P ops Q C dr H i (⟨some t, .call ⟨.value fv, as_, ts⟩, ty, ps, af, gd⟩ : Oper) r σ := h
theorem d_bi {t : Tmp} {b : Builtin} {as_ : Array Operand} {ts : Array TypeId} {gd : Option (Nat × Bool)} (h : WalkO P ops Q C dr H i (⟨some t, .call ⟨.builtin b, as_, ts⟩, ty, ps, af, gd⟩ : Oper) r σ) : WalkO P ops Q C dr H i (⟨some t, .call ⟨.builtin b, as_, ts⟩, ty, ps, af, gd⟩ : Oper) r σ := h
theorem d_fa {t : Tmp} {S : TypeId} {f : Nat} {p : Operand} {gd : Option (Nat × Bool)} (h : WalkO P ops Q C dr H i (⟨some t, .fieldAddr S p f, ty, ps, af, gd⟩ : Oper) r σ) : WalkO P ops Q C dr H i (⟨some t, .fieldAddr S p f, ty, ps, af, gd⟩ : Oper) r σ := h
theorem d_ld {t : Tmp} {T : TypeId} {p : Operand} {gd : Option (Nat × Bool)} (h : WalkO P ops Q C dr H i (⟨some t, .load T p, ty, ps, af, gd⟩ : Oper) r σ) : WalkO P ops Q C dr H i (⟨some t, .load T p, ty, ps, af, gd⟩ : Oper) r σ := h
theorem d_st {T : TypeId} {p y : Operand} {gd : Option (Nat × Bool)} (h : WalkO P ops Q C dr H i (⟨none, .store T p y, ty, ps, af, gd⟩ : Oper) r σ) : WalkO P ops Q C dr H i (⟨none, .store T p y, ty, ps, af, gd⟩ : Oper) r σ := h
theorem d_ia {t : Tmp} {T : TypeId} {x y : Operand} {gd : Option (Nat × Bool)} (h : WalkO P ops Q C dr H i (⟨some t, .indexAddr T x y, ty, ps, af, gd⟩ : Oper) r σ) : WalkO P ops Q C dr H i (⟨some t, .indexAddr T x y, ty, ps, af, gd⟩ : Oper) r σ := h
theorem d_bb {t : Tmp} {T U : TypeId} {b : BinOp} {x y : Operand} {gd : Option (Nat × Bool)} (h : WalkO P ops Q C dr H i (⟨some t, .binOp b T x y U, ty, ps, af, gd⟩ : Oper) r σ) : WalkO P ops Q C dr H i (⟨some t, .binOp b T x y U, ty, ps, af, gd⟩ : Oper) r σ := h
theorem d_cv {t : Tmp} {S D : TypeId} {x : Operand} {gd : Option (Nat × Bool)} (h : WalkO P ops Q C dr H i (⟨some t, .convert S D x, ty, ps, af, gd⟩ : Oper) r σ) : WalkO P ops Q C dr H i (⟨some t, .convert S D x, ty, ps, af, gd⟩ : Oper) r σ := h
theorem d_mv {t : Tmp} {x : Operand} {gd : Option (Nat × Bool)} (h : WalkO P ops Q C dr H i (⟨some t, .move x, ty, ps, af, gd⟩ : Oper) r σ) : WalkO P ops Q C dr H i (⟨some t, .move x, ty, ps, af, gd⟩ : Oper) r σ := h
theorem d_as {t : Tmp} {x : Operand} {gd : Option (Nat × Bool)} (h : WalkO P ops Q C dr H i (⟨some t, .assign x, ty, ps, af, gd⟩ : Oper) r σ) : WalkO P ops Q C dr H i (⟨some t, .assign x, ty, ps, af, gd⟩ : Oper) r σ := h
theorem d_wo {o : Oper} (h : WalkO P ops Q C dr H i o r σ) : WalkO P ops Q C dr H i o r σ := h
theorem d_w {l : List Nat} (h : Walk P ops Q C dr H l σ) : Walk P ops Q C dr H l σ := h
end
def inR (x a b : Int) : Bool := decide (a ≤ x) && decide (x ≤ b)
theorem zs5 (x a b : Int) : Ctr Try.prog 25 [.c (.v (.int .i64 x)), .c (.v (.int .i64 a)), .c (.v (.int .i64 b))] [] (.c (.v (.bool (inR x a b)))) [] := by
  refine zm2 Try.func25 rfl rfl ?_
  repeat' (first | refine zn ?_ | refine ze ?_ | refine zh ?_ | refine zi ?_ | refine zb fun C => ?_ | refine zp (by kernel_rfl) (by kernel_rfl) fun C => ?_ | refine zc ?_ | (refine x_gm ?_ ?_ <;> intro hG <;> (try cases hG)) | refine zr3 ?_ | refine x_bs ?_ | refine x_gr ?_ | refine x_st ?_ | refine x_mv ?_ | refine x_sk ?_ | refine ze4 ?_ | refine x_ix ?_ | refine zf4 ?_ | refine zg4 ?_ | refine zu3 ?_ | refine zv2 ?_ | refine x_ld ?_ | refine zf15 ?_ | (refine zt3 (by rfl) ?_ ?_ <;> intro hC <;> (try cases hC)))
  all_goals
    refine zu ?_
    refine ret0 rfl zn2 ⟨?_, rfl⟩
    refine congrArg (fun s => AV.c (AC.v (Value.bool s))) ?_
    simp at *
    simp [inR, *]
    try omega
theorem zk6 (x a b : Int) : Ctr Try.prog 19 [.c (.v (.int .i64 x)), .c (.v (.int .i64 a)), .c (.v (.int .i64 b))] [] (.c (.v (.bool (inR x a b)))) [] := by
  refine zm2 Try.func19 rfl rfl ?_
  repeat' (first | refine zn ?_ | refine ze ?_ | refine zh ?_ | refine zi ?_ | refine zb fun C => ?_ | refine zp (by kernel_rfl) (by kernel_rfl) fun C => ?_ | refine zc ?_ | (refine x_gm ?_ ?_ <;> intro hG <;> (try cases hG)) | refine zr3 ?_ | refine x_bs ?_ | refine x_gr ?_ | refine x_st ?_ | refine x_mv ?_ | refine x_sk ?_ | refine ze4 ?_ | refine x_ix ?_ | refine zf4 ?_ | refine zg4 ?_ | refine zu3 ?_ | refine zv2 ?_ | refine x_ld ?_ | refine zf15 ?_ | (refine zt3 (by rfl) ?_ ?_ <;> intro hC <;> (try cases hC)))
  all_goals
    refine zu ?_
    refine ret0 rfl zn2 ⟨?_, rfl⟩
    refine congrArg (fun s => AV.c (AC.v (Value.bool s))) ?_
    simp at *
    simp [inR, *]
    try omega
def digB (c : Nat) : Bool := decide (48 ≤ c) && decide (c ≤ 57)
theorem zu20 (c : Nat) : Ctr Try.prog 114 [.c (.v (.int .u8 (c : Int)))] [] (.c (.v (.bool (digB c)))) [] := by
  refine zm2 Try.func114 rfl rfl ?_
  repeat' (first | refine zn ?_ | refine ze ?_ | refine zh ?_ | refine zi ?_ | refine zb fun C => ?_ | refine zp (by kernel_rfl) (by kernel_rfl) fun C => ?_ | refine zc ?_ | (refine x_gm ?_ ?_ <;> intro hG <;> (try cases hG)) | refine zr3 ?_ | refine x_bs ?_ | refine x_gr ?_ | refine x_st ?_ | refine x_mv ?_ | refine x_sk ?_ | refine ze4 ?_ | refine x_ix ?_ | refine zf4 ?_ | refine zg4 ?_ | refine zu3 ?_ | refine zv2 ?_ | refine x_ld ?_ | refine zf15 ?_ | (refine zt3 (by rfl) ?_ ?_ <;> intro hC <;> (try cases hC)))
  all_goals
    (first | refine zu ?_ | skip); refine ret0 rfl zn2 ⟨?_, rfl⟩; refine congrArg (fun s => AV.c (AC.v (Value.bool s))) ?_
    unfold digB
    (rw [Bool.eq_iff_iff]; (try simp only [Bool.and_eq_true, Bool.or_eq_true, Bool.not_eq_true', decide_eq_true_iff, decide_eq_false_iff_not, beq_iff_eq, Bool.and_eq_false_iff, Bool.or_eq_false_iff, bne_iff_ne, ne_eq, Bool.true_eq_false, Bool.false_eq_true, true_iff, false_iff, iff_true, iff_false] at *); first | omega | (simp at *; omega))
theorem zv20 {c : Nat} (hc : c < 256) : Ctr Try.prog 120 [.c (.v (.int .u8 (c : Int)))] [] (.c (.v (.bool (digB c)))) [] := by
  refine zm2 Try.func120 rfl rfl ?_
  repeat' (first | refine zn ?_ | refine ze ?_ | refine zh ?_ | refine zi ?_ | refine zb fun C => ?_ | refine zp (by kernel_rfl) (by kernel_rfl) fun C => ?_ | refine zc ?_ | (refine x_gm ?_ ?_ <;> intro hG <;> (try cases hG)) | refine zt13 ?_ | refine zu13 ?_ | refine zv13 ?_ | refine zw13 ?_ | refine zd10 ?_ | refine zr3 ?_ | refine zx8 ?_ | refine zq13 ?_ | refine zr13 ?_ | refine x_bs ?_ | refine x_gr ?_ | refine x_st ?_ | refine x_mv ?_ | refine x_sk ?_ | refine ze4 ?_ | refine x_ix ?_ | refine zf4 ?_ | refine zg4 ?_ | refine zu3 ?_ | refine zu3 (hnu := zl _) ?_ | refine zv2 ?_ | refine zv2 (hnu := zl _) ?_ | refine x_ld ?_ | refine zp13 ?_ | refine zu6 (zk6 _ _ _) ?_ | (refine zt3 (by rfl) ?_ ?_ <;> intro hC <;> (try cases hC)))
  all_goals
    (first | refine zu ?_ | skip); refine ret0 rfl zn2 ⟨?_, rfl⟩; refine congrArg (fun s => AV.c (AC.v (Value.bool s))) ?_
    unfold digB inR
    (rw [Bool.eq_iff_iff]; (try simp only [Bool.and_eq_true, Bool.or_eq_true, Bool.not_eq_true', decide_eq_true_iff, decide_eq_false_iff_not, beq_iff_eq, Bool.and_eq_false_iff, Bool.or_eq_false_iff, bne_iff_ne, ne_eq, Bool.true_eq_false, Bool.false_eq_true, true_iff, false_iff, iff_true, iff_false] at *); first | omega | (simp at *; omega))
theorem zu7 (p : E → Bool) (l : List E) : decide (idxF p l ≥ 0) = l.any p := by
  cases h : l.any p with
  | true =>
    obtain ⟨x, hx, hp⟩ := List.any_eq_true.1 h
    rcases zi17 p l with h1 | ⟨k, h1, _⟩
    · have := za23 h1
      rw [List.findIdx?_eq_none_iff] at this
      rw [this x hx] at hp; cases hp
    · rw [h1]; simp
  | false =>
    have hn : ∀ x ∈ l, p x = false := fun x hx => by
      cases hp : p x with
      | false => rfl
      | true => rw [List.any_eq_true.2 ⟨x, hx, hp⟩] at h; cases h
    rw [zp6 fun j y _ hy => hn y (List.mem_of_getElem? hy)]
    rfl
end Go.Proofs.Ytfdjognmechcfaa
namespace Go.Proofs.Ytfdjognmechcfaa
open Go.RowKit Go.Shelf
set_option maxRecDepth 100000
def lays137_ren : Go.Shelf.Ren := ⟨fun | 137 => 115 | 217 => 121 | 266 => 122 | n => n, fun | 9 => 9 | 5 => 5 | 3 => 3 | n => n, fun | n => n⟩
theorem lays137 : Go.Proofs.Lays.n137 Try.prog lays137_ren := {
  mixed := by kernel_rfl
  f137 := Try.func115.trans (congrArg some (by kernel_rfl))
  f217 := Try.func121.trans (congrArg some (by kernel_rfl))
  f266 := Try.func122.trans (congrArg some (by kernel_rfl))
  t3 := Try.underlying3
  a3 := Try.isAgg3
  z3 := Try.sizeOf3
  v3 := Try.zeroValue3
  t5 := Try.underlying5
  a5 := Try.isAgg5
  z5 := Try.sizeOf5
  v5 := Try.zeroValue5
  t9 := Try.underlying9
  a9 := Try.isAgg9
  z9 := Try.sizeOf9
  v9 := Try.zeroValue9 }
end Go.Proofs.Ytfdjognmechcfaa
namespace Go.Proofs.Ytfdjognmechcfaa
open Go.RowKit Go.Shelf
set_option maxRecDepth 100000
def lays156_ren : Go.Shelf.Ren := ⟨fun | 156 => 52 | 165 => 71 | 166 => 72 | 169 => 73 | 240 => 83 | 241 => 84 | 276 => 95 | 277 => 96 | n => n, fun | 31 => 22 | 9 => 9 | 3 => 3 | 4 => 4 | 0 => 0 | 20 => 20 | 72 => 102 | 76 => 106 | 70 => 99 | 37 => 100 | 75 => 105 | 127 => 125 | 164 => 133 | 5 => 5 | 80 => 108 | n => n, fun | n => n⟩
theorem zw20 : Go.Proofs.Lays.n156 Try.prog lays156_ren := {
  mixed := by kernel_rfl
  f156 := Try.func52.trans (congrArg some (by kernel_rfl))
  f165 := Try.func71.trans (congrArg some (by kernel_rfl))
  f166 := Try.func72.trans (congrArg some (by kernel_rfl))
  f169 := Try.func73.trans (congrArg some (by kernel_rfl))
  f240 := Try.func83.trans (congrArg some (by kernel_rfl))
  f241 := Try.func84.trans (congrArg some (by kernel_rfl))
  f276 := Try.func95.trans (congrArg some (by kernel_rfl))
  f277 := Try.func96.trans (congrArg some (by kernel_rfl))
  t0 := Try.underlying0
  a0 := Try.isAgg0
  z0 := Try.sizeOf0
  v0 := Try.zeroValue0
  t3 := Try.underlying3
  a3 := Try.isAgg3
  z3 := Try.sizeOf3
  v3 := Try.zeroValue3
  t4 := Try.underlying4
  a4 := Try.isAgg4
  z4 := Try.sizeOf4
  v4 := Try.zeroValue4
  t9 := Try.underlying9
  a9 := Try.isAgg9
  z9 := Try.sizeOf9
  v9 := Try.zeroValue9
  t20 := Try.underlying20
  a20 := Try.isAgg20
  z20 := Try.sizeOf20
  v20 := Try.zeroValue20
  t31 := Try.underlying22
  a31 := Try.isAgg22
  z31 := Try.sizeOf22
  v31 := Try.zeroValue22
  t37 := Try.underlying100
  a37 := Try.isAgg100
  z37 := Try.sizeOf100
  v37 := Try.zeroValue100
  t70 := Try.underlying99
  a70 := Try.isAgg99
  z70 := Try.sizeOf99
  v70 := Try.zeroValue99
  t72 := Try.underlying102
  a72 := Try.isAgg102
  z72 := Try.sizeOf102
  v72 := Try.zeroValue102
  t75 := Try.underlying105
  a75 := Try.isAgg105
  z75 := Try.sizeOf105
  v75 := Try.zeroValue105
  t76 := Try.underlying106
  a76 := Try.isAgg106
  z76 := Try.sizeOf106
  v76 := Try.zeroValue106
  t127 := Try.underlying125
  a127 := Try.isAgg125
  z127 := Try.sizeOf125
  v127 := Try.zeroValue125
  t164 := Try.underlying133
  a164 := Try.isAgg133
  z164 := Try.sizeOf133
  v164 := Try.zeroValue133 }
theorem Builder_Extra_156 : Builder.Extra Try.prog lays156_ren := {
  sizeBuilder := by kernel_rfl
  liesBuilder := by kernel_rfl
  t5 := Try.underlying5
  a5 := Try.isAgg5
  z5 := Try.sizeOf5
  v5 := Try.zeroValue5
  infoByte := by kernel_rfl
  cellsByte := by kernel_rfl
  sizeByte := by kernel_rfl
  neB5 := by decide }
end Go.Proofs.Ytfdjognmechcfaa
namespace Go.Proofs.Ytfdjognmechcfaa
open Go.RowKit
set_option maxRecDepth 100000
theorem zv7 {P : Program} {f : FuncId} {ins : List AV} {v : Value} (he : entB P f = true) (hv : scal v = true)
    (hc : ∀ (w : World) (St : Nat → Prop) (φ : Nat → Lc) (K : Nat → Prop) (us : List Value), VRL w St φ K ins us → Calls P f us.toArray w fun e w' => e = .returned v ∧ Below w.heap.size w w') : Ctr P f ins [] (.c (.v v)) [] := by
  refine ⟨he, fun w St φ F us' hent => ?_⟩
  refine (hc w St φ _ us' hent.args).mono ?_
  rintro e w' ⟨rfl, hb⟩
  refine ⟨_, _, v, fun _ => False, fun _ => [], [], ⟨rfl, rfl⟩, rfl, ⟨⟨hb.os, hb.tape, hb.output, hb.size, fun b hlt _ => .inl (hb.block b hlt)⟩, ?_, by simp, rfl, fun i cs hi => by simp at hi, fun i hi => by simp at hi, fun i hi => by simp at hi, fun i j hi => by simp at hi, fun i b lo hi => by simp at hi, fun b hb => by simp at hb, fun b hb => hb.elim⟩⟩
  simp only [VRF, CR]
  exact ⟨trivial, hv, trivial⟩
theorem zk10 (s : ByteArray) {c : Nat} (_hc : c < 256) : Ctr Try.prog 115 [.c (.v (.string s)), .c (.v (.int .u8 (c : Int)))] [] (.c (.v (.int .i64 (Lib.indexByte s.data.toList (UInt8.ofNat c))))) [] := by
  refine zv7 (by kernel_rfl) rfl fun w St φ K us h => ?_
  simp only [VRL, VR, CR] at h
  obtain ⟨u, us1, rfl, ⟨rfl, -⟩, u2, us2, rfl, ⟨rfl, -⟩, rfl⟩ := h
  refine (Go.Proofs.Any.strings_IndexByte lays137 s (c : Int) w).mono ?_
  rintro e w' ⟨rfl, rfl⟩
  exact ⟨rfl, Below.refl _ _⟩
def strB : E → ByteArray
  | .str s => s
  | _ => ByteArray.empty
theorem zx20 {w : World} {St : Nat → Prop} {φ : Nat → Lc} {K : Nat → Prop} : ∀ {l : List E} {us : List Value} {fp : List Nat}, (∀ e ∈ l, ∃ s, e = .str s) → CRL w St φ K (acL l) us fp → us = l.map fun e => .string (strB e)
  | [], us, fp, _, h => by
    simp only [acL, CRL] at h
    exact h.1
  | e :: r, us, fp, he, h => by
    obtain ⟨s, rfl⟩ := he e List.mem_cons_self
    have h' : CRL w St φ K (.v (.string s) :: acL r) us fp := h
    simp only [CRL] at h'
    obtain ⟨u, us', f1, f2, rfl, rfl, h1, h2⟩ := h'
    simp only [CR] at h1
    obtain ⟨rfl, -⟩ := h1
    rw [zx20 (fun e he' => he e (List.mem_cons_of_mem _ he')) h2]
    rfl
def joinB (l : List E) (sep : ByteArray) : ByteArray := ⟨(Lib.join (l.map fun e => (strB e).data.toList) sep.data.toList).toArray⟩
theorem join_c {l : List E} (hl : ∀ e ∈ l, ∃ s, e = .str s) (sep : ByteArray) (hn : l.length ≤ 1073741824) (hsz : (joinB l sep).size ≤ 140737488355328) : Ctr Try.prog 52 [.c (.ro l.length 1 (acL l)), .c (.v (.string sep))] [] (.c (.v (.string (joinB l sep)))) [] := by
  refine zv7 (by kernel_rfl) rfl fun w St φ K us h => ?_
  simp only [VRL, VR, CR] at h
  obtain ⟨u, us1, rfl, ⟨-, A, c, rfl, ⟨h1, h2, h3⟩, h4, h5⟩, u2, us2, rfl, ⟨rfl, -⟩, rfl⟩ := h
  cases l with
  | nil => exact (Go.Proofs.Any.strings_Join_none zw20 Builder_Extra_156 A c sep w).mono fun e w' ⟨he, hw⟩ => ⟨he, hw ▸ Below.refl _ _⟩
  | cons x r =>
    obtain ⟨b, o, us, rfl, -, hb, hc, hcr⟩ := h5 (by simp)
    have hus := zx20 hl hcr
    have e1 : (x :: r).length = ((x :: r).map strB).length := by simp
    have e2 : joinB (x :: r) sep = ⟨(Lib.join (((x :: r).map strB).map (·.data.toList)) sep.data.toList).toArray⟩ := by unfold joinB; rw [List.map_map]; rfl
    rw [e2] at hsz ⊢
    rw [e1] at hn h1 ⊢
    refine Go.Proofs.Any.strings_Join zw20 Builder_Extra_156 b o c ((x :: r).map strB) sep w (fun j y hy => hc j _ ?_) hb (by omega) h1 ?_
    · rw [hus, List.getElem?_map]
      rw [List.getElem?_map] at hy
      cases hq : (x :: r)[j]? with
      | none => rw [hq] at hy; cases hy
      | some e => rw [hq] at hy; simp at hy; simp [hy]
    · have : (ByteArray.mk (Lib.join (((x :: r).map strB).map (·.data.toList)) sep.data.toList).toArray).size = (Lib.join (((x :: r).map strB).map (·.data.toList)) sep.data.toList).length := by show (List.toArray _).size = _; rw [List.size_toArray]
      rw [this] at hsz
      exact hsz
set_option maxRecDepth 100000 in
set_option maxHeartbeats 1000000 in
theorem szStringS_all' (A : Option Addr) (c : Nat) (l : List E) (ht : ∀ y ∈ l, y.Ty Try.prog 9) : Sz 17 (.lst 1 9 A c l) := by
  intro left w hr h0 h1
  have hs := hr.sl
  have hlen := hs.len_le
  have HSZ : Hid ((E.lst 1 9 A c l).sz = l.length + E.szL l) := rfl
  change Calls _ _ #[.slice A l.length c, .int .i64 left] w _
  by_cases hneg : left - l.length < 0
  · go_enter Try.func17, Try.ntmps17
    go_wp2
    go_ret
    exact ⟨-1, rfl, .inl (by omega), by omega, by exact (by repeat (first | (with_reducible refine Below.setCell ?_ (by first | omega | (· simp) | (· (simp; omega))) _) | (with_reducible refine Below.alloc ?_ (by first | omega | (· simp) | (· (simp; omega))) _) | (with_reducible refine Below.drew ?_) | (with_reducible refine zx2 ?_ _) | (with_reducible exact Below.refl _ _) | (with_reducible assumption) | (with_reducible refine Below.trans ?_ (Below.mono (by assumption) (by first | omega | (· simp) | (· (simp; omega))))) | (with_reducible refine Below.trans ?_ (Kp.below (by assumption) (by first | omega | (· simp) | (· (simp; omega))) (by first | omega | (· simp) | (· (simp; omega)))))))⟩
  go_enter Try.func17, Try.ntmps17
  go_wp2
  go_loopw [1, 5] (fun v i wr => ∃ (k : Nat) (cur : Int), k ≤ l.length ∧ i = .int .i64 k ∧ v = .int .i64 cur ∧ 0 ≤ cur ∧ cur ≤ left ∧ Hid (cur + E.szL (l.take k) + l.length = left) ∧ Below w.heap.size w wr) (fun _ i _ => l.length - (intOf i).toNat)
  case atStart => exact ⟨0, _, Nat.zero_le _, rfl, rfl, by omega, by omega, (by show _ = _; simp [E.szL]), Below.refl _ _⟩
  case round =>
    obtain ⟨k, cur, hk, rfl, rfl, hc0, hc1, HQ, hb⟩ := hrel
    have hzb := hb.size
    by_cases hlt : k < l.length
    · have hs' := hs.below hb (Nat.le_refl _)
      have HT := Lib.hid (E.szL_take l k hlt)
      obtain ⟨b, o, rfl, _, hc⟩ := hs'.at_ hlt
      obtain ⟨s, ex, gs⟩ := (ht _ (List.getElem_mem hlt)).str_ Try.underlying9
      rw [ex] at hc
      have c0 := hc 0 _ rfl
      rw [Nat.add_zero, Nat.mul_one] at c0
      clear hc
      have HEX := Lib.hid ex
      clear ex
      by_cases hn : cur - s.size < 0
      · go_wp2
        go_ret
        exact ⟨-1, rfl, .inl (by omega), by omega, by exact (by repeat (first | (with_reducible refine Below.setCell ?_ (by first | omega | (· simp) | (· (simp; omega))) _) | (with_reducible refine Below.alloc ?_ (by first | omega | (· simp) | (· (simp; omega))) _) | (with_reducible refine Below.drew ?_) | (with_reducible refine zx2 ?_ _) | (with_reducible exact Below.refl _ _) | (with_reducible assumption) | (with_reducible refine Below.trans ?_ (Below.mono (by assumption) (by first | omega | (· simp) | (· (simp; omega))))) | (with_reducible refine Below.trans ?_ (Kp.below (by assumption) (by first | omega | (· simp) | (· (simp; omega))) (by first | omega | (· simp) | (· (simp; omega)))))))⟩
      · go_wp2
        go_roundw
        case rel => exact ⟨k + 1, _, by omega, by go_num, rfl, by omega, by omega, (by show _ = _; have e1 := HQ.out; have e2 := HT.out; rw [HEX.out] at e2; simp only [E.sz] at e2; omega), by exact (by repeat (first | (with_reducible refine Below.setCell ?_ (by first | omega | (· simp) | (· (simp; omega))) _) | (with_reducible refine Below.alloc ?_ (by first | omega | (· simp) | (· (simp; omega))) _) | (with_reducible refine Below.drew ?_) | (with_reducible refine zx2 ?_ _) | (with_reducible exact Below.refl _ _) | (with_reducible assumption) | (with_reducible refine Below.trans ?_ (Below.mono (by assumption) (by first | omega | (· simp) | (· (simp; omega))))) | (with_reducible refine Below.trans ?_ (Kp.below (by assumption) (by first | omega | (· simp) | (· (simp; omega))) (by first | omega | (· simp) | (· (simp; omega)))))))⟩
        case measure => simp [intOf]; omega
    · have hk' : k = l.length := by omega
      subst hk'
      go_wp2
      go_ret
      refine ⟨_, rfl, .inr ?_, by omega, hb⟩
      show _ = _
      have e1 := HQ.out
      rw [List.take_length] at e1
      rw [HSZ.out]
      push_cast
      omega
theorem zn12 {e : E} (ht : e.Ty Try.prog 22) : Sz 17 e := by
  obtain ⟨A, c, l, rfl, h1, _⟩ := ht.lst_ Try.underlying22 (k := 1) (by kernel_rfl)
  exact szStringS_all' A c l h1
theorem zc14 : (Try.prog.info? 9).map (fun i => (i.zero, i.size, i.bytes)) = some (some (.string ByteArray.empty), 1, 16) := by kernel_rfl
set_option maxRecDepth 100000 in
set_option maxHeartbeats 1000000 in
theorem zo12 {e : E} (ht : e.Ty Try.prog 22) : To 23 22 e := by
  obtain ⟨A, c, l, rfl, h1, h2⟩ := ht.lst_ Try.underlying22 (k := 1) (by kernel_rfl)
  intro w hr hsz
  have hs := hr.sl
  have hn : l.length ≤ 1048576 := by have e : (E.lst 1 9 A c l).sz = l.length + E.szL l := rfl; omega
  have hmk := zi22 Try.underlying22 zc14 l.length (by omega) (by omega)
  have hF := Fill.new w 9 #[.string ByteArray.empty] l.length (E.encL l)
  have hxs := E.encL_len h2
  rw [Nat.mul_one] at hxs
  have HX := Lib.hid hxs
  have H1 := Lib.hid h1
  have H2 := Lib.hid h2
  clear hxs h1 h2
  change Calls _ _ #[.slice A l.length c] w _
  go_enter Try.func23, Try.ntmps23
  go_wp2
  go_loopw [4] (fun i wr => ∃ (k : Nat), k ≤ l.length ∧ i = .int .i64 k ∧ Fill wr w.heap.size 9 l.length k (E.encL l) ∧ Below w.heap.size w wr) (fun i _ => l.length - (intOf i).toNat)
  case atStart => exact ⟨0, Nat.zero_le _, rfl, hF, by exact (by repeat (first | (with_reducible refine Below.setCell ?_ (by first | omega | (· simp) | (· (simp; omega))) _) | (with_reducible refine Below.alloc ?_ (by first | omega | (· simp) | (· (simp; omega))) _) | (with_reducible refine Below.drew ?_) | (with_reducible refine zx2 ?_ _) | (with_reducible exact Below.refl _ _) | (with_reducible assumption) | (with_reducible refine Below.trans ?_ (Below.mono (by assumption) (by first | omega | (· simp) | (· (simp; omega))))) | (with_reducible refine Below.trans ?_ (Kp.below (by assumption) (by first | omega | (· simp) | (· (simp; omega))) (by first | omega | (· simp) | (· (simp; omega)))))))⟩
  case round =>
    obtain ⟨k, hk, rfl, hf, hb⟩ := hrel
    by_cases hlt : k < l.length
    · have hs' := hs.below hb (Nat.le_refl _)
      obtain ⟨b, o, rfl, _, hcell⟩ := hs'.at1 hlt
      have hx := E.encL_at H2.out k hlt 0 (by omega)
      obtain ⟨n, ex, gn⟩ := (H1.out _ (List.getElem_mem hlt)).str_ Try.underlying9
      have hcell := hcell _ (by rw [ex]; rfl)
      obtain ⟨u, hc2⟩ := hf.cell hlt
      have hf2 := hf.frozen k
      rw [Nat.mul_one, Nat.add_zero, ex] at hx
      have R := (hf.set hlt hx)
      clear hx hf ex
      go_wp2
      go_roundw
      case rel => exact ⟨k + 1, by omega, by go_num, R, hb.setCell (Nat.le_refl _) _⟩
      case measure => simp [intOf]; omega
    · have hk' : k = l.length := by omega
      subst hk'
      go_wp2
      go_ret
      have hfl : ∀ e ∈ l, e.fp = [] := fun e he => by
        obtain ⟨n, rfl, _⟩ := (H1.out e he).str_ Try.underlying9
        rfl
      refine ⟨.lst 1 9 (some ⟨w.heap.size, 0, none⟩) l.length l, rfl, zz12.2 rfl, E.Ty.mk_lst Try.underlying22 (by kernel_rfl) H1.out H2.out, E.Ho.mk (Ow.of_owns (hf.owns (Nat.le_refl _) (Nat.mul_one _).symm HX.out (by unfold maxLen; omega)) (Nat.le_refl _)) H2.out (fun e he => ?_), ?_, hb⟩
      · obtain ⟨n, rfl, _⟩ := (H1.out e he).str_ Try.underlying9
        trivial
      · simp only [E.fp, E.fpL_nil hfl]; simp
set_option maxRecDepth 100000 in
set_option maxHeartbeats 1000000 in
theorem eqStringS_all' (A B : Option Addr) (c c' : Nat) (l m : List E) (h1 : ∀ y ∈ l, y.Ty Try.prog 9) (h2 : ∀ y ∈ m, y.Ty Try.prog 9) : Eq 29 (.lst 1 9 A c l) (.lst 1 9 B c' m) := by
  intro hd w hr hr'
  rw [zz12] at hd
  have hs := hr.sl
  have hs' := hr'.sl
  have hml := zk22 hd
  have HD := Lib.hid hd
  clear hd
  have hlen := hs.len_le
  change Calls _ _ #[.slice A l.length c, .slice B m.length c'] w _
  obtain ⟨N, HN⟩ : ∃ N, Hid (m.length = N) := ⟨_, rfl⟩
  have hN : N = l.length := by have := HN.out; omega
  subst hN
  rw [HN.out]
  clear hml
  go_enter Try.func29, Try.ntmps29
  go_wp2
  go_loopw [5] (fun i wr => ∃ (k : Nat), k ≤ l.length ∧ i = .int .i64 k ∧ Below w.heap.size w wr) (fun i _ => l.length - (intOf i).toNat)
  case atStart => exact ⟨0, Nat.zero_le _, rfl, Below.refl _ _⟩
  case round =>
    obtain ⟨k, hk, rfl, hb⟩ := hrel
    by_cases hlt : k < l.length
    · have hltm : k < m.length := by have := HN.out; omega
      have hsb := hs.below hb (Nat.le_refl _)
      have hsb' := hs'.below hb (Nat.le_refl _)
      have hdk := d_at HD.out hlt hltm
      obtain ⟨b, o, rfl, _, hc⟩ := hsb.at_ hlt
      obtain ⟨b', o', rfl, _, hd⟩ := hsb'.at_ hltm
      obtain ⟨a, ea, ga⟩ := (h1 _ (List.getElem_mem hlt)).str_ Try.underlying9
      obtain ⟨a2, eb, gb⟩ := (h2 _ (List.getElem_mem hltm)).str_ Try.underlying9
      rw [ea, eb] at hdk
      simp only [E.d, E.int.injEq, E.str.injEq, true_and] at hdk
      subst hdk
      rw [ea] at hc
      rw [eb] at hd
      clear ea eb
      have c0 := hc 0 _ rfl
      have d0 := hd 0 _ rfl
      rw [Nat.add_zero, Nat.mul_one] at c0 d0
      clear hc hd
      go_wp2
      go_quiet (fail)
      go_wp2
      go_roundw
      case rel => exact ⟨k + 1, by omega, by go_num, by exact (by repeat (first | (with_reducible refine Below.setCell ?_ (by first | omega | (· simp) | (· (simp; omega))) _) | (with_reducible refine Below.alloc ?_ (by first | omega | (· simp) | (· (simp; omega))) _) | (with_reducible refine Below.drew ?_) | (with_reducible refine zx2 ?_ _) | (with_reducible exact Below.refl _ _) | (with_reducible assumption) | (with_reducible refine Below.trans ?_ (Below.mono (by assumption) (by first | omega | (· simp) | (· (simp; omega))))) | (with_reducible refine Below.trans ?_ (Kp.below (by assumption) (by first | omega | (· simp) | (· (simp; omega))) (by first | omega | (· simp) | (· (simp; omega)))))))⟩
      case measure => simp [intOf]; omega
    · go_wp2
      go_ret
      exact ⟨rfl, hb⟩
theorem zp12 {e e' : E} (ht : e.Ty Try.prog 22) (ht' : e'.Ty Try.prog 22) : Eq 29 e e' := by
  obtain ⟨A, c, l, rfl, h1, _⟩ := ht.lst_ Try.underlying22 (k := 1) (by kernel_rfl)
  obtain ⟨B, c', m, rfl, h2, _⟩ := ht'.lst_ Try.underlying22 (k := 1) (by kernel_rfl)
  exact eqStringS_all' A B c c' l m h1 h2
theorem zq1 {e : E} (h : e.Ty Try.prog 86) : ∃ (x0 : Int) (x1 : ByteArray) (x2A : Option Addr) (x2c : Nat) (x2l : List E), e = (E.agg [.int .i64 x0, .str x1, .lst 3 86 x2A x2c x2l]) ∧ ((Lit.int .i64 x0).wf = true) ∧ (x1.size ≤ 9223372036854775807) ∧ ((∀ y ∈ x2l, y.Ty Try.prog 86) ∧ (∀ y ∈ x2l, y.enc.length = 3)) ∧ True := by
  obtain ⟨fs, rfl, q0⟩ := h.agg_ Try.underlying86
  change E.TyF _ _ [3, 9, 84] at q0
  obtain ⟨e0, r0, rfl, h0, q1⟩ := q0.cons_
  obtain ⟨e1, r1, rfl, h1, q2⟩ := q1.cons_
  obtain ⟨e2, r2, rfl, h2, q3⟩ := q2.cons_
  obtain rfl := q3.nil_
  obtain ⟨x0, rfl, gx0⟩ := h0.int_ Try.underlying3
  obtain ⟨x1, rfl, gx1⟩ := h1.str_ Try.underlying9
  obtain ⟨x2A, x2c, x2l, rfl, gx2, gx2'⟩ := h2.lst_ Try.underlying84 (k := 3) (by kernel_rfl)
  exact ⟨x0, x1, x2A, x2c, x2l, rfl, gx0, gx1, ⟨gx2, gx2'⟩, trivial⟩
theorem zy20 {l : List E} (hl : ∀ e ∈ l, e.Ty Try.prog 86) (hk : ∀ e ∈ l, e.enc.length = 3) (hlen : l.length ≤ 1073741824) {b : List AC} (hb : cloL b = true) (p : E → Bool) (f : FuncId) (hc : ∀ x ∈ l, Ctr Try.prog f (.ag (acE x) :: [.c (.pt 0 0)]) [b] (.c (.v (.bool (p x)))) [b]) : Ctr Try.prog 116 [.c (.ro l.length 3 (acL l)), .c (.fn f [.pt 0 0])] [b] (.c (.v (.int .i64 (idxF p l)))) [b] := by
  refine zm2 Try.func116 rfl rfl ?_
  repeat (first | refine zn ?_ | refine ze ?_ | refine zh ?_ | refine zi ?_ | refine zu ?_ | refine zb fun C => ?_ | refine zp (by kernel_rfl) (by kernel_rfl) fun C => ?_ | refine zc ?_ | refine zr3 ?_ | refine x_bs ?_ | refine x_gr ?_ | refine x_st ?_ | refine x_mv ?_ | refine x_sk ?_ | refine ze4 ?_ | refine x_ix ?_ | refine zf4 ?_ | refine zg4 ?_ | refine zu3 ?_ | refine zv2 ?_ | refine x_ld ?_)
  refine zp3 (fun k : Nat => ⟨tmsF [(0, .c (.ro l.length 3 (acL l))), (1, .c (.fn f [.pt 0 0])), (7, .c (.v (.int .i64 l.length))), (8, .c (.v (.int .i64 k)))], hpsF [(0, 0, ⟨0, 0, 0, true, b⟩)], 1, [0], 19⟩)
    (fun N k => k + N = l.length ∧ ∀ j y, j < k → l[j]? = some y → p y = false) l.length 0 ⟨by omega, by omega⟩ ?_ ?_
  · refine zo2 _ _ rfl rfl ?_ ?_; (repeat' (first | exact TmOk.nil | exact RwOk.nil | refine TmOk.cons ?_ ?_ | refine RwOk.cons ?_ ?_ | rfl | (refine rnV_id' rfl ?_; (first | rfl | (simp [cloV, cloL, clo, zj, zf, zk, zg, zd]; done))) | (refine zd3 ?_; first | rfl | omega | (rw [zb2 (by omega) (by omega)]; omega)) | (refine zi2 rfl ?_; (first | rfl | (simp [cloV, cloL, clo, zj, zf, zk, zg, zd]; done))) | exact zj4 rfl rfl | (refine ze3 (by rfl) (by rfl) ?_ ?_ <;> (first | rfl | (simp [cloV, cloL, clo, zj, zf, zk, zg, zd]; done))) | (refine rw_rn' rfl rfl ?_; simp; done))); refine zi2 rfl hb
  rintro N k ⟨hN, hno⟩
  repeat (first | refine zn ?_ | refine ze ?_ | refine zh ?_ | refine zi ?_ | refine zu ?_ | refine zb fun C => ?_ | refine zp (by kernel_rfl) (by kernel_rfl) fun C => ?_ | refine zc ?_ | refine zr3 ?_ | refine x_bs ?_ | refine x_gr ?_ | refine x_st ?_ | refine x_mv ?_ | refine x_sk ?_ | refine ze4 ?_ | refine x_ix ?_ | refine zf4 ?_ | refine zg4 ?_ | refine zu3 ?_ | refine zv2 ?_ | refine x_ld ?_)
  refine zt3 (by rfl) (fun h1 => ?_) fun h1 => ?_
  · have hk' : k < l.length := by simpa using h1
    obtain ⟨x, hx⟩ : ∃ x, l[k]? = some x := ⟨_, List.getElem?_eq_getElem hk'⟩
    have hxt := hl x (List.mem_of_getElem? hx)
    have hcc := hc x (List.mem_of_getElem? hx)
    obtain ⟨y0, y1, y2A, y2c, y2l, rfl, gy0, gy1, gy2, -⟩ := zq1 hxt
    repeat (first | refine zn ?_ | refine ze ?_ | refine zh ?_ | refine zi ?_ | refine zu ?_ | refine zb fun C => ?_ | refine zp (by kernel_rfl) (by kernel_rfl) fun C => ?_ | refine zc ?_ | refine zr3 ?_ | refine x_bs ?_ | refine x_gr ?_ | refine x_st ?_ | refine x_mv ?_ | refine x_sk ?_ | refine ze4 ?_ | refine x_ix ?_ | refine zf4 ?_ | refine zg4 ?_ | refine zu3 ?_ | refine zv2 ?_ | refine x_ld ?_)
    refine x_cad 0 hcc ?_ (hl := zc20 (by rfl) hb)
    repeat (first | refine zn ?_ | refine ze ?_ | refine zh ?_ | refine zi ?_ | refine zu ?_ | refine zb fun C => ?_ | refine zp (by kernel_rfl) (by kernel_rfl) fun C => ?_ | refine zc ?_ | refine zr3 ?_ | refine x_bs ?_ | refine x_gr ?_ | refine x_st ?_ | refine x_mv ?_ | refine x_sk ?_ | refine ze4 ?_ | refine x_ix ?_ | refine zf4 ?_ | refine zg4 ?_ | refine zu3 ?_ | refine zv2 ?_ | refine x_ld ?_)
    refine zt3 (by rfl) (fun h2 => ?_) fun h2 => ?_
    · repeat (first | refine zn ?_ | refine ze ?_ | refine zh ?_ | refine zi ?_ | refine zu ?_ | refine zb fun C => ?_ | refine zp (by kernel_rfl) (by kernel_rfl) fun C => ?_ | refine zc ?_ | refine zr3 ?_ | refine x_bs ?_ | refine x_gr ?_ | refine x_st ?_ | refine x_mv ?_ | refine x_sk ?_ | refine ze4 ?_ | refine x_ix ?_ | refine zf4 ?_ | refine zg4 ?_ | refine zu3 ?_ | refine zv2 ?_ | refine x_ld ?_)
      refine ret1 (x := .c (.v (.int .i64 k))) (rw := ⟨0, 0, 0, true, b⟩) rfl rfl rfl hb rfl ⟨?_, rfl⟩
      rw [zb10 hno hx h2]
    · repeat (first | refine zn ?_ | refine ze ?_ | refine zh ?_ | refine zi ?_ | refine zu ?_ | refine zb fun C => ?_ | refine zp (by kernel_rfl) (by kernel_rfl) fun C => ?_ | refine zc ?_ | refine zr3 ?_ | refine x_bs ?_ | refine x_gr ?_ | refine x_st ?_ | refine x_mv ?_ | refine x_sk ?_ | refine ze4 ?_ | refine x_ix ?_ | refine zf4 ?_ | refine zg4 ?_ | refine zu3 ?_ | refine zv2 ?_ | refine x_ld ?_)
      refine ⟨N - 1, k + 1, by omega, ⟨by omega, fun j z hj hz => ?_⟩, ?_⟩
      · by_cases e : j = k
        · rw [e, hx] at hz; injection hz with hz; subst hz; exact h2
        · exact hno j z (by omega) hz
      · refine zo2 _ _ rfl rfl ?_ ?_; (repeat' (first | exact TmOk.nil | exact RwOk.nil | refine TmOk.cons ?_ ?_ | refine RwOk.cons ?_ ?_ | rfl | (refine rnV_id' rfl ?_; (first | rfl | (simp [cloV, cloL, clo, zj, zf, zk, zg, zd]; done))) | (refine zd3 ?_; first | rfl | omega | (rw [zb2 (by omega) (by omega)]; omega)) | (refine zi2 rfl ?_; (first | rfl | (simp [cloV, cloL, clo, zj, zf, zk, zg, zd]; done))) | exact zj4 rfl rfl | (refine ze3 (by rfl) (by rfl) ?_ ?_ <;> (first | rfl | (simp [cloV, cloL, clo, zj, zf, zk, zg, zd]; done))) | (refine rw_rn' rfl rfl ?_; simp; done))); refine zi2 rfl hb
  · have hk' : ¬ k < l.length := by simpa using h1
    repeat (first | refine zn ?_ | refine ze ?_ | refine zh ?_ | refine zi ?_ | refine zu ?_ | refine zb fun C => ?_ | refine zp (by kernel_rfl) (by kernel_rfl) fun C => ?_ | refine zc ?_ | refine zr3 ?_ | refine x_bs ?_ | refine x_gr ?_ | refine x_st ?_ | refine x_mv ?_ | refine x_sk ?_ | refine ze4 ?_ | refine x_ix ?_ | refine zf4 ?_ | refine zg4 ?_ | refine zu3 ?_ | refine zv2 ?_ | refine x_ld ?_)
    refine ret1 (x := .c (.v (.int .i64 (-1)))) (rw := ⟨0, 0, 0, true, b⟩) rfl rfl rfl hb rfl ⟨?_, rfl⟩
    rw [zp6 fun j y hj hy => hno j y (by omega) hy]
theorem zz20 {l : List E} (hl : ∀ e ∈ l, e.Ty Try.prog 86) (hk : ∀ e ∈ l, e.enc.length = 3) (hlen : l.length ≤ 1073741824) {b : List AC} (hb : cloL b = true) (p : E → Bool) (f : FuncId) (hc : ∀ x ∈ l, Ctr Try.prog f (.ag (acE x) :: [.c (.pt 0 0)]) [b] (.c (.v (.bool (p x)))) [b]) : Ctr Try.prog 105 [.c (.ro l.length 3 (acL l)), .c (.fn f [.pt 0 0])] [b] (.c (.v (.bool (l.any p)))) [b] := by
  refine zm2 Try.func105 rfl rfl ?_
  have hcc := zy20 hl hk hlen hb p f hc
  repeat (first | refine zn ?_ | refine ze ?_ | refine zh ?_ | refine zi ?_ | refine zu ?_ | refine zb fun C => ?_ | refine zp (by kernel_rfl) (by kernel_rfl) fun C => ?_ | refine zc ?_ | refine zr3 ?_ | refine x_bs ?_ | refine x_gr ?_ | refine x_st ?_ | refine x_mv ?_ | refine x_sk ?_ | refine ze4 ?_ | refine x_ix ?_ | refine zf4 ?_ | refine zg4 ?_ | refine zu3 ?_ | refine zv2 ?_ | refine x_ld ?_)
  refine x_cad 0 hcc ?_ (hl := zc20 (by rfl) hb)
  repeat (first | refine zn ?_ | refine ze ?_ | refine zh ?_ | refine zi ?_ | refine zu ?_ | refine zb fun C => ?_ | refine zp (by kernel_rfl) (by kernel_rfl) fun C => ?_ | refine zc ?_ | refine zr3 ?_ | refine x_bs ?_ | refine x_gr ?_ | refine x_st ?_ | refine x_mv ?_ | refine x_sk ?_ | refine ze4 ?_ | refine x_ix ?_ | refine zf4 ?_ | refine zg4 ?_ | refine zu3 ?_ | refine zv2 ?_ | refine x_ld ?_)
  refine ret1 (x := .c (.v (.bool (decide (idxF p l ≥ 0))))) (rw := ⟨0, 0, 0, true, b⟩) rfl rfl rfl hb rfl ⟨?_, rfl⟩
  rw [zu7]
theorem idxLit : ∀ c : Fin 256, decide (0 ≤ Lib.indexByte [32, 95, 45, 44, 58] (UInt8.ofNat c.1)) = (c.1 == 32 || c.1 == 95 || c.1 == 45 || c.1 == 44 || c.1 == 58) := by decide
theorem zl10 {c : Nat} (hc : c < 256) : Ctr Try.prog 103 [.c (.v (.int .u8 (c : Int)))] [] (.c (.v (.bool (litB c)))) [] := by
  have h1 := zk10 ⟨#[32, 95, 45, 44, 58]⟩ hc
  have h2 := zu20 c
  have h3 : decide (0 ≤ Lib.indexByte (ByteArray.mk #[32, 95, 45, 44, 58]).data.toList (UInt8.ofNat c)) = (c == 32 || c == 95 || c == 45 || c == 44 || c == 58) := idxLit ⟨c, hc⟩
  refine zm2 Try.func103 rfl rfl ?_
  repeat' (first | refine zn ?_ | refine ze ?_ | refine zh ?_ | refine zi ?_ | refine zb fun C => ?_ | refine zp (by kernel_rfl) (by kernel_rfl) fun C => ?_ | refine zc ?_ | (refine x_gm ?_ ?_ <;> intro hG <;> (try cases hG)) | refine zt13 ?_ | refine zu13 ?_ | refine zv13 ?_ | refine zw13 ?_ | refine zd10 ?_ | refine zr3 ?_ | refine zx8 ?_ | refine zq13 ?_ | refine zr13 ?_ | refine x_bs ?_ | refine x_gr ?_ | refine x_st ?_ | refine x_mv ?_ | refine x_sk ?_ | refine ze4 ?_ | refine x_ix ?_ | refine zf4 ?_ | refine zg4 ?_ | refine zu3 ?_ | refine zu3 (hnu := zl _) ?_ | refine zv2 ?_ | refine zv2 (hnu := zl _) ?_ | refine x_ld ?_ | refine zp13 ?_ | refine zu6 h1 ?_ | refine zu6 h2 ?_ | (refine zt3 (by rfl) ?_ ?_ <;> intro hC <;> (try cases hC)))
  all_goals
    (first | refine zu ?_ | skip); refine ret0 rfl zn2 ⟨?_, rfl⟩; refine congrArg (fun s => AV.c (AC.v (Value.bool s))) ?_
    clear h1 h2
    have h3' := congrArg (· = true) h3
    simp only [decide_eq_true_iff, eq_iff_iff] at h3'
    clear h3
    unfold litB
    simp only [digB, ge_iff_le, Bool.or_eq_true, Bool.and_eq_true, decide_eq_true_iff, beq_iff_eq, Bool.and_eq_false_iff, decide_eq_false_iff_not] at *
    (rw [Bool.eq_iff_iff]; (try simp only [Bool.and_eq_true, Bool.or_eq_true, Bool.not_eq_true', decide_eq_true_iff, decide_eq_false_iff_not, beq_iff_eq, Bool.and_eq_false_iff, Bool.or_eq_false_iff, bne_iff_ne, ne_eq, Bool.true_eq_false, Bool.false_eq_true, true_iff, false_iff, iff_true, iff_false] at *); first | omega | (simp at *; omega))
theorem zd14 {s : ByteArray} (h : ∀ j, j < s.size → setAtB s j = true) : setOkB s = (decide (1 ≤ s.size) && decide (s.size ≤ 10)) := by
  unfold setOkB
  rw [show (List.range s.size).all (setAtB s) = true from List.all_eq_true.2 fun j hj => h j (List.mem_range.1 hj), Bool.true_and]
theorem zo9 {s : ByteArray} {j : Nat} (h : j < s.size) (h2 : setAtB s j = false) : setOkB s = false := by
  unfold setOkB
  rw [show (List.range s.size).all (setAtB s) = false from List.all_eq_false.2 ⟨j, List.mem_range.2 h, by simp [h2]⟩, Bool.false_and]
theorem setOk_c {s : ByteArray} (hs : s.size ≤ 1073741824) : Ctr Try.prog 104 [.c (.v (.string s))] [] (.c (.v (.bool (setOkB s)))) [] := by
  refine zm2 Try.func104 rfl rfl ?_
  repeat' (first | refine zn ?_ | refine ze ?_ | refine zh ?_ | refine zi ?_ | refine zb fun C => ?_ | refine zp (by kernel_rfl) (by kernel_rfl) fun C => ?_ | refine zc ?_ | (refine x_gm ?_ ?_ <;> intro hG <;> (try cases hG)) | refine zt13 ?_ | refine zu13 ?_ | refine zv13 ?_ | refine zw13 ?_ | refine zd10 ?_ | refine zr3 ?_ | refine zx8 ?_ | refine zq13 ?_ | refine zr13 ?_ | refine x_bs ?_ | refine x_gr ?_ | refine x_st ?_ | refine x_mv ?_ | refine x_sk ?_ | refine ze4 ?_ | refine x_ix ?_ | refine zf4 ?_ | refine zg4 ?_ | refine zu3 ?_ | refine zu3 (hnu := zl _) ?_ | refine zv2 ?_ | refine zv2 (hnu := zl _) ?_ | refine x_ld ?_ | refine zp13 ?_ | refine zf15 ?_)
  refine zp3 (fun k : Nat => ⟨tmsF [(0, .c (.v (.string s))), (3, .c (.v (.int .i64 k)))], hpsF [], 0, [], 32⟩) (fun N k => k + N = s.size ∧ ∀ j, j < k → setAtB s j = true) s.size 0 ⟨by omega, fun j hj => by omega⟩ ?_ ?_
  · (refine zo2 _ _ rfl rfl ?_ ?_ <;> (repeat' (first | exact TmOk.nil | exact RwOk.nil | refine TmOk.cons ?_ ?_ | refine RwOk.cons ?_ ?_ | rfl | (refine rnV_id' rfl ?_; (first | rfl | (simp [cloV, cloL, clo, zj, zf, zk, zg, zd]; done))) | (refine zd3 ?_; first | rfl | omega | (rw [zb2 (by omega) (by omega)]; omega)) | (refine zi2 rfl ?_; (first | rfl | (simp [cloV, cloL, clo, zj, zf, zk, zg, zd]; done))) | exact zj4 rfl rfl | (refine ze3 (by rfl) (by rfl) ?_ ?_ <;> (first | rfl | (simp [cloV, cloL, clo, zj, zf, zk, zg, zd]; done))) | (refine rw_rn' rfl rfl ?_; simp; done))))
  rintro N k ⟨hN, hall⟩
  repeat' (first | refine zn ?_ | refine ze ?_ | refine zh ?_ | refine zi ?_ | refine zb fun C => ?_ | refine zp (by kernel_rfl) (by kernel_rfl) fun C => ?_ | refine zc ?_ | (refine x_gm ?_ ?_ <;> intro hG <;> (try cases hG)) | refine zt13 ?_ | refine zu13 ?_ | refine zv13 ?_ | refine zw13 ?_ | refine zd10 ?_ | refine zr3 ?_ | refine zx8 ?_ | refine zq13 ?_ | refine zr13 ?_ | refine x_bs ?_ | refine x_gr ?_ | refine x_st ?_ | refine x_mv ?_ | refine x_sk ?_ | refine ze4 ?_ | refine x_ix ?_ | refine zf4 ?_ | refine zg4 ?_ | refine zu3 ?_ | refine zu3 (hnu := zl _) ?_ | refine zv2 ?_ | refine zv2 (hnu := zl _) ?_ | refine x_ld ?_ | refine zp13 ?_ | refine zf15 ?_)
  refine zt3 (by rfl) (fun h1 => ?_) fun h1 => ?_
  · have hk : k < s.size := by simpa using h1
    have hl := zl10 (zn7 s k)
    have fin : ∀ b, setAtB s k = b → True := fun _ _ => trivial
    cases k with
    | zero =>
      repeat' (first | refine zn ?_ | refine ze ?_ | refine zh ?_ | refine zi ?_ | refine zb fun C => ?_ | refine zp (by kernel_rfl) (by kernel_rfl) fun C => ?_ | refine zc ?_ | (refine x_gm ?_ ?_ <;> intro hG <;> (try cases hG)) | refine zt13 ?_ | refine zu13 ?_ | refine zv13 ?_ | refine zw13 ?_ | refine zd10 ?_ | refine zr3 ?_ | refine zx8 ?_ | refine zq13 ?_ | refine zr13 ?_ | refine x_bs ?_ | refine x_gr ?_ | refine x_st ?_ | refine x_mv ?_ | refine x_sk ?_ | refine ze4 ?_ | refine x_ix ?_ | refine zf4 ?_ | refine zg4 ?_ | refine zu3 ?_ | refine zu3 (hnu := zl _) ?_ | refine zv2 ?_ | refine zv2 (hnu := zl _) ?_ | refine x_ld ?_ | refine zp13 ?_ | refine zu6 hl ?_ | (refine zt3 (by rfl) ?_ ?_ <;> intro hC <;> (try cases hC)))
      all_goals first
        | (exfalso; revert hG; simp; done)
        | (refine zu ?_
           refine ret0 (x := .c (.v (.bool false))) rfl zn2 ⟨?_, rfl⟩
           rw [zo9 hk (by unfold setAtB; simp_all)])
        | (refine ⟨N - 1, 1, by omega, ⟨by omega, fun j hj => ?_⟩, ?_⟩
           · obtain rfl : j = 0 := by omega
             unfold setAtB; simp_all
           · (refine zo2 _ _ rfl rfl ?_ ?_ <;> (repeat' (first | exact TmOk.nil | exact RwOk.nil | refine TmOk.cons ?_ ?_ | refine RwOk.cons ?_ ?_ | rfl | (refine rnV_id' rfl ?_; (first | rfl | (simp [cloV, cloL, clo, zj, zf, zk, zg, zd]; done))) | (refine zd3 ?_; first | rfl | omega | (rw [zb2 (by omega) (by omega)]; omega)) | (refine zi2 rfl ?_; (first | rfl | (simp [cloV, cloL, clo, zj, zf, zk, zg, zd]; done))) | exact zj4 rfl rfl | (refine ze3 (by rfl) (by rfl) ?_ ?_ <;> (first | rfl | (simp [cloV, cloL, clo, zj, zf, zk, zg, zd]; done))) | (refine rw_rn' rfl rfl ?_; simp; done)))))
    | succ m =>
      have hm : ((m + 1 : Nat) : Int) - 1 = (m : Int) := by omega
      repeat' (first | refine zn ?_ | refine ze ?_ | refine zh ?_ | refine zi ?_ | refine zb fun C => ?_ | refine zp (by kernel_rfl) (by kernel_rfl) fun C => ?_ | refine zc ?_ | (refine x_gm ?_ ?_ <;> intro hG <;> (try cases hG)) | refine zt13 ?_ | refine zu13 ?_ | refine zv13 ?_ | refine zw13 ?_ | refine zd10 ?_ | refine zr3 ?_ | refine zx8 ?_ | refine zq13 ?_ | refine zr13 ?_ | refine x_bs ?_ | refine x_gr ?_ | refine x_st ?_ | refine x_mv ?_ | refine x_sk ?_ | refine ze4 ?_ | refine x_ix ?_ | refine zf4 ?_ | refine zg4 ?_ | refine zu3 ?_ | refine zu3 (hnu := zl _) ?_ | refine zv2 ?_ | refine zv2 (hnu := zl _) ?_ | refine x_ld ?_ | refine zp13 ?_ | refine zu6 hl ?_ | (refine zt3 (by rfl) ?_ ?_ <;> intro hC <;> (try cases hC)))
      all_goals first
        | (refine zu ?_
           refine ret0 (x := .c (.v (.bool false))) rfl zn2 ⟨?_, rfl⟩
           rw [zo9 hk (by unfold setAtB; simp_all; try omega)])
        | (refine ⟨N - 1, m + 2, by omega, ⟨by omega, fun j hj => ?_⟩, ?_⟩
           · rcases Nat.lt_or_ge j (m + 1) with h | h
             · exact hall j h
             · obtain rfl : j = m + 1 := by omega
               unfold setAtB; simp_all; try omega
           · (refine zo2 _ _ rfl rfl ?_ ?_ <;> (repeat' (first | exact TmOk.nil | exact RwOk.nil | refine TmOk.cons ?_ ?_ | refine RwOk.cons ?_ ?_ | rfl | (refine rnV_id' rfl ?_; (first | rfl | (simp [cloV, cloL, clo, zj, zf, zk, zg, zd]; done))) | (refine zd3 ?_; first | rfl | omega | (rw [zb2 (by omega) (by omega)]; omega)) | (refine zi2 rfl ?_; (first | rfl | (simp [cloV, cloL, clo, zj, zf, zk, zg, zd]; done))) | exact zj4 rfl rfl | (refine ze3 (by rfl) (by rfl) ?_ ?_ <;> (first | rfl | (simp [cloV, cloL, clo, zj, zf, zk, zg, zd]; done))) | (refine rw_rn' rfl rfl ?_; simp; done)))))
        | skip
  · repeat' (first | refine zn ?_ | refine ze ?_ | refine zh ?_ | refine zi ?_ | refine zb fun C => ?_ | refine zp (by kernel_rfl) (by kernel_rfl) fun C => ?_ | refine zc ?_ | (refine x_gm ?_ ?_ <;> intro hG <;> (try cases hG)) | refine zt13 ?_ | refine zu13 ?_ | refine zv13 ?_ | refine zw13 ?_ | refine zd10 ?_ | refine zr3 ?_ | refine zx8 ?_ | refine zq13 ?_ | refine zr13 ?_ | refine x_bs ?_ | refine x_gr ?_ | refine x_st ?_ | refine x_mv ?_ | refine x_sk ?_ | refine ze4 ?_ | refine x_ix ?_ | refine zf4 ?_ | refine zg4 ?_ | refine zu3 ?_ | refine zu3 (hnu := zl _) ?_ | refine zv2 ?_ | refine zv2 (hnu := zl _) ?_ | refine x_ld ?_ | refine zp13 ?_ | refine zu6 (zs5 _ _ _) ?_ | (refine zt3 (by rfl) ?_ ?_ <;> intro hC <;> (try cases hC)))
    refine zu ?_
    refine ret0 rfl zn2 ⟨?_, rfl⟩
    rw [zd14 fun j hj => hall j (by simp at h1; omega)]
    refine congrArg (fun s => AV.c (AC.v (Value.bool s))) ?_
    unfold inR
    (rw [Bool.eq_iff_iff]; (try simp only [Bool.and_eq_true, Bool.or_eq_true, Bool.not_eq_true', decide_eq_true_iff, decide_eq_false_iff_not, beq_iff_eq, Bool.and_eq_false_iff, Bool.or_eq_false_iff, bne_iff_ne, ne_eq, Bool.true_eq_false, Bool.false_eq_true, true_iff, false_iff, iff_true, iff_false] at *); first | omega | (simp at *; omega))
section
variable {ops : Array Oper} {Q : Exit → Act → World → Prop} {C : Ctx} {i : Nat} {r : List Nat}
variable {tm : Nat → AV} {hp : Nat → Option Row} {gn L : Nat} {us : List Nat}
theorem zt5 {P : Program} {ev : Operand → AV} {o : Oper} (hs : notSel o.op = true) (h : ∀ q ∈ o.op.operands, (ev q).val?.isSome = true) : aScal P ev o = match Semval P (execOp (fun x => ((ev x).val?).getD undef) o) with | some (.value v) => some (ofV v) | _ => none := if_pos ⟨hs, h⟩
theorem n_sk {ty : TypeId} {gb : Nat × Bool} {op : Op} {ps : String} {af : Array Edge} {t : Nat} (h : Walk Try.prog ops Q C false [] r ⟨upd tm t (.tu []), hp, gn, us, L⟩) (ht : Nat.blt t L = true := by exact rfl) (hg : gw ops tm (⟨some t, op, ty, ps, af, some gb⟩ : Oper) = some false := by exact rfl) : WalkO Try.prog ops Q C false [] i (⟨some t, op, ty, ps, af, some gb⟩ : Oper) r ⟨tm, hp, gn, us, L⟩ := o_sk (dr := false) (H := []) (h := h) (ht := ht) (hg := hg)
theorem zp2 {ty : TypeId} {gd : Option (Nat × Bool)} {cas : Array Operand} {cts : Array TypeId} {ps : String} {af : Array Edge} {t : Nat} {fv : Operand} {f : FuncId} {caps : List AC} {args ins : List AV} {res : AV} {nv : AV} {nr : List (Nat × Row)} (hctr : Ctr Try.prog f ins [] res []) (h : Walk Try.prog ops Q C false [] r ⟨upd tm t nv, updL hp (nr.map (fun p => (p.1, some p.2))), gn, nr.map (·.1) ++ us, L⟩) (ht : Nat.blt t L = true := by exact rfl) (hg : gw ops tm (⟨some t, .call ⟨.value fv, cas, cts⟩, ty, ps, af, gd⟩ : Oper) = some true := by exact rfl) (hfv : AS.ev ⟨tm, hp, gn, us, L⟩ fv = .c (.fn f caps) := by exact rfl) (hargs : callArgs ⟨tm, hp, gn, us, L⟩ ⟨.value fv, cas, cts⟩ caps = args := by exact rfl) (hcv : args.map (cvV hp []) = ins := by ((repeat' (first | rfl | exact zx6 | refine zi6 ?_ ?_ | refine zo13 ?_ | refine cv_c ?_ | refine zj6 ?_ ?_ | (refine zt8 ?_; (first | rfl | (simp [cloV, cloL, clo, zj, zf, zk, zg, zd]; done))) | (refine zu8 ?_; (first | rfl | (simp [cloV, cloL, clo, zj, zf, zk, zg, zd]; done))) | refine zv8 ?_ | (refine cvC_sl' (by rfl) (by rfl) (by rfl) (by rfl) ?_ ?_; (focus (first | rfl | (simp [cloV, cloL, clo, zj, zf, zk, zg, zd]; done))); (first | rfl | exact zr5 _)))) <;> exact rfl)) (hm : rofrV res = true := by (first | rfl | exact zl4 _ | (simp [rofrV, rofrVL, rofrL, rofr, zl4, za5, zy4]; done))) (hopn : opV (100 * (t + 1)) res = (nv, nr) := by exact rfl) (hf : (nr.all fun p => Nat.ble gn p.1 && !us.contains p.1) = true := by exact rfl) : WalkO Try.prog ops Q C false [] i (⟨some t, .call ⟨.value fv, cas, cts⟩, ty, ps, af, gd⟩ : Oper) r ⟨tm, hp, gn, us, L⟩ := zn5 (dr := false) (H := []) (hctr := hctr) (h := h) (ht := ht) (hg := hg) (hfv := hfv) (hargs := hargs) (hcv := hcv) (hm := hm) (hopn := hopn) (hf := hf)
theorem zl2 {ty : TypeId} {gd : Option (Nat × Bool)} {cas : Array Operand} {cts : Array TypeId} {ps : String} {af : Array Edge} {t : Nat} {fv : Operand} {f : FuncId} {caps : List AC} {args ins : List AV} {par : List AC} {rows : List (List AC)} {res : AV} {nv : AV} {nr : List (Nat × Row)} (lr : Nat) (hctr : Ctr Try.prog f ins [par] res rows) (h : Walk Try.prog ops Q C false [] r ⟨upd tm t nv, updL hp (backU hp [lr] rows ++ [] ++ nr.map (fun p => (p.1, some p.2))), gn, nr.map (·.1) ++ us, L⟩) (ht : Nat.blt t L = true := by exact rfl) (hg : gw ops tm (⟨some t, .call ⟨.value fv, cas, cts⟩, ty, ps, af, gd⟩ : Oper) = some true := by exact rfl) (hfv : AS.ev ⟨tm, hp, gn, us, L⟩ fv = .c (.fn f caps) := by exact rfl) (hargs : callArgs ⟨tm, hp, gn, us, L⟩ ⟨.value fv, cas, cts⟩ caps = args := by exact rfl) (hcv : args.map (cvV hp [lr]) = ins := by ((repeat' (first | rfl | exact zx6 | refine zi6 ?_ ?_ | refine zo13 ?_ | refine cv_c ?_ | refine zj6 ?_ ?_ | (refine zt8 ?_; (first | rfl | (simp [cloV, cloL, clo, zj, zf, zk, zg, zd]; done))) | (refine zu8 ?_; (first | rfl | (simp [cloV, cloL, clo, zj, zf, zk, zg, zd]; done))) | refine zv8 ?_ | (refine cvC_sl' (by rfl) (by rfl) (by rfl) (by rfl) ?_ ?_; (focus (first | rfl | (simp [cloV, cloL, clo, zj, zf, zk, zg, zd]; done))); (first | rfl | exact zr5 _)))) <;> exact rfl)) (hl : lend hp [lr] = some [par] := by exact zc20 (by rfl) (by first | rfl | (simp [cloV, cloL, clo, zj, zf, zk, zg, zd]; done))) (hRD : ((args.flatMap snV).all fun z => ![lr].contains z) = true := by exact rfl) (hmm : (rofrV res = true ∧ ∀ c ∈ rows, rofrL c = true) ∨ ((args.flatMap snV).all fun z => ([] : List Nat).contains z) = true := by first | exact .inr rfl | exact .inl ⟨by (first | rfl | exact zl4 _ | (simp [rofrV, rofrVL, rofrL, rofr, zl4, za5, zy4]; done)), ze12 (by (first | rfl | exact zl4 _ | (simp [rofrV, rofrVL, rofrL, rofr, zl4, za5, zy4]; done)))⟩) (hopn : opV (100 * (t + 1)) res = (nv, nr) := by exact rfl) (hf : (nr.all fun p => Nat.ble gn p.1 && !us.contains p.1) = true := by exact rfl) : WalkO Try.prog ops Q C false [] i (⟨some t, .call ⟨.value fv, cas, cts⟩, ty, ps, af, gd⟩ : Oper) r ⟨tm, hp, gn, us, L⟩ := zv4 (dr := false) (H := []) (lr := lr) (hctr := hctr) (h := h) (ht := ht) (hg := hg) (hfv := hfv) (hargs := hargs) (hcv := hcv) (hl := hl) (hRD := hRD) (hmm := hmm) (hopn := hopn) (hf := hf)
theorem zq2 {ty : TypeId} {gd : Option (Nat × Bool)} {ps : String} {af : Array Edge} {t j n m k nm : Nat} {rw : Row} {e T T2 : TypeId} {xo yo : Operand} {ys zs : List AC} (h : Walk Try.prog ops Q C false [] r ⟨upd tm t (.c (.sl t nm)), upd (upd hp j none) t (some ⟨e, k, nm, false, zs⟩), gn, t :: us, L⟩) (ht : Nat.blt t L = true := by exact rfl) (hg : gw ops tm (⟨some t, .call ⟨.builtin .append, #[xo, yo], #[T, T2]⟩, ty, ps, af, gd⟩ : Oper) = some true := by exact rfl) (hf : (Nat.ble gn t && !us.contains t) = true := by exact rfl) (hx : AS.ev ⟨tm, hp, gn, us, L⟩ xo = .c (.sl j n) := by exact rfl) (hr : hp j = some rw := by exact rfl) (hT : appB Try.prog T T2 = some (e, k) := by first | exact (rfl : _ = some ((9 : Nat), (1 : Nat))) | exact (rfl : _ = some ((58 : Nat), (3 : Nat))) | exact (rfl : _ = some ((63 : Nat), (2 : Nat))) | exact (rfl : _ = some ((70 : Nat), (2 : Nat))) | exact (rfl : _ = some ((86 : Nat), (3 : Nat))) | exact (rfl : _ = some ((5 : Nat), (1 : Nat))) | exact (rfl : _ = some ((3 : Nat), (1 : Nat)))) (hy : srcOf hp k (AS.ev ⟨tm, hp, gn, us, L⟩ yo) = some (m, ys) := by first | rfl | exact zr6 rfl rfl rfl rfl) (hnu : ys.all noUn = true := by first | rfl | exact zh6 _) (hr1 : rw.T = e := by exact rfl) (hr2 : rw.k = k := by exact rfl) (hr3 : rw.n = n := by exact rfl) (hr4 : rw.box = false := by exact rfl) (hsz : n + m ≤ 4294967296 := by omega) (hnm : n + m = nm := by first | exact Nat.zero_add _ | rfl) (hz : rw.cs ++ ys = zs := by first | exact List.nil_append _ | rfl) : WalkO Try.prog ops Q C false [] i (⟨some t, .call ⟨.builtin .append, #[xo, yo], #[T, T2]⟩, ty, ps, af, gd⟩ : Oper) r ⟨tm, hp, gn, us, L⟩ := zw2 (dr := false) (H := []) (h := h) (ht := ht) (hg := hg) (hf := hf) (hx := hx) (hr := hr) (hT := hT) (hy := hy) (hnu := hnu) (hr1 := hr1) (hr2 := hr2) (hr3 := hr3) (hr4 := hr4) (hsz := hsz) (hnm := hnm) (hz := hz)
theorem zv1 {ty : TypeId} {gd : Option (Nat × Bool)} {ps : String} {af : Array Edge} {t m k : Nat} {e T T2 : TypeId} {xo yo : Operand} {ys : List AC} (h : Walk Try.prog ops Q C false [] r ⟨upd tm t (.c (.sl t m)), upd hp t (some ⟨e, k, m, false, ys⟩), gn, t :: us, L⟩) (ht : Nat.blt t L = true := by exact rfl) (hg : gw ops tm (⟨some t, .call ⟨.builtin .append, #[xo, yo], #[T, T2]⟩, ty, ps, af, gd⟩ : Oper) = some true := by exact rfl) (hf : (Nat.ble gn t && !us.contains t) = true := by exact rfl) (hx : AS.ev ⟨tm, hp, gn, us, L⟩ xo = .c (.v (.slice none 0 0)) := by exact rfl) (hT : appB Try.prog T T2 = some (e, k) := by first | exact (rfl : _ = some ((9 : Nat), (1 : Nat))) | exact (rfl : _ = some ((58 : Nat), (3 : Nat))) | exact (rfl : _ = some ((63 : Nat), (2 : Nat))) | exact (rfl : _ = some ((70 : Nat), (2 : Nat))) | exact (rfl : _ = some ((86 : Nat), (3 : Nat))) | exact (rfl : _ = some ((5 : Nat), (1 : Nat))) | exact (rfl : _ = some ((3 : Nat), (1 : Nat)))) (hy : srcOf hp k (AS.ev ⟨tm, hp, gn, us, L⟩ yo) = some (m, ys) := by first | rfl | exact zr6 rfl rfl rfl rfl) (hnu : ys.all noUn = true := by first | rfl | exact zh6 _) (hsz : m ≤ 4294967296 := by omega) : WalkO Try.prog ops Q C false [] i (⟨some t, .call ⟨.builtin .append, #[xo, yo], #[T, T2]⟩, ty, ps, af, gd⟩ : Oper) r ⟨tm, hp, gn, us, L⟩ := zx1 (dr := false) (H := []) (h := h) (ht := ht) (hg := hg) (hf := hf) (hx := hx) (hT := hT) (hy := hy) (hnu := hnu) (hsz := hsz)
theorem n_bs {ty : TypeId} {gd : Option (Nat × Bool)} {ps : String} {af : Array Edge} {t n k : Nat} {T e : TypeId} {parts : Array (Nat × Operand)} {zs : List AC} (h : Walk Try.prog ops Q C false [] r ⟨upd tm t (.c (.sl t n)), upd hp t (some ⟨e, k, n, false, zs⟩), gn, t :: us, L⟩) (ht : Nat.blt t L = true := by exact rfl) (hg : gw ops tm (⟨some t, .buildSlice T n parts, ty, ps, af, gd⟩ : Oper) = some true := by exact rfl) (hf : (Nat.ble gn t && !us.contains t) = true := by exact rfl) (hT : sliT Try.prog T = some (e, k) := by first | exact (rfl : _ = some ((9 : Nat), (1 : Nat))) | exact (rfl : _ = some ((58 : Nat), (3 : Nat))) | exact (rfl : _ = some ((63 : Nat), (2 : Nat))) | exact (rfl : _ = some ((70 : Nat), (2 : Nat))) | exact (rfl : _ = some ((86 : Nat), (3 : Nat))) | exact (rfl : _ = some ((5 : Nat), (1 : Nat))) | exact (rfl : _ = some ((3 : Nat), (1 : Nat)))) (hz : catP k 0 (parts.toList.map fun p => (p.1, AS.ev ⟨tm, hp, gn, us, L⟩ p.2)) = some zs := by rfl) (hn : n = parts.toList.length := by rfl) (hb : (Nat.ble (n * k) 16777216 && Nat.ble n 16777216) = true := by rfl) : WalkO Try.prog ops Q C false [] i (⟨some t, .buildSlice T n parts, ty, ps, af, gd⟩ : Oper) r ⟨tm, hp, gn, us, L⟩ := o_bs (dr := false) (H := []) (h := h) (ht := ht) (hg := hg) (hf := hf) (hT := hT) (hz := hz) (hn := hn) (hb := hb)
theorem n_al {ty : TypeId} {gd : Option (Nat × Bool)} {aT : TypeId} {ps : String} {af : Array Edge} {x : AV} {t : Nat} {rw : Row} (h : Walk Try.prog ops Q C false [] r ⟨upd tm t x, upd hp t (some rw), gn, t :: us, L⟩) (ht : Nat.blt t L = true := by exact rfl) (hg : gw ops tm (⟨some t, .alloc aT, ty, ps, af, gd⟩ : Oper) = some true := by exact rfl) (hf : (Nat.ble gn t && !us.contains t) = true := by exact rfl) (he : EffD Try.prog (⟨some t, .alloc aT, ty, ps, af, gd⟩ : Oper) (AS.ev ⟨tm, hp, gn, us, L⟩) hp t = some (x, .gr t rw) := by rfl) : WalkO Try.prog ops Q C false [] i (⟨some t, .alloc aT, ty, ps, af, gd⟩ : Oper) r ⟨tm, hp, gn, us, L⟩ := o_al (dr := false) (H := []) (h := h) (ht := ht) (hg := hg) (hf := hf) (he := he)
theorem n_bo {ty : TypeId} {gd : Option (Nat × Bool)} {aT : TypeId} {ax : Operand} {ps : String} {af : Array Edge} {x : AV} {t : Nat} {rw : Row} (h : Walk Try.prog ops Q C false [] r ⟨upd tm t x, upd hp t (some rw), gn, t :: us, L⟩) (ht : Nat.blt t L = true := by exact rfl) (hg : gw ops tm (⟨some t, .box aT ax, ty, ps, af, gd⟩ : Oper) = some true := by exact rfl) (hf : (Nat.ble gn t && !us.contains t) = true := by exact rfl) (he : EffD Try.prog (⟨some t, .box aT ax, ty, ps, af, gd⟩ : Oper) (AS.ev ⟨tm, hp, gn, us, L⟩) hp t = some (x, .gr t rw) := by rfl) : WalkO Try.prog ops Q C false [] i (⟨some t, .box aT ax, ty, ps, af, gd⟩ : Oper) r ⟨tm, hp, gn, us, L⟩ := o_bo (dr := false) (H := []) (h := h) (ht := ht) (hg := hg) (hf := hf) (he := he)
theorem n_st {ty : TypeId} {gd : Option (Nat × Bool)} {sT : TypeId} {sp sy : Operand} {ps : String} {af : Array Edge} {x : AV} {j : Nat} {rw : Row} (h : Walk Try.prog ops Q C false [] r ⟨tm, upd hp j (some rw), gn, us, L⟩) (hg : gw ops tm (⟨none, .store sT sp sy, ty, ps, af, gd⟩ : Oper) = some true := by exact rfl) (he : EffD Try.prog (⟨none, .store sT sp sy, ty, ps, af, gd⟩ : Oper) (AS.ev ⟨tm, hp, gn, us, L⟩) hp 0 = some (x, .st j rw) := by rfl) : WalkO Try.prog ops Q C false [] i (⟨none, .store sT sp sy, ty, ps, af, gd⟩ : Oper) r ⟨tm, hp, gn, us, L⟩ := o_st (dr := false) (H := []) (h := h) (hg := hg) (he := he)
theorem zt1 {ty : TypeId} {gd : Option (Nat × Bool)} {ps : String} {af : Array Edge} {s off : Nat} {RT : TypeId} {Rk Rn : Nat} {Rb : Bool} {Rc : List AC} {T : TypeId} {p y : Operand} {cs : List AC} (h : Walk Try.prog ops Q C false [] r ⟨tm, upd hp s (some (⟨RT, Rk, Rn, Rb, spl Rc off cs⟩ : Row)), gn, us, L⟩) (hg : gw ops tm (⟨none, .store T p y, ty, ps, af, gd⟩ : Oper) = some true := by exact rfl) (hx : AS.ev ⟨tm, hp, gn, us, L⟩ p = .c (.pt s off) := by exact rfl) (hr : hp s = some ⟨RT, Rk, Rn, Rb, Rc⟩ := by exact rfl) (hy : (AS.ev ⟨tm, hp, gn, us, L⟩ y).cells = some cs := by exact rfl) (hT : (Try.prog.info? T).map (·.size) = some cs.length := by exact rfl) (hnu : cs.all noUn = true := by exact rfl) (hle : off + cs.length ≤ Rc.length := by assumption) : WalkO Try.prog ops Q C false [] i (⟨none, .store T p y, ty, ps, af, gd⟩ : Oper) r ⟨tm, hp, gn, us, L⟩ := zq4 (dr := false) (H := []) (h := h) (hg := hg) (hx := hx) (hr := hr) (hy := hy) (hT := hT) (hnu := hnu) (hle := hle)
theorem n_mv {ty : TypeId} {gd : Option (Nat × Bool)} {sT : TypeId} {sx : Operand} {slo shi smx : Option Operand} {ps : String} {af : Array Edge} {x : AV} {t : Nat} {j : Nat} {rw : Row} (h : Walk Try.prog ops Q C false [] r ⟨upd tm t x, upd (upd hp j none) t (some rw), gn, t :: us, L⟩) (ht : Nat.blt t L = true := by exact rfl) (hg : gw ops tm (⟨some t, .slice sT sx slo shi smx, ty, ps, af, gd⟩ : Oper) = some true := by exact rfl) (hf : (Nat.ble gn t && !us.contains t) = true := by exact rfl) (he : EffD Try.prog (⟨some t, .slice sT sx slo shi smx, ty, ps, af, gd⟩ : Oper) (AS.ev ⟨tm, hp, gn, us, L⟩) hp t = some (x, .mv j t rw) := by rfl) : WalkO Try.prog ops Q C false [] i (⟨some t, .slice sT sx slo shi smx, ty, ps, af, gd⟩ : Oper) r ⟨tm, hp, gn, us, L⟩ := o_mv (dr := false) (H := []) (h := h) (ht := ht) (hg := hg) (hf := hf) (he := he)
theorem n_ld {ty : TypeId} {gd : Option (Nat × Bool)} {ps : String} {af : Array Edge} {x : AV} {t s off : Nat} {rw : Row} {T : TypeId} {p : Operand} {cs : List AC} (h : Walk Try.prog ops Q C false [] r ⟨upd tm t x, hp, gn, us, L⟩) (ht : Nat.blt t L = true := by exact rfl) (hg : gw ops tm (⟨some t, .load T p, ty, ps, af, gd⟩ : Oper) = some true := by rfl) (hx : AS.ev ⟨tm, hp, gn, us, L⟩ p = .c (.pt s off) := by exact rfl) (hr : hp s = some rw := by exact rfl) (hs : subL rw.cs off (Try.prog.cellsOf T) = cs := by assumption) (hm : mkAV Try.prog T cs = some x := by rfl) : WalkO Try.prog ops Q C false [] i (⟨some t, .load T p, ty, ps, af, gd⟩ : Oper) r ⟨tm, hp, gn, us, L⟩ := o_ld (dr := false) (H := []) (h := h) (ht := ht) (hg := hg) (hx := hx) (hr := hr) (hs := hs) (hm := hm)
theorem n_ix {ty : TypeId} {gd : Option (Nat × Bool)} {ps : String} {af : Array Edge} {t n k j : Nat} {l : List E} {e : E} {kd : IntKind} {z : Int} {T : TypeId} {xo io : Operand} (h : Walk Try.prog ops Q C false [] r ⟨upd tm t (.c (.rp (acE e) 0)), hp, gn, us, L⟩) (ht : Nat.blt t L = true := by exact rfl) (hg : gw ops tm (⟨some t, .indexAddr T xo io, ty, ps, af, gd⟩ : Oper) = some true := by exact rfl) (hx : AS.ev ⟨tm, hp, gn, us, L⟩ xo = .c (.ro n k (acL l)) := by exact rfl) (hi : AS.ev ⟨tm, hp, gn, us, L⟩ io = .c (.v (.int kd z)) := by exact rfl) (hT : eltB Try.prog T k = true := by exact rfl) (hz : z = (j : Int) := by first | rfl | omega | assumption) (hn : n = l.length := by exact rfl) (hk : ∀ e ∈ l, e.enc.length = k := by assumption) (he : l[j]? = some e := by assumption) : WalkO Try.prog ops Q C false [] i (⟨some t, .indexAddr T xo io, ty, ps, af, gd⟩ : Oper) r ⟨tm, hp, gn, us, L⟩ := o_ix (dr := false) (H := []) (h := h) (ht := ht) (hg := hg) (hx := hx) (hi := hi) (hT := hT) (hz := hz) (hn := hn) (hk := hk) (he := he)
theorem zc2 {ty : TypeId} {gd : Option (Nat × Bool)} {ps : String} {af : Array Edge} {t n k j s : Nat} {rw : Row} {kd : IntKind} {z : Int} {T : TypeId} {xo io : Operand} (h : Walk Try.prog ops Q C false [] r ⟨upd tm t (.c (.pt s (j * k))), hp, gn, us, L⟩) (ht : Nat.blt t L = true := by exact rfl) (hg : gw ops tm (⟨some t, .indexAddr T xo io, ty, ps, af, gd⟩ : Oper) = some true := by exact rfl) (hx : AS.ev ⟨tm, hp, gn, us, L⟩ xo = .c (.sl s n) := by exact rfl) (hi : AS.ev ⟨tm, hp, gn, us, L⟩ io = .c (.v (.int kd z)) := by exact rfl) (hr : hp s = some rw := by exact rfl) (hb : rw.box = false := by exact rfl) (hn : rw.n = n := by exact rfl) (hk : rw.k = k := by exact rfl) (hT : eltB Try.prog T k = true := by rfl) (hz : z = (j : Int) := by first | rfl | omega | assumption) (hj : j < n := by first | assumption | omega) : WalkO Try.prog ops Q C false [] i (⟨some t, .indexAddr T xo io, ty, ps, af, gd⟩ : Oper) r ⟨tm, hp, gn, us, L⟩ := zz6 (dr := false) (H := []) (h := h) (ht := ht) (hg := hg) (hx := hx) (hi := hi) (hr := hr) (hb := hb) (hn := hn) (hk := hk) (hT := hT) (hz := hz) (hj := hj)
theorem zx3 {ty : TypeId} {gd : Option (Nat × Bool)} {ps : String} {af : Array Edge} {t j : Nat} {T : TypeId} {xo io : Operand} {s : ByteArray} {kd : IntKind} {z : Int} (h : Walk Try.prog ops Q C false [] r ⟨upd tm t (.c (.v (.int .u8 (bAt s j)))), hp, gn, us, L⟩) (hT : (Try.prog).underlying T = some .string := by exact Try.underlying9) (ht : Nat.blt t L = true := by exact rfl) (hg : gw ops tm (⟨some t, .index T xo io, ty, ps, af, gd⟩ : Oper) = some true := by exact rfl) (hx : AS.ev ⟨tm, hp, gn, us, L⟩ xo = .c (.v (.string s)) := by exact rfl) (hi : AS.ev ⟨tm, hp, gn, us, L⟩ io = .c (.v (.int kd z)) := by exact rfl) (hz : z = (j : Int) := by first | assumption | rfl) (hj : j < s.size := by first | assumption | omega | (simp only [beq_iff_eq, decide_eq_true_iff] at *; omega)) : WalkO Try.prog ops Q C false [] i (⟨some t, .index T xo io, ty, ps, af, gd⟩ : Oper) r ⟨tm, hp, gn, us, L⟩ := zo4 (dr := false) (H := []) (h := h) (hT := hT) (ht := ht) (hg := hg) (hx := hx) (hi := hi) (hz := hz) (hj := hj)
theorem zg5 {ty : TypeId} {gd : Option (Nat × Bool)} {ps : String} {af : Array Edge} {t a b : Nat} {T : TypeId} {xo lo hi : Operand} {s : ByteArray} {k1 k2 : IntKind} {y z : Int} (h : Walk Try.prog ops Q C false [] r ⟨upd tm t (.c (.v (.string (cutB s a b)))), hp, gn, us, L⟩) (hT : (Try.prog).underlying T = some .string := by exact Try.underlying9) (ht : Nat.blt t L = true := by exact rfl) (hg : gw ops tm (⟨some t, .slice T xo (some lo) (some hi) none, ty, ps, af, gd⟩ : Oper) = some true := by exact rfl) (hx : AS.ev ⟨tm, hp, gn, us, L⟩ xo = .c (.v (.string s)) := by exact rfl) (hl : AS.ev ⟨tm, hp, gn, us, L⟩ lo = .c (.v (.int k1 y)) := by exact rfl) (hh : AS.ev ⟨tm, hp, gn, us, L⟩ hi = .c (.v (.int k2 z)) := by exact rfl) (hy : y = (a : Int) := by first | assumption | rfl) (hz : z = (b : Int) := by first | assumption | rfl) (h1 : a ≤ b := by first | assumption | omega) (h2 : b ≤ s.size := by first | assumption | omega) : WalkO Try.prog ops Q C false [] i (⟨some t, .slice T xo (some lo) (some hi) none, ty, ps, af, gd⟩ : Oper) r ⟨tm, hp, gn, us, L⟩ := zb5 (dr := false) (H := []) (h := h) (hT := hT) (ht := ht) (hg := hg) (hx := hx) (hl := hl) (hh := hh) (hy := hy) (hz := hz) (h1 := h1) (h2 := h2)
theorem zh5 {ty : TypeId} {gd : Option (Nat × Bool)} {ps : String} {af : Array Edge} {t a : Nat} {T : TypeId} {xo lo : Operand} {s : ByteArray} {k1 : IntKind} {y : Int} (h : Walk Try.prog ops Q C false [] r ⟨upd tm t (.c (.v (.string (cutB s a s.size)))), hp, gn, us, L⟩) (hT : (Try.prog).underlying T = some .string := by exact Try.underlying9) (ht : Nat.blt t L = true := by exact rfl) (hg : gw ops tm (⟨some t, .slice T xo (some lo) none none, ty, ps, af, gd⟩ : Oper) = some true := by exact rfl) (hx : AS.ev ⟨tm, hp, gn, us, L⟩ xo = .c (.v (.string s)) := by exact rfl) (hl : AS.ev ⟨tm, hp, gn, us, L⟩ lo = .c (.v (.int k1 y)) := by exact rfl) (hy : y = (a : Int) := by first | assumption | rfl) (h1 : a ≤ s.size := by first | assumption | omega) : WalkO Try.prog ops Q C false [] i (⟨some t, .slice T xo (some lo) none none, ty, ps, af, gd⟩ : Oper) r ⟨tm, hp, gn, us, L⟩ := zc5 (dr := false) (H := []) (h := h) (hT := hT) (ht := ht) (hg := hg) (hx := hx) (hl := hl) (hy := hy) (h1 := h1)
theorem zi5 {ty : TypeId} {gd : Option (Nat × Bool)} {ps : String} {af : Array Edge} {t b : Nat} {T : TypeId} {xo hi : Operand} {s : ByteArray} {k2 : IntKind} {z : Int} (h : Walk Try.prog ops Q C false [] r ⟨upd tm t (.c (.v (.string (cutB s 0 b)))), hp, gn, us, L⟩) (hT : (Try.prog).underlying T = some .string := by exact Try.underlying9) (ht : Nat.blt t L = true := by exact rfl) (hg : gw ops tm (⟨some t, .slice T xo none (some hi) none, ty, ps, af, gd⟩ : Oper) = some true := by exact rfl) (hx : AS.ev ⟨tm, hp, gn, us, L⟩ xo = .c (.v (.string s)) := by exact rfl) (hh : AS.ev ⟨tm, hp, gn, us, L⟩ hi = .c (.v (.int k2 z)) := by exact rfl) (hz : z = (b : Int) := by first | assumption | rfl) (h2 : b ≤ s.size := by first | assumption | omega) : WalkO Try.prog ops Q C false [] i (⟨some t, .slice T xo none (some hi) none, ty, ps, af, gd⟩ : Oper) r ⟨tm, hp, gn, us, L⟩ := zd5 (dr := false) (H := []) (h := h) (hT := hT) (ht := ht) (hg := hg) (hx := hx) (hh := hh) (hz := hz) (h2 := h2)
theorem zo {ty : TypeId} {gd : Option (Nat × Bool)} {bT bU : TypeId} {bx by_ : Operand} {ps : String} {af : Array Edge} {t : Nat} {z : Int} (h : Walk Try.prog ops Q C false [] r ⟨upd tm t (.c (.v (.int .i64 z))), hp, gn, us, L⟩) (hb : ariB (.binOp .add bT bx by_ bU) = true := by exact rfl) (ht : Nat.blt t L = true := by exact rfl) (hg : gw ops tm (⟨some t, .binOp .add bT bx by_ bU, ty, ps, af, gd⟩ : Oper) = some true := by exact rfl) (he : EffD Try.prog (⟨some t, .binOp .add bT bx by_ bU, ty, ps, af, gd⟩ : Oper) (AS.ev ⟨tm, hp, gn, us, L⟩) hp 0 = some (.c (.v (.int .i64 (IntKind.i64.wrap z))), .nop) := by rfl) (hz : -9223372036854775808 ≤ z ∧ z ≤ 9223372036854775807 := by omega) : WalkO Try.prog ops Q C false [] i (⟨some t, .binOp .add bT bx by_ bU, ty, ps, af, gd⟩ : Oper) r ⟨tm, hp, gn, us, L⟩ := zl1 (dr := false) (H := []) (h := h) (hb := hb) (ht := ht) (hg := hg) (he := he) (hz := hz)
theorem zg2 {ty : TypeId} {gd : Option (Nat × Bool)} {bT bU : TypeId} {bx by_ : Operand} {ps : String} {af : Array Edge} {t : Nat} {z : Int} (h : Walk Try.prog ops Q C false [] r ⟨upd tm t (.c (.v (.int .i64 z))), hp, gn, us, L⟩) (hb : ariB (.binOp .sub bT bx by_ bU) = true := by exact rfl) (ht : Nat.blt t L = true := by exact rfl) (hg : gw ops tm (⟨some t, .binOp .sub bT bx by_ bU, ty, ps, af, gd⟩ : Oper) = some true := by exact rfl) (he : EffD Try.prog (⟨some t, .binOp .sub bT bx by_ bU, ty, ps, af, gd⟩ : Oper) (AS.ev ⟨tm, hp, gn, us, L⟩) hp 0 = some (.c (.v (.int .i64 (IntKind.i64.wrap z))), .nop) := by rfl) (hz : -9223372036854775808 ≤ z ∧ z ≤ 9223372036854775807 := by omega) : WalkO Try.prog ops Q C false [] i (⟨some t, .binOp .sub bT bx by_ bU, ty, ps, af, gd⟩ : Oper) r ⟨tm, hp, gn, us, L⟩ := zm1 (dr := false) (H := []) (h := h) (hb := hb) (ht := ht) (hg := hg) (he := he) (hz := hz)
theorem zh2 {ty : TypeId} {gd : Option (Nat × Bool)} {bT bU : TypeId} {bx by_ : Operand} {ps : String} {af : Array Edge} {t : Nat} {z : Int} (h : Walk Try.prog ops Q C false [] r ⟨upd tm t (.c (.v (.int .i64 z))), hp, gn, us, L⟩) (hb : ariB (.binOp .mul bT bx by_ bU) = true := by exact rfl) (ht : Nat.blt t L = true := by exact rfl) (hg : gw ops tm (⟨some t, .binOp .mul bT bx by_ bU, ty, ps, af, gd⟩ : Oper) = some true := by exact rfl) (he : EffD Try.prog (⟨some t, .binOp .mul bT bx by_ bU, ty, ps, af, gd⟩ : Oper) (AS.ev ⟨tm, hp, gn, us, L⟩) hp 0 = some (.c (.v (.int .i64 (IntKind.i64.wrap z))), .nop) := by rfl) (hz : -9223372036854775808 ≤ z ∧ z ≤ 9223372036854775807 := by omega) : WalkO Try.prog ops Q C false [] i (⟨some t, .binOp .mul bT bx by_ bU, ty, ps, af, gd⟩ : Oper) r ⟨tm, hp, gn, us, L⟩ := zn1 (dr := false) (H := []) (h := h) (hb := hb) (ht := ht) (hg := hg) (he := he) (hz := hz)
theorem n_int_cv {ty : TypeId} {gd : Option (Nat × Bool)} {cs cd : TypeId} {cx : Operand} {ps : String} {af : Array Edge} {t : Nat} {z : Int} (h : Walk Try.prog ops Q C false [] r ⟨upd tm t (.c (.v (.int .i64 z))), hp, gn, us, L⟩) (hb : ariB (.convert cs cd cx) = true := by exact rfl) (ht : Nat.blt t L = true := by exact rfl) (hg : gw ops tm (⟨some t, .convert cs cd cx, ty, ps, af, gd⟩ : Oper) = some true := by exact rfl) (he : EffD Try.prog (⟨some t, .convert cs cd cx, ty, ps, af, gd⟩ : Oper) (AS.ev ⟨tm, hp, gn, us, L⟩) hp 0 = some (.c (.v (.int .i64 (IntKind.i64.wrap z))), .nop) := by rfl) (hz : -9223372036854775808 ≤ z ∧ z ≤ 9223372036854775807 := by omega) : WalkO Try.prog ops Q C false [] i (⟨some t, .convert cs cd cx, ty, ps, af, gd⟩ : Oper) r ⟨tm, hp, gn, us, L⟩ := zc3 (dr := false) (H := []) (h := h) (hb := hb) (ht := ht) (hg := hg) (he := he) (hz := hz)
theorem zr1 {gd : Option (Nat × Bool)} {ps : String} {af : Array Edge} {t : Nat} {T ty : TypeId} {xo yo : Operand} {a b : ByteArray} (h : Walk Try.prog ops Q C false [] r ⟨upd tm t (.c (.v (.string (a ++ b)))), hp, gn, us, L⟩) (hT : (Try.prog).underlying T = some .string := by exact Try.underlying9) (ht : Nat.blt t L = true := by exact rfl) (hg : gw ops tm (⟨some t, .binOp .add T xo yo ty, ty, ps, af, gd⟩ : Oper) = some true := by exact rfl) (hx : AS.ev ⟨tm, hp, gn, us, L⟩ xo = .c (.v (.string a)) := by exact rfl) (hy : AS.ev ⟨tm, hp, gn, us, L⟩ yo = .c (.v (.string b)) := by exact rfl) (hs : a.size + b.size ≤ 9223372036854775807 := by first | omega | (simp only [ByteArray.size_append', ByteArray.size_mk', List.size_toArray, List.length_cons, List.length_nil]; omega)) : WalkO Try.prog ops Q C false [] i (⟨some t, .binOp .add T xo yo ty, ty, ps, af, gd⟩ : Oper) r ⟨tm, hp, gn, us, L⟩ := zw3 (dr := false) (H := []) (h := h) (hT := hT) (ht := ht) (hg := hg) (hx := hx) (hy := hy) (hs := hs)
theorem zp4 {ty : TypeId} {gd : Option (Nat × Bool)} {ps : String} {af : Array Edge} {t c : Nat} {s d : TypeId} {xo : Operand} {k : IntKind} (h : Walk Try.prog ops Q C false [] r ⟨upd tm t (.c (.v (.string ⟨#[UInt8.ofNat c]⟩))), hp, gn, us, L⟩) (ht : Nat.blt t L = true := by exact rfl) (hg : gw ops tm (⟨some t, .convert s d xo, ty, ps, af, gd⟩ : Oper) = some true := by exact rfl) (hx : AS.ev ⟨tm, hp, gn, us, L⟩ xo = .c (.v (.int k (c : Int))) := by exact rfl) (hs : (Try.prog).underlying s = some (.int k) := by kernel_rfl) (hdd : (Try.prog).underlying d = some .string := by kernel_rfl) (hcl : c < 128 := by first | assumption | omega) : WalkO Try.prog ops Q C false [] i (⟨some t, .convert s d xo, ty, ps, af, gd⟩ : Oper) r ⟨tm, hp, gn, us, L⟩ := zn4 (dr := false) (H := []) (h := h) (ht := ht) (hg := hg) (hx := hx) (hs := hs) (hdd := hdd) (hcl := hcl)
theorem zj5 {ty : TypeId} {gd : Option (Nat × Bool)} {ps : String} {af : Array Edge} {t j n : Nat} {s d : TypeId} {xo : Operand} {rw : Row} {bs : List UInt8} (h : Walk Try.prog ops Q C false [] r ⟨upd tm t (.c (.v (.string ⟨bs.toArray⟩))), hp, gn, us, L⟩) (ht : Nat.blt t L = true := by exact rfl) (hg : gw ops tm (⟨some t, .convert s d xo, ty, ps, af, gd⟩ : Oper) = some true := by exact rfl) (hx : AS.ev ⟨tm, hp, gn, us, L⟩ xo = .c (.sl j n) := by exact rfl) (hr : hp j = some rw := by exact rfl) (h1 : rw.k = 1 := by exact rfl) (h2 : rw.n = n := by exact rfl) (h3 : rw.box = false := by exact rfl) (hcs : rw.cs = bytC bs := by exact rfl) (hT : convB Try.prog s d = true := by kernel_rfl) : WalkO Try.prog ops Q C false [] i (⟨some t, .convert s d xo, ty, ps, af, gd⟩ : Oper) r ⟨tm, hp, gn, us, L⟩ := ze5 (dr := false) (H := []) (h := h) (ht := ht) (hg := hg) (hx := hx) (hr := hr) (h1 := h1) (h2 := h2) (h3 := h3) (hcs := hcs) (hT := hT)
theorem zk5 {ty : TypeId} {gd : Option (Nat × Bool)} {ps : String} {af : Array Edge} {t n : Nat} {s d : TypeId} {xo : Operand} {l : List E} (h : Walk Try.prog ops Q C false [] r ⟨upd tm t (.c (.v (.string ⟨(bytE l).toArray⟩))), hp, gn, us, L⟩) (ht : Nat.blt t L = true := by exact rfl) (hg : gw ops tm (⟨some t, .convert s d xo, ty, ps, af, gd⟩ : Oper) = some true := by exact rfl) (hx : AS.ev ⟨tm, hp, gn, us, L⟩ xo = .c (.ro n 1 (acL l)) := by exact rfl) (hl : ∀ e ∈ l, ∃ z, e = .int .u8 z := by assumption) (hT : convB Try.prog s d = true := by kernel_rfl) : WalkO Try.prog ops Q C false [] i (⟨some t, .convert s d xo, ty, ps, af, gd⟩ : Oper) r ⟨tm, hp, gn, us, L⟩ := zf5 (dr := false) (H := []) (h := h) (ht := ht) (hg := hg) (hx := hx) (hl := hl) (hT := hT)
theorem za {ty : TypeId} {gd : Option (Nat × Bool)} {op : Op} {ps : String} {af : Array Edge} {x : AV} {t : Nat} (h : Walk Try.prog ops Q C false [] r ⟨upd tm t x, hp, gn, us, L⟩) (ht : Nat.blt t L = true := by exact rfl) (hg : gw ops tm (⟨some t, op, ty, ps, af, gd⟩ : Oper) = some true := by exact rfl) (he : EffD Try.prog (⟨some t, op, ty, ps, af, gd⟩ : Oper) (AS.ev ⟨tm, hp, gn, us, L⟩) hp 0 = some (x, .nop) := by rfl) : WalkO Try.prog ops Q C false [] i (⟨some t, op, ty, ps, af, gd⟩ : Oper) r ⟨tm, hp, gn, us, L⟩ := zr (dr := false) (H := []) (h := h) (ht := ht) (hg := hg) (he := he)
theorem n_fa {t : Nat} {ty : TypeId} {gd : Option (Nat × Bool)} {ps : String} {af : Array Edge} {S : TypeId} {f : Nat} {p : Operand} {i0 o0 off : Nat} [hF : FldI Try.prog S f off] (h : Walk Try.prog ops Q C false [] r ⟨upd tm t (.c (.pt i0 (o0 + off))), hp, gn, us, L⟩) (hx : AS.ev ⟨tm, hp, gn, us, L⟩ p = .c (.pt i0 o0) := by exact rfl) (ht : Nat.blt t L = true := by exact rfl) (hg : gw ops tm (⟨some t, .fieldAddr S p f, ty, ps, af, gd⟩ : Oper) = some true := by exact rfl) : WalkO Try.prog ops Q C false [] i (⟨some t, .fieldAddr S p f, ty, ps, af, gd⟩ : Oper) r ⟨tm, hp, gn, us, L⟩ := o_fa (dr := false) (H := []) (h := h) (hx := hx) (ht := ht) (hg := hg)
theorem zk1 {t : Nat} {ty : TypeId} {gd : Option (Nat × Bool)} {ps : String} {af : Array Edge} {S : TypeId} {f : Nat} {p : Operand} {l : List AC} {o0 off : Nat} [hF : FldI Try.prog S f off] (h : Walk Try.prog ops Q C false [] r ⟨upd tm t (.c (.rp l (o0 + off))), hp, gn, us, L⟩) (hx : AS.ev ⟨tm, hp, gn, us, L⟩ p = .c (.rp l o0) := by exact rfl) (ht : Nat.blt t L = true := by exact rfl) (hg : gw ops tm (⟨some t, .fieldAddr S p f, ty, ps, af, gd⟩ : Oper) = some true := by exact rfl) : WalkO Try.prog ops Q C false [] i (⟨some t, .fieldAddr S p f, ty, ps, af, gd⟩ : Oper) r ⟨tm, hp, gn, us, L⟩ := zb4 (dr := false) (H := []) (h := h) (hx := hx) (ht := ht) (hg := hg)
theorem zp1 {t : Nat} {ty : TypeId} {gd : Option (Nat × Bool)} {ps : String} {af : Array Edge} {T : TypeId} {p : Operand} {i0 o0 : Nat} {rw : Row} {c : AC} [hF : OneI Try.prog T] (h : Walk Try.prog ops Q C false [] r ⟨upd tm t (.c c), hp, gn, us, L⟩) (hx : AS.ev ⟨tm, hp, gn, us, L⟩ p = .c (.pt i0 o0) := by exact rfl) (hr : hp i0 = some rw := by exact rfl) (hcs : rw.cs[o0]? = some c := by exact rfl) (hld : ld c = c := by exact rfl) (ht : Nat.blt t L = true := by exact rfl) (hg : gw ops tm (⟨some t, .load T p, ty, ps, af, gd⟩ : Oper) = some true := by exact rfl) : WalkO Try.prog ops Q C false [] i (⟨some t, .load T p, ty, ps, af, gd⟩ : Oper) r ⟨tm, hp, gn, us, L⟩ := zc4 (dr := false) (H := []) (h := h) (hx := hx) (hr := hr) (hcs := hcs) (hld := hld) (ht := ht) (hg := hg)
theorem zb1 {t : Nat} {ty : TypeId} {gd : Option (Nat × Bool)} {ps : String} {af : Array Edge} {T : TypeId} {p : Operand} {l : List AC} {o0 : Nat} {c : AC} [hF : OneI Try.prog T] (h : Walk Try.prog ops Q C false [] r ⟨upd tm t (.c c), hp, gn, us, L⟩) (hx : AS.ev ⟨tm, hp, gn, us, L⟩ p = .c (.rp l o0) := by exact rfl) (hcs : l[o0]? = some c := by exact rfl) (hld : ld c = c := by exact rfl) (ht : Nat.blt t L = true := by exact rfl) (hg : gw ops tm (⟨some t, .load T p, ty, ps, af, gd⟩ : Oper) = some true := by exact rfl) : WalkO Try.prog ops Q C false [] i (⟨some t, .load T p, ty, ps, af, gd⟩ : Oper) r ⟨tm, hp, gn, us, L⟩ := zz2 (dr := false) (H := []) (h := h) (hx := hx) (hcs := hcs) (hld := hld) (ht := ht) (hg := hg)
theorem zi1 {t : Nat} {ty : TypeId} {gd : Option (Nat × Bool)} {ps : String} {af : Array Edge} {T : TypeId} {p : Operand} {i0 n : Nat} {cs : List AC} {rT : TypeId} {rk rn : Nat} {rb : Bool} [hF : AggI Try.prog T n] (h : Walk Try.prog ops Q C false [] r ⟨upd tm t (.ag cs), hp, gn, us, L⟩) (hx : AS.ev ⟨tm, hp, gn, us, L⟩ p = .c (.pt i0 0) := by exact rfl) (hr : hp i0 = some ⟨rT, rk, rn, rb, cs⟩ := by exact rfl) (hn : cs.length = n := by exact rfl) (hld : cs.map ld = cs := by exact rfl) (ht : Nat.blt t L = true := by exact rfl) (hg : gw ops tm (⟨some t, .load T p, ty, ps, af, gd⟩ : Oper) = some true := by exact rfl) : WalkO Try.prog ops Q C false [] i (⟨some t, .load T p, ty, ps, af, gd⟩ : Oper) r ⟨tm, hp, gn, us, L⟩ := zd4 (dr := false) (H := []) (h := h) (hx := hx) (hr := hr) (hn := hn) (hld := hld) (ht := ht) (hg := hg)
theorem zw {t : Nat} {ty : TypeId} {gd : Option (Nat × Bool)} {ps : String} {af : Array Edge} {T : TypeId} {p : Operand} {n : Nat} {cs : List AC} [hF : AggI Try.prog T n] (h : Walk Try.prog ops Q C false [] r ⟨upd tm t (.ag cs), hp, gn, us, L⟩) (hx : AS.ev ⟨tm, hp, gn, us, L⟩ p = .c (.rp cs 0) := by exact rfl) (hn : cs.length = n := by exact rfl) (hld : cs.map ld = cs := by exact rfl) (ht : Nat.blt t L = true := by exact rfl) (hg : gw ops tm (⟨some t, .load T p, ty, ps, af, gd⟩ : Oper) = some true := by exact rfl) : WalkO Try.prog ops Q C false [] i (⟨some t, .load T p, ty, ps, af, gd⟩ : Oper) r ⟨tm, hp, gn, us, L⟩ := za3 (dr := false) (H := []) (h := h) (hx := hx) (hn := hn) (hld := hld) (ht := ht) (hg := hg)
theorem zc1 {t : Nat} {ty : TypeId} {gd : Option (Nat × Bool)} {ps : String} {af : Array Edge} {T : TypeId} {y : Operand} {s : ByteArray} [hF : StrI Try.prog T] (h : Walk Try.prog ops Q C false [] r ⟨upd tm t (.c (.v (.int .i64 s.size))), hp, gn, us, L⟩) (hx : AS.ev ⟨tm, hp, gn, us, L⟩ y = .c (.v (.string s)) := by exact rfl) (ht : Nat.blt t L = true := by exact rfl) (hg : gw ops tm (⟨some t, .call ⟨.builtin .len, #[y], #[T]⟩, ty, ps, af, gd⟩ : Oper) = some true := by exact rfl) : WalkO Try.prog ops Q C false [] i (⟨some t, .call ⟨.builtin .len, #[y], #[T]⟩, ty, ps, af, gd⟩ : Oper) r ⟨tm, hp, gn, us, L⟩ := zm3 (dr := false) (H := []) (h := h) (hx := hx) (ht := ht) (hg := hg)
theorem zd1 {t : Nat} {ty : TypeId} {gd : Option (Nat × Bool)} {ps : String} {af : Array Edge} {T : TypeId} {y : Operand} {n k : Nat} {l : List AC} [hF : SlcI Try.prog T] (h : Walk Try.prog ops Q C false [] r ⟨upd tm t (.c (.v (.int .i64 n))), hp, gn, us, L⟩) (hx : AS.ev ⟨tm, hp, gn, us, L⟩ y = .c (.ro n k l) := by exact rfl) (ht : Nat.blt t L = true := by exact rfl) (hg : gw ops tm (⟨some t, .call ⟨.builtin .len, #[y], #[T]⟩, ty, ps, af, gd⟩ : Oper) = some true := by exact rfl) : WalkO Try.prog ops Q C false [] i (⟨some t, .call ⟨.builtin .len, #[y], #[T]⟩, ty, ps, af, gd⟩ : Oper) r ⟨tm, hp, gn, us, L⟩ := zn3 (dr := false) (H := []) (h := h) (hx := hx) (ht := ht) (hg := hg)
theorem ze1 {t : Nat} {ty : TypeId} {gd : Option (Nat × Bool)} {ps : String} {af : Array Edge} {T : TypeId} {y : Operand} {j n : Nat} [hF : SlcI Try.prog T] (h : Walk Try.prog ops Q C false [] r ⟨upd tm t (.c (.v (.int .i64 n))), hp, gn, us, L⟩) (hx : AS.ev ⟨tm, hp, gn, us, L⟩ y = .c (.sl j n) := by exact rfl) (ht : Nat.blt t L = true := by exact rfl) (hg : gw ops tm (⟨some t, .call ⟨.builtin .len, #[y], #[T]⟩, ty, ps, af, gd⟩ : Oper) = some true := by exact rfl) : WalkO Try.prog ops Q C false [] i (⟨some t, .call ⟨.builtin .len, #[y], #[T]⟩, ty, ps, af, gd⟩ : Oper) r ⟨tm, hp, gn, us, L⟩ := zo3 (dr := false) (H := []) (h := h) (hx := hx) (ht := ht) (hg := hg)
theorem zg1 {ty : TypeId} {gd : Option (Nat × Bool)} {ps : String} {af : Array Edge} {t : Nat} {y : Operand} (v : AV) (h : Walk Try.prog ops Q C false [] r ⟨upd tm t v, hp, gn, us, L⟩) (ht : Nat.blt t L = true := by exact rfl) (hg : gw ops tm (⟨some t, .move y, ty, ps, af, gd⟩ : Oper) = some true := by exact rfl) (hy : AS.ev ⟨tm, hp, gn, us, L⟩ y = v := by exact rfl) : WalkO Try.prog ops Q C false [] i (⟨some t, .move y, ty, ps, af, gd⟩ : Oper) r ⟨tm, hp, gn, us, L⟩ := za (x := v) h ht hg (congrArg (fun z => some (z, Dl.nop)) hy)
theorem zf1 {ty : TypeId} {gd : Option (Nat × Bool)} {ps : String} {af : Array Edge} {t : Nat} {y : Operand} (v : AV) (h : Walk Try.prog ops Q C false [] r ⟨upd tm t v, hp, gn, us, L⟩) (ht : Nat.blt t L = true := by exact rfl) (hg : gw ops tm (⟨some t, .assign y, ty, ps, af, gd⟩ : Oper) = some true := by exact rfl) (hy : AS.ev ⟨tm, hp, gn, us, L⟩ y = v := by exact rfl) : WalkO Try.prog ops Q C false [] i (⟨some t, .assign y, ty, ps, af, gd⟩ : Oper) r ⟨tm, hp, gn, us, L⟩ := za (x := v) h ht hg (congrArg (fun z => some (z, Dl.nop)) hy)
theorem zu1 {ty : TypeId} {gd : Option (Nat × Bool)} {ps : String} {af : Array Edge} {t : Nat} {c a b : Operand} (v : AV) (h : Walk Try.prog ops Q C false [] r ⟨upd tm t v, hp, gn, us, L⟩) (ht : Nat.blt t L = true := by exact rfl) (hg : gw ops tm (⟨some t, .pick c a b, ty, ps, af, gd⟩ : Oper) = some true := by exact rfl) (hy : aPick (AS.ev ⟨tm, hp, gn, us, L⟩ c) (AS.ev ⟨tm, hp, gn, us, L⟩ a) (AS.ev ⟨tm, hp, gn, us, L⟩ b) = some v := by exact rfl) : WalkO Try.prog ops Q C false [] i (⟨some t, .pick c a b, ty, ps, af, gd⟩ : Oper) r ⟨tm, hp, gn, us, L⟩ := za (x := v) h ht hg (congrArg nop? hy)
theorem n_exv {ty : TypeId} {gd : Option (Nat × Bool)} {ps : String} {af : Array Edge} {t : Nat} {y : Operand} {j : Nat} (v : AV) (h : Walk Try.prog ops Q C false [] r ⟨upd tm t v, hp, gn, us, L⟩) (ht : Nat.blt t L = true := by exact rfl) (hg : gw ops tm (⟨some t, .extract y j, ty, ps, af, gd⟩ : Oper) = some true := by exact rfl) (hy : aExtract j (AS.ev ⟨tm, hp, gn, us, L⟩ y) = some v := by exact rfl) : WalkO Try.prog ops Q C false [] i (⟨some t, .extract y j, ty, ps, af, gd⟩ : Oper) r ⟨tm, hp, gn, us, L⟩ := za (x := v) h ht hg (congrArg nop? hy)
theorem zw1 {ty : TypeId} {gd : Option (Nat × Bool)} {ps : String} {af : Array Edge} {t : Nat} {y : Operand} {b : Bool} (h1 : b = true → Walk Try.prog ops Q C false [] r ⟨upd tm t (.c (.v (.bool true))), hp, gn, us, L⟩) (h2 : b = false → Walk Try.prog ops Q C false [] r ⟨upd tm t (.c (.v (.bool false))), hp, gn, us, L⟩) (hgd : gdL i ops.toList = true := by exact rfl) (hy : AS.ev ⟨tm, hp, gn, us, L⟩ y = .c (.v (.bool b)) := by exact rfl) (ht : Nat.blt t L = true := by exact rfl) (hg : gw ops tm (⟨some t, .move y, ty, ps, af, gd⟩ : Oper) = some true := by exact rfl) : WalkO Try.prog ops Q C false [] i (⟨some t, .move y, ty, ps, af, gd⟩ : Oper) r ⟨tm, hp, gn, us, L⟩ := by
  cases b with
  | true => exact zg1 _ (h1 rfl) ht hg hy
  | false => exact zg1 _ (h2 rfl) ht hg hy
theorem za21 {ty : TypeId} {gd : Option (Nat × Bool)} {ps : String} {af : Array Edge} {t : Nat} {x y : Operand} {U : TypeId} {z1 z2 : Int} {ev : Operand → AV} (hx : ev x = .c (.v (.int .i64 z1))) (hy : ev y = .c (.v (.int .i64 z2))) : EffD Try.prog (⟨some t, .binOp .eql 3 x y U, ty, ps, af, gd⟩ : Oper) ev hp 0 = some (.c (.v (.bool (z1 == z2))), .nop) := by
  (show nop? (aScal _ _ _) = _; rw [zt5 rfl (by intro q hq; have hq' : q = x ∨ q = y := (by have h2 : q ∈ [x, y] := Array.mem_toList_iff.2 hq; simpa using h2); rcases hq' with rfl | rfl <;> first | (rw [hx]; rfl) | (rw [hy]; rfl))]; have e : ∀ f : Operand → Value, f x = ((AV.val? (ev x)).getD undef) → True := fun _ _ => trivial; clear e; unfold execOp; dsimp only; rw [hx, hy]; rfl)
theorem za1 {ty : TypeId} {gd : Option (Nat × Bool)} {ps : String} {af : Array Edge} {t : Nat} {x y : Operand} {U : TypeId} {z1 z2 : Int} (h : Walk Try.prog ops Q C false [] r ⟨upd tm t (.c (.v (.bool (z1 == z2)))), hp, gn, us, L⟩) (ht : Nat.blt t L = true := by exact rfl) (hg : gw ops tm (⟨some t, .binOp .eql 3 x y U, ty, ps, af, gd⟩ : Oper) = some true := by exact rfl) (hx : AS.ev ⟨tm, hp, gn, us, L⟩ x = .c (.v (.int .i64 z1)) := by exact rfl) (hy : AS.ev ⟨tm, hp, gn, us, L⟩ y = .c (.v (.int .i64 z2)) := by exact rfl) : WalkO Try.prog ops Q C false [] i (⟨some t, .binOp .eql 3 x y U, ty, ps, af, gd⟩ : Oper) r ⟨tm, hp, gn, us, L⟩ := za h ht hg (za21 hx hy)
theorem zb21 {ty : TypeId} {gd : Option (Nat × Bool)} {ps : String} {af : Array Edge} {t : Nat} {x y : Operand} {U : TypeId} {z1 z2 : Int} {ev : Operand → AV} (hx : ev x = .c (.v (.int .i64 z1))) (hy : ev y = .c (.v (.int .i64 z2))) : EffD Try.prog (⟨some t, .binOp .neq 3 x y U, ty, ps, af, gd⟩ : Oper) ev hp 0 = some (.c (.v (.bool (z1 != z2))), .nop) := by
  (show nop? (aScal _ _ _) = _; rw [zt5 rfl (by intro q hq; have hq' : q = x ∨ q = y := (by have h2 : q ∈ [x, y] := Array.mem_toList_iff.2 hq; simpa using h2); rcases hq' with rfl | rfl <;> first | (rw [hx]; rfl) | (rw [hy]; rfl))]; have e : ∀ f : Operand → Value, f x = ((AV.val? (ev x)).getD undef) → True := fun _ _ => trivial; clear e; unfold execOp; dsimp only; rw [hx, hy]; rfl)
theorem zk2 {ty : TypeId} {gd : Option (Nat × Bool)} {ps : String} {af : Array Edge} {t : Nat} {x y : Operand} {U : TypeId} {z1 z2 : Int} (h : Walk Try.prog ops Q C false [] r ⟨upd tm t (.c (.v (.bool (z1 != z2)))), hp, gn, us, L⟩) (ht : Nat.blt t L = true := by exact rfl) (hg : gw ops tm (⟨some t, .binOp .neq 3 x y U, ty, ps, af, gd⟩ : Oper) = some true := by exact rfl) (hx : AS.ev ⟨tm, hp, gn, us, L⟩ x = .c (.v (.int .i64 z1)) := by exact rfl) (hy : AS.ev ⟨tm, hp, gn, us, L⟩ y = .c (.v (.int .i64 z2)) := by exact rfl) : WalkO Try.prog ops Q C false [] i (⟨some t, .binOp .neq 3 x y U, ty, ps, af, gd⟩ : Oper) r ⟨tm, hp, gn, us, L⟩ := za h ht hg (zb21 hx hy)
theorem zc21 {ty : TypeId} {gd : Option (Nat × Bool)} {ps : String} {af : Array Edge} {t : Nat} {x y : Operand} {U : TypeId} {z1 z2 : Int} {ev : Operand → AV} (hx : ev x = .c (.v (.int .i64 z1))) (hy : ev y = .c (.v (.int .i64 z2))) : EffD Try.prog (⟨some t, .binOp .lss 3 x y U, ty, ps, af, gd⟩ : Oper) ev hp 0 = some (.c (.v (.bool (decide (z1 < z2)))), .nop) := by
  (show nop? (aScal _ _ _) = _; rw [zt5 rfl (by intro q hq; have hq' : q = x ∨ q = y := (by have h2 : q ∈ [x, y] := Array.mem_toList_iff.2 hq; simpa using h2); rcases hq' with rfl | rfl <;> first | (rw [hx]; rfl) | (rw [hy]; rfl))]; have e : ∀ f : Operand → Value, f x = ((AV.val? (ev x)).getD undef) → True := fun _ _ => trivial; clear e; unfold execOp; dsimp only; rw [hx, hy]; rfl)
theorem zq {ty : TypeId} {gd : Option (Nat × Bool)} {ps : String} {af : Array Edge} {t : Nat} {x y : Operand} {U : TypeId} {z1 z2 : Int} (h : Walk Try.prog ops Q C false [] r ⟨upd tm t (.c (.v (.bool (decide (z1 < z2))))), hp, gn, us, L⟩) (ht : Nat.blt t L = true := by exact rfl) (hg : gw ops tm (⟨some t, .binOp .lss 3 x y U, ty, ps, af, gd⟩ : Oper) = some true := by exact rfl) (hx : AS.ev ⟨tm, hp, gn, us, L⟩ x = .c (.v (.int .i64 z1)) := by exact rfl) (hy : AS.ev ⟨tm, hp, gn, us, L⟩ y = .c (.v (.int .i64 z2)) := by exact rfl) : WalkO Try.prog ops Q C false [] i (⟨some t, .binOp .lss 3 x y U, ty, ps, af, gd⟩ : Oper) r ⟨tm, hp, gn, us, L⟩ := za h ht hg (zc21 hx hy)
theorem zd21 {ty : TypeId} {gd : Option (Nat × Bool)} {ps : String} {af : Array Edge} {t : Nat} {x y : Operand} {U : TypeId} {z1 z2 : Int} {ev : Operand → AV} (hx : ev x = .c (.v (.int .i64 z1))) (hy : ev y = .c (.v (.int .i64 z2))) : EffD Try.prog (⟨some t, .binOp .leq 3 x y U, ty, ps, af, gd⟩ : Oper) ev hp 0 = some (.c (.v (.bool (decide (z1 ≤ z2)))), .nop) := by
  (show nop? (aScal _ _ _) = _; rw [zt5 rfl (by intro q hq; have hq' : q = x ∨ q = y := (by have h2 : q ∈ [x, y] := Array.mem_toList_iff.2 hq; simpa using h2); rcases hq' with rfl | rfl <;> first | (rw [hx]; rfl) | (rw [hy]; rfl))]; have e : ∀ f : Operand → Value, f x = ((AV.val? (ev x)).getD undef) → True := fun _ _ => trivial; clear e; unfold execOp; dsimp only; rw [hx, hy]; rfl)
theorem zj3 {ty : TypeId} {gd : Option (Nat × Bool)} {ps : String} {af : Array Edge} {t : Nat} {x y : Operand} {U : TypeId} {z1 z2 : Int} (h : Walk Try.prog ops Q C false [] r ⟨upd tm t (.c (.v (.bool (decide (z1 ≤ z2))))), hp, gn, us, L⟩) (ht : Nat.blt t L = true := by exact rfl) (hg : gw ops tm (⟨some t, .binOp .leq 3 x y U, ty, ps, af, gd⟩ : Oper) = some true := by exact rfl) (hx : AS.ev ⟨tm, hp, gn, us, L⟩ x = .c (.v (.int .i64 z1)) := by exact rfl) (hy : AS.ev ⟨tm, hp, gn, us, L⟩ y = .c (.v (.int .i64 z2)) := by exact rfl) : WalkO Try.prog ops Q C false [] i (⟨some t, .binOp .leq 3 x y U, ty, ps, af, gd⟩ : Oper) r ⟨tm, hp, gn, us, L⟩ := za h ht hg (zd21 hx hy)
theorem ze21 {ty : TypeId} {gd : Option (Nat × Bool)} {ps : String} {af : Array Edge} {t : Nat} {x y : Operand} {U : TypeId} {z1 z2 : Int} {ev : Operand → AV} (hx : ev x = .c (.v (.int .i64 z1))) (hy : ev y = .c (.v (.int .i64 z2))) : EffD Try.prog (⟨some t, .binOp .gtr 3 x y U, ty, ps, af, gd⟩ : Oper) ev hp 0 = some (.c (.v (.bool (decide (z2 < z1)))), .nop) := by
  (show nop? (aScal _ _ _) = _; rw [zt5 rfl (by intro q hq; have hq' : q = x ∨ q = y := (by have h2 : q ∈ [x, y] := Array.mem_toList_iff.2 hq; simpa using h2); rcases hq' with rfl | rfl <;> first | (rw [hx]; rfl) | (rw [hy]; rfl))]; have e : ∀ f : Operand → Value, f x = ((AV.val? (ev x)).getD undef) → True := fun _ _ => trivial; clear e; unfold execOp; dsimp only; rw [hx, hy]; rfl)
theorem zh1 {ty : TypeId} {gd : Option (Nat × Bool)} {ps : String} {af : Array Edge} {t : Nat} {x y : Operand} {U : TypeId} {z1 z2 : Int} (h : Walk Try.prog ops Q C false [] r ⟨upd tm t (.c (.v (.bool (decide (z2 < z1))))), hp, gn, us, L⟩) (ht : Nat.blt t L = true := by exact rfl) (hg : gw ops tm (⟨some t, .binOp .gtr 3 x y U, ty, ps, af, gd⟩ : Oper) = some true := by exact rfl) (hx : AS.ev ⟨tm, hp, gn, us, L⟩ x = .c (.v (.int .i64 z1)) := by exact rfl) (hy : AS.ev ⟨tm, hp, gn, us, L⟩ y = .c (.v (.int .i64 z2)) := by exact rfl) : WalkO Try.prog ops Q C false [] i (⟨some t, .binOp .gtr 3 x y U, ty, ps, af, gd⟩ : Oper) r ⟨tm, hp, gn, us, L⟩ := za h ht hg (ze21 hx hy)
theorem zf21 {ty : TypeId} {gd : Option (Nat × Bool)} {ps : String} {af : Array Edge} {t : Nat} {x y : Operand} {U : TypeId} {z1 z2 : Int} {ev : Operand → AV} (hx : ev x = .c (.v (.int .i64 z1))) (hy : ev y = .c (.v (.int .i64 z2))) : EffD Try.prog (⟨some t, .binOp .geq 3 x y U, ty, ps, af, gd⟩ : Oper) ev hp 0 = some (.c (.v (.bool (decide (z2 ≤ z1)))), .nop) := by
  (show nop? (aScal _ _ _) = _; rw [zt5 rfl (by intro q hq; have hq' : q = x ∨ q = y := (by have h2 : q ∈ [x, y] := Array.mem_toList_iff.2 hq; simpa using h2); rcases hq' with rfl | rfl <;> first | (rw [hx]; rfl) | (rw [hy]; rfl))]; have e : ∀ f : Operand → Value, f x = ((AV.val? (ev x)).getD undef) → True := fun _ _ => trivial; clear e; unfold execOp; dsimp only; rw [hx, hy]; rfl)
theorem zo1 {ty : TypeId} {gd : Option (Nat × Bool)} {ps : String} {af : Array Edge} {t : Nat} {x y : Operand} {U : TypeId} {z1 z2 : Int} (h : Walk Try.prog ops Q C false [] r ⟨upd tm t (.c (.v (.bool (decide (z2 ≤ z1))))), hp, gn, us, L⟩) (ht : Nat.blt t L = true := by exact rfl) (hg : gw ops tm (⟨some t, .binOp .geq 3 x y U, ty, ps, af, gd⟩ : Oper) = some true := by exact rfl) (hx : AS.ev ⟨tm, hp, gn, us, L⟩ x = .c (.v (.int .i64 z1)) := by exact rfl) (hy : AS.ev ⟨tm, hp, gn, us, L⟩ y = .c (.v (.int .i64 z2)) := by exact rfl) : WalkO Try.prog ops Q C false [] i (⟨some t, .binOp .geq 3 x y U, ty, ps, af, gd⟩ : Oper) r ⟨tm, hp, gn, us, L⟩ := za h ht hg (zf21 hx hy)
theorem e_eql_u8 {ty : TypeId} {gd : Option (Nat × Bool)} {ps : String} {af : Array Edge} {t : Nat} {x y : Operand} {U : TypeId} {z1 z2 : Int} {ev : Operand → AV} (hx : ev x = .c (.v (.int .u8 z1))) (hy : ev y = .c (.v (.int .u8 z2))) : EffD Try.prog (⟨some t, .binOp .eql 5 x y U, ty, ps, af, gd⟩ : Oper) ev hp 0 = some (.c (.v (.bool (z1 == z2))), .nop) := by
  (show nop? (aScal _ _ _) = _; rw [zt5 rfl (by intro q hq; have hq' : q = x ∨ q = y := (by have h2 : q ∈ [x, y] := Array.mem_toList_iff.2 hq; simpa using h2); rcases hq' with rfl | rfl <;> first | (rw [hx]; rfl) | (rw [hy]; rfl))]; have e : ∀ f : Operand → Value, f x = ((AV.val? (ev x)).getD undef) → True := fun _ _ => trivial; clear e; unfold execOp; dsimp only; rw [hx, hy]; rfl)
theorem zd2 {ty : TypeId} {gd : Option (Nat × Bool)} {ps : String} {af : Array Edge} {t : Nat} {x y : Operand} {U : TypeId} {z1 z2 : Int} (h : Walk Try.prog ops Q C false [] r ⟨upd tm t (.c (.v (.bool (z1 == z2)))), hp, gn, us, L⟩) (ht : Nat.blt t L = true := by exact rfl) (hg : gw ops tm (⟨some t, .binOp .eql 5 x y U, ty, ps, af, gd⟩ : Oper) = some true := by exact rfl) (hx : AS.ev ⟨tm, hp, gn, us, L⟩ x = .c (.v (.int .u8 z1)) := by exact rfl) (hy : AS.ev ⟨tm, hp, gn, us, L⟩ y = .c (.v (.int .u8 z2)) := by exact rfl) : WalkO Try.prog ops Q C false [] i (⟨some t, .binOp .eql 5 x y U, ty, ps, af, gd⟩ : Oper) r ⟨tm, hp, gn, us, L⟩ := za h ht hg (e_eql_u8 hx hy)
theorem e_neq_u8 {ty : TypeId} {gd : Option (Nat × Bool)} {ps : String} {af : Array Edge} {t : Nat} {x y : Operand} {U : TypeId} {z1 z2 : Int} {ev : Operand → AV} (hx : ev x = .c (.v (.int .u8 z1))) (hy : ev y = .c (.v (.int .u8 z2))) : EffD Try.prog (⟨some t, .binOp .neq 5 x y U, ty, ps, af, gd⟩ : Oper) ev hp 0 = some (.c (.v (.bool (z1 != z2))), .nop) := by
  (show nop? (aScal _ _ _) = _; rw [zt5 rfl (by intro q hq; have hq' : q = x ∨ q = y := (by have h2 : q ∈ [x, y] := Array.mem_toList_iff.2 hq; simpa using h2); rcases hq' with rfl | rfl <;> first | (rw [hx]; rfl) | (rw [hy]; rfl))]; have e : ∀ f : Operand → Value, f x = ((AV.val? (ev x)).getD undef) → True := fun _ _ => trivial; clear e; unfold execOp; dsimp only; rw [hx, hy]; rfl)
theorem zy1 {ty : TypeId} {gd : Option (Nat × Bool)} {ps : String} {af : Array Edge} {t : Nat} {x y : Operand} {U : TypeId} {z1 z2 : Int} (h : Walk Try.prog ops Q C false [] r ⟨upd tm t (.c (.v (.bool (z1 != z2)))), hp, gn, us, L⟩) (ht : Nat.blt t L = true := by exact rfl) (hg : gw ops tm (⟨some t, .binOp .neq 5 x y U, ty, ps, af, gd⟩ : Oper) = some true := by exact rfl) (hx : AS.ev ⟨tm, hp, gn, us, L⟩ x = .c (.v (.int .u8 z1)) := by exact rfl) (hy : AS.ev ⟨tm, hp, gn, us, L⟩ y = .c (.v (.int .u8 z2)) := by exact rfl) : WalkO Try.prog ops Q C false [] i (⟨some t, .binOp .neq 5 x y U, ty, ps, af, gd⟩ : Oper) r ⟨tm, hp, gn, us, L⟩ := za h ht hg (e_neq_u8 hx hy)
theorem e_geq_u8 {ty : TypeId} {gd : Option (Nat × Bool)} {ps : String} {af : Array Edge} {t : Nat} {x y : Operand} {U : TypeId} {z1 z2 : Int} {ev : Operand → AV} (hx : ev x = .c (.v (.int .u8 z1))) (hy : ev y = .c (.v (.int .u8 z2))) : EffD Try.prog (⟨some t, .binOp .geq 5 x y U, ty, ps, af, gd⟩ : Oper) ev hp 0 = some (.c (.v (.bool (decide (z2 ≤ z1)))), .nop) := by
  (show nop? (aScal _ _ _) = _; rw [zt5 rfl (by intro q hq; have hq' : q = x ∨ q = y := (by have h2 : q ∈ [x, y] := Array.mem_toList_iff.2 hq; simpa using h2); rcases hq' with rfl | rfl <;> first | (rw [hx]; rfl) | (rw [hy]; rfl))]; have e : ∀ f : Operand → Value, f x = ((AV.val? (ev x)).getD undef) → True := fun _ _ => trivial; clear e; unfold execOp; dsimp only; rw [hx, hy]; rfl)
theorem zw7 {ty : TypeId} {gd : Option (Nat × Bool)} {ps : String} {af : Array Edge} {t : Nat} {x y : Operand} {U : TypeId} {z1 z2 : Int} (h : Walk Try.prog ops Q C false [] r ⟨upd tm t (.c (.v (.bool (decide (z2 ≤ z1))))), hp, gn, us, L⟩) (ht : Nat.blt t L = true := by exact rfl) (hg : gw ops tm (⟨some t, .binOp .geq 5 x y U, ty, ps, af, gd⟩ : Oper) = some true := by exact rfl) (hx : AS.ev ⟨tm, hp, gn, us, L⟩ x = .c (.v (.int .u8 z1)) := by exact rfl) (hy : AS.ev ⟨tm, hp, gn, us, L⟩ y = .c (.v (.int .u8 z2)) := by exact rfl) : WalkO Try.prog ops Q C false [] i (⟨some t, .binOp .geq 5 x y U, ty, ps, af, gd⟩ : Oper) r ⟨tm, hp, gn, us, L⟩ := za h ht hg (e_geq_u8 hx hy)
theorem e_eql_s {ty : TypeId} {gd : Option (Nat × Bool)} {ps : String} {af : Array Edge} {t : Nat} {x y : Operand} {U : TypeId} {s1 s2 : ByteArray} {ev : Operand → AV} (hx : ev x = .c (.v (.string s1))) (hy : ev y = .c (.v (.string s2))) : EffD Try.prog (⟨some t, .binOp .eql 9 x y U, ty, ps, af, gd⟩ : Oper) ev hp 0 = some (.c (.v (.bool (s1.toList == s2.toList))), .nop) := by
  (show nop? (aScal _ _ _) = _; rw [zt5 rfl (by intro q hq; have hq' : q = x ∨ q = y := (by have h2 : q ∈ [x, y] := Array.mem_toList_iff.2 hq; simpa using h2); rcases hq' with rfl | rfl <;> first | (rw [hx]; rfl) | (rw [hy]; rfl))]; have e : ∀ f : Operand → Value, f x = ((AV.val? (ev x)).getD undef) → True := fun _ _ => trivial; clear e; unfold execOp; dsimp only; rw [hx, hy]; rfl)
theorem zr4 {ty : TypeId} {gd : Option (Nat × Bool)} {ps : String} {af : Array Edge} {t : Nat} {x y : Operand} {U : TypeId} {s1 s2 : ByteArray} (h : Walk Try.prog ops Q C false [] r ⟨upd tm t (.c (.v (.bool (s1.toList == s2.toList)))), hp, gn, us, L⟩) (ht : Nat.blt t L = true := by exact rfl) (hg : gw ops tm (⟨some t, .binOp .eql 9 x y U, ty, ps, af, gd⟩ : Oper) = some true := by exact rfl) (hx : AS.ev ⟨tm, hp, gn, us, L⟩ x = .c (.v (.string s1)) := by exact rfl) (hy : AS.ev ⟨tm, hp, gn, us, L⟩ y = .c (.v (.string s2)) := by exact rfl) : WalkO Try.prog ops Q C false [] i (⟨some t, .binOp .eql 9 x y U, ty, ps, af, gd⟩ : Oper) r ⟨tm, hp, gn, us, L⟩ := za h ht hg (e_eql_s hx hy)
theorem e_neq_s {ty : TypeId} {gd : Option (Nat × Bool)} {ps : String} {af : Array Edge} {t : Nat} {x y : Operand} {U : TypeId} {s1 s2 : ByteArray} {ev : Operand → AV} (hx : ev x = .c (.v (.string s1))) (hy : ev y = .c (.v (.string s2))) : EffD Try.prog (⟨some t, .binOp .neq 9 x y U, ty, ps, af, gd⟩ : Oper) ev hp 0 = some (.c (.v (.bool (s1.toList != s2.toList))), .nop) := by
  (show nop? (aScal _ _ _) = _; rw [zt5 rfl (by intro q hq; have hq' : q = x ∨ q = y := (by have h2 : q ∈ [x, y] := Array.mem_toList_iff.2 hq; simpa using h2); rcases hq' with rfl | rfl <;> first | (rw [hx]; rfl) | (rw [hy]; rfl))]; have e : ∀ f : Operand → Value, f x = ((AV.val? (ev x)).getD undef) → True := fun _ _ => trivial; clear e; unfold execOp; dsimp only; rw [hx, hy]; rfl)
theorem zo5 {ty : TypeId} {gd : Option (Nat × Bool)} {ps : String} {af : Array Edge} {t : Nat} {x y : Operand} {U : TypeId} {s1 s2 : ByteArray} (h : Walk Try.prog ops Q C false [] r ⟨upd tm t (.c (.v (.bool (s1.toList != s2.toList)))), hp, gn, us, L⟩) (ht : Nat.blt t L = true := by exact rfl) (hg : gw ops tm (⟨some t, .binOp .neq 9 x y U, ty, ps, af, gd⟩ : Oper) = some true := by exact rfl) (hx : AS.ev ⟨tm, hp, gn, us, L⟩ x = .c (.v (.string s1)) := by exact rfl) (hy : AS.ev ⟨tm, hp, gn, us, L⟩ y = .c (.v (.string s2)) := by exact rfl) : WalkO Try.prog ops Q C false [] i (⟨some t, .binOp .neq 9 x y U, ty, ps, af, gd⟩ : Oper) r ⟨tm, hp, gn, us, L⟩ := za h ht hg (e_neq_s hx hy)
theorem e_not {ty : TypeId} {gd : Option (Nat × Bool)} {ps : String} {af : Array Edge} {t : Nat} {x : Operand} {b : Bool} {ev : Operand → AV} (hx : ev x = .c (.v (.bool b))) : EffD Try.prog (⟨some t, .unOp .not 4 x, ty, ps, af, gd⟩ : Oper) ev hp 0 = some (.c (.v (.bool (!b))), .nop) := by
  (show nop? (aScal _ _ _) = _; rw [zt5 rfl (by intro q hq; have hq' : q = x := (by have h2 : q ∈ [x] := Array.mem_toList_iff.2 hq; simpa using h2); subst hq'; rw [hx]; rfl)]; unfold execOp; dsimp only; rw [hx]; rfl)
theorem zj2 {ty : TypeId} {gd : Option (Nat × Bool)} {ps : String} {af : Array Edge} {t : Nat} {x : Operand} {b : Bool} (h : Walk Try.prog ops Q C false [] r ⟨upd tm t (.c (.v (.bool (!b)))), hp, gn, us, L⟩) (ht : Nat.blt t L = true := by exact rfl) (hg : gw ops tm (⟨some t, .unOp .not 4 x, ty, ps, af, gd⟩ : Oper) = some true := by exact rfl) (hx : AS.ev ⟨tm, hp, gn, us, L⟩ x = .c (.v (.bool b)) := by exact rfl) : WalkO Try.prog ops Q C false [] i (⟨some t, .unOp .not 4 x, ty, ps, af, gd⟩ : Oper) r ⟨tm, hp, gn, us, L⟩ := za h ht hg (e_not hx)
theorem zi7 {ty : TypeId} {gd : Option (Nat × Bool)} {ps : String} {af : Array Edge} {t : Nat} {y : Operand} {c : Nat} (h : Walk Try.prog ops Q C false [] r ⟨upd tm t (.c (.v (.int .i32 (c : Int)))), hp, gn, us, L⟩) (ht : Nat.blt t L = true := by exact rfl) (hg : gw ops tm (⟨some t, .convert 5 21 y, ty, ps, af, gd⟩ : Oper) = some true := by exact rfl) (hx : AS.ev ⟨tm, hp, gn, us, L⟩ y = .c (.v (.int .u8 (c : Int))) := by exact rfl) (hcl : c < 256 := by first | assumption | omega | exact zn7 _ _) : WalkO Try.prog ops Q C false [] i (⟨some t, .convert 5 21 y, ty, ps, af, gd⟩ : Oper) r ⟨tm, hp, gn, us, L⟩ := za h ht hg (by
  have e : EffD Try.prog (⟨some t, .convert 5 21 y, ty, ps, af, gd⟩ : Oper) (AS.ev ⟨tm, hp, gn, us, L⟩) hp 0 = some (.c (.v (.int .i32 (IntKind.i32.wrap (c : Int)))), .nop) := by
    show (if ((AS.ev ⟨tm, hp, gn, us, L⟩) y).val?.isSome = true ∧ _ ∨ _ then nop? (aScal _ _ _) else _) = _
    rw [hx, if_pos (Or.inr ⟨rfl, rfl⟩), zt5 rfl (by intro q hq; have hq' : q = y := (by have h2 : q ∈ [y] := Array.mem_toList_iff.2 hq; simpa using h2); subst hq'; rw [hx]; rfl)]
    unfold execOp; dsimp only; rw [hx]; rfl
  rw [e, show IntKind.i32.wrap (c : Int) = (c : Int) from by rw [IntKind.wrap_i32]; omega])
theorem zr2 {ty : TypeId} {gd : Option (Nat × Bool)} {ps : String} {af : Array Edge} {t : Nat} {cas : Array Operand} {cts : Array TypeId} {fv : Operand} {f : FuncId} {caps : List AC} {args ins : List AV} {x : Value} (hctr : Ctr Try.prog f ins [] (.c (.v x)) []) (h : Walk Try.prog ops Q C false [] r ⟨upd tm t (.c (.v x)), hp, gn, us, L⟩) (ht : Nat.blt t L = true := by exact rfl) (hg : gw ops tm (⟨some t, .call ⟨.value fv, cas, cts⟩, ty, ps, af, gd⟩ : Oper) = some true := by exact rfl) (hfv : AS.ev ⟨tm, hp, gn, us, L⟩ fv = .c (.fn f caps) := by exact rfl) (hargs : callArgs ⟨tm, hp, gn, us, L⟩ ⟨.value fv, cas, cts⟩ caps = args := by exact rfl) (hcv : args.map (cvV hp []) = ins := by ((repeat' (first | rfl | exact zx6 | refine zi6 ?_ ?_ | refine zo13 ?_ | refine cv_c ?_ | refine zj6 ?_ ?_ | (refine zt8 ?_; (first | rfl | (simp [cloV, cloL, clo, zj, zf, zk, zg, zd]; done))) | (refine zu8 ?_; (first | rfl | (simp [cloV, cloL, clo, zj, zf, zk, zg, zd]; done))) | refine zv8 ?_ | (refine cvC_sl' (by rfl) (by rfl) (by rfl) (by rfl) ?_ ?_; (focus (first | rfl | (simp [cloV, cloL, clo, zj, zf, zk, zg, zd]; done))); (first | rfl | exact zr5 _)))) <;> exact rfl)) : WalkO Try.prog ops Q C false [] i (⟨some t, .call ⟨.value fv, cas, cts⟩, ty, ps, af, gd⟩ : Oper) r ⟨tm, hp, gn, us, L⟩ := zp2 (hctr := hctr) (nv := .c (.v x)) (nr := []) (h := h) (ht := ht) (hg := hg) (hfv := hfv) (hargs := hargs) (hcv := hcv) (hm := rfl) (hopn := rfl) (hf := rfl)
end
section
variable {P : Program} {ops : Array Oper} {Q : Exit → Act → World → Prop} {C : Ctx} {i : Nat} {r : List Nat} {σ : AS} {ty : TypeId} {ps : String} {af : Array Edge}
theorem f_gs {d : Option Tmp} {op : Op} {gb : Nat × Bool} (h : WalkO P ops Q C false [] i (⟨d, op, ty, ps, af, some gb⟩ : Oper) r σ) : WalkO P ops Q C false [] i (⟨d, op, ty, ps, af, some gb⟩ : Oper) r σ := h
theorem f_mv {t : Tmp} {x : Operand} {gd : Option (Nat × Bool)} (h : WalkO P ops Q C false [] i (⟨some t, .move x, ty, ps, af, gd⟩ : Oper) r σ) : WalkO P ops Q C false [] i (⟨some t, .move x, ty, ps, af, gd⟩ : Oper) r σ := h
theorem f_as {t : Tmp} {x : Operand} {gd : Option (Nat × Bool)} (h : WalkO P ops Q C false [] i (⟨some t, .assign x, ty, ps, af, gd⟩ : Oper) r σ) : WalkO P ops Q C false [] i (⟨some t, .assign x, ty, ps, af, gd⟩ : Oper) r σ := h
theorem f_pk {t : Tmp} {x y z : Operand} {gd : Option (Nat × Bool)} (h : WalkO P ops Q C false [] i (⟨some t, .pick x y z, ty, ps, af, gd⟩ : Oper) r σ) : WalkO P ops Q C false [] i (⟨some t, .pick x y z, ty, ps, af, gd⟩ : Oper) r σ := h
theorem f_ex {t : Tmp} {x : Operand} {j : Nat} {gd : Option (Nat × Bool)} (h : WalkO P ops Q C false [] i (⟨some t, .extract x j, ty, ps, af, gd⟩ : Oper) r σ) : WalkO P ops Q C false [] i (⟨some t, .extract x j, ty, ps, af, gd⟩ : Oper) r σ := h
theorem f_fa {t : Tmp} {S : TypeId} {f : Nat} {p : Operand} {gd : Option (Nat × Bool)} (h : WalkO P ops Q C false [] i (⟨some t, .fieldAddr S p f, ty, ps, af, gd⟩ : Oper) r σ) : WalkO P ops Q C false [] i (⟨some t, .fieldAddr S p f, ty, ps, af, gd⟩ : Oper) r σ := h
theorem f_ld {t : Tmp} {T : TypeId} {p : Operand} {gd : Option (Nat × Bool)} (h : WalkO P ops Q C false [] i (⟨some t, .load T p, ty, ps, af, gd⟩ : Oper) r σ) : WalkO P ops Q C false [] i (⟨some t, .load T p, ty, ps, af, gd⟩ : Oper) r σ := h
theorem f_ca {t : Tmp} {fv : Operand} {as_ : Array Operand} {ts : Array TypeId} {gd : Option (Nat × Bool)} (h : WalkO P ops Q C false [] i (⟨some t, .call ⟨.value fv, as_, ts⟩, ty, ps, af, gd⟩ : Oper) r σ) : WalkO P ops Q C false [] i (⟨some t, .call ⟨.value fv, as_, ts⟩, ty, ps, af, gd⟩ : Oper) r σ := h
theorem f_bi {t : Tmp} {b : Builtin} {as_ : Array Operand} {ts : Array TypeId} {gd : Option (Nat × Bool)} (h : WalkO P ops Q C false [] i (⟨some t, .call ⟨.builtin b, as_, ts⟩, ty, ps, af, gd⟩ : Oper) r σ) : WalkO P ops Q C false [] i (⟨some t, .call ⟨.builtin b, as_, ts⟩, ty, ps, af, gd⟩ : Oper) r σ := h
theorem f_st {T : TypeId} {p y : Operand} {gd : Option (Nat × Bool)} (h : WalkO P ops Q C false [] i (⟨none, .store T p y, ty, ps, af, gd⟩ : Oper) r σ) : WalkO P ops Q C false [] i (⟨none, .store T p y, ty, ps, af, gd⟩ : Oper) r σ := h
theorem f_ia {t : Tmp} {T : TypeId} {x y : Operand} {gd : Option (Nat × Bool)} (h : WalkO P ops Q C false [] i (⟨some t, .indexAddr T x y, ty, ps, af, gd⟩ : Oper) r σ) : WalkO P ops Q C false [] i (⟨some t, .indexAddr T x y, ty, ps, af, gd⟩ : Oper) r σ := h
theorem f_no {t : Tmp} {T : TypeId} {x : Operand} {gd : Option (Nat × Bool)} (h : WalkO P ops Q C false [] i (⟨some t, .unOp .not T x, ty, ps, af, gd⟩ : Oper) r σ) : WalkO P ops Q C false [] i (⟨some t, .unOp .not T x, ty, ps, af, gd⟩ : Oper) r σ := h
theorem zz1 {t : Tmp} {T U : TypeId} {x y : Operand} {gd : Option (Nat × Bool)} (h : WalkO P ops Q C false [] i (⟨some t, .binOp .eql T x y U, ty, ps, af, gd⟩ : Oper) r σ) : WalkO P ops Q C false [] i (⟨some t, .binOp .eql T x y U, ty, ps, af, gd⟩ : Oper) r σ := h
theorem zy2 {t : Tmp} {T U : TypeId} {x y : Operand} {gd : Option (Nat × Bool)} (h : WalkO P ops Q C false [] i (⟨some t, .binOp .neq T x y U, ty, ps, af, gd⟩ : Oper) r σ) : WalkO P ops Q C false [] i (⟨some t, .binOp .neq T x y U, ty, ps, af, gd⟩ : Oper) r σ := h
theorem za2 {t : Tmp} {T U : TypeId} {x y : Operand} {gd : Option (Nat × Bool)} (h : WalkO P ops Q C false [] i (⟨some t, .binOp .lss T x y U, ty, ps, af, gd⟩ : Oper) r σ) : WalkO P ops Q C false [] i (⟨some t, .binOp .lss T x y U, ty, ps, af, gd⟩ : Oper) r σ := h
theorem zb6 {t : Tmp} {T U : TypeId} {x y : Operand} {gd : Option (Nat × Bool)} (h : WalkO P ops Q C false [] i (⟨some t, .binOp .leq T x y U, ty, ps, af, gd⟩ : Oper) r σ) : WalkO P ops Q C false [] i (⟨some t, .binOp .leq T x y U, ty, ps, af, gd⟩ : Oper) r σ := h
theorem zq3 {t : Tmp} {T U : TypeId} {x y : Operand} {gd : Option (Nat × Bool)} (h : WalkO P ops Q C false [] i (⟨some t, .binOp .gtr T x y U, ty, ps, af, gd⟩ : Oper) r σ) : WalkO P ops Q C false [] i (⟨some t, .binOp .gtr T x y U, ty, ps, af, gd⟩ : Oper) r σ := h
theorem zs3 {t : Tmp} {T U : TypeId} {x y : Operand} {gd : Option (Nat × Bool)} (h : WalkO P ops Q C false [] i (⟨some t, .binOp .geq T x y U, ty, ps, af, gd⟩ : Oper) r σ) : WalkO P ops Q C false [] i (⟨some t, .binOp .geq T x y U, ty, ps, af, gd⟩ : Oper) r σ := h
theorem zs1 {t : Tmp} {T U : TypeId} {x y : Operand} {gd : Option (Nat × Bool)} (h : WalkO P ops Q C false [] i (⟨some t, .binOp .add T x y U, ty, ps, af, gd⟩ : Oper) r σ) : WalkO P ops Q C false [] i (⟨some t, .binOp .add T x y U, ty, ps, af, gd⟩ : Oper) r σ := h
theorem f_bb {t : Tmp} {T U : TypeId} {b : BinOp} {x y : Operand} {gd : Option (Nat × Bool)} (h : WalkO P ops Q C false [] i (⟨some t, .binOp b T x y U, ty, ps, af, gd⟩ : Oper) r σ) : WalkO P ops Q C false [] i (⟨some t, .binOp b T x y U, ty, ps, af, gd⟩ : Oper) r σ := h
theorem f_cv {t : Tmp} {S D : TypeId} {x : Operand} {gd : Option (Nat × Bool)} (h : WalkO P ops Q C false [] i (⟨some t, .convert S D x, ty, ps, af, gd⟩ : Oper) r σ) : WalkO P ops Q C false [] i (⟨some t, .convert S D x, ty, ps, af, gd⟩ : Oper) r σ := h
theorem f_wo {o : Oper} (h : WalkO P ops Q C false [] i (o : Oper) r σ) : WalkO P ops Q C false [] i (o : Oper) r σ := h
theorem f_w {l : List Nat} (h : Walk P ops Q C false [] l σ) : Walk P ops Q C false [] l σ := h
theorem zx {tm : Nat → AV} {hp : Nat → Option Row} {gn L : Nat} {us : List Nat} {x y : Code} {t : Nat} {Q : Exit → AS → Prop} (hc : tm t = .c (.v (.bool true))) (h : AWp P x Q ⟨tm, hp, gn, us, L⟩) : AWp P (.cond (.tmp t) x y) Q ⟨tm, hp, gn, us, L⟩ := zt3 (t := true) hc (fun _ => h) fun h => by cases h
theorem zv {tm : Nat → AV} {hp : Nat → Option Row} {gn L : Nat} {us : List Nat} {x y : Code} {t : Nat} {Q : Exit → AS → Prop} (hc : tm t = .c (.v (.bool false))) (h : AWp P y Q ⟨tm, hp, gn, us, L⟩) : AWp P (.cond (.tmp t) x y) Q ⟨tm, hp, gn, us, L⟩ := zt3 (t := false) hc (fun h => by cases h) fun _ => h
end
theorem isLoop_c {x : E} (hx : x.Ty Try.prog 86) : Ctr Try.prog 107 [.ag (acE x)] [] (.c (.v (.bool (loopK x.rk)))) [] := by
  obtain ⟨y0, y1, y2A, y2c, y2l, rfl, gy0, gy1, gy2, -⟩ := zq1 hx
  refine zm2 Try.func107 rfl rfl ?_
  repeat' (first | ((apply f_wo); first | ((apply f_gs); first | refine n_sk ?_) | ((apply f_mv); first | (refine zw1 ?_ ?_ <;> intro hG <;> (try cases hG)) | refine zg1 (v := .c _) ?_ | refine za ?_) | ((apply f_as); first | refine zf1 (v := .c _) ?_ | refine za ?_) | ((apply f_fa); first | refine n_fa ?_ | refine zk1 ?_) | ((apply f_ld); first | refine zp1 ?_ | refine zb1 ?_ | refine n_ld ?_) | ((apply zz1); first | refine za1 ?_ | refine za ?_) | ((apply f_pk); first | refine zu1 (v := .c _) ?_ | refine za ?_) | refine n_bo ?_ | refine za ?_) | ((apply f_w); first | refine zy ?_ | refine zc ?_) | refine zb fun C => ?_ | refine zn ?_ | refine ze ?_ | refine zh ?_ | refine zi ?_ | (refine zt (by rfl) ?_ ?_ <;> intro hC <;> (try cases hC)))
  all_goals
    (first | refine zu ?_ | skip); refine ret0 rfl zn2 ⟨?_, rfl⟩; refine congrArg (fun s => AV.c (AC.v (Value.bool s))) ?_
    simp only [E.rk]
    unfold loopK
    (rw [Bool.eq_iff_iff]; (try simp only [Bool.and_eq_true, Bool.or_eq_true, Bool.not_eq_true', decide_eq_true_iff, decide_eq_false_iff_not, beq_iff_eq, Bool.and_eq_false_iff, Bool.or_eq_false_iff, bne_iff_ne, ne_eq, Bool.true_eq_false, Bool.false_eq_true, true_iff, false_iff, iff_true, iff_false] at *); first | omega | (simp at *; omega))
theorem cloRex_c {x : E} (hx : x.Ty Try.prog 86) (k : Int) {c1 c2 : AC} (h1 : clo c1 = true) (h2 : clo c2 = true) : Ctr Try.prog 106 [.ag (acE x), .c (.pt 0 0)] [[.v (.int .i64 k), c1, c2]] (.c (.v (.bool (x.rk == k)))) [[.v (.int .i64 k), c1, c2]] := by
  obtain ⟨y0, y1, y2A, y2c, y2l, rfl, gy0, gy1, gy2, -⟩ := zq1 hx
  refine zm2 Try.func106 rfl rfl ?_
  repeat' (first | ((apply f_wo); first | ((apply f_as); first | refine zf1 (v := .c _) ?_ | refine za ?_) | ((apply f_fa); first | refine n_fa ?_ | refine zk1 ?_) | ((apply f_ld); first | refine zp1 ?_ | refine zb1 ?_ | refine n_ld ?_) | ((apply zz1); first | refine za1 ?_ | refine za ?_) | refine n_bo ?_ | refine za ?_) | ((apply f_w); first | refine zy ?_ | refine zc ?_) | refine zb fun C => ?_ | refine zn ?_ | refine ze ?_ | refine zh ?_ | refine zi ?_ | (refine zt (by rfl) ?_ ?_ <;> intro hC <;> (try cases hC)))
  refine zu ?_
  exact ret1 (x := .c (.v (.bool (y0 == k)))) (rw := ⟨0, 0, 0, true, [.v (.int .i64 k), c1, c2]⟩) rfl rfl rfl (by simp [cloL, clo, h1, h2]) rfl ⟨rfl, rfl⟩
theorem zq12 {s : ByteArray} : (s.toList == (ByteArray.mk #[]).toList) = (s.size == 0) := by
  rw [Bool.eq_iff_iff]
  simp only [beq_iff_eq]
  exact ⟨fun h => by have := toList_inj h; rw [this]; rfl, fun h => by rw [zp7 h]; rfl⟩
theorem ib0 {n : Nat} : ((n : Int) == 0) = (n == 0) := by rw [Bool.eq_iff_iff]; simp only [beq_iff_eq]; omega
theorem ib1 {n : Nat} : ((n : Int) == 1) = (n == 1) := by rw [Bool.eq_iff_iff]; simp only [beq_iff_eq]; omega
theorem inR28 {n : Nat} : inR (n : Int) 2 8 = (decide (2 ≤ n) && decide (n ≤ 8)) := by
  unfold inR
  rw [Bool.eq_iff_iff]; simp only [Bool.and_eq_true, decide_eq_true_iff]; omega
theorem zr12 {x0 : Int} {x1 : ByteArray} {A : Option Addr} {c : Nat} {l : List E} : headI (E.agg [.int .i64 x0, .str x1, .lst 3 86 A c l]) = (headR x0 x1 l && !((x0 == 4 || x0 == 5) && l.any fun x => x.rk == x0)) := rfl
theorem zs16 {l : List E} {y : E} (h1 : l.length = 1) (h2 : l[0]? = some y) : l = [y] := by
  match l, h1, h2 with
  | [z], _, h2 => simpa using h2
theorem zt16 {x0 : Int} {x1 : ByteArray} {l : List E} (h : ∀ k : Int, 1 ≤ k → k ≤ 11 → x0 ≠ k) : headR x0 x1 l = false := by
  unfold headR
  have h1 := h 1 (by omega) (by omega); have h2 := h 2 (by omega) (by omega); have h3 := h 3 (by omega) (by omega); have h4 := h 4 (by omega) (by omega); have h5 := h 5 (by omega) (by omega); have h6 := h 6 (by omega) (by omega)
  have h7 := h 7 (by omega) (by omega); have h8 := h 8 (by omega) (by omega); have h9 := h 9 (by omega) (by omega); have h10 := h 10 (by omega) (by omega); have h11 := h 11 (by omega) (by omega)
  simp [h1, h2, h3, h4, h5, h6, h7, h8, h9, h10, h11]
set_option maxHeartbeats 8000000 in
theorem zr17 {f : Nat} (ih : ∀ (e : E) (deep : Nat), e.Ty Try.prog 86 → e.sz ≤ 4194304 → deep + f = 7 → Ctr Try.prog 92 [.ag (acE e), .c (.v (.int .i64 (deep : Int)))] [] (.c (.v (.int .i64 ((partsI f e : Nat) : Int)))) []) (e : E) (deep : Nat) (he : e.Ty Try.prog 86) (hsz : e.sz ≤ 4194304) (hd : deep + (f + 1) = 7) : Ctr Try.prog 92 [.ag (acE e), .c (.v (.int .i64 (deep : Int)))] [] (.c (.v (.int .i64 ((partsI (f + 1) e : Nat) : Int)))) [] := by
  obtain ⟨x0, x1, x2A, x2c, l, rfl, gx0, gx1, gx2, -⟩ := zq1 he
  simp only [E.sz, E.szL] at hsz
  have hl : l.length ≤ 4194304 := by omega
  refine zm2 Try.func92 rfl rfl ?_
  repeat' (first | ((apply f_wo); first | ((apply f_gs); first | refine n_sk ?_) | ((apply f_mv); first | (refine zw1 ?_ ?_ <;> intro hG <;> (try cases hG)) | refine zg1 (v := .c _) ?_ | refine za ?_) | ((apply f_as); first | refine zf1 (v := .c _) ?_ | refine za ?_) | ((apply f_fa); first | refine n_fa ?_ | refine zk1 ?_) | ((apply f_ld); first | refine zp1 ?_ | refine zb1 ?_ | refine zw ?_ | refine zi1 ?_ | refine n_ld ?_) | ((apply f_bi); first | refine zd1 ?_ | refine zc1 ?_ | refine ze1 ?_ | refine za ?_) | ((apply f_st); first | refine n_st ?_ | refine zt1 ?_) | ((apply f_ia); first | refine n_ix ?_ | refine zc2 ?_ | refine za ?_) | ((apply zz1); first | refine za1 ?_ | refine zr4 ?_ | refine za ?_) | ((apply za2); first | refine zq ?_ | refine za ?_) | ((apply zq3); first | refine zh1 ?_ | refine za ?_) | ((apply zs3); first | refine zo1 ?_ | refine za ?_) | ((apply zs1); first | refine zo ?_ | refine zr1 ?_ | refine za ?_) | ((apply f_no); first | refine zj2 ?_ | refine za ?_) | ((apply f_pk); first | refine zu1 (v := .c _) ?_ | refine za ?_) | refine n_al ?_ | refine n_bo ?_ | refine zx3 ?_ | refine za ?_) | ((apply f_w); first | refine zy ?_ | refine zc ?_) | refine zb fun C => ?_ | refine zf12 ?_ | refine zh ?_ | refine zi ?_)
  refine zn ?_
  repeat' (first | ((apply f_wo); first | ((apply f_gs); first | refine n_sk ?_) | ((apply f_mv); first | (refine zw1 ?_ ?_ <;> intro hG <;> (try cases hG)) | refine zg1 (v := .c _) ?_ | refine za ?_) | ((apply f_as); first | refine zf1 (v := .c _) ?_ | refine za ?_) | ((apply f_fa); first | refine n_fa ?_ | refine zk1 ?_) | ((apply f_ld); first | refine zp1 ?_ | refine zb1 ?_ | refine zw ?_ | refine zi1 ?_ | refine n_ld ?_) | ((apply f_bi); first | refine zd1 ?_ | refine zc1 ?_ | refine ze1 ?_ | refine za ?_) | ((apply f_st); first | refine n_st ?_ | refine zt1 ?_) | ((apply f_ia); first | refine n_ix ?_ | refine zc2 ?_ | refine za ?_) | ((apply zz1); first | refine za1 ?_ | refine zr4 ?_ | refine za ?_) | ((apply za2); first | refine zq ?_ | refine za ?_) | ((apply zq3); first | refine zh1 ?_ | refine za ?_) | ((apply zs3); first | refine zo1 ?_ | refine za ?_) | ((apply zs1); first | refine zo ?_ | refine zr1 ?_ | refine za ?_) | ((apply f_no); first | refine zj2 ?_ | refine za ?_) | ((apply f_pk); first | refine zu1 (v := .c _) ?_ | refine za ?_) | refine n_al ?_ | refine n_bo ?_ | refine zx3 ?_ | refine za ?_) | ((apply f_w); first | refine zy ?_ | refine zc ?_) | refine zb fun C => ?_ | refine zf12 ?_ | refine zh ?_ | refine zi ?_)
  refine zt3 (by rfl) (fun h => by simp at h; omega) fun h => ?_
  refine zh ?_
  repeat' (first | ((apply f_wo); first | ((apply f_gs); first | refine n_sk ?_) | ((apply f_mv); first | (refine zw1 ?_ ?_ <;> intro hG <;> (try cases hG)) | refine zg1 (v := .c _) ?_ | refine za ?_) | ((apply f_as); first | refine zf1 (v := .c _) ?_ | refine za ?_) | ((apply f_fa); first | refine n_fa ?_ | refine zk1 ?_) | ((apply f_ld); first | refine zp1 ?_ | refine zb1 ?_ | refine zw ?_ | refine zi1 ?_ | refine n_ld ?_) | ((apply f_bi); first | refine zd1 ?_ | refine zc1 ?_ | refine ze1 ?_ | refine za ?_) | ((apply f_st); first | refine n_st ?_ | refine zt1 ?_) | ((apply f_ia); first | refine n_ix ?_ | refine zc2 ?_ | refine za ?_) | ((apply zz1); first | refine za1 ?_ | refine zr4 ?_ | refine za ?_) | ((apply za2); first | refine zq ?_ | refine za ?_) | ((apply zq3); first | refine zh1 ?_ | refine za ?_) | ((apply zs3); first | refine zo1 ?_ | refine za ?_) | ((apply zs1); first | refine zo ?_ | refine zr1 ?_ | refine za ?_) | ((apply f_no); first | refine zj2 ?_ | refine za ?_) | ((apply f_pk); first | refine zu1 (v := .c _) ?_ | refine za ?_) | refine n_al ?_ | refine n_bo ?_ | refine zx3 ?_ | refine za ?_) | ((apply f_w); first | refine zy ?_ | refine zc ?_) | refine zb fun C => ?_ | refine zf12 ?_ | refine zh ?_ | refine zi ?_)
  refine awp_join ⟨tmsF [(1, .c (.v (.int .i64 (deep : Int)))), (2, .c (.pt 2 0)), (5, .c (.v (.bool (headI (E.agg [.int .i64 x0, .str x1, .lst 3 86 x2A x2c l])))))], hpsF [(2, 2, ⟨86, 0, 0, true, [.v (.int .i64 x0), .v (.string x1), .ro l.length 3 (acL l)]⟩)], 0, [2], 115⟩ ?_ ?_
  · have c1 := setOk_c (s := x1) (by omega)
    have c2 := zl10 (zn7 x1 0)
    have c3 := zz20 gx2.1 gx2.2 (by omega) (b := [.v (.int .i64 x0), .v (.string x1), .ro l.length 3 (acL l)]) (by simp [cloL, clo, zf]) (fun x => x.rk == x0) 106 (fun x hx => cloRex_c (gx2.1 x hx) x0 rfl (by simp [clo, zf]))
    rw [zr12]
    clear ih he
    by_cases hin : x0 = 1 ∨ x0 = 2 ∨ x0 = 3 ∨ x0 = 4 ∨ x0 = 5 ∨ x0 = 9 ∨ x0 = 10 ∨ x0 = 11
    · rcases hin with rfl | rfl | rfl | rfl | rfl | rfl | rfl | rfl
      all_goals
        repeat' (first | ((apply f_wo); first | ((apply f_gs); first | refine n_sk ?_) | ((apply f_mv); first | (refine zw1 ?_ ?_ <;> intro hG <;> (try cases hG)) | refine zg1 (v := .c _) ?_ | refine za ?_) | ((apply f_as); first | refine zf1 (v := .c _) ?_ | refine za ?_) | ((apply f_fa); first | refine n_fa ?_ | refine zk1 ?_) | ((apply f_ld); first | refine zp1 ?_ | refine zb1 ?_ | refine zw ?_ | refine zi1 ?_ | refine n_ld ?_) | ((apply f_ca); first | refine zr2 (c1) ?_ | refine zp2 (c1) ?_ | refine zr2 (c2) ?_ | refine zp2 (c2) ?_ | refine zr2 ((zs5 _ _ _)) ?_ | refine zp2 ((zs5 _ _ _)) ?_ | refine zl2 2 (c3) ?_) | ((apply f_bi); first | refine zd1 ?_ | refine zc1 ?_ | refine ze1 ?_ | refine za ?_) | ((apply f_st); first | refine n_st ?_ | refine zt1 ?_) | ((apply f_ia); first | refine n_ix ?_ | refine zc2 ?_ | refine za ?_) | ((apply zz1); first | refine za1 ?_ | refine zr4 ?_ | refine za ?_) | ((apply za2); first | refine zq ?_ | refine za ?_) | ((apply zq3); first | refine zh1 ?_ | refine za ?_) | ((apply zs3); first | refine zo1 ?_ | refine za ?_) | ((apply zs1); first | refine zo ?_ | refine zr1 ?_ | refine za ?_) | ((apply f_no); first | refine zj2 ?_ | refine za ?_) | ((apply f_pk); first | refine zu1 (v := .c _) ?_ | refine za ?_) | refine n_al ?_ | refine n_bo ?_ | refine zx3 ?_ | refine za ?_) | ((apply f_w); first | refine zy ?_ | refine zc ?_) | refine zb fun C => ?_ | refine zn ?_ | refine ze ?_ | refine zh ?_ | refine zi ?_ | (refine zt (by rfl) ?_ ?_ <;> intro hC <;> (try cases hC)))
      all_goals
        (show Gh _ _
         refine zo2 _ _ rfl rfl (TmOk.cons rfl (TmOk.cons rfl (TmOk.cons (zg12 rfl (Lib.hid ?_)) TmOk.nil))) (RwOk.cons (zi2 rfl ?_) RwOk.nil)
         · unfold headR
           clear c1 c2 c3 gx0 gx1 gx2 hsz hl hd h
           (try simp only [zq12, ib0, ib1, inR28] at *)
           first
             | (simp_all; done)
             | (simp_all; intros; omega)
         · simp [cloL, clo, zf])
    · by_cases hlp : x0 = 6 ∨ x0 = 7 ∨ x0 = 8
      · by_cases hl1 : l.length = 1
        · obtain ⟨y, hy⟩ : ∃ y, l[0]? = some y := ⟨_, List.getElem?_eq_getElem (by omega)⟩
          have hgk := gx2.2
          have hyt := gx2.1 y (List.mem_of_getElem? hy)
          have c4 := isLoop_c hyt
          have hl2 := zs16 hl1 hy
          obtain ⟨y0, y1, y2A, y2c, y2l, rfl, gy0, gy1, gy2, -⟩ := zq1 hyt
          have hh : headR x0 x1 l = (x1.size == 0 && !(loopK y0)) := by
            rw [hl2]
            unfold headR
            rcases hlp with rfl | rfl | rfl <;> simp [E.rk]
          have hh2 : (headR x0 x1 l && !((x0 == 4 || x0 == 5) && l.any fun x => x.rk == x0)) = (x1.size == 0 && !(loopK y0)) := by
            rw [hh]
            rcases hlp with rfl | rfl | rfl <;> simp
          rw [hh2]
          clear hh hh2 c1 c2 c3
          rcases hlp with rfl | rfl | rfl
          all_goals
            repeat' (first | ((apply f_wo); first | ((apply f_gs); first | refine n_sk ?_) | ((apply f_mv); first | (refine zw1 ?_ ?_ <;> intro hG <;> (try cases hG)) | refine zg1 (v := .c _) ?_ | refine za ?_) | ((apply f_as); first | refine zf1 (v := .c _) ?_ | refine za ?_) | ((apply f_fa); first | refine n_fa ?_ | refine zk1 ?_) | ((apply f_ld); first | refine zp1 ?_ | refine zb1 ?_ | refine zw ?_ | refine zi1 ?_ | refine n_ld ?_) | ((apply f_ca); first | refine zr2 (c4) ?_ | refine zp2 (c4) ?_) | ((apply f_bi); first | refine zd1 ?_ | refine zc1 ?_ | refine ze1 ?_ | refine za ?_) | ((apply f_st); first | refine n_st ?_ | refine zt1 ?_) | ((apply f_ia); first | refine n_ix ?_ | refine zc2 ?_ | refine za ?_) | ((apply zz1); first | refine za1 ?_ | refine zr4 ?_ | refine za ?_) | ((apply za2); first | refine zq ?_ | refine za ?_) | ((apply zq3); first | refine zh1 ?_ | refine za ?_) | ((apply zs3); first | refine zo1 ?_ | refine za ?_) | ((apply zs1); first | refine zo ?_ | refine zr1 ?_ | refine za ?_) | ((apply f_no); first | refine zj2 ?_ | refine za ?_) | ((apply f_pk); first | refine zu1 (v := .c _) ?_ | refine za ?_) | refine n_al ?_ | refine n_bo ?_ | refine zx3 ?_ | refine za ?_) | ((apply f_w); first | refine zy ?_ | refine zc ?_) | refine zb fun C => ?_ | refine zn ?_ | refine ze ?_ | refine zh ?_ | refine zi ?_ | (refine zt (by rfl) ?_ ?_ <;> intro hC <;> (try cases hC)))
          all_goals first
            | (exfalso; simp [hl1] at hG; done)
            | (show Gh _ _
               refine zo2 _ _ rfl rfl (TmOk.cons rfl (TmOk.cons rfl (TmOk.cons (zg12 rfl (Lib.hid ?_)) TmOk.nil))) (RwOk.cons (zi2 rfl ?_) RwOk.nil)
               · clear c4 gx0 gx1 gx2 gy0 gy1 gy2 hsz hl hd h hgk hyt
                 (try simp only [E.rk, zq12, ib0, ib1, inR28] at *)
                 first
                   | (simp_all; done)
                   | (simp_all; intros; omega)
               · simp [cloL, clo, zf])
        · have hh : (headR x0 x1 l && !((x0 == 4 || x0 == 5) && l.any fun x => x.rk == x0)) = false := by
            unfold headR
            rcases hlp with rfl | rfl | rfl <;> simp [hl1]
          have hl1' : ((l.length : Int) == 1) = false := by rw [ib1]; simpa using hl1
          rw [hh]
          clear hh c1 c2 c3
          rcases hlp with rfl | rfl | rfl
          all_goals
            repeat' (first | ((apply f_wo); first | ((apply f_gs); first | refine n_sk ?_) | ((apply f_mv); first | (refine zw1 ?_ ?_ <;> intro hG <;> (try cases hG)) | refine zg1 (v := .c _) ?_ | refine za ?_) | ((apply f_as); first | refine zf1 (v := .c _) ?_ | refine za ?_) | ((apply f_fa); first | refine n_fa ?_ | refine zk1 ?_) | ((apply f_ld); first | refine zp1 ?_ | refine zb1 ?_ | refine zw ?_ | refine zi1 ?_ | refine n_ld ?_) | ((apply f_bi); first | refine zd1 ?_ | refine zc1 ?_ | refine ze1 ?_ | refine za ?_) | ((apply f_st); first | refine n_st ?_ | refine zt1 ?_) | ((apply f_ia); first | refine n_ix ?_ | refine zc2 ?_ | refine za ?_) | ((apply zz1); first | refine za1 ?_ | refine zr4 ?_ | refine za ?_) | ((apply za2); first | refine zq ?_ | refine za ?_) | ((apply zq3); first | refine zh1 ?_ | refine za ?_) | ((apply zs3); first | refine zo1 ?_ | refine za ?_) | ((apply zs1); first | refine zo ?_ | refine zr1 ?_ | refine za ?_) | ((apply f_no); first | refine zj2 ?_ | refine za ?_) | ((apply f_pk); first | refine zu1 (v := .c _) ?_ | refine za ?_) | refine n_al ?_ | refine n_bo ?_ | refine zx3 ?_ | refine za ?_) | ((apply f_w); first | refine zy ?_ | refine zc ?_) | refine zb fun C => ?_ | refine zn ?_ | refine ze ?_ | refine zh ?_ | refine zi ?_ | (refine zt (by rfl) ?_ ?_ <;> intro hC <;> (try cases hC)))
          all_goals first
            | (exfalso; rw [hl1'] at hG; cases hG; done)
            | (show Gh _ _
               refine zo2 _ _ rfl rfl (TmOk.cons rfl (TmOk.cons rfl (TmOk.cons (zg12 rfl (Lib.hid ?_)) TmOk.nil))) (RwOk.cons (zi2 rfl ?_) RwOk.nil)
               · first
                   | rfl
                   | simp_all
               · simp [cloL, clo, zf])
      · have hk : ∀ k : Int, 1 ≤ k → k ≤ 11 → x0 ≠ k := fun k g1 g2 g3 => by omega
        rw [zt16 hk, Bool.false_and]
        clear c1 c2 c3
        repeat' (first | ((apply f_wo); first | ((apply f_gs); first | refine n_sk ?_) | ((apply f_mv); first | (refine zw1 ?_ ?_ <;> intro hG <;> (try cases hG)) | refine zg1 (v := .c _) ?_ | refine za ?_) | ((apply f_as); first | refine zf1 (v := .c _) ?_ | refine za ?_) | ((apply f_fa); first | refine n_fa ?_ | refine zk1 ?_) | ((apply f_ld); first | refine zp1 ?_ | refine zb1 ?_ | refine zw ?_ | refine zi1 ?_ | refine n_ld ?_) | ((apply f_bi); first | refine zd1 ?_ | refine zc1 ?_ | refine ze1 ?_ | refine za ?_) | ((apply f_st); first | refine n_st ?_ | refine zt1 ?_) | ((apply f_ia); first | refine n_ix ?_ | refine zc2 ?_ | refine za ?_) | ((apply zz1); first | refine za1 ?_ | refine zr4 ?_ | refine za ?_) | ((apply za2); first | refine zq ?_ | refine za ?_) | ((apply zq3); first | refine zh1 ?_ | refine za ?_) | ((apply zs3); first | refine zo1 ?_ | refine za ?_) | ((apply zs1); first | refine zo ?_ | refine zr1 ?_ | refine za ?_) | ((apply f_no); first | refine zj2 ?_ | refine za ?_) | ((apply f_pk); first | refine zu1 (v := .c _) ?_ | refine za ?_) | refine n_al ?_ | refine n_bo ?_ | refine zx3 ?_ | refine za ?_) | ((apply f_w); first | refine zy ?_ | refine zc ?_) | refine zb fun C => ?_ | refine zn ?_ | refine ze ?_ | refine zh ?_ | refine zi ?_)
        iterate 15
          (first
            | refine zv rfl ?_
            | refine zt (by rfl) (fun hC => absurd (eq_of_beq hC) (hk _ (by omega) (by omega))) fun hC => ?_
            | skip) <;> repeat' (first | ((apply f_wo); first | ((apply f_gs); first | refine n_sk ?_) | ((apply f_mv); first | (refine zw1 ?_ ?_ <;> intro hG <;> (try cases hG)) | refine zg1 (v := .c _) ?_ | refine za ?_) | ((apply f_as); first | refine zf1 (v := .c _) ?_ | refine za ?_) | ((apply f_fa); first | refine n_fa ?_ | refine zk1 ?_) | ((apply f_ld); first | refine zp1 ?_ | refine zb1 ?_ | refine zw ?_ | refine zi1 ?_ | refine n_ld ?_) | ((apply f_bi); first | refine zd1 ?_ | refine zc1 ?_ | refine ze1 ?_ | refine za ?_) | ((apply f_st); first | refine n_st ?_ | refine zt1 ?_) | ((apply f_ia); first | refine n_ix ?_ | refine zc2 ?_ | refine za ?_) | ((apply zz1); first | refine za1 ?_ | refine zr4 ?_ | refine za ?_) | ((apply za2); first | refine zq ?_ | refine za ?_) | ((apply zq3); first | refine zh1 ?_ | refine za ?_) | ((apply zs3); first | refine zo1 ?_ | refine za ?_) | ((apply zs1); first | refine zo ?_ | refine zr1 ?_ | refine za ?_) | ((apply f_no); first | refine zj2 ?_ | refine za ?_) | ((apply f_pk); first | refine zu1 (v := .c _) ?_ | refine za ?_) | refine n_al ?_ | refine n_bo ?_ | refine zx3 ?_ | refine za ?_) | ((apply f_w); first | refine zy ?_ | refine zc ?_) | refine zb fun C => ?_ | refine zn ?_ | refine ze ?_ | refine zh ?_ | refine zi ?_)
        (show Gh _ _
         refine zo2 _ _ rfl rfl (TmOk.cons rfl (TmOk.cons rfl (TmOk.cons (zg12 rfl (Lib.hid ?_)) TmOk.nil))) (RwOk.cons (zi2 rfl ?_) RwOk.nil)
         · rfl
         · simp [cloL, clo, zf])
  · cases hh : headI (E.agg [.int .i64 x0, .str x1, .lst 3 86 x2A x2c l]) with
    | false =>
      repeat' (first | ((apply f_wo); first | ((apply f_gs); first | refine n_sk ?_) | ((apply f_mv); first | (refine zw1 ?_ ?_ <;> intro hG <;> (try cases hG)) | refine zg1 (v := .c _) ?_ | refine za ?_) | ((apply f_as); first | refine zf1 (v := .c _) ?_ | refine za ?_) | ((apply f_fa); first | refine n_fa ?_ | refine zk1 ?_) | ((apply f_ld); first | refine zp1 ?_ | refine zb1 ?_ | refine zw ?_ | refine zi1 ?_ | refine n_ld ?_) | ((apply f_bi); first | refine zd1 ?_ | refine zc1 ?_ | refine ze1 ?_ | refine za ?_) | ((apply f_st); first | refine n_st ?_ | refine zt1 ?_) | ((apply f_ia); first | refine n_ix ?_ | refine zc2 ?_ | refine za ?_) | ((apply zz1); first | refine za1 ?_ | refine zr4 ?_ | refine za ?_) | ((apply za2); first | refine zq ?_ | refine za ?_) | ((apply zq3); first | refine zh1 ?_ | refine za ?_) | ((apply zs3); first | refine zo1 ?_ | refine za ?_) | ((apply zs1); first | refine zo ?_ | refine zr1 ?_ | refine za ?_) | ((apply f_no); first | refine zj2 ?_ | refine za ?_) | ((apply f_pk); first | refine zu1 (v := .c _) ?_ | refine za ?_) | refine n_al ?_ | refine n_bo ?_ | refine zx3 ?_ | refine za ?_) | ((apply f_w); first | refine zy ?_ | refine zc ?_) | refine zb fun C => ?_ | refine zn ?_ | refine ze ?_ | refine zh ?_ | refine zi ?_ | refine zx rfl ?_ | refine zv rfl ?_)
      refine zu ?_
      refine ret0 (x := .c (.v (.int .i64 61))) rfl zn2 ⟨?_, rfl⟩
      unfold partsI; rw [hh]; rfl
    | true =>
      have hres : partsI (f + 1) (E.agg [.int .i64 x0, .str x1, .lst 3 86 x2A x2c l]) = sumI (partsI f) l 1 := by unfold partsI; rw [hh]; rfl
      rw [hres]
      clear hres
      generalize hT : sumI (partsI f) l 1 = tot
      repeat' (first | ((apply f_wo); first | ((apply f_gs); first | refine n_sk ?_) | ((apply f_mv); first | (refine zw1 ?_ ?_ <;> intro hG <;> (try cases hG)) | refine zg1 (v := .c _) ?_ | refine za ?_) | ((apply f_as); first | refine zf1 (v := .c _) ?_ | refine za ?_) | ((apply f_fa); first | refine n_fa ?_ | refine zk1 ?_) | ((apply f_ld); first | refine zp1 ?_ | refine zb1 ?_ | refine zw ?_ | refine zi1 ?_ | refine n_ld ?_) | ((apply f_bi); first | refine zd1 ?_ | refine zc1 ?_ | refine ze1 ?_ | refine za ?_) | ((apply f_st); first | refine n_st ?_ | refine zt1 ?_) | ((apply f_ia); first | refine n_ix ?_ | refine zc2 ?_ | refine za ?_) | ((apply zz1); first | refine za1 ?_ | refine zr4 ?_ | refine za ?_) | ((apply za2); first | refine zq ?_ | refine za ?_) | ((apply zq3); first | refine zh1 ?_ | refine za ?_) | ((apply zs3); first | refine zo1 ?_ | refine za ?_) | ((apply zs1); first | refine zo ?_ | refine zr1 ?_ | refine za ?_) | ((apply f_no); first | refine zj2 ?_ | refine za ?_) | ((apply f_pk); first | refine zu1 (v := .c _) ?_ | refine za ?_) | refine n_al ?_ | refine n_bo ?_ | refine zx3 ?_ | refine za ?_) | ((apply f_w); first | refine zy ?_ | refine zc ?_) | refine zb fun C => ?_ | refine zn ?_ | refine ze ?_ | refine zh ?_ | refine zi ?_ | refine zx rfl ?_ | refine zv rfl ?_)
      refine zp3 (fun d : Nat × Nat => ⟨tmsF [(1, .c (.v (.int .i64 (deep : Int)))), (6, .c (.v (.int .i64 (d.2 : Int)))), (99, .c (.ro l.length 3 (acL l))), (100, .c (.v (.int .i64 l.length))), (101, .c (.v (.int .i64 (d.1 : Int))))], hpsF [], 0, [], 115⟩) (fun N d => d.1 + N = l.length ∧ d.2 ≤ 60 ∧ sumI (partsI f) (l.drop d.1) d.2 = tot) l.length (0, 1) ⟨by simp, by simp, hT⟩ ?_ ?_
      · (refine zo2 _ _ rfl rfl ?_ ?_ <;> (repeat' (first | exact TmOk.nil | exact RwOk.nil | refine TmOk.cons ?_ ?_ | refine RwOk.cons ?_ ?_ | rfl | (refine rnV_id' rfl ?_; (first | rfl | (simp [cloV, cloL, clo, zj, zf, zk, zg, zd]; done))) | (refine zd3 ?_; first | rfl | omega | (rw [zb2 (by omega) (by omega)]; omega)) | (refine zi2 rfl ?_; (first | rfl | (simp [cloV, cloL, clo, zj, zf, zk, zg, zd]; done))) | exact zj4 rfl rfl | (refine ze3 (by rfl) (by rfl) ?_ ?_ <;> (first | rfl | (simp [cloV, cloL, clo, zj, zf, zk, zg, zd]; done))) | (refine rw_rn' rfl rfl ?_; simp; done))))
      rintro N ⟨k, n⟩ ⟨hN, hn, hs⟩
      dsimp only at hN hn hs ⊢
      repeat' (first | ((apply f_wo); first | ((apply f_gs); first | refine n_sk ?_) | ((apply f_mv); first | (refine zw1 ?_ ?_ <;> intro hG <;> (try cases hG)) | refine zg1 (v := .c _) ?_ | refine za ?_) | ((apply f_as); first | refine zf1 (v := .c _) ?_ | refine za ?_) | ((apply f_fa); first | refine n_fa ?_ | refine zk1 ?_) | ((apply f_ld); first | refine zp1 ?_ | refine zb1 ?_ | refine zw ?_ | refine zi1 ?_ | refine n_ld ?_) | ((apply f_bi); first | refine zd1 ?_ | refine zc1 ?_ | refine ze1 ?_ | refine za ?_) | ((apply f_st); first | refine n_st ?_ | refine zt1 ?_) | ((apply f_ia); first | refine n_ix ?_ | refine zc2 ?_ | refine za ?_) | ((apply zz1); first | refine za1 ?_ | refine zr4 ?_ | refine za ?_) | ((apply za2); first | refine zq ?_ | refine za ?_) | ((apply zq3); first | refine zh1 ?_ | refine za ?_) | ((apply zs3); first | refine zo1 ?_ | refine za ?_) | ((apply zs1); first | refine zo ?_ | refine zr1 ?_ | refine za ?_) | ((apply f_no); first | refine zj2 ?_ | refine za ?_) | ((apply f_pk); first | refine zu1 (v := .c _) ?_ | refine za ?_) | refine n_al ?_ | refine n_bo ?_ | refine zx3 ?_ | refine za ?_) | ((apply f_w); first | refine zy ?_ | refine zc ?_) | refine zb fun C => ?_ | refine zn ?_ | refine ze ?_ | refine zh ?_ | refine zi ?_)
      refine zt (by rfl) (fun h1 => ?_) fun h1 => ?_
      · have hk : k < l.length := by simpa using h1
        obtain ⟨x, hx⟩ : ∃ x, l[k]? = some x := ⟨_, List.getElem?_eq_getElem hk⟩
        have hxt := gx2.1 x (List.mem_of_getElem? hx)
        have hxs := E.szL_mem (List.mem_of_getElem? hx)
        have hc := ih x (deep + 1) hxt (by omega) (by omega)
        have hb := zf20 f x
        have hd1 : l.drop k = x :: l.drop (k + 1) := by rw [List.drop_eq_getElem_cons hk]; congr 1; rw [List.getElem?_eq_getElem hk] at hx; exact Option.some.inj hx
        rw [hd1] at hs
        unfold sumI at hs
        have hgk := gx2.2
        obtain ⟨y0, y1, y2A, y2c, y2l, rfl, gy0, gy1, gy2, -⟩ := zq1 hxt
        repeat' (first | ((apply f_wo); first | ((apply f_gs); first | refine n_sk ?_) | ((apply f_mv); first | (refine zw1 ?_ ?_ <;> intro hG <;> (try cases hG)) | refine zg1 (v := .c _) ?_ | refine za ?_) | ((apply f_as); first | refine zf1 (v := .c _) ?_ | refine za ?_) | ((apply f_fa); first | refine n_fa ?_ | refine zk1 ?_) | ((apply f_ld); first | refine zp1 ?_ | refine zb1 ?_ | refine zw ?_ | refine zi1 ?_ | refine n_ld ?_) | ((apply f_ca); first | refine zr2 (hc) ?_ | refine zp2 (hc) ?_) | ((apply f_bi); first | refine zd1 ?_ | refine zc1 ?_ | refine ze1 ?_ | refine za ?_) | ((apply f_st); first | refine n_st ?_ | refine zt1 ?_) | ((apply f_ia); first | refine n_ix ?_ | refine zc2 ?_ | refine za ?_) | ((apply zz1); first | refine za1 ?_ | refine zr4 ?_ | refine za ?_) | ((apply za2); first | refine zq ?_ | refine za ?_) | ((apply zq3); first | refine zh1 ?_ | refine za ?_) | ((apply zs3); first | refine zo1 ?_ | refine za ?_) | ((apply zs1); first | refine zo ?_ | refine zr1 ?_ | refine za ?_) | ((apply f_no); first | refine zj2 ?_ | refine za ?_) | ((apply f_pk); first | refine zu1 (v := .c _) ?_ | refine za ?_) | refine n_al ?_ | refine n_bo ?_ | refine zx3 ?_ | refine za ?_) | ((apply f_w); first | refine zy ?_ | refine zc ?_) | refine zb fun C => ?_ | refine zn ?_ | refine ze ?_ | refine zh ?_ | refine zi ?_)
        refine zt (by rfl) (fun h2 => ?_) fun h2 => ?_
        · have h3 : 61 ≤ n + partsI f (E.agg [.int .i64 y0, .str y1, .lst 3 86 y2A y2c y2l]) := by simp at h2; omega
          repeat' (first | ((apply f_wo); first | ((apply f_gs); first | refine n_sk ?_) | ((apply f_mv); first | (refine zw1 ?_ ?_ <;> intro hG <;> (try cases hG)) | refine zg1 (v := .c _) ?_ | refine za ?_) | ((apply f_as); first | refine zf1 (v := .c _) ?_ | refine za ?_) | ((apply f_fa); first | refine n_fa ?_ | refine zk1 ?_) | ((apply f_ld); first | refine zp1 ?_ | refine zb1 ?_ | refine zw ?_ | refine zi1 ?_ | refine n_ld ?_) | ((apply f_bi); first | refine zd1 ?_ | refine zc1 ?_ | refine ze1 ?_ | refine za ?_) | ((apply f_st); first | refine n_st ?_ | refine zt1 ?_) | ((apply f_ia); first | refine n_ix ?_ | refine zc2 ?_ | refine za ?_) | ((apply zz1); first | refine za1 ?_ | refine zr4 ?_ | refine za ?_) | ((apply za2); first | refine zq ?_ | refine za ?_) | ((apply zq3); first | refine zh1 ?_ | refine za ?_) | ((apply zs3); first | refine zo1 ?_ | refine za ?_) | ((apply zs1); first | refine zo ?_ | refine zr1 ?_ | refine za ?_) | ((apply f_no); first | refine zj2 ?_ | refine za ?_) | ((apply f_pk); first | refine zu1 (v := .c _) ?_ | refine za ?_) | refine n_al ?_ | refine n_bo ?_ | refine zx3 ?_ | refine za ?_) | ((apply f_w); first | refine zy ?_ | refine zc ?_) | refine zb fun C => ?_ | refine zn ?_ | refine ze ?_ | refine zh ?_ | refine zi ?_ | refine zx rfl ?_ | refine zv rfl ?_)
          refine zu ?_
          refine ret0 (x := .c (.v (.int .i64 61))) rfl zn2 ⟨?_, rfl⟩
          rw [if_pos h3] at hs
          rw [← hs]; rfl
        · have h3 : ¬ 61 ≤ n + partsI f (E.agg [.int .i64 y0, .str y1, .lst 3 86 y2A y2c y2l]) := by simp at h2; omega
          rw [if_neg h3] at hs
          repeat' (first | ((apply f_wo); first | ((apply f_gs); first | refine n_sk ?_) | ((apply f_mv); first | (refine zw1 ?_ ?_ <;> intro hG <;> (try cases hG)) | refine zg1 (v := .c _) ?_ | refine za ?_) | ((apply f_as); first | refine zf1 (v := .c _) ?_ | refine za ?_) | ((apply f_fa); first | refine n_fa ?_ | refine zk1 ?_) | ((apply f_ld); first | refine zp1 ?_ | refine zb1 ?_ | refine zw ?_ | refine zi1 ?_ | refine n_ld ?_) | ((apply f_bi); first | refine zd1 ?_ | refine zc1 ?_ | refine ze1 ?_ | refine za ?_) | ((apply f_st); first | refine n_st ?_ | refine zt1 ?_) | ((apply f_ia); first | refine n_ix ?_ | refine zc2 ?_ | refine za ?_) | ((apply zz1); first | refine za1 ?_ | refine zr4 ?_ | refine za ?_) | ((apply za2); first | refine zq ?_ | refine za ?_) | ((apply zq3); first | refine zh1 ?_ | refine za ?_) | ((apply zs3); first | refine zo1 ?_ | refine za ?_) | ((apply zs1); first | refine zo ?_ | refine zr1 ?_ | refine za ?_) | ((apply f_no); first | refine zj2 ?_ | refine za ?_) | ((apply f_pk); first | refine zu1 (v := .c _) ?_ | refine za ?_) | refine n_al ?_ | refine n_bo ?_ | refine zx3 ?_ | refine za ?_) | ((apply f_w); first | refine zy ?_ | refine zc ?_) | refine zb fun C => ?_ | refine zn ?_ | refine ze ?_ | refine zh ?_ | refine zi ?_ | refine zx rfl ?_ | refine zv rfl ?_)
          refine ⟨N - 1, (k + 1, n + partsI f (E.agg [.int .i64 y0, .str y1, .lst 3 86 y2A y2c y2l])), by omega, ⟨by dsimp only; omega, by dsimp only; omega, hs⟩, ?_⟩
          (refine zo2 _ _ rfl rfl ?_ ?_ <;> (repeat' (first | exact TmOk.nil | exact RwOk.nil | refine TmOk.cons ?_ ?_ | refine RwOk.cons ?_ ?_ | rfl | (refine rnV_id' rfl ?_; (first | rfl | (simp [cloV, cloL, clo, zj, zf, zk, zg, zd]; done))) | (refine zd3 ?_; first | rfl | omega | (rw [zb2 (by omega) (by omega)]; omega)) | (refine zi2 rfl ?_; (first | rfl | (simp [cloV, cloL, clo, zj, zf, zk, zg, zd]; done))) | exact zj4 rfl rfl | (refine ze3 (by rfl) (by rfl) ?_ ?_ <;> (first | rfl | (simp [cloV, cloL, clo, zj, zf, zk, zg, zd]; done))) | (refine rw_rn' rfl rfl ?_; simp; done))))
      · have hk : k = l.length := by simp at h1; omega
        repeat' (first | ((apply f_wo); first | ((apply f_gs); first | refine n_sk ?_) | ((apply f_mv); first | (refine zw1 ?_ ?_ <;> intro hG <;> (try cases hG)) | refine zg1 (v := .c _) ?_ | refine za ?_) | ((apply f_as); first | refine zf1 (v := .c _) ?_ | refine za ?_) | ((apply f_fa); first | refine n_fa ?_ | refine zk1 ?_) | ((apply f_ld); first | refine zp1 ?_ | refine zb1 ?_ | refine zw ?_ | refine zi1 ?_ | refine n_ld ?_) | ((apply f_bi); first | refine zd1 ?_ | refine zc1 ?_ | refine ze1 ?_ | refine za ?_) | ((apply f_st); first | refine n_st ?_ | refine zt1 ?_) | ((apply f_ia); first | refine n_ix ?_ | refine zc2 ?_ | refine za ?_) | ((apply zz1); first | refine za1 ?_ | refine zr4 ?_ | refine za ?_) | ((apply za2); first | refine zq ?_ | refine za ?_) | ((apply zq3); first | refine zh1 ?_ | refine za ?_) | ((apply zs3); first | refine zo1 ?_ | refine za ?_) | ((apply zs1); first | refine zo ?_ | refine zr1 ?_ | refine za ?_) | ((apply f_no); first | refine zj2 ?_ | refine za ?_) | ((apply f_pk); first | refine zu1 (v := .c _) ?_ | refine za ?_) | refine n_al ?_ | refine n_bo ?_ | refine zx3 ?_ | refine za ?_) | ((apply f_w); first | refine zy ?_ | refine zc ?_) | refine zb fun C => ?_ | refine zn ?_ | refine ze ?_ | refine zh ?_ | refine zi ?_ | refine zx rfl ?_ | refine zv rfl ?_)
        refine zu ?_
        refine ret0 (x := .c (.v (.int .i64 (n : Int)))) rfl zn2 ⟨?_, rfl⟩
        rw [hk, List.drop_length] at hs
        rw [← hs]; rfl
theorem zs17 (f : Nat) : ∀ (e : E) (deep : Nat), e.Ty Try.prog 86 → e.sz ≤ 4194304 → deep + f = 7 → Ctr Try.prog 92 [.ag (acE e), .c (.v (.int .i64 (deep : Int)))] [] (.c (.v (.int .i64 ((partsI f e : Nat) : Int)))) [] := by
  induction f with
  | zero =>
    intro e deep he hsz hd
    obtain ⟨x0, x1, x2A, x2c, l, rfl, gx0, gx1, gx2, -⟩ := zq1 he
    refine zm2 Try.func92 rfl rfl ?_
    obtain rfl : deep = 7 := by omega
    repeat' (first | ((apply f_wo); first | ((apply f_gs); first | refine n_sk ?_) | ((apply f_mv); first | (refine zw1 ?_ ?_ <;> intro hG <;> (try cases hG)) | refine zg1 (v := .c _) ?_ | refine za ?_) | ((apply f_as); first | refine zf1 (v := .c _) ?_ | refine za ?_) | ((apply f_fa); first | refine n_fa ?_ | refine zk1 ?_) | ((apply f_ld); first | refine zp1 ?_ | refine zb1 ?_ | refine zw ?_ | refine zi1 ?_ | refine n_ld ?_) | ((apply f_bi); first | refine zd1 ?_ | refine zc1 ?_ | refine ze1 ?_ | refine za ?_) | ((apply f_st); first | refine n_st ?_ | refine zt1 ?_) | ((apply f_ia); first | refine n_ix ?_ | refine zc2 ?_ | refine za ?_) | ((apply zz1); first | refine za1 ?_ | refine zr4 ?_ | refine za ?_) | ((apply za2); first | refine zq ?_ | refine za ?_) | ((apply zq3); first | refine zh1 ?_ | refine za ?_) | ((apply zs3); first | refine zo1 ?_ | refine za ?_) | ((apply zs1); first | refine zo ?_ | refine zr1 ?_ | refine za ?_) | ((apply f_no); first | refine zj2 ?_ | refine za ?_) | ((apply f_pk); first | refine zu1 (v := .c _) ?_ | refine za ?_) | refine n_al ?_ | refine n_bo ?_ | refine zx3 ?_ | refine za ?_) | ((apply f_w); first | refine zy ?_ | refine zc ?_) | refine zb fun C => ?_ | refine zn ?_ | refine ze ?_ | refine zh ?_ | refine zi ?_ | refine zx rfl ?_ | refine zv rfl ?_)
    refine zu ?_
    exact ret0 (x := .c (.v (.int .i64 61))) rfl zn2 ⟨rfl, rfl⟩
  | succ f ih => exact zr17 ih
def intE : E → Int
  | .int _ z => z
  | _ => 0
theorem indInt_c {l : List E} (hl : ∀ e ∈ l, e.Ty Try.prog 3) (hk : ∀ e ∈ l, e.enc.length = 1) (hlen : l.length ≤ 1073741824) (v : Int) : Ctr Try.prog 117 [.c (.ro l.length 1 (acL l)), .c (.v (.int .i64 v))] [] (.c (.v (.int .i64 (idxF (fun e => v == intE e) l)))) [] := by
  refine zm2 Try.func117 rfl rfl ?_
  repeat (first | refine zn ?_ | refine ze ?_ | refine zh ?_ | refine zi ?_ | refine zu ?_ | refine zb fun C => ?_ | refine zp (by kernel_rfl) (by kernel_rfl) fun C => ?_ | refine zc ?_ | refine zr3 ?_ | refine x_bs ?_ | refine x_gr ?_ | refine x_st ?_ | refine x_mv ?_ | refine x_sk ?_ | refine ze4 ?_ | refine x_ix ?_ | refine zf4 ?_ | refine zg4 ?_ | refine zu3 ?_ | refine zv2 ?_ | refine x_ld ?_)
  refine zp3 (fun k : Nat => ⟨tmsF [(0, .c (.ro l.length 1 (acL l))), (1, .c (.v (.int .i64 v))), (7, .c (.v (.int .i64 l.length))), (8, .c (.v (.int .i64 k)))], hpsF [], 0, [], 19⟩)
    (fun N k => k + N = l.length ∧ ∀ j y, j < k → l[j]? = some y → (fun e => v == intE e) y = false) l.length 0 ⟨by omega, by omega⟩ ?_ ?_
  · (refine zo2 _ _ rfl rfl ?_ ?_ <;> (repeat' (first | exact TmOk.nil | exact RwOk.nil | refine TmOk.cons ?_ ?_ | refine RwOk.cons ?_ ?_ | rfl | (refine rnV_id' rfl ?_; (first | rfl | (simp [cloV, cloL, clo, zj, zf, zk, zg, zd]; done))) | (refine zd3 ?_; first | rfl | omega | (rw [zb2 (by omega) (by omega)]; omega)) | (refine zi2 rfl ?_; (first | rfl | (simp [cloV, cloL, clo, zj, zf, zk, zg, zd]; done))) | exact zj4 rfl rfl | (refine ze3 (by rfl) (by rfl) ?_ ?_ <;> (first | rfl | (simp [cloV, cloL, clo, zj, zf, zk, zg, zd]; done))) | (refine rw_rn' rfl rfl ?_; simp; done))))
  rintro N k ⟨hN, hno⟩
  repeat (first | refine zn ?_ | refine ze ?_ | refine zh ?_ | refine zi ?_ | refine zu ?_ | refine zb fun C => ?_ | refine zp (by kernel_rfl) (by kernel_rfl) fun C => ?_ | refine zc ?_ | refine zr3 ?_ | refine x_bs ?_ | refine x_gr ?_ | refine x_st ?_ | refine x_mv ?_ | refine x_sk ?_ | refine ze4 ?_ | refine x_ix ?_ | refine zf4 ?_ | refine zg4 ?_ | refine zu3 ?_ | refine zv2 ?_ | refine x_ld ?_)
  refine zt3 (by rfl) (fun h1 => ?_) fun h1 => ?_
  · have hk' : k < l.length := by simpa using h1
    obtain ⟨x, hx⟩ : ∃ x, l[k]? = some x := ⟨_, List.getElem?_eq_getElem hk'⟩
    have hxt := hl x (List.mem_of_getElem? hx)
    obtain ⟨y0, rfl, -⟩ := hxt.int_ Try.underlying3
    repeat (first | refine zn ?_ | refine ze ?_ | refine zh ?_ | refine zi ?_ | refine zu ?_ | refine zb fun C => ?_ | refine zp (by kernel_rfl) (by kernel_rfl) fun C => ?_ | refine zc ?_ | refine zr3 ?_ | refine x_bs ?_ | refine x_gr ?_ | refine x_st ?_ | refine x_mv ?_ | refine x_sk ?_ | refine ze4 ?_ | refine x_ix ?_ | refine zf4 ?_ | refine zg4 ?_ | refine zu3 ?_ | refine zv2 ?_ | refine x_ld ?_)
    refine zt3 (by rfl) (fun h2 => ?_) fun h2 => ?_
    · repeat (first | refine zn ?_ | refine ze ?_ | refine zh ?_ | refine zi ?_ | refine zu ?_ | refine zb fun C => ?_ | refine zp (by kernel_rfl) (by kernel_rfl) fun C => ?_ | refine zc ?_ | refine zr3 ?_ | refine x_bs ?_ | refine x_gr ?_ | refine x_st ?_ | refine x_mv ?_ | refine x_sk ?_ | refine ze4 ?_ | refine x_ix ?_ | refine zf4 ?_ | refine zg4 ?_ | refine zu3 ?_ | refine zv2 ?_ | refine x_ld ?_)
      refine ret0 (x := .c (.v (.int .i64 k))) rfl zn2 ⟨?_, rfl⟩
      rw [zb10 hno hx (by simpa [intE, strB] using h2)]
    · repeat (first | refine zn ?_ | refine ze ?_ | refine zh ?_ | refine zi ?_ | refine zu ?_ | refine zb fun C => ?_ | refine zp (by kernel_rfl) (by kernel_rfl) fun C => ?_ | refine zc ?_ | refine zr3 ?_ | refine x_bs ?_ | refine x_gr ?_ | refine x_st ?_ | refine x_mv ?_ | refine x_sk ?_ | refine ze4 ?_ | refine x_ix ?_ | refine zf4 ?_ | refine zg4 ?_ | refine zu3 ?_ | refine zv2 ?_ | refine x_ld ?_)
      refine ⟨N - 1, k + 1, by omega, ⟨by omega, fun j z hj hz => ?_⟩, ?_⟩
      · by_cases e : j = k
        · rw [e, hx] at hz; injection hz with hz; subst hz; simpa [intE, strB] using h2
        · exact hno j z (by omega) hz
      · (refine zo2 _ _ rfl rfl ?_ ?_ <;> (repeat' (first | exact TmOk.nil | exact RwOk.nil | refine TmOk.cons ?_ ?_ | refine RwOk.cons ?_ ?_ | rfl | (refine rnV_id' rfl ?_; (first | rfl | (simp [cloV, cloL, clo, zj, zf, zk, zg, zd]; done))) | (refine zd3 ?_; first | rfl | omega | (rw [zb2 (by omega) (by omega)]; omega)) | (refine zi2 rfl ?_; (first | rfl | (simp [cloV, cloL, clo, zj, zf, zk, zg, zd]; done))) | exact zj4 rfl rfl | (refine ze3 (by rfl) (by rfl) ?_ ?_ <;> (first | rfl | (simp [cloV, cloL, clo, zj, zf, zk, zg, zd]; done))) | (refine rw_rn' rfl rfl ?_; simp; done))))
  · have hk' : ¬ k < l.length := by simpa using h1
    repeat (first | refine zn ?_ | refine ze ?_ | refine zh ?_ | refine zi ?_ | refine zu ?_ | refine zb fun C => ?_ | refine zp (by kernel_rfl) (by kernel_rfl) fun C => ?_ | refine zc ?_ | refine zr3 ?_ | refine x_bs ?_ | refine x_gr ?_ | refine x_st ?_ | refine x_mv ?_ | refine x_sk ?_ | refine ze4 ?_ | refine x_ix ?_ | refine zf4 ?_ | refine zg4 ?_ | refine zu3 ?_ | refine zv2 ?_ | refine x_ld ?_)
    refine ret0 (x := .c (.v (.int .i64 (-1)))) rfl zn2 ⟨?_, rfl⟩
    rw [zp6 fun j y hj hy => hno j y (by omega) hy]
theorem hasInt_c {l : List E} (hl : ∀ e ∈ l, e.Ty Try.prog 3) (hk : ∀ e ∈ l, e.enc.length = 1) (hlen : l.length ≤ 1073741824) (v : Int) : Ctr Try.prog 108 [.c (.ro l.length 1 (acL l)), .c (.v (.int .i64 v))] [] (.c (.v (.bool (l.any (fun e => v == intE e))))) [] := by
  refine zm2 Try.func108 rfl rfl ?_
  have hcc := indInt_c hl hk hlen v
  repeat (first | refine zn ?_ | refine ze ?_ | refine zh ?_ | refine zi ?_ | refine zu ?_ | refine zb fun C => ?_ | refine zp (by kernel_rfl) (by kernel_rfl) fun C => ?_ | refine zc ?_ | refine zr3 ?_ | refine x_bs ?_ | refine x_gr ?_ | refine x_st ?_ | refine x_mv ?_ | refine x_sk ?_ | refine ze4 ?_ | refine x_ix ?_ | refine zf4 ?_ | refine zg4 ?_ | refine zu3 ?_ | refine zv2 ?_ | refine x_ld ?_)
  refine zu6 hcc ?_
  repeat (first | refine zn ?_ | refine ze ?_ | refine zh ?_ | refine zi ?_ | refine zu ?_ | refine zb fun C => ?_ | refine zp (by kernel_rfl) (by kernel_rfl) fun C => ?_ | refine zc ?_ | refine zr3 ?_ | refine x_bs ?_ | refine x_gr ?_ | refine x_st ?_ | refine x_mv ?_ | refine x_sk ?_ | refine ze4 ?_ | refine x_ix ?_ | refine zf4 ?_ | refine zg4 ?_ | refine zu3 ?_ | refine zv2 ?_ | refine x_ld ?_)
  refine ret0 (x := .c (.v (.bool (decide (idxF (fun e => v == intE e) l ≥ 0))))) rfl zn2 ⟨?_, rfl⟩
  rw [zu7]
theorem zm10 {e : E} (he : e.Ty Try.prog 86) (hsz : e.sz ≤ 4194304) : Ctr Try.prog 80 [.ag (acE e)] [] (.c (.v (.bool (rexOkI e)))) [] := by
  have hc := zs17 6 e 1 he hsz rfl
  obtain ⟨x0, x1, x2A, x2c, l, rfl, gx0, gx1, gx2, -⟩ := zq1 he
  refine zm2 Try.func80 rfl rfl ?_
  repeat' (first | ((apply f_wo); first | ((apply f_as); first | refine zf1 (v := .c _) ?_ | refine za ?_) | ((apply f_ld); first | refine zw ?_ | refine zi1 ?_ | refine n_ld ?_) | ((apply f_ca); first | refine zr2 (hc) ?_ | refine zp2 (hc) ?_) | ((apply zb6); first | refine zj3 ?_ | refine za ?_) | refine n_bo ?_ | refine za ?_) | ((apply f_w); first | refine zy ?_ | refine zc ?_) | refine zb fun C => ?_ | refine zn ?_ | refine ze ?_ | refine zh ?_ | refine zi ?_ | (refine zt (by rfl) ?_ ?_ <;> intro hC <;> (try cases hC)))
  (first | refine zu ?_ | skip); refine ret0 rfl zn2 ⟨?_, rfl⟩; refine congrArg (fun s => AV.c (AC.v (Value.bool s))) ?_
  unfold rexOkI
  (rw [Bool.eq_iff_iff]; (try simp only [Bool.and_eq_true, Bool.or_eq_true, Bool.not_eq_true', decide_eq_true_iff, decide_eq_false_iff_not, beq_iff_eq, Bool.and_eq_false_iff, Bool.or_eq_false_iff, bne_iff_ne, ne_eq, Bool.true_eq_false, Bool.false_eq_true, true_iff, false_iff, iff_true, iff_false] at *); first | omega | (simp at *; omega))
def withK (ks : List Int) (k : Int) (t : ByteArray) : ByteArray := if ks.any (fun x => k == x) then ⟨#[40]⟩ ++ t ++ ⟨#[41]⟩ else t
theorem zg21 (a : List (List UInt8)) (x sep : List UInt8) : Lib.join (a ++ [x]) sep = (if a = [] then [] else Lib.join a sep ++ sep) ++ x := by
  cases a with
  | nil => simp [Lib.join_one]
  | cons y r =>
    rw [List.cons_append, Lib.join_cons, Lib.join_cons, if_neg (by simp)]
    simp [Lib.joinTail, List.append_assoc]
theorem zs11 (a b : List UInt8) : (ByteArray.mk (a ++ b).toArray) = ⟨a.toArray⟩ ++ ⟨b.toArray⟩ := by rw [ByteArray.mk_append_mk]
theorem mk_eta (s : ByteArray) : (ByteArray.mk s.data.toList.toArray) = s := by cases s; rfl
theorem zt17 {a : List E} (x : E) (sep : ByteArray) : joinB (a ++ [x]) sep = (if a = [] then ByteArray.empty else joinB a sep ++ sep) ++ strB x := by
  unfold joinB
  rw [List.map_append, List.map_cons, List.map_nil, zg21, zs11, mk_eta]
  congr 1
  by_cases h : a = []
  · subst h; rfl
  · rw [if_neg h, if_neg (by simpa using h), zs11, mk_eta]
end Go.Proofs.Ytfdjognmechcfaa
