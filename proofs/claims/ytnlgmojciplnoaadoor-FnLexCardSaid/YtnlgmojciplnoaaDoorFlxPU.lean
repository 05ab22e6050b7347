/- Texts joined: plain lemmas. -/
import Derived.Test.YtnlgmojciplnoaaDoorFlxPT
namespace Go.Proofs.YtnlgmojciplnoaaDoor
open Go.RowKit
theorem zk17 (a : List (List UInt8)) (x sep : List UInt8) : Lib.join (a ++ [x]) sep = (if a = [] then [] else Lib.join a sep ++ sep) ++ x := by
  cases a with
  | nil => simp [Lib.join_one]
  | cons y r =>
    rw [List.cons_append, Lib.join_cons, Lib.join_cons, if_neg (by simp)]
    simp [Lib.joinTail, List.append_assoc]
theorem zm6 (a b : List UInt8) : (ByteArray.mk (a ++ b).toArray) = ⟨a.toArray⟩ ++ ⟨b.toArray⟩ := by rw [ByteArray.mk_append_mk]
theorem zm11 (s : ByteArray) : (ByteArray.mk s.data.toList.toArray) = s := by cases s; rfl
theorem zt14 {a : List E} (x : E) (sep : ByteArray) : joinB (a ++ [x]) sep = (if a = [] then ByteArray.empty else joinB a sep ++ sep) ++ strB x := by
  unfold joinB
  rw [List.map_append, List.map_cons, List.map_nil, zk17, zm6, zm11]
  congr 1
  by_cases h : a = []
  · subst h; rfl
  · rw [if_neg h, if_neg (by simpa using h), zm6, zm11]
theorem zr9 {l : List E} {k : Nat} {x : E} (hx : l[k]? = some x) (sep : ByteArray) : joinB (l.take (k + 1)) sep = (if k = 0 then ByteArray.empty else joinB (l.take k) sep ++ sep) ++ strB x := by
  obtain ⟨hk, -⟩ := List.getElem?_eq_some_iff.1 hx
  rw [List.take_add_one, hx, Option.toList_some, zt14]
  congr 1
  by_cases h : k = 0
  · subst h; rfl
  · rw [if_neg h, if_neg (fun e => by have := congrArg List.length e; rw [List.length_take, List.length_nil] at this; omega)]
theorem zs9 {sep : ByteArray} {n : Nat} (l : List E) (h : ∀ x ∈ l, (strB x).size ≤ n) : ∀ k, k ≤ l.length → (joinB (l.take k) sep).size ≤ k * (n + sep.size) := by
  intro k
  induction k with
  | zero => intro _; exact Nat.zero_le _
  | succ k ih =>
    intro hk
    have h1 := ih (by omega)
    obtain ⟨x, hx⟩ : ∃ x, l[k]? = some x := ⟨_, List.getElem?_eq_getElem (by omega)⟩
    have h2 := h x (List.mem_of_getElem? hx)
    rw [zr9 hx, ByteArray.size_append', Nat.add_mul, Nat.one_mul]
    split
    · have : ByteArray.empty.size = 0 := rfl
      omega
    · rw [ByteArray.size_append']; omega
set_option maxRecDepth 100000
abbrev T3 := Int × Int × ByteArray
def T3.E (t : T3) : E := tokE t.1 t.2.1 t.2.2
def tkT (k n : Int) (s : ByteArray) : ByteArray :=
  if tokOk k n s = true then if k = 1 then numT n else if k = 3 then (⟨#[39]⟩ ++ s) ++ ⟨#[39]⟩ else if k = 4 then (⟨#[47]⟩ ++ s) ++ ⟨#[47]⟩ else s else ⟨#[]⟩
def T3.T (t : T3) : ByteArray := tkT t.1 t.2.1 t.2.2
def good (r : Bool) (t : T3) : Prop := tokOk t.1 t.2.1 t.2.2 = true ∧ (t.1 = 4 → r = true) ∧ (t.1 = 5 → t.2.2 = ⟨#[47]⟩ → r = false)
def ch : Bool → List T3 → Bool → Prop
  | r, [], r' => r = r'
  | r, t :: l, r' => good r t ∧ ch (tilB t.1 t.2.2) l r'
theorem zl17 : ∀ {l : List T3} {r r' : Bool} {t : T3}, ch r l r' → good r' t → ch r (l ++ [t]) (tilB t.1 t.2.2)
  | [], r, r', t, h, g => by
    have : r = r' := h
    subst this
    exact ⟨g, rfl⟩
  | x :: l, r, r', t, h, g => ⟨h.1, zl17 (l := l) h.2 g⟩
theorem zq12 : ∀ {l : List T3} {r r' : Bool}, ch r l r' → ∀ t ∈ l, tokOk t.1 t.2.1 t.2.2 = true
  | [], _, _, _, t, ht => by cases ht
  | x :: l, r, r', h, t, ht => by
    rcases List.mem_cons.1 ht with rfl | ht
    · exact h.1.1
    · exact zq12 h.2 t ht
def AtS (S : ByteArray) (a : Nat) (x : ByteArray) : Prop := a + x.size ≤ S.size ∧ ∀ j, j < x.size → bAt S (a + j) = bAt x j
theorem zn11 {S x : ByteArray} {a : Nat} (h : AtS S a x) : cutB S a (a + x.size) = x := by
  have hz := zy2 (s := S) (a := a) (b := a + x.size) (by omega) h.1
  refine zf6 (by omega) fun j hj => ?_
  rw [zk4 h.1 (by omega)]
  exact h.2 j (by omega)
theorem zm17 {p : Nat → Bool} {S : ByteArray} {a e : Nat} (h1 : a ≤ e) (h2 : e ≤ S.size) (h3 : ∀ j, a ≤ j → j < e → p (bAt S j) = true) (h4 : e < S.size → p (bAt S e) = false) : runF p S S.size a = e := by
  obtain ⟨g1, g2, g3, g4⟩ := zv2 (p := p) (s := S) S.size a (by omega) (by omega)
  rcases Nat.lt_trichotomy (runF p S S.size a) e with h | h | h
  · have := h3 _ g1 h
    rw [g4 (by omega)] at this; cases this
  · exact h
  · have := g3 e h1 h
    rw [h4 (by omega)] at this; cases this
theorem zo20 (n : Nat) : Lib.decDigits n = if n < 10 then [UInt8.ofNat (48 + n)] else Lib.decDigits (n / 10) ++ [UInt8.ofNat (48 + n % 10)] := by
  rw [Lib.decDigits]
  split <;> rfl
theorem ofN {k : Nat} (h : k < 256) : (UInt8.ofNat k).toNat = k := by rw [UInt8.toNat_ofNat', Nat.mod_eq_of_lt h]
theorem zi10 : ∀ (m n : Nat), n ≤ m → valA 0 (Lib.decDigits n) = n ∧ digL (Lib.decDigits n)
  | 0, n, h => by
    obtain rfl : n = 0 := by omega
    rw [zo20, if_pos (by omega)]
    refine ⟨rfl, fun c hc => ?_⟩
    rw [List.mem_singleton.1 hc]; decide
  | m + 1, n, h => by
    rw [zo20]
    split
    · rename_i h10
      refine ⟨?_, fun c hc => ?_⟩
      · show 0 * 10 + ((UInt8.ofNat (48 + n)).toNat - 48) = n
        rw [ofN (by omega)]; omega
      · rw [List.mem_singleton.1 hc, ofN (by omega)]; omega
    · rename_i h10
      obtain ⟨i1, i2⟩ := zi10 m (n / 10) (by omega)
      refine ⟨?_, fun c hc => ?_⟩
      · rw [zg8, zg10, i1, ofN (by omega)]; omega
      · rcases List.mem_append.1 hc with hc | hc
        · exact i2 c hc
        · rw [List.mem_singleton.1 hc, ofN (by omega)]; omega
theorem zi8 {n : Int} (h : 0 ≤ n) : (numT n).data.toList = Lib.decDigits n.toNat := by
  obtain ⟨k, rfl⟩ : ∃ k : Nat, n = (k : Int) := ⟨n.toNat, by omega⟩
  rw [zj6, Int.toNat_natCast]
theorem zn17 {n : Int} (h : 0 ≤ n) : allB digB (numT n) = true := by
  have h2 := (zi10 _ n.toNat (Nat.le_refl _)).2
  rw [← zi8 h] at h2
  refine zo5 fun j hj => ?_
  have h3 := zh8 hj
  have h4 := h2 _ (List.mem_of_getElem? h3)
  rw [ofN (ze4 _ _)] at h4
  simpa [digB] using h4
theorem zr12 {n : Int} (h : 0 ≤ n) : 1 ≤ (numT n).size := by
  have h2 := zl20 _ n.toNat (Nat.le_refl _)
  rw [← zi8 h] at h2
  have : (numT n).data.toList.length = (numT n).size := Array.length_toList
  cases hl : (numT n).data.toList with
  | nil => exact absurd hl h2
  | cons c r => rw [hl, List.length_cons] at this; omega
theorem zk19 {n : Int} (h : 0 ≤ n) (h2 : n ≤ 2147483647) : intV (numT n) = n := by
  have hv : valS (numT n) = n.toNat := by
    unfold valS
    rw [zi8 h]; exact (zi10 _ n.toNat (Nat.le_refl _)).1
  have hn := (zm20 (zn17 h) (zr12 h)).1 ⟨by rw [hv]; omega, by rw [hv, Int.toNat_of_nonneg h]⟩
  by_cases hb : 1 ≤ (numT n).size ∧ (numT n).size ≤ 10 ∧ ¬ (1 < (numT n).size ∧ bAt (numT n) 0 = 48)
  · rw [zb7 hb, hv]; omega
  · rw [zb9 hb] at hn
    exact absurd hn (by decide)
theorem zf7 {x y : ByteArray} {j : Nat} (h : j < x.size) : bAt (x ++ y) j = bAt x j := by
  unfold bAt
  rw [ByteArray.data_append, Array.getElem?_append, if_pos (show j < x.data.size from h)]
theorem zj8 {x y : ByteArray} {j : Nat} (h : x.size ≤ j) : bAt (x ++ y) j = bAt y (j - x.size) := by
  unfold bAt
  rw [ByteArray.data_append, Array.getElem?_append, if_neg (show ¬ j < x.data.size from by show ¬ j < x.size; omega)]
  rfl
theorem zp20 {S s : ByteArray} {a b : Nat} {b8 : UInt8} (hb8 : b8.toNat = b) {k : Int} (h : AtS S a ((⟨#[b8]⟩ ++ s) ++ ⟨#[b8]⟩)) (hs : textB b s = true) : bAt S a = b ∧ quoR S a k = ⟨k, 0, s, a + ((⟨#[b8]⟩ ++ s) ++ ⟨#[b8]⟩ : ByteArray).size⟩ := by
  have hz : ((⟨#[b8]⟩ ++ s) ++ ⟨#[b8]⟩ : ByteArray).size = s.size + 2 := by
    rw [ByteArray.size_append', ByteArray.size_append']
    show 1 + s.size + 1 = _; omega
  have h1 : (⟨#[b8]⟩ : ByteArray).size = 1 := rfl
  have h1s : ((⟨#[b8]⟩ : ByteArray) ++ s).size = 1 + s.size := by rw [ByteArray.size_append', h1]
  have hsz := h.1
  rw [hz] at hsz
  have e0 : bAt S a = b := by
    have := h.2 0 (by omega)
    rw [Nat.add_zero, zf7 (by omega), zf7 (by omega)] at this
    rw [this]; exact hb8
  have ej : ∀ j, j < s.size → bAt S (a + 1 + j) = bAt s j := fun j hj => by
    have := h.2 (1 + j) (by omega)
    rw [zf7 (by omega), zj8 (by omega), h1, Nat.add_sub_cancel_left] at this
    rw [Nat.add_assoc, this]
  have ee : bAt S (a + 1 + s.size) = b := by
    have := h.2 (1 + s.size) (by omega)
    rw [zj8 (by omega), h1s, Nat.sub_self] at this
    rw [Nat.add_assoc, this]; exact hb8
  have hall : ∀ j, j < s.size → bAt s j ≠ b := fun j hj => by
    simp only [textB, Bool.and_eq_true, allB, decide_eq_true_iff] at hs
    have := hs.2 j hj
    simp only [plB, Bool.and_eq_true, decide_eq_true_iff] at this
    exact this.2.2
  have hr : runF (neB b) S S.size (a + 1) = a + 1 + s.size := zm17 (by omega) (by omega) (fun j h1 h2 => by
    have := ej (j - (a + 1)) (by omega)
    rw [show a + 1 + (j - (a + 1)) = j by omega] at this
    rw [this]
    simp only [neB, decide_eq_true_iff]
    exact hall _ (by omega)) fun _ => by rw [ee]; simp [neB]
  refine ⟨e0, ?_⟩
  unfold quoR
  rw [e0, hr, if_neg (by omega), hz]
  have hc : cutB S (a + 1) (a + 1 + s.size) = s := zn11 ⟨by omega, ej⟩
  rw [hc]
  simp only [Tk.mk.injEq, true_and]; omega
theorem zq20 {S : ByteArray} {a : Nat} {r : Bool} {t : T3} (hg : good r t) (h : AtS S a t.T) (he : a + t.T.size = S.size ∨ bAt S (a + t.T.size) = 32) : oneR S a r = ⟨t.1, t.2.1, t.2.2, a + t.T.size⟩ ∧ 1 ≤ t.T.size ∧ blB (bAt t.T 0) = false ∧ bAt t.T 0 ≠ 35 := by
  obtain ⟨k, n, s⟩ := t
  obtain ⟨g1, g2, g3⟩ := hg
  unfold T3.T at h he ⊢
  dsimp only at g1 g2 g3 h he ⊢
  unfold tkT at h he ⊢
  rw [if_pos g1] at h he ⊢
  by_cases k1 : k = 1
  · subst k1
    rw [if_pos rfl] at h he ⊢
    unfold tokOk at g1
    rw [if_pos rfl] at g1
    simp only [Bool.and_eq_true, decide_eq_true_iff] at g1
    obtain ⟨n0, n1, s0⟩ := g1
    obtain rfl : s = ByteArray.empty := zf6 s0 fun j hj => absurd hj (by omega)
    have hd := zn17 n0
    have hp := zr12 n0
    simp only [allB, decide_eq_true_iff] at hd
    have e0 : bAt S a = bAt (numT n) 0 := h.2 0 (by omega)
    have h0 := hd 0 (by omega)
    have hr : runF digB S S.size a = a + (numT n).size := zm17 (by omega) h.1 (fun j h1 h2 => by
      have := h.2 (j - a) (by omega)
      rw [show a + (j - a) = j by omega] at this
      rw [this]; exact hd _ (by omega)) fun hlt => by
        rcases he with he | he
        · omega
        · rw [he]; rfl
    refine ⟨?_, hp, ?_, ?_⟩
    · unfold oneR
      rw [e0, if_pos h0, hr, zn11 h, zk19 n0 n1]
    · simp only [digB, Bool.and_eq_true, decide_eq_true_iff] at h0
      simp [blB]; omega
    · simp only [digB, Bool.and_eq_true, decide_eq_true_iff] at h0
      omega
  rw [if_neg k1] at h he ⊢
  by_cases k3 : k = 3
  · subst k3
    rw [if_pos rfl] at h he ⊢
    have g4 : textB 39 s = true ∧ n = 0 := by simpa [tokOk] using g1
    obtain ⟨g4, rfl⟩ := g4
    obtain ⟨q0, q1⟩ := zp20 (b := 39) (k := 3) rfl h g4
    have hz : ((⟨#[39]⟩ ++ s) ++ ⟨#[39]⟩ : ByteArray).size = s.size + 2 := by
      rw [ByteArray.size_append', ByteArray.size_append']
      show 1 + s.size + 1 = _; omega
    have e0 := h.2 0 (by omega)
    rw [Nat.add_zero, q0] at e0
    refine ⟨?_, by omega, by rw [← e0]; rfl, by omega⟩
    unfold oneR
    rw [q0, if_neg (by decide), if_neg (by decide), if_pos rfl, q1]
  rw [if_neg k3] at h he ⊢
  by_cases k4 : k = 4
  · subst k4
    rw [if_pos rfl] at h he ⊢
    have g4 : textB 47 s = true ∧ 1 ≤ s.size ∧ n = 0 := by simpa [tokOk] using g1
    obtain ⟨g4, -, rfl⟩ := g4
    obtain ⟨q0, q1⟩ := zp20 (b := 47) (k := 4) rfl h g4
    have hz : ((⟨#[47]⟩ ++ s) ++ ⟨#[47]⟩ : ByteArray).size = s.size + 2 := by
      rw [ByteArray.size_append', ByteArray.size_append']
      show 1 + s.size + 1 = _; omega
    have e0 := h.2 0 (by omega)
    rw [Nat.add_zero, q0] at e0
    refine ⟨?_, by omega, by rw [← e0]; rfl, by omega⟩
    unfold oneR
    rw [q0, if_neg (by decide), if_neg (by decide), if_neg (by decide), if_pos ⟨rfl, g2 rfl⟩, q1]
  rw [if_neg k4] at h he ⊢
  by_cases k2 : k = 2
  · subst k2
    have g4 : nameW s = true ∧ n = 0 := by simpa [tokOk] using g1
    obtain ⟨g4, rfl⟩ := g4
    simp only [nameW, Bool.and_eq_true, decide_eq_true_iff, allB] at g4
    obtain ⟨s1, s8, l0, la⟩ := g4
    have e0 : bAt S a = bAt s 0 := h.2 0 (by omega)
    have hr : runF ldB S S.size a = a + s.size := zm17 (by omega) h.1 (fun j h1 h2 => by
      have := h.2 (j - a) (by omega)
      rw [show a + (j - a) = j by omega] at this
      rw [this]; exact la _ (by omega)) fun hlt => by
        rcases he with he | he
        · omega
        · rw [he]; rfl
    refine ⟨?_, s1, ?_, ?_⟩
    · unfold oneR
      rw [e0, if_neg (by rw [zp12 l0]; simp), if_pos l0, hr, zn11 h]
    · simp only [letB, Bool.and_eq_true, decide_eq_true_iff] at l0
      simp [blB]; omega
    · simp only [letB, Bool.and_eq_true, decide_eq_true_iff] at l0
      omega
  have k5 : k = 5 := by
    simp only [tokOk, if_neg k1, if_neg k2, if_neg k3, if_neg k4] at g1
    split at g1
    · assumption
    · cases g1
  subst k5
  have g4 : markB s = true ∧ n = 0 := by simpa [tokOk] using g1
  obtain ⟨g4, rfl⟩ := g4
  by_cases hz : s.size = 2
  · have h6 : sixB (bAt s 0) (bAt s 1) = true := by simpa [markB, hz] using g4
    have e0 : bAt S a = bAt s 0 := h.2 0 (by omega)
    have hc : cutB S a (a + 2) = s := by have := zn11 h; rwa [hz] at this
    have hlt := h.1
    have hh : bAt s 0 = 60 ∨ bAt s 0 = 61 ∨ bAt s 0 = 33 ∨ bAt s 0 = 62 ∨ bAt s 0 = 38 ∨ bAt s 0 = 124 := by
      simp only [sixB, Bool.or_eq_true, Bool.and_eq_true, decide_eq_true_iff] at h6
      omega
    refine ⟨?_, by omega, ?_, by omega⟩
    · unfold oneR
      have hd : digB (bAt s 0) = false := by simp [digB]; omega
      have hl : letB (bAt s 0) = false := by simp [letB]; omega
      rw [e0, hd, hl, if_neg (by simp), if_neg (by simp), if_neg (by omega), if_neg (by omega), hc, if_pos ⟨by omega, g4⟩, hz]
    · simp [blB]; omega
  · have hz1 : s.size = 1 ∧ oneB (bAt s 0) = true := by simpa [markB, hz] using g4
    obtain ⟨hz1, h1⟩ := hz1
    have e0 : bAt S a = bAt s 0 := h.2 0 (by omega)
    have hc : cutB S a (a + 1) = s := by have := zn11 h; rwa [hz1] at this
    have hlt := h.1
    simp only [oneB, List.contains_eq_mem, decide_eq_true_iff, List.mem_cons, List.not_mem_nil, or_false] at h1
    have hn47 : ¬ (bAt s 0 = 47 ∧ r = true) := fun ⟨h47, hr⟩ => by
      have := g3 rfl (zf6 hz1 fun j hj => by
        obtain rfl : j = 0 := by omega
        rw [h47]; rfl)
      rw [hr] at this; cases this
    refine ⟨?_, by omega, ?_, by omega⟩
    · unfold oneR
      have hd : digB (bAt s 0) = false := by simp [digB]; omega
      have hl : letB (bAt s 0) = false := by simp [letB]; omega
      have hm : ¬ (a + 1 < S.size ∧ markB (cutB S a (a + 2)) = true) := fun ⟨q1, q2⟩ => by
        have hz2 := zy2 (s := S) (a := a) (b := a + 2) (by omega) (by omega)
        have q3 : bAt S (a + 1) = 32 := by
          rcases he with he | he
          · omega
          · rwa [hz1] at he
        have b1 : bAt (cutB S a (a + 2)) 1 = 32 := by rw [zk4 (by omega) (by omega)]; exact q3
        have b2 : (cutB S a (a + 2)).size = 2 := by omega
        simp [markB, b2, b1, sixB] at q2
      rw [e0, hd, hl, if_neg (by simp), if_neg (by simp), if_neg (by omega), if_neg hn47, if_neg hm, hc, hz1]
    · simp [blB]; omega
def JoinAt (S : ByteArray) : Nat → List T3 → Prop
  | a, [] => a = S.size
  | a, t :: l => AtS S a t.T ∧ (l = [] → a + t.T.size = S.size) ∧ (l ≠ [] → a + t.T.size < S.size ∧ bAt S (a + t.T.size) = 32 ∧ JoinAt S (a + t.T.size + 1) l)
theorem zo11 {S : ByteArray} {a : Nat} : ∀ {l : List T3} {r r' : Bool}, ch r l r' → JoinAt S a l → passT S a = a
  | [], _, _, _, h => zj5 fun hh => by have : a = S.size := h; omega
  | t :: l, r, r', hc, h => by
    obtain ⟨h1, h2, h3⟩ := h
    have he : a + t.T.size = S.size ∨ bAt S (a + t.T.size) = 32 := by
      by_cases hl : l = []
      · exact .inl (h2 hl)
      · exact .inr (h3 hl).2.1
    obtain ⟨-, o1, o2, o3⟩ := zq20 hc.1 h1 he
    have e0 : bAt S a = bAt t.T 0 := h1.2 0 (by omega)
    exact zj5 fun ⟨_, hh⟩ => by
      rw [e0, o2] at hh
      rcases hh with hh | hh
      · cases hh
      · exact o3 hh
theorem zj10 {S : ByteArray} : ∀ (l : List T3) (a : Nat) (r r' : Bool) (out : List E), ch r l r' → out.length + l.length ≤ 2000 → JoinAt S a l → lexT S a r out = (out ++ l.map T3.E, -1)
  | [], a, r, r', out, _, _, h => by
    rw [zk12 (by have : a = S.size := h; omega)]
    simp
  | t :: l, a, r, r', out, hc, hn, h => by
    obtain ⟨h1, h2, h3⟩ := h
    have he : a + t.T.size = S.size ∨ bAt S (a + t.T.size) = 32 := by
      by_cases hl : l = []
      · exact .inl (h2 hl)
      · exact .inr (h3 hl).2.1
    obtain ⟨o0, o1, o2, o3⟩ := zq20 hc.1 h1 he
    have ha := h1.1
    rw [List.length_cons] at hn
    have hy := zl12 (s := S) (a := a) (rex := r) (out := out) (by omega) (by rw [o0]; exact hc.1.1) (by omega)
    rw [o0] at hy
    rw [hy]
    dsimp only
    have hE : (Tk.mk t.1 t.2.1 t.2.2 (a + t.T.size)).E = t.E := rfl
    rw [hE, List.map_cons]
    have hout : out ++ t.E :: l.map T3.E = (out ++ [t.E]) ++ l.map T3.E := by simp
    rw [hout]
    by_cases hl : l = []
    · subst hl
      rw [zj5 fun hh => by have := h2 rfl; omega]
      exact zj10 [] _ _ _ _ hc.2 (by rw [List.length_append, List.length_singleton]; omega) (h2 rfl)
    · obtain ⟨q1, q2, q3⟩ := h3 hl
      rw [zr6 q1 (by rw [q2]; rfl), zo11 hc.2 q3]
      exact zj10 l _ _ _ _ hc.2 (by rw [List.length_append, List.length_singleton]; omega) q3
def tStr (t : T3) : E := .str t.T
theorem zs12 (x y : E) (r : List E) (sep : ByteArray) : joinB (x :: y :: r) sep = (strB x ++ sep) ++ joinB (y :: r) sep := by
  unfold joinB
  simp only [List.map_cons]
  have hj : ∀ (u : List UInt8) (v : List (List UInt8)), Lib.joinTail sep.data.toList (u :: v) = sep.data.toList ++ (u ++ Lib.joinTail sep.data.toList v) := fun u v => by simp [Lib.joinTail]
  rw [Lib.join_cons, hj, Lib.join_cons, zm6, zm6, zm11, zm11, ByteArray.append_assoc]
theorem zo17 (x : E) (sep : ByteArray) : joinB [x] sep = strB x := by
  unfold joinB
  simp only [List.map_cons, List.map_nil]
  rw [Lib.join_one, zm11]
theorem zr20 {x y z : ByteArray} : AtS ((x ++ y) ++ z) x.size y := by
  refine ⟨by rw [ByteArray.size_append', ByteArray.size_append']; omega, fun j hj => ?_⟩
  rw [zf7 (by rw [ByteArray.size_append']; omega), zj8 (by omega), Nat.add_sub_cancel_left]
theorem zp17 : ∀ (l : List T3) (pre : ByteArray), JoinAt (pre ++ joinB (l.map tStr) ⟨#[32]⟩) pre.size l
  | [], pre => by
    show pre.size = _
    rw [ByteArray.size_append']; rfl
  | [t], pre => by
    rw [List.map_cons, List.map_nil, zo17]
    have h := zr20 (x := pre) (y := t.T) (z := ByteArray.empty)
    rw [ByteArray.append_empty] at h
    exact ⟨h, fun _ => by rw [ByteArray.size_append']; rfl, fun h => absurd rfl h⟩
  | t :: u :: l, pre => by
    rw [List.map_cons, List.map_cons, zs12]
    have ih := zp17 (u :: l) ((pre ++ t.T) ++ ⟨#[32]⟩)
    rw [List.map_cons] at ih
    have e : ((pre ++ t.T) ++ ⟨#[32]⟩) ++ joinB (tStr u :: l.map tStr) ⟨#[32]⟩ = pre ++ ((strB (tStr t) ++ ⟨#[32]⟩) ++ joinB (tStr u :: l.map tStr) ⟨#[32]⟩) := by
      simp only [ByteArray.append_assoc]; rfl
    have h1 : (⟨#[32]⟩ : ByteArray).size = 1 := rfl
    rw [e] at ih
    generalize joinB (tStr u :: l.map tStr) ⟨#[32]⟩ = J at *
    have hs : ((pre ++ t.T) ++ ⟨#[32]⟩).size = pre.size + t.T.size + 1 := by rw [ByteArray.size_append', ByteArray.size_append', h1]
    rw [hs] at ih
    have e2 : pre ++ ((strB (tStr t) ++ ⟨#[32]⟩) ++ J) = (pre ++ t.T) ++ (⟨#[32]⟩ ++ J) := by simp only [ByteArray.append_assoc]; rfl
    refine ⟨by rw [e2]; exact zr20, (fun h => by cases h), fun _ => ⟨?_, ?_, ih⟩⟩
    · rw [e2, ByteArray.size_append', ByteArray.size_append', ByteArray.size_append', h1]; omega
    · rw [e2, zj8 (by rw [ByteArray.size_append']; omega), ByteArray.size_append', Nat.sub_self, zf7 (by rw [h1]; omega)]
      rfl
theorem zq17 {l : List T3} {r' : Bool} (hc : ch false l r') (hn : l.length ≤ 2000) : lexW (joinB (l.map tStr) ⟨#[32]⟩) = (l.map T3.E, -1) := by
  have h := zp17 l ByteArray.empty
  rw [ByteArray.empty_append] at h
  have h0 : ByteArray.empty.size = 0 := rfl
  rw [h0] at h
  unfold lexW
  rw [zo11 hc h, zj10 l 0 false r' [] hc (by simpa using hn) h]
  rfl
end Go.Proofs.YtnlgmojciplnoaaDoor
