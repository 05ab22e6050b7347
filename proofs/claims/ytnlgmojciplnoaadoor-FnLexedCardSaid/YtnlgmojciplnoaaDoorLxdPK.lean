/- Tokens, in plain words: what is read of a text, and what the program's reading comes to. -/
import Derived.Lib.AtoiAll
import Derived.StillTailTactics
import Derived.Shelf.Lays
import Derived.Shelf.Strings.BuilderX
import Derived.Shelf.Small.Strs
import Derived.Shelf.Strings.OnBuilder
import Derived.Shelf.LaysC
import Derived.Shelf.Strconv.AtoiAll
import Derived.Test.YtnlgmojciplnoaaDoorLxdPJ
namespace Go.Proofs.YtnlgmojciplnoaaDoor
open Go.RowKit
set_option maxRecDepth 100000
def neB (c x : Nat) : Bool := decide (x ≠ c)
structure Tk where
  k : Int
  n : Int
  s : ByteArray
  e : Nat
def tokE (k n : Int) (s : ByteArray) : E := .agg [.int .i64 k, .int .i64 n, .str s]
def Tk.E (t : Tk) : E := tokE t.k t.n t.s
def valA (acc : Nat) : List UInt8 → Nat
  | [] => acc
  | c :: r => valA (acc * 10 + (c.toNat - 48)) r
def valS (s : ByteArray) : Nat := valA 0 s.data.toList
def intV (s : ByteArray) : Int := if 1 ≤ s.size ∧ s.size ≤ 10 ∧ ¬ (1 < s.size ∧ bAt s 0 = 48) then (valS s : Int) else -1
def sixB (x y : Nat) : Bool := (decide (y = 61) && (decide (x = 60) || (decide (x = 61) || (decide (x = 33) || decide (x = 62))))) || ((decide (x = 38) && decide (y = 38)) || (decide (x = 124) && decide (y = 124)))
def oneB (c : Nat) : Bool := [123, 125, 40, 41, 91, 93, 44, 59, 36, 43, 45, 42, 47, 37, 46, 60, 62, 33, 126, 61].contains c
def markB (s : ByteArray) : Bool := (decide (s.size = 2) && sixB (bAt s 0) (bAt s 1)) || (decide (s.size = 1) && oneB (bAt s 0))
def markS (s : ByteArray) : ByteArray := if 2 ≤ s.size ∧ sixB (bAt s 0) (bAt s 1) = true then cutB s 0 2 else if 1 ≤ s.size ∧ oneB (bAt s 0) = true then cutB s 0 1 else ByteArray.empty
def tokOk (k n : Int) (s : ByteArray) : Bool :=
  if k = 1 then decide (0 ≤ n) && (decide (n ≤ 2147483647) && decide (s.size = 0))
  else if k = 2 then nameW s && decide (n = 0)
  else if k = 3 then textB 39 s && decide (n = 0)
  else if k = 4 then textB 47 s && (decide (1 ≤ s.size) && decide (n = 0))
  else if k = 5 then markB s && decide (n = 0)
  else false
def Tk.ok (t : Tk) : Bool := tokOk t.k t.n t.s
def quoR (s : ByteArray) (a : Nat) (k : Int) : Tk :=
  if runF (neB (bAt s a)) s s.size (a + 1) = s.size then ⟨0, 0, ByteArray.empty, s.size⟩ else ⟨k, 0, cutB s (a + 1) (runF (neB (bAt s a)) s s.size (a + 1)), runF (neB (bAt s a)) s s.size (a + 1) + 1⟩
def oneR (s : ByteArray) (a : Nat) (rex : Bool) : Tk :=
  if digB (bAt s a) = true then ⟨1, intV (cutB s a (runF digB s s.size a)), ByteArray.empty, runF digB s s.size a⟩
  else if letB (bAt s a) = true then ⟨2, 0, cutB s a (runF ldB s s.size a), runF ldB s s.size a⟩
  else if bAt s a = 39 then quoR s a 3
  else if bAt s a = 47 ∧ rex = true then quoR s a 4
  else if a + 1 < s.size ∧ markB (cutB s a (a + 2)) = true then ⟨5, 0, cutB s a (a + 2), a + 2⟩
  else ⟨5, 0, cutB s a (a + 1), a + 1⟩
def blB (c : Nat) : Bool := decide (c = 32) || (decide (c = 9) || (decide (c = 10) || decide (c = 13)))
def passF (s : ByteArray) : Nat → Nat → Nat
  | 0, a => a
  | f + 1, a => if a < s.size then if blB (bAt s a) = true then passF s f (a + 1) else if bAt s a = 35 then passF s f (runF (neB 10) s s.size a) else a else a
def tilB (k : Int) (s : ByteArray) : Bool := decide (k = 5) && decide (s = ⟨#[126]⟩)
def lexR (s : ByteArray) : Nat → Nat → Bool → List E → List E × Int
  | 0, _, _, out => (out, -1)
  | f + 1, a, rex, out => if a < s.size then if (oneR s a rex).ok = true ∧ out.length ≠ 2000 then lexR s f (passF s (s.size + 1) (oneR s a rex).e) (tilB (oneR s a rex).k (oneR s a rex).s) (out ++ [(oneR s a rex).E]) else ([], (a : Int)) else (out, -1)
theorem zx4 {p : Nat → Bool} {s : ByteArray} {a : Nat} (h : a < s.size) (h2 : p (bAt s a) = true) : runF p s s.size a = runF p s s.size (a + 1) ∧ a < runF p s s.size a := by
  have h1 := zh2 (p := p) (s := s) s.size a (by omega) (by omega)
  have h3 := zh2 (p := p) (s := s) s.size (a + 1) (by omega) (by omega)
  have hlt : a < runF p s s.size a := by
    rcases Nat.lt_or_ge a (runF p s s.size a) with h | h
    · exact h
    · have e : runF p s s.size a = a := by omega
      have := h1.2.2.2 (by omega)
      rw [e, h2] at this; cases this
  refine ⟨?_, hlt⟩
  rcases Nat.lt_trichotomy (runF p s s.size a) (runF p s s.size (a + 1)) with h4 | h4 | h4
  · have := h3.2.2.1 _ (by omega) h4
    rw [h1.2.2.2 (by omega)] at this; cases this
  · exact h4
  · have := h1.2.2.1 _ (by omega) h4
    rw [h3.2.2.2 (by omega)] at this; cases this
theorem zv5 {p : Nat → Bool} {s : ByteArray} {a : Nat} (h : ¬ (a < s.size ∧ p (bAt s a) = true)) : runF p s s.size a = a := zw7 h
theorem zj15 {p : Nat → Bool} {s : ByteArray} {a : Nat} (ha : a ≤ s.size) : ∀ (f j : Nat), j + a ≤ s.size → s.size ≤ j + a + f → runF p (cutB s a s.size) (cutB s a s.size).size j + a = runF p s s.size (j + a)
  | 0, j, h1, h2 => by
    have hz := zk2 (s := s) (a := a) (b := s.size) ha (Nat.le_refl _)
    rw [zv5 fun h => by omega, zv5 fun h => by omega]
  | f + 1, j, h1, h2 => by
    have hz := zk2 (s := s) (a := a) (b := s.size) ha (Nat.le_refl _)
    by_cases hj : j + a < s.size
    · have e : bAt (cutB s a s.size) j = bAt s (j + a) := by rw [zl4 (Nat.le_refl _) (by omega), Nat.add_comm]
      by_cases hp : p (bAt s (j + a)) = true
      · rw [(zx4 (by omega) (by rw [e]; exact hp)).1, (zx4 hj hp).1, Nat.add_right_comm j a 1]
        exact zj15 ha f (j + 1) (by omega) (by omega)
      · rw [zv5 fun h => hp (by rw [← e]; exact h.2), zv5 fun h => hp h.2]
    · rw [zv5 fun h => by omega, zv5 fun h => by omega]
theorem zb20 {s : ByteArray} {a b c : Nat} (h2 : b ≤ c) (h3 : a + c ≤ s.size) : cutB (cutB s a s.size) b c = cutB s (a + b) (a + c) := by
  have hz := zk2 (s := s) (a := a) (b := s.size) (by omega) (Nat.le_refl _)
  unfold cutB at hz ⊢
  apply ByteArray.ext
  apply Array.ext
  · have e1 : ((s.extract a s.size).extract b c).size = c - b := by rw [ByteArray.size_extract]; omega
    have e2 : (s.extract (a + b) (a + c)).size = c - b := by rw [ByteArray.size_extract]; omega
    exact e1.trans e2.symm
  · intro i h4 h5
    simp only [ByteArray.data_extract, Array.getElem_extract]
    congr 1
    omega
theorem zp17 {s : ByteArray} {a : Nat} {rex : Bool} (ha : a < s.size) : oneR s a rex = { oneR (cutB s a s.size) 0 rex with e := (oneR (cutB s a s.size) 0 rex).e + a } := by
  have hz := zk2 (s := s) (a := a) (b := s.size) (by omega) (Nat.le_refl _)
  have e0 : bAt (cutB s a s.size) 0 = bAt s a := by rw [zl4 (Nat.le_refl _) (by omega)]; rfl
  have hr : ∀ (p : Nat → Bool) (j : Nat), j + a ≤ s.size → runF p s s.size (j + a) = runF p (cutB s a s.size) (cutB s a s.size).size j + a := fun p j h => (zj15 (by omega) s.size j h (by omega)).symm
  have hc : ∀ b c : Nat, b ≤ c → a + c ≤ s.size → cutB (cutB s a s.size) b c = cutB s (a + b) (a + c) := fun b c => zb20
  have h0 : ∀ p : Nat → Bool, runF p s s.size a = runF p (cutB s a s.size) (cutB s a s.size).size 0 + a := fun p => by have := hr p 0 (by omega); rwa [Nat.zero_add] at this
  have hb : ∀ (p : Nat → Bool) (j : Nat), j ≤ s.size - a → j ≤ runF p (cutB s a s.size) (cutB s a s.size).size j ∧ runF p (cutB s a s.size) (cutB s a s.size).size j ≤ s.size - a := fun p j hj => by
    have := zh2 (p := p) (s := cutB s a s.size) (cutB s a s.size).size j (by omega) (by omega)
    omega
  unfold oneR
  rw [e0]
  split
  · rw [h0]
    have := hb digB 0 (by omega)
    rw [hc 0 _ (by omega) (by omega), Nat.add_zero, Nat.add_comm a (runF _ _ _ 0)]
  · split
    · rw [h0]
      have := hb ldB 0 (by omega)
      rw [hc 0 _ (by omega) (by omega), Nat.add_zero, Nat.add_comm a (runF _ _ _ 0)]
    · have quo : ∀ k : Int, quoR s a k = { quoR (cutB s a s.size) 0 k with e := (quoR (cutB s a s.size) 0 k).e + a } := fun k => by
        unfold quoR
        rw [e0, show a + 1 = (0 + 1) + a by omega, hr _ (0 + 1) (by omega)]
        have := hb (neB (bAt s a)) (0 + 1) (by omega)
        by_cases hq : runF (neB (bAt s a)) (cutB s a s.size) (cutB s a s.size).size (0 + 1) = (cutB s a s.size).size
        · rw [if_pos hq, if_pos (by omega)]
          simp only [Tk.mk.injEq, true_and]; omega
        · rw [if_neg hq, if_neg (by omega), hc _ _ (by omega) (by omega)]
          simp only [Nat.add_comm a, Tk.mk.injEq, true_and]; omega
      split
      · exact quo 3
      · split
        · exact quo 4
        · by_cases h2 : a + 1 < s.size
          · rw [hc 0 (0 + 2) (by omega) (by omega), hc 0 (0 + 1) (by omega) (by omega)]
            simp only [Nat.add_zero, Nat.zero_add]
            by_cases hm : markB (cutB s a (a + 2)) = true
            · rw [if_pos ⟨h2, hm⟩, if_pos ⟨by omega, hm⟩]
              simp only [Nat.add_comm a]
            · rw [if_neg fun h => hm h.2, if_neg fun h => hm h.2]
              simp only [Nat.add_comm a]
          · rw [if_neg fun h => h2 h.1, if_neg fun h => absurd h.1 (by omega), hc 0 (0 + 1) (by omega) (by omega)]
            simp only [Nat.add_zero, Nat.zero_add, Nat.add_comm a]
theorem zx10 {s : ByteArray} {a : Nat} {rex : Bool} (ha : a < s.size) : a < (oneR s a rex).e ∧ (oneR s a rex).e ≤ s.size := by
  have hq : ∀ k : Int, a < (quoR s a k).e ∧ (quoR s a k).e ≤ s.size := fun k => by
    have := zh2 (p := neB (bAt s a)) (s := s) s.size (a + 1) (by omega) (by omega)
    unfold quoR
    split
    · exact ⟨ha, Nat.le_refl _⟩
    · exact ⟨by show a < _ + 1; omega, by show _ + 1 ≤ _; omega⟩
  unfold oneR
  split
  · rename_i h
    exact ⟨(zx4 ha h).2, (zh2 (p := digB) (s := s) s.size a (by omega) (by omega)).2.1⟩
  · split
    · rename_i h
      exact ⟨(zx4 ha (show ldB (bAt s a) = true by simp [ldB, h])).2, (zh2 (p := ldB) (s := s) s.size a (by omega) (by omega)).2.1⟩
    · split
      · exact hq 3
      · split
        · exact hq 4
        · split
          · rename_i h; exact ⟨by show a < a + 2; omega, by show a + 2 ≤ _; omega⟩
          · exact ⟨by show a < a + 1; omega, by show a + 1 ≤ _; omega⟩
theorem zd7 {s : ByteArray} : ∀ (f a : Nat), a ≤ s.size → a ≤ passF s f a ∧ passF s f a ≤ s.size
  | 0, a, h => ⟨Nat.le_refl _, h⟩
  | f + 1, a, h => by
    unfold passF
    split
    · split
      · have := zd7 (s := s) f (a + 1) (by omega); omega
      · split
        · have h1 := zh2 (p := neB 10) (s := s) s.size a (by omega) (by omega)
          have := zd7 (s := s) f (runF (neB 10) s s.size a) (by omega); omega
        · exact ⟨Nat.le_refl _, h⟩
    · exact ⟨Nat.le_refl _, h⟩
theorem zw5 {s : ByteArray} : ∀ (f g a : Nat), a ≤ s.size → s.size ≤ a + f → s.size ≤ a + g → passF s f a = passF s g a
  | 0, 0, a, _, _, _ => rfl
  | 0, g + 1, a, h1, h2, h3 => by unfold passF; rw [if_neg (by omega)]
  | f + 1, 0, a, h1, h2, h3 => by
    have : ¬ a < s.size := by omega
    show passF s (f + 1) a = a
    unfold passF; rw [if_neg this]
  | f + 1, g + 1, a, h1, h2, h3 => by
    unfold passF
    split
    · rename_i ha
      split
      · exact zw5 f g (a + 1) (by omega) (by omega) (by omega)
      · split
        · rename_i h4
          have h5 := (zx4 ha (show neB 10 (bAt s a) = true by simp [neB, h4])).2
          have h6 := zh2 (p := neB 10) (s := s) s.size a (by omega) (by omega)
          exact zw5 f g _ (by omega) (by omega) (by omega)
        · rfl
    · rfl
def passT (s : ByteArray) (a : Nat) : Nat := passF s (s.size + 1) a
theorem zp6 {s : ByteArray} {a : Nat} (ha : a < s.size) (h : blB (bAt s a) = true) : passT s a = passT s (a + 1) := by
  unfold passT
  rw [show passF s (s.size + 1) a = passF s s.size (a + 1) by rw [passF, if_pos ha, if_pos h]]
  exact zw5 _ _ _ (by omega) (by omega) (by omega)
theorem zb10 {s : ByteArray} {a : Nat} (ha : a < s.size) (h : bAt s a = 35) : passT s a = passT s (runF (neB 10) s s.size a) := by
  have h6 := zh2 (p := neB 10) (s := s) s.size a (by omega) (by omega)
  unfold passT
  rw [show passF s (s.size + 1) a = passF s s.size (runF (neB 10) s s.size a) by rw [passF, if_pos ha, if_neg (by simp [blB, h]), if_pos h]]
  exact zw5 _ _ _ (by omega) (by omega) (by omega)
theorem zq5 {s : ByteArray} {a : Nat} (h : ¬ (a < s.size ∧ (blB (bAt s a) = true ∨ bAt s a = 35))) : passT s a = a := by
  unfold passT passF
  split
  · rename_i ha
    rw [if_neg fun hb => h ⟨ha, .inl hb⟩, if_neg fun hb => h ⟨ha, .inr hb⟩]
  · rfl
theorem zb13 {s : ByteArray} {a : Nat} (ha : a < s.size) (h : bAt s a = 35) (hr : runF (neB 10) s s.size a < s.size) : passT s a = passT s (runF (neB 10) s s.size a + 1) := by
  have h6 := zh2 (p := neB 10) (s := s) s.size a (by omega) (by omega)
  rw [zb10 ha h, zp6 hr]
  have h7 := h6.2.2.2 hr
  simp [neB] at h7
  simp [blB, h7]
theorem zc10 {s : ByteArray} : ∀ (f g a : Nat) (rex : Bool) (out : List E), a ≤ s.size → s.size < a + f → s.size < a + g → lexR s f a rex out = lexR s g a rex out
  | 0, _, a, _, _, h1, h2, _ => by omega
  | _ + 1, 0, a, _, _, h1, _, h3 => by omega
  | f + 1, g + 1, a, rex, out, h1, h2, h3 => by
    unfold lexR
    split
    · rename_i ha
      have h4 := zx10 (rex := rex) ha
      have h5 := zd7 (s := s) (s.size + 1) (oneR s a rex).e h4.2
      split
      · exact zc10 f g _ _ _ h5.2 (by omega) (by omega)
      · rfl
    · rfl
def lexT (s : ByteArray) (a : Nat) (rex : Bool) (out : List E) : List E × Int := lexR s (s.size + 1) a rex out
theorem zk15 {s : ByteArray} {a : Nat} {rex : Bool} {out : List E} (h : ¬ a < s.size) : lexT s a rex out = (out, -1) := by
  unfold lexT lexR; rw [if_neg h]
theorem zf21 {s : ByteArray} {a : Nat} {rex : Bool} {out : List E} (ha : a < s.size) (h : ¬ ((oneR s a rex).ok = true ∧ out.length ≠ 2000)) : lexT s a rex out = ([], (a : Int)) := by
  unfold lexT lexR; rw [if_pos ha, if_neg h]
theorem zl15 {s : ByteArray} {a : Nat} {rex : Bool} {out : List E} (ha : a < s.size) (h1 : (oneR s a rex).ok = true) (h2 : out.length ≠ 2000) : lexT s a rex out = lexT s (passT s (oneR s a rex).e) (tilB (oneR s a rex).k (oneR s a rex).s) (out ++ [(oneR s a rex).E]) := by
  have h4 := zx10 (rex := rex) ha
  have h5 := zd7 (s := s) (s.size + 1) (oneR s a rex).e h4.2
  unfold lexT
  rw [show lexR s (s.size + 1) a rex out = lexR s s.size (passF s (s.size + 1) (oneR s a rex).e) (tilB (oneR s a rex).k (oneR s a rex).s) (out ++ [(oneR s a rex).E]) by rw [lexR, if_pos ha, if_pos ⟨h1, h2⟩]]
  exact zc10 _ _ _ _ _ h5.2 (by omega) (by omega)
def lexW (s : ByteArray) : List E × Int := lexT s (passT s 0) false []
theorem za9 : ∀ (l m : List UInt8) (acc : Nat), valA acc (l ++ m) = valA (valA acc l) m
  | [], m, acc => rfl
  | c :: l, m, acc => za9 l m _
theorem zc12 (acc : Nat) (c : UInt8) : valA acc [c] = acc * 10 + (c.toNat - 48) := rfl
theorem zb9 {s : ByteArray} {k : Nat} (h : k < s.size) : s.data.toList[k]? = some (UInt8.ofNat (bAt s k)) := by
  unfold bAt
  rw [Array.getElem?_toList, Array.getElem?_eq_getElem h, Option.getD_some, UInt8.ofNat_toNat]
theorem zy10 {s : ByteArray} (h : ¬ (1 ≤ s.size ∧ s.size ≤ 10 ∧ ¬ (1 < s.size ∧ bAt s 0 = 48))) : intV s = -1 := if_neg h
theorem ze7 {s : ByteArray} (h : 1 ≤ s.size ∧ s.size ≤ 10 ∧ ¬ (1 < s.size ∧ bAt s 0 = 48)) : intV s = (valS s : Int) := if_pos h
end Go.Proofs.YtnlgmojciplnoaaDoor
namespace Go.Proofs.YtnlgmojciplnoaaDoor
open Go.RowKit
end Go.Proofs.YtnlgmojciplnoaaDoor
namespace Go.Proofs.YtnlgmojciplnoaaDoor
open Go.RowKit
structure GVal where
  k : Int
  n : Int
  s : ByteArray
structure GCell where
  refs : Int
  v : GVal
end Go.Proofs.YtnlgmojciplnoaaDoor
namespace Go.Proofs.YtnlgmojciplnoaaDoor
open Go.RowKit
end Go.Proofs.YtnlgmojciplnoaaDoor
namespace Go.Proofs.YtnlgmojciplnoaaDoor
open Go.RowKit
end Go.Proofs.YtnlgmojciplnoaaDoor
namespace Go.Proofs.YtnlgmojciplnoaaDoor
open Go.RowKit
end Go.Proofs.YtnlgmojciplnoaaDoor
namespace Go.Proofs.YtnlgmojciplnoaaDoor
open Go.RowKit
end Go.Proofs.YtnlgmojciplnoaaDoor
namespace Go.Proofs.YtnlgmojciplnoaaDoor
open Go.RowKit
end Go.Proofs.YtnlgmojciplnoaaDoor
namespace Go.Proofs.YtnlgmojciplnoaaDoor
open Go.RowKit
structure GNamed where
  name : ByteArray
  v : GVal
structure GEntry where
  key : ByteArray
  v : GVal
def encEntry (d : GEntry) : List Value := [.string d.key, .int .i64 d.v.k, .int .i64 d.v.n, .string d.v.s]
structure GTab where
  name : ByteArray
  A : Option Addr
  c : Nat
  l : List GEntry
def GTab.d (t : GTab) : ByteArray × List GEntry := (t.name, t.l)
def SameT (ts us : List GTab) : Prop := ts.map GTab.d = us.map GTab.d
theorem SameT.len {ts us : List GTab} (h : SameT ts us) : ts.length = us.length := by have := congrArg List.length h; simpa using this
theorem SameT.at_ {ts us : List GTab} (h : SameT ts us) {i : Nat} (hi : i < ts.length) : ∃ h' : i < us.length, us[i].name = ts[i].name ∧ us[i].l = ts[i].l := by
  have h' : i < us.length := by have := h.len; omega
  refine ⟨h', ?_⟩
  have e : (ts.map GTab.d)[i]'(by simpa using hi) = (us.map GTab.d)[i]'(by simpa using h') := by
    have h2 : ts.map GTab.d = us.map GTab.d := h
    simp only [h2]
  simp only [List.getElem_map] at e
  exact ⟨(congrArg Prod.fst e).symm, (congrArg Prod.snd e).symm⟩
def InT (w : World) (lo hi : Nat) (ts : List GTab) : Prop := ∀ t ∈ ts, Sl w lo hi 4 encEntry (.slice t.A t.l.length t.c) t.l
section
variable {w w' : World} {lo hi lo' hi' : Nat} {ts : List GTab}
theorem InT.below {B : Nat} (h : InT w lo hi ts) (hb : Below B w w') (hB : hi ≤ B) : InT w' lo hi ts := fun t ht => (h t ht).below hb hB
theorem InT.drew (h : InT w lo hi ts) : InT w.drew lo hi ts := fun t ht => (h t ht).drew
theorem InT.drewN (h : InT w lo hi ts) (n : Nat) : InT (w.drewN n) lo hi ts := fun t ht => (h t ht).drewN n
theorem InT.alloc (h : InT w lo hi ts) (hB : hi ≤ w.heap.size) (o : Obj) : InT (w.alloc o) lo hi ts := fun t ht => (h t ht).alloc hB o
theorem InT.setCell (h : InT w lo hi ts) {p : Addr} (hB : hi ≤ p.block) (u : Value) : InT (w.setCell p u) lo hi ts := fun t ht => (h t ht).setCell hB u
theorem InT.wider (h : InT w lo hi ts) (h1 : lo' ≤ lo) (h2 : hi ≤ hi') : InT w lo' hi' ts := fun t ht => (h t ht).wider h1 h2
end
theorem zr5 (a b : ByteArray) : (a.toList == b.toList) = decide (a = b) := by
  rw [ByteArray.toList_eq, ByteArray.toList_eq]
  by_cases h : a = b
  · subst h; simp
  · rw [decide_eq_false h, beq_eq_false_iff_ne]
    intro h2
    apply h
    obtain ⟨⟨l⟩⟩ := a
    obtain ⟨⟨m⟩⟩ := b
    simp at h2
    subst h2; rfl
set_option maxRecDepth 100000
theorem zd6 {s t : ByteArray} (h : s.size = t.size) (h2 : ∀ j, j < s.size → bAt s j = bAt t j) : s = t := by
  apply ByteArray.ext
  apply Array.ext
  · exact h
  · intro i h3 h4
    have h5 := h2 i h3
    unfold bAt at h5
    rw [Array.getElem?_eq_getElem h3, Array.getElem?_eq_getElem h4] at h5
    exact UInt8.toNat_inj.1 h5
theorem zc20 {s : ByteArray} (h : s.size = 2) : s = ⟨#[UInt8.ofNat (bAt s 0), UInt8.ofNat (bAt s 1)]⟩ := by
  refine zd6 h fun j hj => ?_
  rcases (show j = 0 ∨ j = 1 by omega) with rfl | rfl
  · show _ = (UInt8.ofNat (bAt s 0)).toNat
    rw [UInt8.toNat_ofNat', Nat.mod_eq_of_lt (zn5 s 0)]
  · show _ = (UInt8.ofNat (bAt s 1)).toNat
    rw [UInt8.toNat_ofNat', Nat.mod_eq_of_lt (zn5 s 1)]
theorem zf7 {s : ByteArray} : (s.toList == (ByteArray.mk #[]).toList) = decide (s.size = 0) := by
  rw [zr5]
  apply decide_eq_decide.2
  constructor
  · rintro rfl; rfl
  · intro h
    exact zd6 h fun j hj => absurd hj (by omega)
set_option maxRecDepth 100000
theorem zs18 {l : List E} {e : E} : owL (l ++ [e]) = owL l ++ owE e := by rw [zo6]; show owL l ++ (owE e ++ []) = _; rw [List.append_nil]
end Go.Proofs.YtnlgmojciplnoaaDoor
namespace Go.Proofs.YtnlgmojciplnoaaDoor
open Go.RowKit Go.Shelf
set_option maxRecDepth 100000
def lays137_ren : Go.Shelf.Ren := ⟨fun | 137 => 22 | 217 => 43 | 266 => 67 | n => n, fun | 9 => 9 | 5 => 5 | 3 => 3 | n => n, fun | n => n⟩
theorem zd20 : Go.Proofs.Lays.n137 Tryd.prog lays137_ren := {
  mixed := by kernel_rfl
  f137 := Tryd.func22.trans (congrArg some (by kernel_rfl))
  f217 := Tryd.func43.trans (congrArg some (by kernel_rfl))
  f266 := Tryd.func67.trans (congrArg some (by kernel_rfl))
  t3 := Tryd.underlying3
  a3 := Tryd.isAgg3
  z3 := Tryd.sizeOf3
  v3 := Tryd.zeroValue3
  t5 := Tryd.underlying5
  a5 := Tryd.isAgg5
  z5 := Tryd.sizeOf5
  v5 := Tryd.zeroValue5
  t9 := Tryd.underlying9
  a9 := Tryd.isAgg9
  z9 := Tryd.sizeOf9
  v9 := Tryd.zeroValue9 }
end Go.Proofs.YtnlgmojciplnoaaDoor
namespace Go.Proofs.YtnlgmojciplnoaaDoor
open Go.RowKit Go.Shelf
set_option maxRecDepth 100000
def lays156_ren : Go.Shelf.Ren := ⟨fun | 156 => 24 | 165 => 50 | 166 => 51 | 169 => 52 | 240 => 71 | 241 => 72 | 276 => 80 | 277 => 81 | n => n, fun | 31 => 44 | 9 => 9 | 3 => 3 | 4 => 4 | 0 => 0 | 20 => 20 | 72 => 68 | 76 => 63 | 70 => 66 | 37 => 22 | 75 => 62 | 127 => 80 | 164 => 89 | 5 => 5 | 80 => 70 | n => n, fun | n => n⟩
theorem zm15 : Go.Proofs.Lays.n156 Tryd.prog lays156_ren := {
  mixed := by kernel_rfl
  f156 := Tryd.func24.trans (congrArg some (by kernel_rfl))
  f165 := Tryd.func50.trans (congrArg some (by kernel_rfl))
  f166 := Tryd.func51.trans (congrArg some (by kernel_rfl))
  f169 := Tryd.func52.trans (congrArg some (by kernel_rfl))
  f240 := Tryd.func71.trans (congrArg some (by kernel_rfl))
  f241 := Tryd.func72.trans (congrArg some (by kernel_rfl))
  f276 := Tryd.func80.trans (congrArg some (by kernel_rfl))
  f277 := Tryd.func81.trans (congrArg some (by kernel_rfl))
  t0 := Tryd.underlying0
  a0 := Tryd.isAgg0
  z0 := Tryd.sizeOf0
  v0 := Tryd.zeroValue0
  t3 := Tryd.underlying3
  a3 := Tryd.isAgg3
  z3 := Tryd.sizeOf3
  v3 := Tryd.zeroValue3
  t4 := Tryd.underlying4
  a4 := Tryd.isAgg4
  z4 := Tryd.sizeOf4
  v4 := Tryd.zeroValue4
  t9 := Tryd.underlying9
  a9 := Tryd.isAgg9
  z9 := Tryd.sizeOf9
  v9 := Tryd.zeroValue9
  t20 := Tryd.underlying20
  a20 := Tryd.isAgg20
  z20 := Tryd.sizeOf20
  v20 := Tryd.zeroValue20
  t31 := Tryd.underlying44
  a31 := Tryd.isAgg44
  z31 := Tryd.sizeOf44
  v31 := Tryd.zeroValue44
  t37 := Tryd.underlying22
  a37 := Tryd.isAgg22
  z37 := Tryd.sizeOf22
  v37 := Tryd.zeroValue22
  t70 := Tryd.underlying66
  a70 := Tryd.isAgg66
  z70 := Tryd.sizeOf66
  v70 := Tryd.zeroValue66
  t72 := Tryd.underlying68
  a72 := Tryd.isAgg68
  z72 := Tryd.sizeOf68
  v72 := Tryd.zeroValue68
  t75 := Tryd.underlying62
  a75 := Tryd.isAgg62
  z75 := Tryd.sizeOf62
  v75 := Tryd.zeroValue62
  t76 := Tryd.underlying63
  a76 := Tryd.isAgg63
  z76 := Tryd.sizeOf63
  v76 := Tryd.zeroValue63
  t127 := Tryd.underlying80
  a127 := Tryd.isAgg80
  z127 := Tryd.sizeOf80
  v127 := Tryd.zeroValue80
  t164 := Tryd.underlying89
  a164 := Tryd.isAgg89
  z164 := Tryd.sizeOf89
  v164 := Tryd.zeroValue89 }
theorem Builder_Extra_156 : Builder.Extra Tryd.prog lays156_ren := {
  sizeBuilder := by kernel_rfl
  liesBuilder := by kernel_rfl
  t5 := Tryd.underlying5
  a5 := Tryd.isAgg5
  z5 := Tryd.sizeOf5
  v5 := Tryd.zeroValue5
  infoByte := by kernel_rfl
  cellsByte := by kernel_rfl
  sizeByte := by kernel_rfl
  neB5 := by decide }
end Go.Proofs.YtnlgmojciplnoaaDoor
namespace Go.Proofs.YtnlgmojciplnoaaDoor
open Go.RowKit
set_option maxRecDepth 100000
theorem zk6 {P : Program} {f : FuncId} {ins : List AV} {v : Value} (he : entB P f = true) (hv : scal v = true)
    (hc : ∀ (w : World) (St : Nat → Prop) (φ : Nat → Lc) (K : Nat → Prop) (us : List Value), VRL w St φ K ins us → Calls P f us.toArray w fun e w' => e = .returned v ∧ Below w.heap.size w w') : Ctr P f ins [] (.c (.v v)) [] := by
  refine ⟨he, fun w St φ F us' hent => ?_⟩
  refine (hc w St φ _ us' hent.args).mono ?_
  rintro e w' ⟨rfl, hb⟩
  refine ⟨_, _, v, fun _ => False, fun _ => [], [], ⟨rfl, rfl⟩, rfl, ⟨⟨hb.os, hb.tape, hb.output, hb.size, fun b hlt _ => .inl (hb.block b hlt)⟩, ?_, by simp, rfl, fun i cs hi => by simp at hi, fun i hi => by simp at hi, fun i hi => by simp at hi, fun i j hi => by simp at hi, fun i b lo hi => by simp at hi, fun b hb => by simp at hb, fun b hb => hb.elim⟩⟩
  simp only [VRF, CR]
  exact ⟨trivial, hv, trivial⟩
theorem ze6 (s : ByteArray) {c : Nat} (_hc : c < 256) : Ctr Tryd.prog 22 [.c (.v (.string s)), .c (.v (.int .u8 (c : Int)))] [] (.c (.v (.int .i64 (Lib.indexByte s.data.toList (UInt8.ofNat c))))) [] := by
  refine zk6 (by kernel_rfl) rfl fun w St φ K us h => ?_
  simp only [VRL, VR, CR] at h
  obtain ⟨u, us1, rfl, ⟨rfl, -⟩, u2, us2, rfl, ⟨rfl, -⟩, rfl⟩ := h
  refine (Go.Proofs.Any.strings_IndexByte zd20 s (c : Int) w).mono ?_
  rintro e w' ⟨rfl, rfl⟩
  exact ⟨rfl, Below.refl _ _⟩
def strB : E → ByteArray
  | .str s => s
  | _ => ByteArray.empty
theorem zn15 {w : World} {St : Nat → Prop} {φ : Nat → Lc} {K : Nat → Prop} : ∀ {l : List E} {us : List Value} {fp : List Nat}, (∀ e ∈ l, ∃ s, e = .str s) → CRL w St φ K (acL l) us fp → us = l.map fun e => .string (strB e)
  | [], us, fp, _, h => by
    simp only [acL, CRL] at h
    exact h.1
  | e :: r, us, fp, he, h => by
    obtain ⟨s, rfl⟩ := he e List.mem_cons_self
    have h' : CRL w St φ K (.v (.string s) :: acL r) us fp := h
    simp only [CRL] at h'
    obtain ⟨u, us', f1, f2, rfl, rfl, h1, h2⟩ := h'
    simp only [CR] at h1
    obtain ⟨rfl, -⟩ := h1
    rw [zn15 (fun e he' => he e (List.mem_cons_of_mem _ he')) h2]
    rfl
def joinB (l : List E) (sep : ByteArray) : ByteArray := ⟨(Lib.join (l.map fun e => (strB e).data.toList) sep.data.toList).toArray⟩
theorem zg21 {l : List E} (hl : ∀ e ∈ l, ∃ s, e = .str s) (sep : ByteArray) (hn : l.length ≤ 1073741824) (hsz : (joinB l sep).size ≤ 140737488355328) : Ctr Tryd.prog 24 [.c (.ro l.length 1 (acL l)), .c (.v (.string sep))] [] (.c (.v (.string (joinB l sep)))) [] := by
  refine zk6 (by kernel_rfl) rfl fun w St φ K us h => ?_
  simp only [VRL, VR, CR] at h
  obtain ⟨u, us1, rfl, ⟨-, A, c, rfl, ⟨h1, h2, h3⟩, h4, h5⟩, u2, us2, rfl, ⟨rfl, -⟩, rfl⟩ := h
  cases l with
  | nil => exact (Go.Proofs.Any.strings_Join_none zm15 Builder_Extra_156 A c sep w).mono fun e w' ⟨he, hw⟩ => ⟨he, hw ▸ Below.refl _ _⟩
  | cons x r =>
    obtain ⟨b, o, us, rfl, -, hb, hc, hcr⟩ := h5 (by simp)
    have hus := zn15 hl hcr
    have e1 : (x :: r).length = ((x :: r).map strB).length := by simp
    have e2 : joinB (x :: r) sep = ⟨(Lib.join (((x :: r).map strB).map (·.data.toList)) sep.data.toList).toArray⟩ := by unfold joinB; rw [List.map_map]; rfl
    rw [e2] at hsz ⊢
    rw [e1] at hn h1 ⊢
    refine Go.Proofs.Any.strings_Join zm15 Builder_Extra_156 b o c ((x :: r).map strB) sep w (fun j y hy => hc j _ ?_) hb (by omega) h1 ?_
    · rw [hus, List.getElem?_map]
      rw [List.getElem?_map] at hy
      cases hq : (x :: r)[j]? with
      | none => rw [hq] at hy; cases hy
      | some e => rw [hq] at hy; simp at hy; simp [hy]
    · have : (ByteArray.mk (Lib.join (((x :: r).map strB).map (·.data.toList)) sep.data.toList).toArray).size = (Lib.join (((x :: r).map strB).map (·.data.toList)) sep.data.toList).length := by show (List.toArray _).size = _; rw [List.size_toArray]
      rw [this] at hsz
      exact hsz
end Go.Proofs.YtnlgmojciplnoaaDoor
namespace Go.Proofs.YtnlgmojciplnoaaDoor
open Go.RowKit Go.Shelf
set_option maxRecDepth 100000
def laysC172_ren : Go.Shelf.Ren := ⟨fun | 172 => 46 | 244 => 68 | 245 => 69 | 247 => 74 | 279 => 75 | 280 => 76 | 281 => 77 | 282 => 78 | 287 => 82 | 316 => 83 | 171 => 47 | 205 => 84 | 321 => 89 | 322 => 90 | 243 => 70 | 246 => 79 | 283 => 85 | 284 => 86 | 285 => 87 | 286 => 88 | 129 => 92 | 317 => 91 | 318 => 93 | 319 => 94 | 320 => 95 | 337 => 96 | 338 => 97 | n => n, fun | 9 => 9 | 3 => 3 | 75 => 62 | 76 => 63 | 4 => 4 | 5 => 5 | 167 => 82 | 37 => 22 | 0 => 0 | 85 => 83 | 2 => 2 | 168 => 85 | 53 => 92 | 175 => 93 | 46 => 81 | 210 => 96 | 127 => 80 | 145 => 106 | 143 => 104 | 21 => 21 | 171 => 98 | 173 => 101 | 212 => 109 | 51 => 110 | 20 => 20 | 213 => 111 | 232 => 115 | 233 => 116 | 80 => 70 | n => n, fun | 15 => 1 | 16 => 2 | 17 => 3 | 18 => 4 | 19 => 5 | n => n⟩
theorem zd12 : Go.Proofs.LaysC.n172 Tryd.prog laysC172_ren := {
  mixed := by kernel_rfl
  f129 := Tryd.func92.trans (congrArg some (by kernel_rfl))
  f171 := Tryd.func47.trans (congrArg some (by kernel_rfl))
  f172 := Tryd.func46.trans (congrArg some (by kernel_rfl))
  f205 := Tryd.func84.trans (congrArg some (by kernel_rfl))
  f243 := Tryd.func70.trans (congrArg some (by kernel_rfl))
  f244 := Tryd.func68.trans (congrArg some (by kernel_rfl))
  f245 := Tryd.func69.trans (congrArg some (by kernel_rfl))
  f246 := Tryd.func79.trans (congrArg some (by kernel_rfl))
  f247 := Tryd.func74.trans (congrArg some (by kernel_rfl))
  f279 := Tryd.func75.trans (congrArg some (by kernel_rfl))
  f280 := Tryd.func76.trans (congrArg some (by kernel_rfl))
  f281 := Tryd.func77.trans (congrArg some (by kernel_rfl))
  f282 := Tryd.func78.trans (congrArg some (by kernel_rfl))
  f283 := Tryd.func85.trans (congrArg some (by kernel_rfl))
  f284 := Tryd.func86.trans (congrArg some (by kernel_rfl))
  f285 := Tryd.func87.trans (congrArg some (by kernel_rfl))
  f286 := Tryd.func88.trans (congrArg some (by kernel_rfl))
  f287 := Tryd.func82.trans (congrArg some (by kernel_rfl))
  f316 := Tryd.func83.trans (congrArg some (by kernel_rfl))
  f317 := Tryd.func91.trans (congrArg some (by kernel_rfl))
  f318 := Tryd.func93.trans (congrArg some (by kernel_rfl))
  f319 := Tryd.func94.trans (congrArg some (by kernel_rfl))
  f320 := Tryd.func95.trans (congrArg some (by kernel_rfl))
  f321 := Tryd.func89.trans (congrArg some (by kernel_rfl))
  f322 := Tryd.func90.trans (congrArg some (by kernel_rfl))
  f337 := Tryd.func96.trans (congrArg some (by kernel_rfl))
  f338 := Tryd.func97.trans (congrArg some (by kernel_rfl))
  t0 := Tryd.underlying0
  a0 := Tryd.isAgg0
  z0 := Tryd.sizeOf0
  v0 := Tryd.zeroValue0
  t2 := Tryd.underlying2
  a2 := Tryd.isAgg2
  z2 := Tryd.sizeOf2
  v2 := Tryd.zeroValue2
  t3 := Tryd.underlying3
  a3 := Tryd.isAgg3
  z3 := Tryd.sizeOf3
  v3 := Tryd.zeroValue3
  t4 := Tryd.underlying4
  a4 := Tryd.isAgg4
  z4 := Tryd.sizeOf4
  v4 := Tryd.zeroValue4
  t5 := Tryd.underlying5
  a5 := Tryd.isAgg5
  z5 := Tryd.sizeOf5
  v5 := Tryd.zeroValue5
  t9 := Tryd.underlying9
  a9 := Tryd.isAgg9
  z9 := Tryd.sizeOf9
  v9 := Tryd.zeroValue9
  t20 := Tryd.underlying20
  a20 := Tryd.isAgg20
  z20 := Tryd.sizeOf20
  v20 := Tryd.zeroValue20
  t21 := Tryd.underlying21
  a21 := Tryd.isAgg21
  z21 := Tryd.sizeOf21
  v21 := Tryd.zeroValue21
  t37 := Tryd.underlying22
  a37 := Tryd.isAgg22
  z37 := Tryd.sizeOf22
  v37 := Tryd.zeroValue22
  t46 := Tryd.underlying81
  a46 := Tryd.isAgg81
  z46 := Tryd.sizeOf81
  v46 := Tryd.zeroValue81
  t51 := Tryd.underlying110
  a51 := Tryd.isAgg110
  z51 := Tryd.sizeOf110
  v51 := Tryd.zeroValue110
  t53 := Tryd.underlying92
  a53 := Tryd.isAgg92
  z53 := Tryd.sizeOf92
  v53 := Tryd.zeroValue92
  t75 := Tryd.underlying62
  a75 := Tryd.isAgg62
  z75 := Tryd.sizeOf62
  v75 := Tryd.zeroValue62
  t76 := Tryd.underlying63
  a76 := Tryd.isAgg63
  z76 := Tryd.sizeOf63
  v76 := Tryd.zeroValue63
  t85 := Tryd.underlying83
  a85 := Tryd.isAgg83
  z85 := Tryd.sizeOf83
  v85 := Tryd.zeroValue83
  t127 := Tryd.underlying80
  a127 := Tryd.isAgg80
  z127 := Tryd.sizeOf80
  v127 := Tryd.zeroValue80
  t143 := Tryd.underlying104
  a143 := Tryd.isAgg104
  z143 := Tryd.sizeOf104
  v143 := Tryd.zeroValue104
  t145 := Tryd.underlying106
  a145 := Tryd.isAgg106
  z145 := Tryd.sizeOf106
  v145 := Tryd.zeroValue106
  t167 := Tryd.underlying82
  a167 := Tryd.isAgg82
  z167 := Tryd.sizeOf82
  v167 := Tryd.zeroValue82
  t168 := Tryd.underlying85
  a168 := Tryd.isAgg85
  z168 := Tryd.sizeOf85
  v168 := Tryd.zeroValue85
  t171 := Tryd.underlying98
  a171 := Tryd.isAgg98
  z171 := Tryd.sizeOf98
  v171 := Tryd.zeroValue98
  t173 := Tryd.underlying101
  a173 := Tryd.isAgg101
  z173 := Tryd.sizeOf101
  v173 := Tryd.zeroValue101
  t175 := Tryd.underlying93
  a175 := Tryd.isAgg93
  z175 := Tryd.sizeOf93
  v175 := Tryd.zeroValue93
  t210 := Tryd.underlying96
  a210 := Tryd.isAgg96
  z210 := Tryd.sizeOf96
  v210 := Tryd.zeroValue96
  t212 := Tryd.underlying109
  a212 := Tryd.isAgg109
  z212 := Tryd.sizeOf109
  v212 := Tryd.zeroValue109
  t213 := Tryd.underlying111
  a213 := Tryd.isAgg111
  z213 := Tryd.sizeOf111
  t232 := Tryd.underlying115
  a232 := Tryd.isAgg115
  z232 := Tryd.sizeOf115
  v232 := Tryd.zeroValue115
  t233 := Tryd.underlying116
  a233 := Tryd.isAgg116
  z233 := Tryd.sizeOf116
  v233 := Tryd.zeroValue116
  g15 := by kernel_rfl
  g16 := by kernel_rfl
  g17 := by kernel_rfl
  g18 := by kernel_rfl
  g19 := by kernel_rfl
  t80 := Tryd.underlying70
  a80 := Tryd.isAgg70
  z80 := Tryd.sizeOf70
  v80 := Tryd.zeroValue70
  i0 := by kernel_rfl
  i2 := by kernel_rfl
  i3 := by kernel_rfl
  i4 := by kernel_rfl
  i5 := by kernel_rfl
  i9 := by kernel_rfl
  i20 := by kernel_rfl
  i21 := by kernel_rfl
  i37 := by kernel_rfl
  i46 := by kernel_rfl
  i51 := by kernel_rfl
  i53 := by kernel_rfl
  i75 := by kernel_rfl
  i76 := by kernel_rfl
  i80 := by kernel_rfl
  i85 := by kernel_rfl
  i127 := by kernel_rfl
  i143 := by kernel_rfl
  i145 := by kernel_rfl
  i167 := by kernel_rfl
  i168 := by kernel_rfl
  i171 := by kernel_rfl
  i173 := by kernel_rfl
  i175 := by kernel_rfl
  i210 := by kernel_rfl
  i212 := by kernel_rfl
  i232 := by kernel_rfl
  i233 := by kernel_rfl
  m15 := by kernel_rfl
  m16 := by kernel_rfl
  m17 := by kernel_rfl
  m18 := by kernel_rfl
  m19 := by kernel_rfl
  c0 := by kernel_rfl
  c2 := by kernel_rfl
  c3 := by kernel_rfl
  c4 := by kernel_rfl
  c5 := by kernel_rfl
  c9 := by kernel_rfl
  c20 := by kernel_rfl
  c21 := by kernel_rfl
  c37 := by kernel_rfl
  c46 := by kernel_rfl
  c51 := by kernel_rfl
  c53 := by kernel_rfl
  c75 := by kernel_rfl
  c76 := by kernel_rfl
  c80 := by kernel_rfl
  c85 := by kernel_rfl
  c127 := by kernel_rfl
  c143 := by kernel_rfl
  c145 := by kernel_rfl
  c167 := by kernel_rfl
  c168 := by kernel_rfl
  c171 := by kernel_rfl
  c173 := by kernel_rfl
  c175 := by kernel_rfl
  c210 := by kernel_rfl
  c212 := by kernel_rfl
  c213 := by kernel_rfl
  c232 := by kernel_rfl
  c233 := by kernel_rfl }
end Go.Proofs.YtnlgmojciplnoaaDoor
namespace Go.Proofs.YtnlgmojciplnoaaDoor
open Go.RowKit Go.Shelf
set_option maxRecDepth 100000
def lays99_ren : Go.Shelf.Ren := ⟨fun | 99 => 54 | 206 => 73 | n => n, fun | 9 => 9 | 4 => 4 | 3 => 3 | n => n, fun | n => n⟩
theorem zh21 : Go.Proofs.Lays.n99 Tryd.prog lays99_ren := {
  mixed := by kernel_rfl
  f99 := Tryd.func54.trans (congrArg some (by kernel_rfl))
  f206 := Tryd.func73.trans (congrArg some (by kernel_rfl))
  t3 := Tryd.underlying3
  a3 := Tryd.isAgg3
  z3 := Tryd.sizeOf3
  v3 := Tryd.zeroValue3
  t4 := Tryd.underlying4
  a4 := Tryd.isAgg4
  z4 := Tryd.sizeOf4
  v4 := Tryd.zeroValue4
  t9 := Tryd.underlying9
  a9 := Tryd.isAgg9
  z9 := Tryd.sizeOf9
  v9 := Tryd.zeroValue9 }
end Go.Proofs.YtnlgmojciplnoaaDoor
