/- Data with places: types; marks; frames by footprints. -/
import Derived.Test.YtnlgmojciplnoaaDoorRows
import Derived.ProofKit
import Derived.OpenShut
import Derived.ShutString
import Derived.ChangeOld
import Derived.SizedLaws
import Derived.Deep.Slices
import Derived.Lib.SmallJoins
import Derived.Maps.AppendAt
import Derived.Deep.AppendLies
import Derived.Lib.LaidTab
import Derived.Lib.ItoaNum
import Derived.LaidMore
import Derived.LaidLaws
import Derived.LaidHandle
import Derived.Handed
import Derived.Stop.Joined
import Derived.Stop.LaidErr
import Derived.Test.YtnlgmojciplnoaaDoorLexPA
namespace Go.Proofs.YtnlgmojciplnoaaDoor
open Go.RowKit
structure Fr (fp : List Nat) (w w' : World) : Prop where
  os : w'.os = w.os
  tape : w'.tape = w.tape
  output : w'.output = w.output
  size : w.heap.size ≤ w'.heap.size
  block : ∀ k, k < w.heap.size → k ∉ fp → w'.heap[k]? = w.heap[k]?
section
variable {fp fp' : List Nat} {a b c w w' : World} {lo hi B : Nat} {e : E}
theorem Fr.refl (fp : List Nat) (w : World) : Fr fp w w := ⟨rfl, rfl, rfl, Nat.le_refl _, fun _ _ _ => rfl⟩
theorem Fr.trans (h : Fr fp a b) (k : Fr fp b c) : Fr fp a c :=
  ⟨k.os.trans h.os, k.tape.trans h.tape, k.output.trans h.output, Nat.le_trans h.size k.size, fun i hi hh => (k.block i (Nat.lt_of_lt_of_le hi h.size) hh).trans (h.block i hi hh)⟩
theorem Fr.of_below (h : Below a.heap.size a b) : Fr fp a b := ⟨h.os, h.tape, h.output, h.size, fun k hk _ => h.block k hk⟩
theorem Fr.set (h : Fr fp a w) {p : Addr} (h1 : p.block ∈ fp) (u : Value) : Fr fp a (w.setCell p u) :=
  ⟨h.os, h.tape, h.output, by simpa using h.size, fun k hk hh => (Below.heap_setCell w p u k (by rintro rfl; exact hh h1)).trans (h.block k hk hh)⟩
theorem Fr.sub (h : Fr fp a b) (hs : ∀ g ∈ fp, g ∈ fp') : Fr fp' a b := ⟨h.os, h.tape, h.output, h.size, fun k hk hh => h.block k hk fun hm => hh (hs k hm)⟩
theorem Fr.kp (h : Fr fp a b) (hf : ∀ g ∈ fp, lo ≤ g ∧ g < hi) : Kp lo hi a b := ⟨h.os, h.tape, h.output, h.size, fun k hk hh => h.block k hk fun hm => by have := hf k hm; omega⟩
theorem Fr.below (h : Fr fp a b) (hf : ∀ g ∈ fp, B ≤ g) (hB : B ≤ a.heap.size) : Below B a b := ⟨h.os, h.tape, h.output, h.size, fun k hk => h.block k (by omega) fun hm => by have := hf k hm; omega⟩
theorem E.Ho.fr (h : e.Ho a lo hi) (hb : Fr fp a b) (hd : ∀ g ∈ e.fp, g ∉ fp) : e.Ho b lo hi := h.of_fp fun g hg _ _ hs => hb.block g hs (hd g hg)
end
mutual
def E.mkc : E → Int → E
  | .int kd _, k => .int kd (if kd = .u8 then k % 256 else k)
  | .bool _, k => .bool (decide (k % 3 = 0))
  | .str _, k => .str (markT k)
  | .agg fs, k => .agg (E.mkcL fs k)
  | .lst s T A c l, k => .lst s T A c (E.mkcL l k)
def E.mkcL : List E → Int → List E
  | [], _ => []
  | e :: r, k => e.mkc k :: E.mkcL r (k + e.cntc)
end
mutual
def E.mk0 : E → Int → E
  | .int kd n, _ => .int kd n
  | .bool b, _ => .bool b
  | .str s, _ => .str s
  | .agg fs, k => .agg (E.mk0L fs k)
  | .lst s T A c l, k => .lst s T A c (E.mkcL l k)
def E.mk0L : List E → Int → List E
  | [], _ => []
  | e :: r, k => e.mk0 k :: E.mk0L r (k + e.cnt)
end
theorem E.mkcL_len : ∀ (l : List E) (k : Int), (E.mkcL l k).length = l.length
  | [], _ => rfl
  | e :: r, k => by simp [E.mkcL, E.mkcL_len r]
mutual
theorem E.mkc_fp : ∀ (e : E) (k : Int), (e.mkc k).fp = e.fp
  | .int _ _, _ => rfl
  | .bool _, _ => rfl
  | .str _, _ => rfl
  | .agg fs, k => by simp only [E.mkc, E.fp]; exact E.mkcL_fp fs k
  | .lst s T A c l, k => by simp only [E.mkc, E.fp]; rw [E.mkcL_fp l k]
theorem E.mkcL_fp : ∀ (l : List E) (k : Int), E.fpL (E.mkcL l k) = E.fpL l
  | [], _ => rfl
  | e :: r, k => by simp only [E.mkcL, E.fpL]; rw [E.mkc_fp e k, E.mkcL_fp r]
end
mutual
theorem E.mk0_fp : ∀ (e : E) (k : Int), (e.mk0 k).fp = e.fp
  | .int _ _, _ => rfl
  | .bool _, _ => rfl
  | .str _, _ => rfl
  | .agg fs, k => by simp only [E.mk0, E.fp]; exact E.mk0L_fp fs k
  | .lst s T A c l, k => by simp only [E.mk0, E.fp]; rw [E.mkcL_fp l k]
theorem E.mk0L_fp : ∀ (l : List E) (k : Int), E.fpL (E.mk0L l k) = E.fpL l
  | [], _ => rfl
  | e :: r, k => by simp only [E.mk0L, E.fpL]; rw [E.mk0_fp e k, E.mk0L_fp r]
end
theorem E.cntcL_app : ∀ (l r : List E), E.cntcL (l ++ r) = E.cntcL l + E.cntcL r
  | [], r => by simp [E.cntcL]
  | e :: l, r => by simp only [List.cons_append, E.cntcL, E.cntcL_app l r]; omega
theorem E.cntcL_take (l : List E) (i : Nat) (h : i < l.length) : E.cntcL (l.take (i + 1)) = E.cntcL (l.take i) + l[i].cntc := by
  rw [List.take_succ_eq_append_getElem h, E.cntcL_app]; simp [E.cntcL]
theorem E.cntcL_le (l : List E) (i : Nat) : E.cntcL (l.take i) ≤ E.cntcL l := by
  conv => rhs; rw [← List.take_append_drop i l]
  rw [E.cntcL_app]; omega
theorem E.mkcL_at : ∀ (l : List E) (k : Int) (i : Nat) (h : i < l.length), (E.mkcL l k)[i]'(by rw [E.mkcL_len]; exact h) = l[i].mkc (k + E.cntcL (l.take i))
  | [], _, i, h => absurd h (by simp)
  | e :: r, k, 0, _ => by simp [E.mkcL, E.cntcL]
  | e :: r, k, i + 1, h => by
    simp only [E.mkcL, List.getElem_cons_succ, List.take_succ_cons, E.cntcL]
    rw [E.mkcL_at r _ i (by simpa using h)]
    congr 1
    omega
def mixM (l : List E) (k : Int) (i : Nat) : List E := (E.mkcL l k).take i ++ l.drop i
theorem zq10 (l : List E) (k : Int) (i : Nat) : (mixM l k i).length = l.length := by
  unfold mixM; rw [List.length_append, List.length_take, List.length_drop, E.mkcL_len]; omega
theorem zm12 (l : List E) (k : Int) : mixM l k 0 = l := by simp [mixM]
theorem zn15 (l : List E) (k : Int) : mixM l k l.length = E.mkcL l k := by
  unfold mixM; rw [List.take_of_length_le (by rw [E.mkcL_len]; exact Nat.le_refl _), List.drop_length, List.append_nil]
theorem zn12 (l : List E) (k : Int) (i : Nat) (h : i < l.length) : (mixM l k i)[i]'(by rw [zq10]; exact h) = l[i] := by
  unfold mixM
  rw [List.getElem_append_right (by rw [List.length_take, E.mkcL_len]; omega)]
  simp only [List.length_take, E.mkcL_len, List.getElem_drop]
  congr 1; omega
theorem zo12 (l : List E) (k : Int) (i : Nat) (h : i < l.length) : (mixM l k i).set i (l[i].mkc (k + E.cntcL (l.take i))) = mixM l k (i + 1) := by
  have hl : ((E.mkcL l k).take i).length = i := by rw [List.length_take, E.mkcL_len]; omega
  unfold mixM
  rw [List.set_append_right _ _ (by omega), hl, Nat.sub_self, List.drop_eq_getElem_cons h, List.set_cons_zero, List.take_succ_eq_append_getElem (by rw [E.mkcL_len]; exact h), E.mkcL_at l k i h, List.append_assoc]
  rfl
theorem zw17 (l : List E) (k : Int) (i : Nat) : E.fpL (mixM l k i) = E.fpL l := by
  have h : ∀ a b : List E, E.fpL (a ++ b) = E.fpL a ++ E.fpL b := fun a b => by simp [E.fpL_eq]
  have h2 : ∀ (l : List E) (k : Int) (i : Nat), E.fpL ((E.mkcL l k).take i) = E.fpL (l.take i) := by
    intro l
    induction l with
    | nil => intro k i; simp [E.mkcL]
    | cons e r ih =>
      intro k i
      cases i with
      | zero => simp
      | succ i => simp only [E.mkcL, List.take_succ_cons, E.fpL]; rw [E.mkc_fp, ih]
  unfold mixM
  rw [h, h2, ← h, List.take_append_drop]
theorem E.fpL_set {l : List E} {i : Nat} (h : i < l.length) {x : E} (hx : x.fp = l[i].fp) : E.fpL (l.set i x) = E.fpL l := by
  rw [E.fpL_eq, E.fpL_eq]
  simp only [List.flatMap]
  congr 1
  apply List.ext_getElem (by simp)
  intro j h1 h2
  simp only [List.getElem_map, List.getElem_set]
  by_cases e : i = j
  · subst e; rw [if_pos rfl, hx]
  · rw [if_neg e]
theorem E.encL_set {k : Nat} {l : List E} (hk : ∀ e ∈ l, e.enc.length = k) {i : Nat} (h : i < l.length) {x : E} {j : Nat} {u : Value} (hj : j < k) (hx : x.enc = l[i].enc.set j u) : E.encL (l.set i x) = (E.encL l).set (i * k + j) u := by
  have hlx : x.enc.length = k := by rw [hx, List.length_set]; exact hk _ (List.getElem_mem h)
  have hk2 : ∀ e ∈ l.set i x, e.enc.length = k := by
    intro e he
    rcases List.mem_or_eq_of_mem_set he with h | rfl
    · exact hk e h
    · exact hlx
  have hlen := E.encL_len hk
  have hlen2 := E.encL_len hk2
  apply List.ext_getElem?
  intro m
  have hk0 : 0 < k := by omega
  rcases Nat.lt_or_ge m (l.length * k) with hm | hm
  · have hq : m / k < l.length := (Nat.div_lt_iff_lt_mul hk0).2 hm
    have hr : m % k < k := Nat.mod_lt _ hk0
    have hm' : m = m / k * k + m % k := by rw [Nat.mul_comm]; exact (Nat.div_add_mod m k).symm
    generalize m / k = q at *
    generalize m % k = r at *
    subst hm'
    rw [E.encL_at hk2 q (by simpa using hq) r hr, List.getElem?_set]
    have hpos : i * k + j < (E.encL l).length := by
      rw [hlen]
      have := Nat.mul_le_mul_right k (show i + 1 ≤ l.length from h)
      rw [Nat.add_mul] at this; omega
    by_cases e : i = q
    · subst e
      simp only [List.getElem_set_self]
      by_cases e2 : j = r
      · subst e2
        rw [if_pos rfl, if_pos hpos, hx, List.getElem?_set_self (by rw [hk _ (List.getElem_mem h)]; exact hj)]
      · rw [if_neg (by omega), E.encL_at hk i h r hr, hx, List.getElem?_set_ne e2]
    · have hne : i * k + j ≠ q * k + r := by
        intro hh
        rcases Nat.lt_or_ge i q with hl | hl
        · have := Nat.mul_le_mul_right k (show i + 1 ≤ q from hl)
          rw [Nat.add_mul] at this; omega
        · have := Nat.mul_le_mul_right k (show q + 1 ≤ i by omega)
          rw [Nat.add_mul] at this; omega
      rw [if_neg hne, E.encL_at hk q hq r hr]
      simp only [List.getElem_set_ne e]
  · rw [List.getElem?_eq_none (by rw [hlen2, List.length_set]; exact hm), List.getElem?_eq_none (by rw [List.length_set, hlen]; exact hm)]
section
variable {w w' : World} {lo hi k c g i j : Nat} {T : TypeId} {l : List E} {x x' : E} {u : Value}
theorem E.Ho.cellx (h : (E.lst k T (some ⟨g, 0, none⟩) c l).Ho w lo hi) (hi_ : i < l.length) (hx : l[i] = x) (hu : x.enc[j]? = some u) : w.cell? ⟨g, i * k + j, none⟩ = some u := by
  have hr := h.row
  have hlens := h.lens
  have hjk : j < k := by
    have : x.enc.length = k := by rw [← hx]; exact hlens _ (List.getElem_mem hi_)
    rw [← this]; exact (List.getElem?_eq_some_iff.1 hu).1
  obtain ⟨g2, hA, _, _, hc, _⟩ := hr.at_ (by omega)
  cases hA
  refine hc (i * k + j) u ?_ ?_
  · have := Nat.mul_le_mul_right k (show i + 1 ≤ l.length from hi_)
    rw [Nat.add_mul] at this; omega
  · rw [E.encL_at hlens i hi_ j hjk, hx]; exact hu
theorem E.Ho.frzx (h : (E.lst k T (some ⟨g, 0, none⟩) c l).Ho w lo hi) : ∀ j, w.frozen? ⟨g, j, none⟩ = false := by
  obtain ⟨⟨_, ⟨hv, _⟩ | ⟨g2, cap, cur, hv, _, hh, _⟩⟩, _⟩ := h.row
  · cases hv
  · injection hv with e1
    injection e1 with e1
    injection e1 with e1
    subst e1
    intro j; simp [World.frozen?, hh]
theorem E.Ho.head {A : Option Addr} (h : (E.lst k T A c l).Ho w lo hi) (hi_ : 0 < l.length) : ∃ g, A = some ⟨g, 0, none⟩ ∧ lo ≤ g ∧ g < hi ∧ g < w.heap.size := by
  obtain ⟨g, hA, h1, h2, _⟩ := h.row.at_ (by omega)
  subst hA
  exact ⟨g, rfl, h1, h2, (h.lt g (by simp [E.fp])).2.2⟩
theorem E.Ho.store (h : (E.lst k T (some ⟨g, 0, none⟩) c (l.set i x)).Ho w lo hi) (hn : (E.lst k T (some ⟨g, 0, none⟩) c (l.set i x)).fp.Nodup) (hi_ : i < l.length) (x' : E) (j : Nat) (u : Value) (hj : j < k) (he : x'.enc = x.enc.set j u)
    (hin : ∀ W : World, x.Ho W lo hi → x'.Ho W lo hi) : (E.lst k T (some ⟨g, 0, none⟩) c (l.set i x')).Ho (w.setCell ⟨g, i * k + j, none⟩ u) lo hi := by
  have hl := h.lens
  have hi2 : i < (l.set i x).length := by simpa using hi_
  have hxi : (l.set i x)[i] = x := by simp
  have hgn : g ∉ E.fpL (l.set i x) := by
    simp only [E.fp, List.singleton_append, List.nodup_cons] at hn
    exact hn.1
  have e1 : l.set i x' = (l.set i x).set i x' := by rw [List.set_set]
  have hrow := (h.row).set (i * k + j) u
  rw [List.length_set] at hrow
  have hk2 : ∀ e ∈ l.set i x', e.enc.length = k := by
    rw [e1]
    intro e he2
    rcases List.mem_or_eq_of_mem_set he2 with h2 | rfl
    · exact hl e h2
    · rw [he, List.length_set]; exact hl x (List.mem_iff_getElem.2 ⟨i, hi2, hxi⟩)
  refine E.Ho.mk ?_ hk2 ?_
  · rw [List.length_set, e1, E.encL_set hl hi2 hj (by rw [hxi]; exact he)]
    exact hrow
  · have hold : ∀ e ∈ l.set i x, e.Ho (w.setCell ⟨g, i * k + j, none⟩ u) lo hi := fun e he2 =>
      (h.el he2).of_fp fun b hb _ _ _ => Below.heap_setCell w _ u b (by rintro rfl; exact hgn (E.mem_fpL.2 ⟨e, he2, hb⟩))
    intro e he2
    rw [e1] at he2
    rcases List.mem_or_eq_of_mem_set he2 with h2 | rfl
    · exact hold e h2
    · exact hin _ (hold x (List.mem_iff_getElem.2 ⟨i, hi2, hxi⟩))
end
end Go.Proofs.YtnlgmojciplnoaaDoor
namespace Go.Proofs.YtnlgmojciplnoaaDoor
open Go.ChangeShapes Go.WideShapes Go.ChangeAt Go.RowKit
theorem own : ownKnob Tryd.prog.godebug = none := by kernel_rfl
theorem zx17 : laidOutB Tryd.prog = true := by kernel_rfl
section
variable {H : Type} {enc : TypeId × Value → H} {P : Program}
theorem zs5 (hl : laidOutB P = true) {W W' : World} (hb : Below W.heap.size W W') : ∀ (ts : List TypeId) (vs : List Value) (ds : List (DataW H)) (ps : List MemPlace),
    (∀ t ∈ ts, P.readableRec t = true ∧ t < P.types.size) → DataW.TrodAll enc P W 0 (fun _ => true) true ts vs ds ps →
    DataW.TrodAll enc P W' 0 (fun b => decide (b < W.heap.size)) true ts vs ds ps
  | [], vs, ds, ps, _, h => by
    cases vs <;> cases ds <;> simp_all [DataW.TrodAll]
  | t :: ts, vs, ds, ps, ht, h => by
    obtain ⟨v, vs', d, ds', p, q, rfl, rfl, rfl, h0, h1⟩ := trodAll_cons h
    have hlt : ∀ x ∈ p, x.block < W.heap.size := by obtain ⟨m, hm⟩ := h0; exact DataW.trod_lt m _ _ _ hm
    exact ⟨p, q, Below.trod hl (ht t (by simp)).1 (ht t (by simp)).2 h0 hb hlt, zs5 hl hb ts vs' ds' q (fun x hx => ht x (by simp [hx])) h1, rfl⟩
theorem zo6 {w : World} {base : Nat} {spare : Nat → Bool} {held : Bool} : ∀ (ts : List TypeId) (vs : List Value) (ds : List (DataW H)) (ps : List MemPlace), DataW.TrodAll enc P w base spare held ts vs ds ps → ds.length = ts.length
  | [], vs, ds, ps, h => by cases vs <;> cases ds <;> simp_all [DataW.TrodAll]
  | t :: ts, vs, ds, ps, h => by
    obtain ⟨v, vs', d, ds', p, q, rfl, rfl, rfl, h0, h1⟩ := trodAll_cons h
    simp [zo6 ts vs' ds' q h1]
def IsLaw (s : ChangeSpec) (n : Nat) : Prop := s.vars = [] ∧ ∀ (H : Type) (ds : List (DataW H)), ds.length = n → (s.fn H ds).results = [.lit (.bool true)] ∧ (s.fn H ds).args = ds ∧ (s.fn H ds).vars = []
theorem zu19 {s : ChangeSpec} (hv : s.vars = []) (h : ∀ (H : Type) (d : DataW H), s.fn H [d] = { results := [.lit (.bool true)], args := [d] }) : IsLaw s 1 :=
  ⟨hv, fun H ds hl => by match ds, hl with | [d], _ => rw [h]; exact ⟨rfl, rfl, rfl⟩⟩
theorem zo15 {f : FuncId} {fn : Func} {s : ChangeSpec} {tb : TypeId} (hl : laidOutB P = true) (hread : ∀ t ∈ fn.params.toList, P.readableRec t = true ∧ t < P.types.size)
    (hr : fn.resultTypes = #[tb]) (hB : P.underlying tb = some .bool) (hs : IsLaw s fn.params.toList.length)
    {W : World} {args : Array Value} {ds gs : List (DataW H)} {before : List MemPlace} (hW : DataW.Whole enc P fn.params.toList s.vars false W args.toList ds gs before)
    (walk : Calls P f args W fun e W' => e = .returned (.bool true) ∧ Below W.heap.size W W') :
    Calls P f args W fun e W' => ∃ v, e = .returned v ∧ s.post enc P fn false true false false W args v W' := by
  refine walk.mono fun e W' ⟨he, hb⟩ => ?_
  have hW' := hW
  obtain ⟨p, q, hA, hV, rfl, hfz, hnd⟩ := hW
  rw [hs.1] at hV
  obtain ⟨rfl, rfl⟩ := trodVars_none hV
  have hlen := zo6 _ _ _ _ hA
  obtain ⟨h1, h2, h3⟩ := hs.2 H ds hlen
  refine ⟨_, he, ds, [], _, [], p, [], hW', ?_, ?_, ?_, hb.frame _, fun h => by cases h⟩
  · rw [List.append_nil, h1, hr]
    exact trodAll_mk1 (shut_bool hB _)
  · rw [List.append_nil, h2]
    exact zs5 hl hb _ _ _ _ hread hA
  · rw [List.append_nil, h3, hs.1]
    rfl
end
end Go.Proofs.YtnlgmojciplnoaaDoor
namespace Go.Proofs.YtnlgmojciplnoaaDoor
open Go.ChangeShapes Go.WideShapes Go.ChangeAt Go.RowKit Go.Deep
section
variable {H : Type} {en : TypeId × Value → H} {P : Program} {w : World} {spare : Nat → Bool} {held : Bool}
end
end Go.Proofs.YtnlgmojciplnoaaDoor
namespace Go.Proofs.YtnlgmojciplnoaaDoor
open Go.ChangeShapes Go.WideShapes Go.ChangeAt Go.RowKit Go.Deep
section
variable {P : Program} {t : TypeId} {e : E}
theorem E.Ty.int_ {k : IntKind} (h : e.Ty P t) (hU : P.underlying t = some (.int k)) : ∃ n, e = .int k n ∧ (Lit.int k n).wf = true := by
  cases e with
  | int k' n => simp only [E.Ty, hU] at h; obtain ⟨h1, h2⟩ := h; injection h1 with h1; injection h1 with h1; subst h1; exact ⟨n, rfl, h2⟩
  | bool | str => simp [E.Ty, hU] at h
  | agg fs => simp [E.Ty, hU] at h
  | lst => simp [E.Ty, hU] at h
theorem E.Ty.str_ (h : e.Ty P t) (hU : P.underlying t = some .string) : ∃ s, e = .str s ∧ s.size ≤ 9223372036854775807 := by
  cases e with
  | str s => simp only [E.Ty, maxLen] at h; exact ⟨s, rfl, by omega⟩
  | bool | int => simp [E.Ty, hU] at h
  | agg fs => simp [E.Ty, hU] at h
  | lst => simp [E.Ty, hU] at h
theorem E.Ty.agg_ {F : Array Field} (h : e.Ty P t) (hU : P.underlying t = some (.struct F)) : ∃ fs, e = .agg fs ∧ E.TyF P fs (F.toList.map (·.type)) := by
  cases e with
  | agg fs =>
    simp only [E.Ty, hU] at h
    obtain ⟨F', h1, h2⟩ := h
    injection h1 with h1; injection h1 with h1; subst h1
    exact ⟨fs, rfl, h2⟩
  | bool | int | str => simp [E.Ty, hU] at h
  | lst => simp [E.Ty, hU] at h
theorem E.Ty.lst_ {T : TypeId} {k : Nat} (h : e.Ty P t) (hU : P.underlying t = some (.slice T)) (hk : P.cellsOf T = k) : ∃ A c l, e = .lst k T A c l ∧ (∀ x ∈ l, x.Ty P T) ∧ (∀ x ∈ l, x.enc.length = k) := by
  cases e with
  | lst k' T' A c l =>
    simp only [E.Ty, hU, E.TyL_iff] at h
    obtain ⟨h1, ⟨h2, _⟩, h3, h4⟩ := h
    injection h1 with h1; injection h1 with h1; subst h1
    rw [hk] at h2; subst h2
    exact ⟨A, c, l, rfl, h4, h3⟩
  | bool | int | str => simp [E.Ty, hU] at h
  | agg fs => simp [E.Ty, hU] at h
theorem E.TyF.cons_ {fs : List E} {ts : List TypeId} (h : E.TyF P fs (t :: ts)) : ∃ e r, fs = e :: r ∧ e.Ty P t ∧ E.TyF P r ts := by
  cases fs with
  | nil => simp [E.TyF] at h
  | cons e r =>
    simp only [E.TyF] at h
    obtain ⟨t', tr, h1, h2, h3⟩ := h
    injection h1 with h1 h1'; subst h1; subst h1'
    exact ⟨e, r, rfl, h2, h3⟩
theorem E.TyF.nil_ {fs : List E} (h : E.TyF P fs []) : fs = [] := by
  cases fs with
  | nil => rfl
  | cons e r => simp [E.TyF] at h
theorem E.Ty.mk_lst {T : TypeId} {k c : Nat} {A : Option Addr} {l : List E} (hU : P.underlying t = some (.slice T)) (hk : P.cellsOf T = k) (h : ∀ x ∈ l, x.Ty P T) (h2 : ∀ x ∈ l, x.enc.length = k) (h64 : k ≤ 64 := by omega) : (E.lst k T A c l).Ty P t := by
  simp only [E.Ty, E.TyL_iff]; exact ⟨hU, ⟨hk.symm, h64⟩, h2, h⟩
end
def offsOk (P : Program) : Nat → List Field → Nat → Bool
  | a, [], n => a == n
  | a, f :: r, n => f.offset == a && offsOk P (a + P.cellsOf f.type) r n
def closedAt (P : Program) (S : List TypeId) (t : TypeId) : Bool :=
  match P.underlying t with
  | some (.int _) => P.cellsOf t == 1
  | some .bool => P.cellsOf t == 1
  | some .string => P.cellsOf t == 1
  | some (.slice T) => P.cellsOf t == 1 && decide (0 < P.cellsOf T ∧ P.cellsOf T ≤ 64) && S.contains T
  | some (.struct F) => F.toList.all (fun f => S.contains f.type) && offsOk P 0 F.toList (P.cellsOf t)
  | _ => false
section
variable {H : Type} {en : TypeId × Value → H} {P : Program} {w : World} {spare : Nat → Bool} {held : Bool}
instance : Inhabited E := ⟨.bool false⟩
end
end Go.Proofs.YtnlgmojciplnoaaDoor
namespace Go.Proofs.YtnlgmojciplnoaaDoor
open Go.RowKit
section
variable {α : Type} {P : Program} {ops : Array Oper} {o : Oper} {a : Act} {w : World} {lo hi k bytes H : Nat} {t e : TypeId} {enc : α → List Value}
end
theorem Kp.setAny {lo hi : Nat} {a w : World} (h : Kp lo hi a w) {g j : Nat} (hp : lo ≤ g ∧ g < hi ∨ a.heap.size ≤ g) (u : Value) : Kp lo hi a (w.setCell ⟨g, j, none⟩ u) :=
  ⟨h.os, h.tape, h.output, by simpa using h.size, fun k hk hh => (Below.heap_setCell w ⟨g, j, none⟩ u k (by show k ≠ g; omega)).trans (h.block k hk hh)⟩
def Eq (f : FuncId) (a b : E) : Prop := a.d = b.d → ∀ (w : World), a.In w → b.In w →
  Calls Tryd.prog f #[a.val, b.val] w fun r w' => r = .returned (.bool true) ∧ Below w.heap.size w w'
def Mar (f : FuncId) (e : E) : Prop := ∀ (lo hi : Nat) (k0 : Int) (w : World), e.Ho w lo hi → e.fp.Nodup → hi ≤ w.heap.size → 0 ≤ k0 → k0 + e.cnt ≤ 1152921504606846976 →
  Calls Tryd.prog f #[e.val, .int .i64 k0] w fun r w' => r = .returned (.int .i64 (k0 + e.cnt)) ∧ (e.mk0 k0).Ho w' lo hi ∧ Fr e.fp w w'
def Hel (f : FuncId) (e : E) : Prop := ∀ (k0 : Int) (w : World), (e.mk0 k0).In w → 0 ≤ k0 → k0 + e.cnt ≤ 1152921504606846976 →
  Calls Tryd.prog f #[e.val, .int .i64 k0] w fun r w' => r = .returned (.int .i64 (k0 + e.cnt)) ∧ Below w.heap.size w w'
theorem zc21 {k k' c c' : Nat} {T T' : TypeId} {A A' : Option Addr} {l m : List E} : (E.lst k T A c l).d = (E.lst k' T' A' c' m).d ↔ l.map E.d = m.map E.d := by
  simp only [E.d, E.dL_eq, E.lst.injEq, true_and]
theorem zd21 {l m : List E} (h : l.map E.d = m.map E.d) : l.length = m.length := by have := congrArg List.length h; simpa using this
theorem d_at {l m : List E} (h : l.map E.d = m.map E.d) {i : Nat} (hi : i < l.length) (hi' : i < m.length) : l[i].d = m[i].d := by
  have e : (l.map E.d)[i]'(by simpa using hi) = (m.map E.d)[i]'(by simpa using hi') := by simp only [h]
  simpa using e
theorem E.Ty.mk_agg {P : Program} {t : TypeId} {F : Array Field} {fs : List E} (hU : P.underlying t = some (.struct F)) (h : E.TyF P fs (F.toList.map (·.type))) : (E.agg fs).Ty P t := by simp only [E.Ty]; exact ⟨F, hU, h⟩
theorem E.TyF.mk_cons {P : Program} {t : TypeId} {ts : List TypeId} {e : E} {fs : List E} (h0 : e.Ty P t) (h : E.TyF P fs ts) : E.TyF P (e :: fs) (t :: ts) := by simp only [E.TyF]; exact ⟨t, ts, rfl, h0, h⟩
theorem E.TyF.mk_nil {P : Program} : E.TyF P [] [] := by simp only [E.TyF]
theorem E.Ho.mk_agg {w : World} {lo hi : Nat} {fs : List E} (h : E.HoL w lo hi fs) : (E.agg fs).Ho w lo hi := by simp only [E.Ho]; exact h
theorem E.HoL.mk_cons {w : World} {lo hi : Nat} {e : E} {fs : List E} (h0 : e.Ho w lo hi) (h : E.HoL w lo hi fs) : E.HoL w lo hi (e :: fs) := by simp only [E.HoL]; exact ⟨h0, h⟩
def Owns (w : World) (lo hi : Nat) (fs : List E) : Prop := E.HoL w lo hi fs ∧ (E.fpL fs).Nodup
theorem Owns.nil {w : World} {lo hi : Nat} : Owns w lo hi [] := ⟨by simp only [E.HoL], by simp [E.fpL]⟩
theorem Owns.cons {w : World} {lo mid hi : Nat} {e : E} {fs : List E} (h0 : e.Ho w lo mid) (hn : e.fp.Nodup) (h : Owns w mid hi fs) (h1 : lo ≤ mid) (h2 : mid ≤ hi) : Owns w lo hi (e :: fs) := by
  refine ⟨E.HoL.mk_cons (h0.wider (Nat.le_refl _) h2) ?_, ?_⟩
  · rw [E.HoL_iff]; exact fun x hx => ((E.HoL_iff fs).1 h.1 x hx).wider h1 (Nat.le_refl _)
  · rw [E.fpL, List.nodup_append]
    refine ⟨hn, h.2, fun a ha b hb e => ?_⟩
    subst e
    obtain ⟨x, hx, hg⟩ := E.mem_fpL.1 hb
    have := h0.lt a ha
    have := ((E.HoL_iff fs).1 h.1 x hx).lt a hg
    omega
theorem zn7 {ms : List E} {k : Nat} (h : k < ms.length) (x : E) : (ms.set k x)[k]'(by simpa using h) = x := by simp
mutual
theorem E.sz_d : ∀ e : E, e.d.sz = e.sz
  | .int _ _ => rfl
  | .bool _ => rfl
  | .str _ => rfl
  | .agg fs => by simp only [E.d, E.sz]; exact E.szL_d fs
  | .lst _ _ _ _ l => by simp only [E.d, E.sz]; rw [E.szL_d l, E.dL_len l]
theorem E.szL_d : ∀ l : List E, E.szL (E.dL l) = E.szL l
  | [] => rfl
  | e :: r => by simp only [E.dL, E.szL]; rw [E.sz_d e, E.szL_d r]
theorem E.dL_len : ∀ l : List E, (E.dL l).length = l.length
  | [] => rfl
  | e :: r => by simp only [E.dL, List.length_cons]; rw [E.dL_len r]
end
theorem ze21 {e D : E} {n : Nat} (h : Hid (e.d = D)) (hn : D.sz ≤ n) : e.sz ≤ n := by rw [← E.sz_d, h.out]; exact hn
theorem E.Ho.fin {e : E} {w w' : World} {lo hi lo' hi' : Nat} (h : e.Ho w lo hi) (k : e.Ho w lo hi → e.Ho w' lo hi) (h1 : lo' ≤ lo) (h2 : hi ≤ hi') : e.Ho w' lo' hi' := (k h).wider h1 h2
theorem E.Re.fin {e : E} {w w' : World} {lo hi lo' hi' : Nat} (h : e.Re w lo hi) (k : e.Re w lo hi → e.Re w' lo hi) (h1 : lo' ≤ lo) (h2 : hi ≤ hi') : e.Re w' lo' hi' := (k h).wider h1 h2
theorem E.Ho.setAny {e : E} {w : World} {lo hi : Nat} {p : Addr} (h : e.Ho w lo hi) (hB : p.block < lo ∨ hi ≤ p.block) (u : Value) : e.Ho (w.setCell p u) lo hi := h.of_fp fun g _ hl hg _ => Below.heap_setCell w p u g (by omega)
theorem E.Re.setAny {e : E} {w : World} {lo hi : Nat} {p : Addr} (h : e.Re w lo hi) (hB : p.block < lo ∨ hi ≤ p.block) (u : Value) : e.Re (w.setCell p u) lo hi := E.Re.keep (w := w) (fun q h1 h2 => World.cell?_of_block (Below.heap_setCell w p u q.block (by omega))) h
mutual
theorem E.cntc_le {P : Program} : ∀ (e : E) (t : TypeId), e.Ty P t → e.cntc ≤ e.enc.length + 64 * e.sz ∧ e.cnt ≤ 64 * e.sz
  | .int _ _, _, _ => by simp [E.cntc, E.cnt, E.enc]
  | .bool _, _, _ => by simp [E.cntc, E.cnt, E.enc]
  | .str _, _, _ => by simp [E.cntc, E.cnt, E.enc]
  | .agg fs, t, h => by
    simp only [E.Ty] at h
    obtain ⟨F, _, h⟩ := h
    simp only [E.cntc, E.cnt, E.enc, E.sz]
    exact E.cntF_le fs _ h
  | .lst k T A c l, t, h => by
    simp only [E.Ty] at h
    obtain ⟨_, ⟨_, h6⟩, h2, h3⟩ := h
    have h4 := E.cntE_le l T h3
    have h5 : (E.encL l).length = l.length * k := E.encL_len h2
    have h7 : l.length * k ≤ 64 * l.length := by rw [Nat.mul_comm]; exact Nat.mul_le_mul_right _ h6
    simp only [E.cntc, E.cnt, E.enc, E.sz, Nat.mul_add]
    constructor <;> omega
theorem E.cntF_le {P : Program} : ∀ (fs : List E) (ts : List TypeId), E.TyF P fs ts → E.cntcL fs ≤ (E.encL fs).length + 64 * E.szL fs ∧ E.cntL fs ≤ 64 * E.szL fs
  | [], _, _ => by simp [E.cntcL, E.cntL, E.szL]
  | e :: r, ts, h => by
    simp only [E.TyF] at h
    obtain ⟨t, tr, _, h1, h2⟩ := h
    have h3 := E.cntc_le e t h1
    have h4 := E.cntF_le r tr h2
    simp only [E.cntcL, E.cntL, E.szL, E.encL, List.length_append, Nat.mul_add]
    omega
theorem E.cntE_le {P : Program} : ∀ (l : List E) (T : TypeId), E.TyL P l T → E.cntcL l ≤ (E.encL l).length + 64 * E.szL l
  | [], _, _ => by simp [E.cntcL, E.szL]
  | e :: r, T, h => by
    simp only [E.TyL] at h
    have h3 := E.cntc_le e T h.1
    have h4 := E.cntE_le r T h.2
    simp only [E.cntcL, E.szL, E.encL, List.length_append, Nat.mul_add]
    omega
end
theorem zp12 {e D : E} {t : TypeId} (h : e.Ty Tryd.prog t) (hd : Hid (e.d = D)) (hn : D.sz ≤ 1073741824) : (e.cnt : Int) ≤ 1125899906842624 := by
  have h1 := (E.cntc_le e t h).2
  have h2 := ze21 hd hn
  omega
end Go.Proofs.YtnlgmojciplnoaaDoor
namespace Go.Proofs.YtnlgmojciplnoaaDoor
open Go.ChangeShapes Go.WideShapes Go.ChangeAt Go.RowKit Go.Deep Go.Joins
section
variable {H : Type} {en : TypeId × Value → H} {P : Program} {w : World} {spare : Nat → Bool} {held : Bool} {r : Reach} {base : Nat}
end
end Go.Proofs.YtnlgmojciplnoaaDoor
namespace Go.Proofs.YtnlgmojciplnoaaDoor
open Go.RowKit
def gvsA : List (Nat × (Array Value → Prop)) := [(3, fun cs => cs = (Lib.pow10Tab.map fun z => Value.int .u64 z).toArray)]
def gvsB : List (Nat × (Array Value → Prop)) := [(2, fun cs => ∃ te pe, cs = #[.iface te pe])]
def gvs : List (Nat × (Array Value → Prop)) := gvsA ++ gvsB
def isG (b : Nat) : Prop := ∃ p ∈ gvs, p.1 = b
def GlobOk (w : World) : Prop := ∀ p ∈ gvs, ∃ cs T fr, w.heap[p.1]? = some (.cells cs T fr) ∧ p.2 cs
def Gl (w : World) : Prop := GlobOk w
theorem GlobOk.keep {w w' : World} (h : GlobOk w) (hb : ∀ b, isG b → w'.heap[b]? = w.heap[b]?) : GlobOk w' := fun p hp => by
  obtain ⟨cs, T, fr, e, h1⟩ := h p hp
  exact ⟨cs, T, fr, (hb p.1 ⟨p, hp, rfl⟩).trans e, h1⟩
theorem Gl.lt {w : World} (h : Gl w) {b : Nat} (hb : isG b) : b < w.heap.size := by
  obtain ⟨p, hp, rfl⟩ := hb
  obtain ⟨cs, T, fr, e, _⟩ := h p hp
  exact (Array.getElem?_eq_some_iff.1 e).1
theorem Gl.below {w w' : World} {B : Nat} (h : Gl w) (hb : Below B w w') (hB : w.heap.size ≤ B) : Gl w' := GlobOk.keep h fun b hg => hb.block b (Nat.lt_of_lt_of_le (h.lt hg) hB)
theorem Gl.below_ {w w' : World} (h : Gl w) (hb : Below w.heap.size w w') : Gl w' := h.below hb (Nat.le_refl _)
theorem zq12 {w : World} (h : Gl w) : Lib.TabIs Tryd.prog w "internal/strconv.uint64pow10" .u64 Lib.pow10Tab := by
  obtain ⟨cs, T, fr, e, rfl⟩ := h _ (List.mem_append_left _ List.mem_cons_self)
  unfold Lib.TabIs World.var?
  have hg : (Tryd.prog).globalNamed "internal/strconv.uint64pow10" = some 3 := by kernel_rfl
  rw [hg]
  simp only [Option.bind_some]
  rw [show (w.heap[3]? = _) from e]
theorem zw11 {w : World} (h : Gl w) : ∃ te pe, w.cell? ⟨2, 0, none⟩ = some (.iface te pe) := by
  obtain ⟨cs, T, fr, e, te, pe, rfl⟩ := h _ (List.mem_append_right _ List.mem_cons_self)
  refine ⟨te, pe, ?_⟩
  unfold World.cell?
  rw [show (w.heap[2]? = _) from e]
  rfl
end Go.Proofs.YtnlgmojciplnoaaDoor
namespace Go.Proofs.YtnlgmojciplnoaaDoor
open Go.ChangeShapes Go.WideShapes Go.ChangeAt Go.RowKit
set_option maxRecDepth 100000
def laidR : List (String × DataW Unit) := [("strconv.ErrRange", Rows.laid_strconv_ErrRange), ("strconv.ErrSyntax", Rows.laid_strconv_ErrSyntax)]
def laidL : List (String × DataW Unit) := ("math/bits.deBruijn32tab", Rows.laid_math_bits_deBruijn32tab) :: ("math/bits.deBruijn64tab", Rows.laid_math_bits_deBruijn64tab) :: ("internal/strconv.uint64pow10", Rows.laid_internal_strconv_uint64pow10) :: laidR
def doorN : Nat := 400
theorem zp15 (os : Os) (args : Array Value) : laidMetH Tryd.prog laidL ((World.doorLaid Tryd.prog doorN os).forCall (fun _ _ => 0) ⟨#[], args, []⟩).memory :=
  laidMetH_of_parts3 (fuel := 8) (laidMet_of_run' 8 (by kernel_rfl) (by kernel_rfl)) (by kernel_rfl) (by kernel_rfl)
theorem zx11 {W : World} (h : laidMetH Tryd.prog laidL W) : Gl W := by
  have h1 : laidMet Tryd.prog laidL W := h
  have h2 := laidMet.tail (laidMet.tail h1)
  have h3 : laidMet Tryd.prog (("internal/strconv.uint64pow10", Lib.tabData .u64 Lib.pow10Tab) :: laidR) W := h2
  have hg : (Tryd.prog).globalNamed "internal/strconv.uint64pow10" = some 3 := by kernel_rfl
  have h4 : Lib.TabIs Tryd.prog W "internal/strconv.uint64pow10" .u64 Lib.pow10Tab := Lib.tabIs_of_head (t := 109) (e := 92) (n := 20) hg (by kernel_rfl) (by kernel_rfl) Tryd.underlying92 (by kernel_rfl) (by kernel_rfl) h3
  have hA : ∀ p ∈ gvsA, ∃ cs T fr, W.heap[p.1]? = some (.cells cs T fr) ∧ p.2 cs := fun p hp => by
    obtain rfl := List.mem_singleton.1 hp
    unfold Lib.TabIs World.var? at h4
    rw [hg] at h4
    simp only [Option.bind_some] at h4
    split at h4
    · rename_i cs T fr he
      injection h4 with h4
      subst h4
      exact ⟨_, _, _, he, rfl⟩
    · cases h4
  have hB : ∀ p ∈ gvsB, ∃ cs T fr, W.heap[p.1]? = some (.cells cs T fr) ∧ p.2 cs := fun p hp => by
    obtain rfl := List.mem_singleton.1 hp
    obtain ⟨ps, ⟨g0, t0, cs0, f0, p0, q0, hg0, ht0, hv0, hd0, _, e0⟩, _, _⟩ := laidMet.tail h3
    have hgE : (Tryd.prog).globalNamed "strconv.ErrRange" = some 2 := by kernel_rfl
    have htE : ((Tryd.prog).globals[2]?).map (·.type) = some 62 := by kernel_rfl
    obtain rfl := Option.some.inj (hgE.symm.trans hg0)
    obtain rfl := Option.some.inj (htE.symm.trans ht0)
    obtain ⟨l0⟩ := cs0
    obtain ⟨_, u, v, e1, _, _⟩ := iface_of_trod Tryd.underlying62 hd0
    have e1' : l0 = [.iface u v] := e1
    subst e1'
    unfold World.var? at hv0
    rw [hgE] at hv0
    simp only [Option.bind_some] at hv0
    split at hv0
    · rename_i cs T fr he
      injection hv0 with hv0
      subst hv0
      exact ⟨_, _, _, he, u, v, rfl⟩
    · cases hv0
  exact fun p hp => (List.mem_append.1 hp).elim (hA p) (hB p)
set_option maxRecDepth 100000 in
theorem zp6 {f : FuncId} {fn : Func} {s : ChangeSpec} {tb : TypeId} {os : Os} (started : os.Started) (H : Type) (enc : TypeId × Value → H)
    (noInit : Tryd.checked.prog.inits.idxOf? f = none) (hfn : Tryd.checked.prog.funcs[f]? = some fn)
    (hread : fn.params.toList.all (fun t => Tryd.prog.readableRec t && decide (t < Tryd.prog.types.size)) = true)
    (hr : fn.resultTypes = #[tb]) (hB : Tryd.prog.underlying tb = some .bool) (hs : IsLaw s fn.params.toList.length)
    (args0 : Array Value)
    (hok : Input.okWideB Tryd.checked.prog ((World.doorLaid Tryd.prog doorN os).forCall (fun _ _ => 0) ⟨#[], args0, []⟩) f ⟨#[], args0, []⟩ = true)
    (hpre : s.preB enc Tryd.checked.prog fn [] false ((World.doorLaid Tryd.prog doorN os).forCall (fun _ _ => 0) ⟨#[], args0, []⟩).memory args0 8 = true)
    (hsz : s.sizedB enc Tryd.checked.prog fn false ((World.doorLaid Tryd.prog doorN os).forCall (fun _ _ => 0) ⟨#[], args0, []⟩).memory args0 8 = true)
    (walk : ∀ (W : World) (base : Nat) (args : Array Value) (ds : List (DataW H)) (ps : List MemPlace), Gl W →
      (∀ (j : Nat) t v, fn.params[j]? = some t → args[j]? = some v → Value.okWide Tryd.prog W .any base t v) →
      DataW.TrodAll enc Tryd.prog W 0 (fun _ => true) true fn.params.toList args.toList ds ps →
      (DataW.weightsEach Tryd.prog fn.params.toList ds).all (· ≤ reachBytes) = true →
      Calls Tryd.prog f args W fun e W' => e = .returned (.bool true) ∧ Below W.heap.size W W') :
    ReturnsInHanded {} Tryd.checked os f .any (fun w args => (s.pre enc Tryd.prog fn [] false w args ∧ laidMetH Tryd.prog laidL w) ∧ sizedMet enc Tryd.prog fn (OpenSpec.ofChange s) false w args) (s.post enc Tryd.prog fn false true false false) := by
  refine returnsInHanded_of_change_and (C := Tryd.checked) (X := fun w _ => laidMetH Tryd.prog laidL w) (fun _ _ _ hh h => h.of_heap hh) own started noInit hfn
    (ChangeSpec.witness_shaped (enc := enc) (C := Tryd.checked) (os := os) (X := fun w _ => laidMetH Tryd.prog laidL w) false (World.doorLaid Tryd.prog doorN os) args0 8 rfl (World.shaped_of_RefB (by kernel_rfl) (by kernel_rfl)) hok hpre hsz (zp15 os _)) ?_
  intro W base args ds gs before hval hW _ hsz hL _
  have hread' : ∀ t ∈ fn.params.toList, Tryd.prog.readableRec t = true ∧ t < Tryd.prog.types.size := fun t ht => by
    have h := List.all_eq_true.1 hread t ht
    rw [Bool.and_eq_true] at h
    exact ⟨h.1, of_decide_eq_true h.2⟩
  obtain ⟨p, q, hA, hV, _, _, _⟩ := id hW
  rw [hs.1] at hV
  obtain ⟨rfl, rfl⟩ := trodVars_none hV
  refine zo15 (P := Tryd.prog) zx17 hread' hr hB hs hW (walk W base args ds p (zx11 hL) hval hA ?_)
  have e : s.plain.varTypes Tryd.checked.prog = [] := by
    have : s.plain.vars = [] := hs.1
    simp [DataSpec.varTypes, this]
  rw [e, List.append_nil, List.append_nil] at hsz
  exact hsz
end Go.Proofs.YtnlgmojciplnoaaDoor
