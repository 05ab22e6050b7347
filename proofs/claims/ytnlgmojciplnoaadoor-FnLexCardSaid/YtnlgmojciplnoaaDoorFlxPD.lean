/- The abstract machine, second half: regions in any order, operations by what they do, calls as operations, code, tidying, data, rules for walks, contracts over data with places. -/
import Derived.Test.YtnlgmojciplnoaaDoorFlxPC
namespace Go.Proofs.YtnlgmojciplnoaaDoor
open Go.RowKit
structure AEq (σ τ : AS) : Prop where
  tm : σ.tm = τ.tm
  hp : σ.hp = τ.hp
  gn : σ.gn = τ.gn
  us : ∀ i, i ∈ σ.us ↔ i ∈ τ.us
  L : σ.L = τ.L
theorem AEq.refl (σ : AS) : AEq σ σ := ⟨rfl, rfl, rfl, fun _ => Iff.rfl, rfl⟩
theorem AEq.symm {σ τ : AS} (h : AEq σ τ) : AEq τ σ := ⟨h.tm.symm, h.hp.symm, h.gn.symm, fun i => (h.us i).symm, h.L.symm⟩
theorem AEq.kn {σ τ : AS} (h : AEq σ τ) : σ.Kn = τ.Kn := by
  funext i; unfold AS.Kn; rw [h.gn, h.us i]
theorem Sim.aeq {C : Ctx} {σ τ : AS} {a : Act} {w : World} (h : Sim C σ a w) (e : AEq σ τ) : Sim C τ a w := by
  obtain ⟨φ, F, St, h⟩ := h
  have hk := e.kn
  refine ⟨φ, F, St, h.dfr, by rw [← e.L]; exact h.len, fun t => by rw [← e.tm, ← hk]; exact h.tms t, ?_, ?_, ?_, ?_, ?_, ?_, ?_, h.frm, ?_, ?_, ?_, by rw [← e.gn]; exact h.gnN, h.stS⟩
  all_goals rw [← e.hp]
  · rw [← hk]; exact h.row
  · exact h.nod
  · exact h.dis
  · exact h.bxF
  · exact h.bxd
  · exact h.stF
  · exact h.stB
  · exact h.own
  · exact h.par
  · exact h.new
def updL (hp : Nat → Option Row) : List (Nat × Option Row) → Nat → Option Row
  | [] => hp
  | (i, r) :: l => updL (upd hp i r) l
theorem zs5 : ∀ {U : List (Nat × Option Row)} {hp : Nat → Option Row} {i : Nat}, (∀ p ∈ U, p.1 ≠ i) → updL hp U i = hp i
  | [], _, _, _ => rfl
  | (j, r) :: l, hp, i, h => by
    rw [updL, zs5 (fun p hp => h p (List.mem_cons_of_mem _ hp)), za3 _ _ (fun e => h (j, r) List.mem_cons_self e.symm)]
theorem zr8 : ∀ {U : List (Nat × Option Row)} {hp hp' : Nat → Option Row} {i : Nat}, (hp i = hp' i ∨ ∃ p ∈ U, p.1 = i) → updL hp U i = updL hp' U i
  | [], _, _, _, h => by
    rcases h with h | ⟨p, hp, _⟩
    · exact h
    · cases hp
  | (j, r) :: l, hp, hp', i, h => by
    rw [updL, updL]
    refine zr8 ?_
    by_cases e : i = j
    · subst e; exact .inl (by rw [zg2, zg2])
    · rw [za3 _ _ e, za3 _ _ e]
      rcases h with h | ⟨p, hp, h⟩
      · exact .inl h
      · rcases List.mem_cons.1 hp with rfl | hp
        · exact absurd h.symm e
        · exact .inr ⟨p, hp, h⟩
theorem zm15 {U V : List (Nat × Option Row)} {hp : Nat → Option Row} (h : ∀ p ∈ U, ∀ q ∈ V, p.1 ≠ q.1) : updL (updL hp U) V = updL (updL hp V) U := by
  funext i
  by_cases hU : ∃ p ∈ U, p.1 = i
  · obtain ⟨p, hp1, rfl⟩ := hU
    rw [zs5 (fun q hq e => h p hp1 q hq e.symm)]
    exact zr8 (.inr ⟨p, hp1, rfl⟩)
  · have hU' : ∀ p ∈ U, p.1 ≠ i := fun p hp e => hU ⟨p, hp, e⟩
    rw [zs5 (U := U) (hp := updL hp V) hU']
    exact zr8 (.inl (zs5 hU'))
structure Inf where
  fp : List Nat
  U : List (Nat × Option Row)
  N : List Nat
  x : AV
def AS.app (σ : AS) (I : Inf) (o : Oper) : AS := ({ σ with hp := updL σ.hp I.U, us := I.N ++ σ.us } : AS).put o.dst I.x
structure Agr (ops : Array Oper) (o : Oper) (I : Inf) (σ τ : AS) : Prop where
  tm : ∀ t ∈ o.looksAt ops, τ.tm t = σ.tm t
  hp : ∀ i ∈ I.fp, τ.hp i = σ.hp i
  gn : τ.gn = σ.gn
  L : τ.L = σ.L
  us : ∀ n ∈ I.N, n ∉ τ.us
section
variable {P : Program} {ops : Array Oper} {Q : Exit → Act → World → Prop} {C : Ctx}
def Snd (P : Program) (ops : Array Oper) (Q : Exit → Act → World → Prop) (C : Ctx) (i : Nat) (o : Oper) (σ : AS) (I : Inf) : Prop :=
  ∀ τ a w, Agr ops o I σ τ → Sim C τ a w → ∀ K : Act → World → Prop, (∀ a' w', Sim C (τ.app I o) a' w' → K a' w') → wpOp P ops Q i K a w
def inp (ops : Array Oper) (o : Oper) (I : Inf) (p : Oper) (J : Inf) : Bool :=
  o.apart ops p && (I.U.all fun q => !J.fp.contains q.1) && (J.U.all fun q => !I.fp.contains q.1) && (I.U.all fun q => J.U.all fun q' => q.1 != q'.1) && (I.N.all fun n => !J.N.contains n)
structure Inp (ops : Array Oper) (o : Oper) (I : Inf) (p : Oper) (J : Inf) : Prop where
  l1 : ∀ d, o.dst = some d → d ∉ p.looksAt ops
  l2 : ∀ d, p.dst = some d → d ∉ o.looksAt ops
  dd : ∀ d, o.dst = some d → p.dst ≠ some d
  u1 : ∀ q ∈ I.U, q.1 ∉ J.fp
  u2 : ∀ q ∈ J.U, q.1 ∉ I.fp
  uu : ∀ q ∈ I.U, ∀ q' ∈ J.U, q.1 ≠ q'.1
  nn : ∀ n ∈ I.N, n ∉ J.N
theorem zv22 {o p : Oper} {I J : Inf} (h : inp ops o I p J = true) : Inp ops o I p J := by
  simp only [inp, Bool.and_eq_true, List.all_eq_true, Bool.not_eq_true', bne_iff_ne, ne_eq] at h
  obtain ⟨⟨⟨⟨h1, h2⟩, h3⟩, h4⟩, h5⟩ := h
  obtain ⟨g1, g2, g3⟩ := Oper.apart_spec h1
  refine ⟨g1, g3, g2, fun q hq hc => ?_, fun q hq hc => ?_, h4, fun n hn hc => ?_⟩
  · have := h2 q hq; simp at this; exact this hc
  · have := h3 q hq; simp at this; exact this hc
  · have := h5 n hn; simp at this; exact this hc
theorem Inp.symm {o p : Oper} {I J : Inf} (h : Inp ops o I p J) : Inp ops p J o I :=
  ⟨h.l2, h.l1, fun d h1 h2 => h.dd d h2 h1, h.u2, h.u1, fun q hq q' hq' e => h.uu q' hq' q hq e.symm, fun n h1 h2 => h.nn n h2 h1⟩
theorem zm4 (σ : AS) (d : Option Nat) (x : AV) : (σ.put d x).hp = σ.hp ∧ (σ.put d x).gn = σ.gn ∧ (σ.put d x).us = σ.us ∧ (σ.put d x).L = σ.L := by
  unfold AS.put
  split
  · split <;> exact ⟨rfl, rfl, rfl, rfl⟩
  · exact ⟨rfl, rfl, rfl, rfl⟩
theorem zy19 (σ : AS) (d : Option Nat) (x : AV) : (σ.put d x).tm = fun t => if d = some t ∧ t < σ.L then x else σ.tm t := by
  funext t
  unfold AS.put
  split
  · rename_i d
    split
    · rename_i hd
      show upd σ.tm d x t = _
      by_cases e : t = d
      · subst e; rw [zg2]; simp [hd]
      · have : ¬ (some d = some t ∧ t < σ.L) := fun h => e (by have := h.1; injection this with h; exact h.symm)
        rw [za3 _ _ e, if_neg this]
    · rename_i hd
      have : ¬ (some d = some t ∧ t < σ.L) := fun h => hd (by have h1 := h.1; injection h1 with h1; rw [h1]; exact h.2)
      rw [if_neg this]
  · simp
theorem zz5 (σ : AS) (I : Inf) (o : Oper) : (σ.app I o).hp = updL σ.hp I.U := (zm4 _ _ _).1
theorem zo7 (σ : AS) (I : Inf) (o : Oper) : (σ.app I o).gn = σ.gn := (zm4 _ _ _).2.1
theorem zp7 (σ : AS) (I : Inf) (o : Oper) : (σ.app I o).us = I.N ++ σ.us := (zm4 _ _ _).2.2.1
theorem zh9 (σ : AS) (I : Inf) (o : Oper) : (σ.app I o).L = σ.L := (zm4 _ _ _).2.2.2
theorem za6 (σ : AS) (I : Inf) (o : Oper) : (σ.app I o).tm = fun t => if o.dst = some t ∧ t < σ.L then I.x else σ.tm t := zy19 _ _ _
theorem zh18 {σ : AS} {o p : Oper} {I J : Inf} (h : Inp ops o I p J) : AEq ((σ.app I o).app J p) ((σ.app J p).app I o) := by
  refine ⟨?_, ?_, ?_, fun i => ?_, ?_⟩
  · rw [za6, za6, za6, za6, zh9, zh9]
    funext t
    by_cases h1 : o.dst = some t ∧ t < σ.L
    · have h2 : ¬ (p.dst = some t ∧ t < σ.L) := fun h2 => h.dd t h1.1 h2.1
      rw [if_neg h2]; simp only [h1, and_self, if_true]
    · simp only [if_neg h1]
  · rw [zz5, zz5, zz5, zz5]; exact zm15 h.uu
  · simp only [zo7]
  · simp only [zp7, List.mem_append]; constructor <;> rintro (h | h | h) <;> simp [h]
  · simp only [zh9]
theorem zb21 {σ τ : AS} (h : AEq σ τ) (I : Inf) (o : Oper) : AEq (σ.app I o) (τ.app I o) := by
  refine ⟨?_, ?_, ?_, fun i => ?_, ?_⟩
  · rw [za6, za6, h.tm, h.L]
  · rw [zz5, zz5, h.hp]
  · rw [zo7, zo7, h.gn]
  · rw [zp7, zp7, List.mem_append, List.mem_append, h.us]
  · rw [zh9, zh9, h.L]
theorem Agr.app {σ τ : AS} {o p : Oper} {I J : Inf} (h : Agr ops o I σ τ) (hi : Inp ops o I p J) : Agr ops o I (σ.app J p) τ := by
  refine ⟨fun t ht => (h.tm t ht).trans ?_, fun i hi' => (h.hp i hi').trans ?_, by rw [zo7]; exact h.gn, by rw [zh9]; exact h.L, h.us⟩
  · rw [za6]
    have : ¬ (p.dst = some t ∧ t < σ.L) := fun h1 => hi.l2 t h1.1 ht
    simp only [if_neg this]
  · rw [zz5]; exact (zs5 fun q hq e => hi.u2 q hq (e ▸ hi')).symm
theorem Agr.unapp {σ τ : AS} {o p : Oper} {I J : Inf} (h : Agr ops o I (σ.app J p) τ) (hi : Inp ops o I p J) : Agr ops o I σ τ := by
  refine ⟨fun t ht => (h.tm t ht).trans ?_, fun i hi' => (h.hp i hi').trans ?_, by have := h.gn; rwa [zo7] at this, by have := h.L; rwa [zh9] at this, h.us⟩
  · rw [za6]
    have : ¬ (p.dst = some t ∧ t < σ.L) := fun h1 => hi.l2 t h1.1 ht
    simp only [if_neg this]
  · rw [zz5]; exact zs5 fun q hq e => hi.u2 q hq (e ▸ hi')
def Chain (P : Program) (ops : Array Oper) (Q : Exit → Act → World → Prop) (C : Ctx) (inf : Nat → Inf) : List Nat → AS → Prop
  | [], σ => ∀ a w, Sim C σ a w → Q .normal a w
  | i :: r, σ => ∃ o, ops[i]? = some o ∧ Snd P ops Q C i o σ (inf i) ∧ (∀ n ∈ (inf i).N, n ∉ σ.us) ∧ Chain P ops Q C inf r (σ.app (inf i) o)
theorem Snd.aeq {i : Nat} {o : Oper} {σ τ : AS} {I : Inf} (h : Snd P ops Q C i o σ I) (e : AEq σ τ) : Snd P ops Q C i o τ I := fun υ a w ha hs =>
  h υ a w ⟨fun t ht => by rw [e.tm]; exact ha.tm t ht, fun i hi => by rw [e.hp]; exact ha.hp i hi, by rw [e.gn]; exact ha.gn, by rw [e.L]; exact ha.L, ha.us⟩ hs
theorem Chain.aeq {inf : Nat → Inf} : ∀ {L : List Nat} {σ τ : AS}, Chain P ops Q C inf L σ → AEq σ τ → Chain P ops Q C inf L τ
  | [], σ, τ, h, e => fun a w hs => h a w (hs.aeq e.symm)
  | i :: r, σ, τ, ⟨o, h1, h2, h3, h4⟩, e => ⟨o, h1, h2.aeq e, fun n hn hm => h3 n hn ((e.us n).2 hm), h4.aeq (zb21 e _ _)⟩
theorem Chain.swap {inf : Nat → Inf} {i j : Nat} {r : List Nat} {σ : AS} {oi oj : Oper} (hi : ops[i]? = some oi) (hj : ops[j]? = some oj) (hp : Inp ops oi (inf i) oj (inf j)) (h : Chain P ops Q C inf (j :: i :: r) σ) : Chain P ops Q C inf (i :: j :: r) σ := by
  obtain ⟨o1, e1, s1, f1, o2, e2, s2, f2, h⟩ := h
  rw [hj] at e1; injection e1 with e1; subst e1
  rw [hi] at e2; injection e2 with e2; subst e2
  refine ⟨oi, hi, fun τ a w ha hs => s2 τ a w (ha.app hp) hs, fun n hn hm => f2 n hn (by rw [zp7]; exact List.mem_append_right _ hm), oj, hj, fun τ a w ha hs => s1 τ a w (ha.unapp hp.symm) hs, fun n hn hm => ?_, h.aeq (zh18 hp.symm)⟩
  rw [zp7] at hm
  rcases List.mem_append.1 hm with hm | hm
  · exact hp.nn n hm hn
  · exact f1 n hn hm
theorem Chain.bubble {inf : Nat → Inf} {i : Nat} {oi : Oper} (hi : ops[i]? = some oi) : ∀ {L r : List Nat} {σ : AS}, (∀ j ∈ L, ∃ oj, ops[j]? = some oj ∧ Inp ops oi (inf i) oj (inf j)) → Chain P ops Q C inf (L ++ i :: r) σ → Chain P ops Q C inf (i :: (L ++ r)) σ
  | [], r, σ, _, h => h
  | j :: L, r, σ, hh, h => by
    obtain ⟨oj, hj, hp⟩ := hh j List.mem_cons_self
    obtain ⟨o, e1, s1, f1, h⟩ := h
    exact Chain.swap hi hj hp ⟨o, e1, s1, f1, Chain.bubble hi (fun k hk => hh k (List.mem_cons_of_mem _ hk)) h⟩
def wt (md : Region.Mode) (ops : Array Oper) : Nat → Nat → Nat → Bool
  | 0, _, _ => false
  | f + 1, i, j => match ops[i]? with
    | some o => o.after.any fun e => Region.binds md e && (e.on == j || wt md ops f e.on j)
    | none => false
def backB (md : Region.Mode) (ops : Array Oper) : Bool := (List.range ops.size).all fun i => match ops[i]? with | some o => o.after.all fun e => !Region.binds md e || decide (e.on < i) | none => true
structure Lst (md : Region.Mode) (ops : Array Oper) (listed : Array Bool) (L : List Nat) : Prop where
  size : listed.size = ops.size
  closed : ∀ j oj, ops[j]? = some oj → listed.getD j false = true → ∀ e ∈ oj.after, Region.binds md e = true → listed.getD e.on false = true
  mem : ∀ i, i ∈ L ↔ i < ops.size ∧ listed.getD i true = false
  sort : L.Pairwise (· < ·)
theorem zu10 {listed : Array Bool} {i : Nat} (h : i < listed.size) (d d' : Bool) : listed.getD i d = listed.getD i d' := by simp [h]
theorem zv10 {md : Region.Mode} {listed : Array Bool} (hc : ∀ j oj, ops[j]? = some oj → listed.getD j false = true → ∀ e ∈ oj.after, Region.binds md e = true → listed.getD e.on false = true) :
    ∀ (f i j : Nat), wt md ops f i j = true → (∀ oi, ops[i]? = some oi → ∀ e ∈ oi.after, Region.binds md e = true → listed.getD e.on false = true) → listed.getD j false = true
  | 0, i, j, h, _ => by simp [wt] at h
  | f + 1, i, j, h, hr => by
    simp only [wt] at h
    split at h
    · rename_i o ho
      obtain ⟨e, he, hb⟩ := Array.any_eq_true'.1 h
      simp only [Bool.and_eq_true, Bool.or_eq_true, beq_iff_eq] at hb
      have hl := hr o ho e he hb.1
      rcases hb.2 with rfl | h2
      · exact hl
      · exact zv10 hc f e.on j h2 fun oi hoi => hc e.on oi hoi hl
    · cases h
theorem zz11 {md : Region.Mode} {inf : Nat → Inf} (hback : backB md ops = true)
    (hind : ∀ i j oi oj, j < i → ops[i]? = some oi → ops[j]? = some oj → wt md ops ops.size i j = true ∨ Inp ops oi (inf i) oj (inf j)) :
    ∀ (fuel : Nat) (L : List Nat) (listed : Array Bool) (σ : AS) (a : Act) (w : World), L.length = fuel → Lst md ops listed L → Chain P ops Q C inf L σ → Sim C σ a w → wpAny P md ops Q fuel listed a w := by
  have hb : ∀ i o, ops[i]? = some o → ∀ e ∈ o.after, Region.binds md e = true → e.on < i := by
    intro i o ho e he hbd
    have h1 := List.all_eq_true.1 hback i (List.mem_range.2 (Array.getElem?_eq_some_iff.1 ho).1)
    rw [ho] at h1
    have h2 := Array.all_eq_true_iff_forall_mem.1 h1 e he
    simpa [hbd] using h2
  have none_ready : ∀ listed, Lst md ops listed [] → Region.ready md ops listed = [] := by
    intro listed hL
    apply List.eq_nil_iff_forall_not_mem.2
    intro j hj
    obtain ⟨h1, oj, h2, _⟩ := mem_ready.1 hj
    have := (hL.mem j).2 ⟨(Array.getElem?_eq_some_iff.1 h2).1, h1⟩
    cases this
  intro fuel
  induction fuel with
  | zero =>
    intro L listed σ a w hl hL hC hs
    obtain rfl := List.eq_nil_of_length_eq_zero hl
    exact ⟨none_ready listed hL, hC a w hs⟩
  | succ fuel ih =>
    intro L listed σ a w hl hL hC hs
    refine ⟨fun h0 => ?_, fun i hi => ?_⟩
    · rcases L with _ | ⟨j, L⟩
      · cases hl
      · exfalso
        obtain ⟨h1, h2⟩ := (hL.mem j).1 List.mem_cons_self
        have : j ∈ Region.ready md ops listed := by
          refine mem_ready.2 ⟨h2, ops[j], Array.getElem?_eq_getElem h1, fun e he hbd => ?_⟩
          have hlt := hb j _ (Array.getElem?_eq_getElem h1) e he hbd
          cases hx : listed.getD e.on false with
          | true => rfl
          | false =>
            have hm := (hL.mem e.on).2 ⟨by omega, by rw [zu10 (by rw [hL.size]; omega) true false]; exact hx⟩
            rcases List.mem_cons.1 hm with e1 | hm
            · omega
            · have := List.rel_of_pairwise_cons hL.sort hm; omega
        rw [h0] at this; cases this
    · obtain ⟨h1, oi, h2, h3⟩ := mem_ready.1 hi
      have hlt := (Array.getElem?_eq_some_iff.1 h2).1
      have hm := (hL.mem i).2 ⟨hlt, h1⟩
      obtain ⟨L1, r, rfl⟩ := List.append_of_mem hm
      have hsort := List.pairwise_append.1 hL.sort
      have hC2 := Chain.bubble (i := i) h2 (L := L1) (r := r) (fun j hj => by
        have hji : j < i := hsort.2.2 j hj i List.mem_cons_self
        have hjm := (hL.mem j).1 (List.mem_append_left _ hj)
        refine ⟨ops[j], Array.getElem?_eq_getElem hjm.1, (hind i j oi _ hji h2 (Array.getElem?_eq_getElem hjm.1)).resolve_left fun hw => ?_⟩
        have := zv10 hL.closed ops.size i j hw fun oi' h2' => by rw [h2] at h2'; injection h2' with h2'; subst h2'; exact h3
        rw [zu10 (by rw [hL.size]; exact hjm.1) false true, hjm.2] at this
        cases this) hC
      obtain ⟨o, e1, s1, f1, hC3⟩ := hC2
      rw [h2] at e1; injection e1 with e1; subst e1
      refine s1 σ a w ⟨fun _ _ => rfl, fun _ _ => rfl, rfl, rfl, f1⟩ hs _ fun a' w' hs' => ?_
      have hnd : ¬ i ∈ L1 ++ r := by
        intro hmem
        rcases List.mem_append.1 hmem with h | h
        · have := hsort.2.2 i h i List.mem_cons_self; omega
        · have := List.rel_of_pairwise_cons hsort.2.1 h; omega
      refine ih (L1 ++ r) (listed.setIfInBounds i true) _ a' w' (by simp only [List.length_append, List.length_cons] at hl ⊢; omega) ⟨by simp [hL.size], fun j oj hj hlj e he hbd => ?_, fun j => ?_, ?_⟩ hC3 hs'
      · by_cases hji : i = j
        · subst hji
          rw [h2] at hj; injection hj with hj; subst hj
          exact getD_set_true (h3 e he hbd)
        · rw [getD_set_ne false hji] at hlj
          exact getD_set_true (hL.closed j oj hj hlj e he hbd)
      · by_cases hji : i = j
        · subst hji
          constructor
          · exact fun h => absurd h hnd
          · rintro ⟨_, h⟩
            simp [hL.size, hlt] at h
        · rw [getD_set_ne true hji, ← hL.mem j]
          simp [Ne.symm hji]
      · refine List.pairwise_append.2 ⟨hsort.1, (List.pairwise_cons.1 hsort.2.1).2, fun x hx y hy => hsort.2.2 x hx y (List.mem_cons_of_mem _ hy)⟩
theorem zs8 : ∀ {H : List (Nat × Oper × Inf)} {h : Nat × Oper × Inf}, (H.Pairwise fun a b => b.1 < a.1) → h ∈ H → H.find? (fun h' => h'.1 == h.1) = some h
  | [], _, _, hh => by cases hh
  | x :: r, h, hs, hh => by
    rcases List.mem_cons.1 hh with rfl | hh'
    · simp
    · have h1 := List.rel_of_pairwise_cons hs hh'
      rw [List.find?_cons_of_neg (by simp; omega)]
      exact zs8 (List.pairwise_cons.1 hs).2 hh'
def Walk (P : Program) (ops : Array Oper) (Q : Exit → Act → World → Prop) (C : Ctx) (dr : Bool) : List (Nat × Oper × Inf) → List Nat → AS → Prop
  | _, [], σ => ∀ a w, Sim C σ a w → Q .normal a w
  | H, i :: r, σ => ∃ o I, ops[i]? = some o ∧ Snd P ops Q C i o σ I ∧ (∀ n ∈ I.N, n ∉ σ.us) ∧ (dr = true → (H.all fun h => wt .any ops ops.size i h.1 || inp ops o I h.2.1 h.2.2) = true) ∧ Walk P ops Q C dr ((i, o, I) :: H) r (σ.app I o)
theorem zm9 {dr : Bool} : ∀ {L : List Nat} {H : List (Nat × Oper × Inf)} {σ : AS}, L.Pairwise (· < ·) → (∀ h ∈ H, ∀ i ∈ L, h.1 < i) → (∀ h ∈ H, ops[h.1]? = some h.2.1) → (H.Pairwise fun a b => b.1 < a.1) → Walk P ops Q C dr H L σ →
    ∃ inf : Nat → Inf, (∀ h ∈ H, inf h.1 = h.2.2) ∧ Chain P ops Q C inf L σ ∧ (dr = true → ∀ i ∈ L, ∀ j oi oj, j < i → (j ∈ L ∨ ∃ h ∈ H, h.1 = j) → ops[i]? = some oi → ops[j]? = some oj → wt .any ops ops.size i j = true ∨ Inp ops oi (inf i) oj (inf j))
  | [], H, σ, _, _, _, hs, h => by
    refine ⟨fun i => ((H.find? (fun h => h.1 == i)).map (·.2.2)).getD ⟨[], [], [], .c .un⟩, fun h hh => ?_, h, fun _ i hi => absurd hi List.not_mem_nil⟩
    have : H.find? (fun h' => h'.1 == h.1) = some h := zs8 hs hh
    simp [this]
  | i :: r, H, σ, hL, hHL, hops, hs, h => by
    obtain ⟨o, I, h1, h2, h3, h4, h5⟩ := h
    obtain ⟨inf, g1, g2, g3⟩ := zm9 (L := r) (H := (i, o, I) :: H) (List.pairwise_cons.1 hL).2 (fun h hh j hj => by
        rcases List.mem_cons.1 hh with rfl | hh
        · exact List.rel_of_pairwise_cons hL hj
        · exact hHL h hh j (List.mem_cons_of_mem _ hj)) (fun h hh => by
        rcases List.mem_cons.1 hh with rfl | hh
        · exact h1
        · exact hops h hh) (List.pairwise_cons.2 ⟨fun h hh => hHL h hh i List.mem_cons_self, hs⟩) h5
    have hi : inf i = I := g1 _ List.mem_cons_self
    refine ⟨inf, fun h hh => g1 h (List.mem_cons_of_mem _ hh), ⟨o, h1, by rw [hi]; exact h2, by rw [hi]; exact h3, by rw [hi]; exact g2⟩, fun hd k hk j oi oj hjk hj hoi hoj => ?_⟩
    rcases List.mem_cons.1 hk with rfl | hk
    · have hjH : ∃ h ∈ H, h.1 = j := by
        rcases hj with hj | hj
        · rcases List.mem_cons.1 hj with rfl | hj
          · omega
          · have := List.rel_of_pairwise_cons hL hj; omega
        · exact hj
      obtain ⟨h, hh, rfl⟩ := hjH
      have := List.all_eq_true.1 (h4 hd) h hh
      rw [Bool.or_eq_true] at this
      rw [h1] at hoi; injection hoi with hoi; subst hoi
      have e := hops h hh
      rw [hoj] at e; injection e with e; subst e
      refine this.imp id fun hp => ?_
      rw [hi, g1 h (List.mem_cons_of_mem _ hh)]
      exact zv22 hp
    · refine g3 hd k hk j oi oj hjk ?_ hoi hoj
      rcases hj with hj | ⟨h, hh, e⟩
      · rcases List.mem_cons.1 hj with rfl | hj
        · exact .inr ⟨_, List.mem_cons_self, rfl⟩
        · exact .inl hj
      · exact .inr ⟨h, List.mem_cons_of_mem _ hh, e⟩
theorem zq7 (n : Nat) : (List.range n).Pairwise (· < ·) := by
  rw [List.pairwise_iff_getElem]
  intro i j hi hj hij
  simpa using hij
theorem zw10 {inf : Nat → Inf} : ∀ {L : List Nat} {σ : AS} {a : Act} {w : World}, Chain P ops Q C inf L σ → Sim C σ a w → wpOps P ops Q L a w
  | [], σ, a, w, h, hs => h a w hs
  | i :: r, σ, a, w, ⟨o, h1, h2, h3, h4⟩, hs => by
    rw [wpOps_cons]
    exact h2 σ a w ⟨fun _ _ => rfl, fun _ _ => rfl, rfl, rfl, h3⟩ hs _ fun a' w' hs' => zw10 h4 hs'
theorem Sim.drawn {σ : AS} {a : Act} {w : World} (h : Sim C σ a w) (n : Nat) : Sim C σ a { w with drawn := n } := by
  obtain ⟨φ, F, St, h⟩ := h
  exact ⟨φ, F, St, h.keep (Stp.drawn w n none)⟩
theorem zn15 {id : Nat} {dr : Bool} {σ : AS} (hm : dr = true → P.follows .mixedOrders = true ∧ backB .any ops = true) (h : Walk P ops Q C dr [] (List.range ops.size) σ) {a : Act} {w : World} (hs : Sim C σ a w) : (Code.region id ops dr).wp P Q a w := by
  obtain ⟨inf, _, h2, h3⟩ := zm9 (zq7 _) (fun h hh => absurd hh List.not_mem_nil) (fun h hh => absurd hh List.not_mem_nil) List.Pairwise.nil h
  cases dr with
  | false => exact wp_region (zw10 h2 hs)
  | true =>
    refine wp_region_any (hm rfl).1 ?_
    refine zz11 (hm rfl).2 (fun i j oi oj hji hoi hoj => h3 rfl i (List.mem_range.2 (Array.getElem?_eq_some_iff.1 hoi).1) j oi oj hji (.inl (List.mem_range.2 (Array.getElem?_eq_some_iff.1 hoj).1)) hoi hoj) ops.size (List.range ops.size) _ σ a _ (by simp) ⟨by simp, fun j oj hj hl => ?_, fun i => ?_, zq7 _⟩ h2 (hs.drawn _)
    · have hlt := (Array.getElem?_eq_some_iff.1 hj).1
      simp [hlt] at hl
    · rw [List.mem_range]
      constructor
      · exact fun h => ⟨h, by simp [h]⟩
      · exact fun h => h.1
end
inductive Dl where
  | nop
  | gr (id : Nat) (r : Row)
  | st (i : Nat) (r : Row)
  | mv (j id : Nat) (r : Row)
def Dl.ap : Dl → AS → AS
  | .nop, σ => σ
  | .gr id r, σ => σ.grow id r
  | .st i r, σ => σ.set i (some r)
  | .mv j id r, σ => (σ.set j none).grow id r
def Dl.N : Dl → List Nat
  | .nop => []
  | .gr id _ => [id]
  | .st _ _ => []
  | .mv _ id _ => [id]
def Dl.U : Dl → List (Nat × Option Row)
  | .nop => []
  | .gr id r => [(id, some r)]
  | .st i r => [(i, some r)]
  | .mv j id r => [(j, none), (id, some r)]
def Dl.inf (d : Dl) (fp : List Nat) (x : AV) : Inf := ⟨fp, d.U, d.N, x⟩
theorem Dl.app_eq (d : Dl) (fp : List Nat) (x : AV) (σ : AS) (o : Oper) : σ.app (d.inf fp x) o = (d.ap σ).put o.dst x := by
  cases d <;> rfl
def nmV : AV → List Nat
  | .c (.sl i _) => [i]
  | .c (.pt i _) => [i]
  | _ => []
def dAlloc (P : Program) (id : Nat) (T : TypeId) : Option (AV × Dl) :=
  match (P.info? T).bind (·.zero) with
  | some z => some (.c (.pt id 0), .gr id ⟨T, 0, 0, true, z.cells.toList.map ofC⟩)
  | none => none
def dBox (id : Nat) (T : TypeId) (x : AV) : Option (AV × Dl) :=
  match x.cells with
  | some cs => some (.c (.pt id 0), .gr id ⟨T, 0, 0, true, cs⟩)
  | none => none
def dStore (P : Program) (hp : Nat → Option Row) (t : TypeId) (p x : AV) : Option (AV × Dl) :=
  match p, x.cells with
  | .c (.pt i o), some cs =>
    match hp i with
    | some r => if (P.info? t).map (·.size) = some cs.length ∧ cs.all noUn = true ∧ o + cs.length ≤ r.cs.length then some (.c .un, .st i { r with cs := spl r.cs o cs }) else none
    | none => none
  | _, _ => none
def dBuildSlice (P : Program) (id : Nat) (T : TypeId) (len : Nat) (parts : List (Nat × AV)) : Option (AV × Dl) :=
  match P.underlying T with
  | some (.slice e) =>
    match P.info? e with
    | some i =>
      match i.zero with
      | some z =>
        match aFill (fun j => some (j * i.size, i.size)) ((madeCells z.cells (len * i.size)).toList.map ofC) parts with
        | some cs => if len * i.size ≤ 16777216 ∧ len ≤ 16777216 then some (.c (.sl id len), .gr id ⟨e, i.size, len, false, cs⟩) else none
        | none => none
      | none => none
    | none => none
  | _ => none
def dAppend (P : Program) (hp : Nat → Option Row) (id : Nat) (T T2 : TypeId) (x y : AV) : Option (AV × Dl) :=
  match P.underlying T, P.underlying T2 with
  | some (.slice e), some d2 =>
    match P.info? e with
    | some i =>
      match i.zero with
      | some z =>
        if srcTy d2 = true ∧ z.cells.size = i.size ∧ 0 < i.size then
        match srcOf hp i.size y with
        | some (m, ys) =>
          if ys.all noUn = true then
          match x with
          | .c (.sl j n) =>
            match hp j with
            | some r => if r.T = e ∧ r.k = i.size ∧ r.n = n ∧ r.box = false ∧ (n + m) * i.bytes ≤ 140737488355328 ∧ n + m ≤ 9223372036854775807 then some (.c (.sl id (n + m)), .mv j id ⟨e, i.size, n + m, false, r.cs ++ ys⟩) else none
            | none => none
          | .c (.v (.slice none 0 0)) => if m * i.bytes ≤ 140737488355328 ∧ m ≤ 9223372036854775807 then some (.c (.sl id m), .gr id ⟨e, i.size, m, false, ys⟩) else none
          | _ => none
          else none
        | none => none
        else none
      | none => none
    | none => none
  | _, _ => none
def dSlice (P : Program) (hp : Nat → Option Row) (id : Nat) (T : TypeId) (x : AV) (lo hi : Option AV) : Option (AV × Dl) :=
  match P.underlying T with
  | some (.slice e) =>
    match (P.info? e).map (·.size) with
    | some k =>
      match x with
      | .c (.ro n k' l) =>
        match bnd 0 lo, bnd n hi with
        | some a, some b => if k' = k ∧ a ≤ b ∧ b ≤ n then some (.c (.ro (b - a) k (subL l (a * k) ((b - a) * k))), .nop) else none
        | _, _ => none
      | .c (.sl i n) =>
        match bnd 0 lo, bnd n hi, hp i with
        | some 0, some b, some r => if r.k = k ∧ r.n = n ∧ r.box = false ∧ b ≤ n then some (.c (.sl id b), .mv i id ⟨r.T, k, b, false, r.cs.take (b * k)⟩) else none
        | _, _, _ => none
      | _ => none
    | none => none
  | _ => none
def nop? (x : Option AV) : Option (AV × Dl) := x.map fun y => (y, .nop)
def EffCallD (P : Program) (o : Oper) (ev : Operand → AV) (hp : Nat → Option Row) (id : Nat) (c : Call) : Option (AV × Dl) :=
  match c.callee, c.args.toList, c.argTypes.toList with
  | .builtin .len, [x], [t] => if lenOk P t (ev x) = true then nop? (aLen (ev x)) else none
  | .builtin .append, [x, y], [T, T2] => dAppend P hp id T T2 (ev x) (ev y)
  | .builtin .min, _, _ => nop? (aScal P ev o)
  | .builtin .max, _, _ => nop? (aScal P ev o)
  | _, _, _ => none
def EffD (P : Program) (o : Oper) (ev : Operand → AV) (hp : Nat → Option Row) (id : Nat) : Option (AV × Dl) :=
  match o.op with
  | .move x => some (ev x, .nop)
  | .assign x => some (ev x, .nop)
  | .pick c a b => nop? (aPick (ev c) (ev a) (ev b))
  | .alloc T => dAlloc P id T
  | .box T x => dBox id T (ev x)
  | .load t p => nop? (aLoad P t hp (ev p))
  | .store t p x => dStore P hp t (ev p) (ev x)
  | .nilCheck x => nop? (aNil (ev x))
  | .fieldAddr S p f => nop? (aFieldAddr P S f (ev p))
  | .indexAddr T x i => nop? (aIndexAddr P hp T (ev x) (ev i))
  | .field S x f => nop? (aField P S f (ev x))
  | .extract x j => nop? (aExtract j (ev x))
  | .build T parts => nop? (aBuild P T (parts.toList.map fun p => (p.1, ev p.2)))
  | .buildSlice T n parts => dBuildSlice P id T n (parts.toList.map fun p => (p.1, ev p.2))
  | .makeFunc (.func f) first caps => if first.size = 0 then nop? (aFunc f (caps.toList.map ev)) else none
  | .slice T x lo hi mx => if mx.isSome = true then none else if isStr (ev x) = true then nop? (aScal P ev o) else dSlice P hp id T (ev x) (lo.map ev) (hi.map ev)
  | .convert s d x => if (ev x).val?.isSome = true ∧ isStr (ev x) = true ∨ (ev x).val?.isSome = true ∧ (aStr P hp s d (ev x)).isSome = false then nop? (aScal P ev o) else if isStr (ev x) = true then none else nop? (aStr P hp s d (ev x))
  | .binOp .. => nop? (aScal P ev o)
  | .unOp .. => nop? (aScal P ev o)
  | .index .. => nop? (aScal P ev o)
  | .call c => EffCallD P o ev hp id c
  | _ => none
def fpO (ev : Operand → AV) (o : Oper) : List Nat := o.op.operands.toList.flatMap fun x => nmV (ev x)
section
variable {P : Program} {σ τ : AS} {id : Nat} {x : AV} {d : Dl} {o : Oper}
theorem zr3 {e : Option AV} (h : nop? e = some (x, d)) : still σ e = some (x, d.ap σ) := by
  unfold nop? at h
  simp only [Option.map_eq_some_iff, Prod.mk.injEq] at h
  obtain ⟨y, rfl, rfl, rfl⟩ := h
  rfl
theorem zo15 {T : TypeId} (h : dAlloc P id T = some (x, d)) (hf : ∀ n ∈ d.N, σ.gn ≤ n ∧ n ∉ σ.us) : aAlloc P σ id T = some (x, d.ap σ) := by
  unfold dAlloc at h
  split at h
  · rename_i z hz
    simp only [Option.some.injEq, Prod.mk.injEq] at h
    obtain ⟨rfl, rfl⟩ := h
    unfold aAlloc
    rw [hz]
    exact if_pos (hf id (by simp [Dl.N]))
  · cases h
theorem zc21 {T : TypeId} {y : AV} (h : dBox id T y = some (x, d)) (hf : ∀ n ∈ d.N, σ.gn ≤ n ∧ n ∉ σ.us) : aBox σ id T y = some (x, d.ap σ) := by
  unfold dBox at h
  split at h
  · rename_i z hz
    simp only [Option.some.injEq, Prod.mk.injEq] at h
    obtain ⟨rfl, rfl⟩ := h
    unfold aBox
    rw [hz]
    exact if_pos (hf id (by simp [Dl.N]))
  · cases h
theorem zp15 {t : TypeId} {p y : AV} (h : dStore P σ.hp t p y = some (x, d)) : aStore P σ t p y = some (x, d.ap σ) := by
  unfold dStore at h
  split at h
  · rename_i i o cs hcs
    split at h
    · rename_i r hr
      split at h
      · rename_i hc
        simp only [Option.some.injEq, Prod.mk.injEq] at h
        obtain ⟨rfl, rfl⟩ := h
        unfold aStore
        simp only [hcs, hr]
        exact if_pos hc
      · cases h
    · cases h
  · cases h
theorem zi9 {T : TypeId} {len : Nat} {parts : List (Nat × AV)} (h : dBuildSlice P id T len parts = some (x, d)) (hf : ∀ n ∈ d.N, σ.gn ≤ n ∧ n ∉ σ.us) : aBuildSlice P σ id T len parts = some (x, d.ap σ) := by
  unfold dBuildSlice at h
  split at h
  · rename_i e hT
    split at h
    · rename_i i hi
      split at h
      · rename_i z hz
        split at h
        · rename_i cs hcs
          split at h
          · rename_i hc
            simp only [Option.some.injEq, Prod.mk.injEq] at h
            obtain ⟨rfl, rfl⟩ := h
            have := hf id (by simp [Dl.N])
            unfold aBuildSlice
            simp only [hT, hi, hz, hcs]
            exact if_pos ⟨this.1, this.2, hc⟩
          · cases h
        · cases h
      · cases h
    · cases h
  · cases h
theorem zj14 {T T2 : TypeId} {y z : AV} (h : dAppend P σ.hp id T T2 y z = some (x, d)) (hf : ∀ n ∈ d.N, σ.gn ≤ n ∧ n ∉ σ.us) : aAppend P σ id T T2 y z = some (x, d.ap σ) := by
  unfold dAppend at h
  split at h
  · rename_i e d2 hT hT2
    split at h
    · rename_i i hi
      split at h
      · rename_i zz hz
        split at h
        · rename_i hc
          split at h
          · rename_i m ys hsrc
            split at h
            · rename_i hnu
              split at h
              · rename_i j n
                split at h
                · rename_i r hr
                  split at h
                  · rename_i hc2
                    simp only [Option.some.injEq, Prod.mk.injEq] at h
                    obtain ⟨rfl, rfl⟩ := h
                    have := hf id (by simp [Dl.N])
                    unfold aAppend
                    simp only [hT, hT2, hi, hz, hsrc, hr]
                    rw [if_pos ⟨hc.1, hc.2.1, hc.2.2, this.1, this.2⟩, if_pos hnu, if_pos hc2]
                    rfl
                  · cases h
                · cases h
              · split at h
                · rename_i hc2
                  simp only [Option.some.injEq, Prod.mk.injEq] at h
                  obtain ⟨rfl, rfl⟩ := h
                  have := hf id (by simp [Dl.N])
                  unfold aAppend
                  simp only [hT, hT2, hi, hz, hsrc]
                  rw [if_pos ⟨hc.1, hc.2.1, hc.2.2, this.1, this.2⟩, if_pos hnu, if_pos hc2]
                  rfl
                · cases h
              · cases h
            · cases h
          · cases h
        · cases h
      · cases h
    · cases h
  · cases h
theorem zq15 {T : TypeId} {y : AV} {lo hi : Option AV} (h : dSlice P σ.hp id T y lo hi = some (x, d)) (hf : ∀ n ∈ d.N, σ.gn ≤ n ∧ n ∉ σ.us) : aSlice P σ id T y lo hi = some (x, d.ap σ) := by
  unfold dSlice at h
  split at h
  · rename_i e hT
    split at h
    · rename_i k hk
      split at h
      · split at h
        · rename_i a b ha hb
          split at h
          · rename_i hc
            simp only [Option.some.injEq, Prod.mk.injEq] at h
            obtain ⟨rfl, rfl⟩ := h
            unfold aSlice
            simp only [hT, hk, ha, hb]
            exact if_pos hc
          · cases h
        · cases h
      · split at h
        · rename_i b r ha hb hr
          split at h
          · rename_i hc
            simp only [Option.some.injEq, Prod.mk.injEq] at h
            obtain ⟨rfl, rfl⟩ := h
            have := hf id (by simp [Dl.N])
            unfold aSlice
            simp only [hT, hk, ha, hb, hr]
            exact if_pos ⟨hc.1, hc.2.1, hc.2.2.1, hc.2.2.2, this.1, this.2⟩
          · cases h
        · cases h
      · cases h
    · cases h
  · cases h
theorem zd21 (h : EffD P o σ.ev σ.hp id = some (x, d)) (hf : ∀ n ∈ d.N, σ.gn ≤ n ∧ n ∉ σ.us) : Eff P o σ id = some (x, d.ap σ) := by
  obtain ⟨dst, op, type, pos, after, guard⟩ := o
  cases op <;> simp only [EffD] at h <;> (try cases h; done) <;> simp only [Eff]
  case move y => simp only [Option.some.injEq, Prod.mk.injEq] at h; obtain ⟨rfl, rfl⟩ := h; rfl
  case assign y => simp only [Option.some.injEq, Prod.mk.injEq] at h; obtain ⟨rfl, rfl⟩ := h; rfl
  case pick => exact zr3 h
  case alloc T => exact zo15 h hf
  case box T y => exact zc21 h hf
  case load => exact zr3 h
  case store => exact zp15 h
  case nilCheck => exact zr3 h
  case fieldAddr => exact zr3 h
  case indexAddr => exact zr3 h
  case field => exact zr3 h
  case extract => exact zr3 h
  case build => exact zr3 h
  case buildSlice => exact zi9 h hf
  case makeFunc fn first caps =>
    cases fn <;> simp only [] at h ⊢ <;> (try cases h; done)
    split at h
    · rename_i hc; rw [if_pos hc]; exact zr3 h
    · cases h
  case slice T y lo hi mx =>
    split at h
    · cases h
    · rename_i h1
      rw [if_neg h1]
      split at h
      · rename_i h2; rw [if_pos h2]; exact zr3 h
      · rename_i h2; rw [if_neg h2]; exact zq15 h hf
  case convert s dd y =>
    split at h
    · rename_i h1; rw [if_pos h1]; exact zr3 h
    · rename_i h1
      rw [if_neg h1]
      split at h
      · cases h
      · rename_i h2; rw [if_neg h2]; exact zr3 h
  case binOp => exact zr3 h
  case unOp => exact zr3 h
  case index => exact zr3 h
  case call c =>
    unfold EffCallD at h
    unfold EffCall
    split at h
    · rename_i y t hc ha ht
      simp only [hc, ha, ht]
      split at h
      · rename_i h1; rw [if_pos h1]; exact zr3 h
      · cases h
    · rename_i y z T T2 hc ha ht
      simp only [hc, ha, ht]
      exact zj14 h hf
    · rename_i hc
      simp only [hc]
      exact zr3 h
    · rename_i hc
      simp only [hc]
      exact zr3 h
    · cases h
end
section
variable {P : Program} {hp hp' : Nat → Option Row} {ev ev' : Operand → AV}
theorem zr15 {t : TypeId} {v : AV} (h : ∀ i ∈ nmV v, hp' i = hp i) : aLoad P t hp' v = aLoad P t hp v := by
  unfold aLoad
  split
  · rw [h _ (by simp [nmV])]
  · rfl
  · rfl
theorem zk14 {t : TypeId} {p x : AV} (h : ∀ i ∈ nmV p, hp' i = hp i) : dStore P hp' t p x = dStore P hp t p x := by
  unfold dStore
  split
  · rw [h _ (by simp [nmV])]
  · rfl
theorem zj9 {T : TypeId} {x ix : AV} (h : ∀ i ∈ nmV x, hp' i = hp i) : aIndexAddr P hp' T x ix = aIndexAddr P hp T x ix := by
  unfold aIndexAddr
  split
  · split
    · split
      · rw [h _ (by simp [nmV])]
      · rfl
      · rfl
    · rfl
  · rfl
theorem zx10 {k : Nat} {v : AV} (h : ∀ i ∈ nmV v, hp' i = hp i) : srcOf hp' k v = srcOf hp k v := by
  unfold srcOf
  split
  · rw [h _ (by simp [nmV])]
  all_goals rfl
theorem zi18 {s d : TypeId} {v : AV} (h : ∀ i ∈ nmV v, hp' i = hp i) : aStr P hp' s d v = aStr P hp s d v := by
  unfold aStr
  rw [zx10 h]
theorem za12 {id : Nat} {T T2 : TypeId} {x y : AV} (h : ∀ i ∈ nmV x, hp' i = hp i) (h2 : ∀ i ∈ nmV y, hp' i = hp i) : dAppend P hp' id T T2 x y = dAppend P hp id T T2 x y := by
  unfold dAppend
  split
  · split
    · split
      · split
        · rw [zx10 h2]
          split
          · split
            · split
              · rw [h _ (by simp [nmV])]
              · rfl
              · rfl
            · rfl
          · rfl
        · rfl
      · rfl
    · rfl
  · rfl
theorem zl14 {id : Nat} {T : TypeId} {x : AV} {lo hi : Option AV} (h : ∀ i ∈ nmV x, hp' i = hp i) : dSlice P hp' id T x lo hi = dSlice P hp id T x lo hi := by
  unfold dSlice
  split
  · split
    · split
      · rfl
      · rw [h _ (by simp [nmV])]
      · rfl
    · rfl
  · rfl
theorem zs15 {o : Oper} (he : ∀ x ∈ o.op.operands, ev' x = ev x) : aScal P ev' o = aScal P ev o := by
  unfold aScal
  have h1 : (notSel o.op = true ∧ ∀ x ∈ o.op.operands, (ev' x).val?.isSome = true) ↔ (notSel o.op = true ∧ ∀ x ∈ o.op.operands, (ev x).val?.isSome = true) := by
    constructor
    · exact fun h => ⟨h.1, fun x hx => by rw [← he x hx]; exact h.2 x hx⟩
    · exact fun h => ⟨h.1, fun x hx => by rw [he x hx]; exact h.2 x hx⟩
  by_cases hc : notSel o.op = true ∧ ∀ x ∈ o.op.operands, (ev x).val?.isSome = true
  · rw [if_pos hc, if_pos (h1.2 hc)]
    have : execOp (fun x => ((ev' x).val?).getD undef) o = execOp (fun x => ((ev x).val?).getD undef) o :=
      execOp_congr o (fun cs b e => by have := hc.1; rw [e] at this; cases this) fun x hx => by rw [he x hx]
    rw [this]
  · rw [if_neg hc, if_neg fun h => hc (h1.1 h)]
theorem zz19 {l : List Operand} (h : ∀ x ∈ l, ev' x = ev x) : l.map ev' = l.map ev := List.map_congr_left h
theorem za13 {l : Array (Nat × Operand)} (h : ∀ x ∈ (l.toList.map (·.2)).toArray, ev' x = ev x) : (l.toList.map fun p => (p.1, ev' p.2)) = l.toList.map fun p => (p.1, ev p.2) :=
  List.map_congr_left fun p hp => by rw [h p.2 (by simp only [List.mem_toArray, List.mem_map]; exact ⟨p, hp, rfl⟩)]
theorem zj18 {o : Oper} {id : Nat} (he : ∀ x ∈ o.op.operands, ev' x = ev x) (hh : ∀ i ∈ fpO ev o, hp' i = hp i) : EffD P o ev' hp' id = EffD P o ev hp id := by
  have hh' : ∀ x ∈ o.op.operands, ∀ i ∈ nmV (ev x), hp' i = hp i := fun x hx i hi => hh i (List.mem_flatMap.2 ⟨x, by simpa using hx, hi⟩)
  have sc := zs15 (P := P) he
  clear hh
  obtain ⟨dst, op, type, pos, after, guard⟩ := o
  cases op <;> simp only [Op.operands] at he hh' <;> simp only [EffD]
  case move y => rw [he y (by simp)]
  case assign y => rw [he y (by simp)]
  case pick c a b => rw [he c (by simp), he a (by simp), he b (by simp)]
  case box T y => rw [he y (by simp)]
  case load t p => rw [he p (by simp), zr15 (hh' p (by simp))]
  case store t p y => rw [he p (by simp), he y (by simp), zk14 (hh' p (by simp))]
  case nilCheck y => rw [he y (by simp)]
  case fieldAddr S p f => rw [he p (by simp)]
  case indexAddr T y i => rw [he y (by simp), he i (by simp), zj9 (hh' y (by simp))]
  case field S y f => rw [he y (by simp)]
  case extract y j => rw [he y (by simp)]
  case build T parts => rw [za13 he]
  case buildSlice T n parts => rw [za13 he]
  case makeFunc fn first caps =>
    cases fn <;> simp only []
    rw [zz19 (l := caps.toList) fun x hx => he x (by simp; exact .inr (by simpa using hx))]
  case slice T y lo hi mx =>
    rw [he y (by simp), sc]
    have h1 : lo.map ev' = lo.map ev := by cases lo <;> simp; exact he _ (by simp)
    have h2 : hi.map ev' = hi.map ev := by cases hi <;> simp; exact he _ (by simp)
    rw [h1, h2, zl14 (hh' y (by simp))]
  case convert s d y => rw [he y (by simp), sc, zi18 (hh' y (by simp))]
  case binOp => rw [sc]
  case unOp => rw [sc]
  case index => rw [sc]
  case call c =>
    obtain ⟨callee, args, argTypes⟩ := c
    unfold EffCallD
    split
    · rename_i y t hc ha ht
      simp only at hc ha ht
      rw [he y (by simp [Call.operands]; exact .inr (by rw [← Array.mem_toList_iff, ha]; simp))]
    · rename_i y z T T2 hc ha ht
      simp only at hc ha ht
      have h1 : y ∈ (Call.operands { callee := callee, args := args, argTypes := argTypes }) := by simp [Call.operands]; exact .inr (by rw [← Array.mem_toList_iff, ha]; simp)
      have h2 : z ∈ (Call.operands { callee := callee, args := args, argTypes := argTypes }) := by simp [Call.operands]; exact .inr (by rw [← Array.mem_toList_iff, ha]; simp)
      rw [he y h1, he z h2, za12 (hh' y h1) (hh' z h2)]
    · rw [sc]
    · rw [sc]
    · rfl
end
def gw (ops : Array Oper) (tm : Nat → AV) (o : Oper) : Option Bool :=
  match o.guard with
  | none => some true
  | some (g, want) =>
    match (ops[g]?).bind (·.dst) with
    | none => some false
    | some t =>
      match tm t with
      | .c (.v (.bool b)) => some (b == want)
      | .tu [] => some false
      | _ => none
section
variable {P : Program} {ops : Array Oper} {Q : Exit → Act → World → Prop} {C : Ctx} {φ : Nat → Lc} {F : Nat → List Nat} {St : Nat → Prop} {σ : AS} {a : Act} {w : World} {o : Oper} {i : Nat}
theorem zm14 (h : SimF C φ F St σ a w) {b : Bool} (hg : gw ops σ.tm o = some b) : Region.wanted o (yielded ops a.tmps) = b := by
  unfold gw at hg
  unfold Region.wanted
  split at hg
  · rename_i hgu; injection hg with hg; simp only [hgu]; exact hg
  · rename_i g want hgu
    simp only [hgu]
    split at hg
    · rename_i hd
      injection hg with hg
      subst hg
      simp [yielded, hd]
    · rename_i t hd
      have ht := h.tms t
      have hy1 : ∀ b', a.tmps[t]? = some (.bool b') → yielded ops a.tmps g = some b' := fun v hv => by simp [yielded, hd, hv]
      have hy2 : ∀ us, a.tmps[t]? = some (.tuple us) → yielded ops a.tmps g = none := fun v hv => by simp [yielded, hd, hv]
      have hy3 : a.tmps[t]? = none → yielded ops a.tmps g = none := fun hv => by simp [yielded, hd, hv]
      split at hg
      · rename_i b' e
        injection hg with hg
        subst hg
        rw [e] at ht
        simp only [VR, CR] at ht
        have : a.tmps[t]? = some (.bool b') := by
          have h1 := ht.1
          rw [Array.getD_eq_getD_getElem?] at h1
          cases e2 : a.tmps[t]? with
          | none => rw [e2] at h1; simp [undef] at h1
          | some v => rw [e2] at h1; simp at h1; rw [h1]
        rw [hy1 _ this]
        cases b' <;> cases want <;> rfl
      · rename_i e
        injection hg with hg
        subst hg
        rw [e] at ht
        simp only [VR, VRL] at ht
        obtain ⟨us, h1, rfl⟩ := ht
        have : yielded ops a.tmps g = none := by
          rw [Array.getD_eq_getD_getElem?] at h1
          cases e2 : a.tmps[t]? with
          | none => exact hy3 e2
          | some v => rw [e2] at h1; simp at h1; subst h1; exact hy2 _ e2
        rw [this]; rfl
      · cases hg
theorem Agr.gw {I : Inf} {σ τ : AS} (h : Agr ops o I σ τ) : gw ops τ.tm o = gw ops σ.tm o := by
  unfold Proofs.YtnlgmojciplnoaaDoor.gw
  split
  · rfl
  · rename_i g want hgu
    split
    · rfl
    · rename_i t hd
      rw [h.tm t (by unfold Oper.looksAt; rw [hgu]; simp [hd])]
theorem Agr.ev {I : Inf} {σ τ : AS} (h : Agr ops o I σ τ) : ∀ x ∈ o.op.operands, τ.ev x = σ.ev x := by
  intro x hx
  cases x with
  | tmp t => exact h.tm t (by unfold Oper.looksAt; exact List.mem_append_left _ (List.mem_filterMap.2 ⟨.tmp t, by simpa using hx, rfl⟩))
  | _ => rfl
theorem zt15 {id : Nat} {x : AV} {d : Dl} (hop : ops[i]? = some o) (hg : gw ops σ.tm o = some true) (he : EffD P o σ.ev σ.hp id = some (x, d)) (hf : ∀ n ∈ d.N, σ.gn ≤ n) : Snd P ops Q C i o σ (d.inf (fpO σ.ev o) x) := by
  intro τ a w ha hs K hK
  obtain ⟨φ, F, St, hs⟩ := hs
  have h1 : EffD P o τ.ev τ.hp id = some (x, d) := by rw [zj18 ha.ev ha.hp]; exact he
  have h2 := zd21 h1 fun n hn => ⟨by rw [ha.gn]; exact hf n hn, ha.us n hn⟩
  obtain ⟨n, v, w', h3, h4, φ', F', St', h5, h6⟩ := zh15 (P := P) hs h2
  unfold wpOp
  rw [hop]
  have hw := zm14 hs (b := true) (by rw [ha.gw]; exact hg)
  simp only [hw, if_true]
  refine .inl ?_
  unfold Oper.wp
  rw [h3]
  have h7 := h5.put o.dst h6
  rw [Dl.app_eq] at hK
  rcases h4 with rfl | ⟨rfl, rfl⟩
  · exact hK _ _ ⟨φ', F', St', h7⟩
  · exact hK _ _ ⟨φ', F', St', h7⟩
def infSkip : Inf := ⟨[], [], [], .tu []⟩
theorem zk18 (hop : ops[i]? = some o) (hg : gw ops σ.tm o = some false) : Snd P ops Q C i o σ infSkip := by
  intro τ a w ha hs K hK
  obtain ⟨φ, F, St, hs⟩ := hs
  unfold wpOp
  rw [hop]
  have hw := zm14 hs (b := false) (by rw [ha.gw]; exact hg)
  simp only [hw]
  exact hK _ _ ⟨φ, F, St, hs.put o.dst (x := .tu []) (by simp only [VR]; exact ⟨[], rfl, by simp [VRL]⟩)⟩
variable {H : List (Nat × Oper × Inf)} {r : List Nat} {dr : Bool}
theorem zb8 (id : Nat) {x : AV} {d : Dl} (hop : ops[i]? = some o) (hg : gw ops σ.tm o = some true) (he : EffD P o σ.ev σ.hp id = some (x, d)) (hf : ∀ n ∈ d.N, σ.gn ≤ n ∧ n ∉ σ.us)
    (hc : dr = true → (H.all fun h => wt .any ops ops.size i h.1 || inp ops o (d.inf (fpO σ.ev o) x) h.2.1 h.2.2) = true) (h : Walk P ops Q C dr ((i, o, d.inf (fpO σ.ev o) x) :: H) r ((d.ap σ).put o.dst x)) : Walk P ops Q C dr H (i :: r) σ :=
  ⟨o, _, hop, zt15 hop hg he fun n hn => (hf n hn).1, fun n hn => (hf n hn).2, hc, by rw [Dl.app_eq]; exact h⟩
theorem zy10 (hop : ops[i]? = some o) (hg : gw ops σ.tm o = some false) (hc : dr = true → (H.all fun h => wt .any ops ops.size i h.1 || inp ops o infSkip h.2.1 h.2.2) = true)
    (h : Walk P ops Q C dr ((i, o, infSkip) :: H) r (σ.put o.dst (.tu []))) : Walk P ops Q C dr H (i :: r) σ :=
  ⟨o, _, hop, zk18 hop hg, fun n hn => absurd hn List.not_mem_nil, hc, h⟩
end
def opC (id : Nat) : AC → AC × List (Nat × Row)
  | .ow T n k l => (.sl id n, [(id, ⟨T, k, n, false, l⟩)])
  | .v x => (.v x, [])
  | .ro n k l => (.ro n k l, [])
  | .rp l o => (.rp l o, [])
  | .fn f c => (.fn f c, [])
  | .nn => (.nn, [])
  | _ => (.un, [])
def opL (id : Nat) : List AC → List AC × List (Nat × Row)
  | [] => ([], [])
  | c :: r => ((opC id c).1 :: (opL (id + (opC id c).2.length) r).1, (opC id c).2 ++ (opL (id + (opC id c).2.length) r).2)
mutual
def opV (id : Nat) : AV → AV × List (Nat × Row)
  | .c x => (.c (opC id x).1, (opC id x).2)
  | .ag l => (.ag (opL id l).1, (opL id l).2)
  | .tu l => (.tu (opVL id l).1, (opVL id l).2)
def opVL (id : Nat) : List AV → List AV × List (Nat × Row)
  | [] => ([], [])
  | c :: r => ((opV id c).1 :: (opVL (id + (opV id c).2.length) r).1, (opV id c).2 ++ (opVL (id + (opV id c).2.length) r).2)
end
def growL (σ : AS) : List (Nat × Row) → AS
  | [] => σ
  | (i, r) :: l => growL (σ.grow i r) l
theorem zt8 (σ : AS) : ∀ (l m : List (Nat × Row)), growL σ (l ++ m) = growL (growL σ l) m
  | [], m => rfl
  | (i, r) :: l, m => zt8 (σ.grow i r) l m
theorem zx9 : ∀ (l : List (Nat × Row)) (σ : AS) (i : Nat), i ∈ (growL σ l).us ↔ (∃ p ∈ l, p.1 = i) ∨ i ∈ σ.us
  | [], σ, i => by simp [growL]
  | (j, r) :: l, σ, i => by
    rw [growL, zx9 l]
    simp only [AS.grow, List.mem_cons, exists_eq_or_imp]
    constructor
    · rintro (h | h | h)
      · exact .inl (.inr h)
      · exact .inl (.inl h.symm)
      · exact .inr h
    · rintro ((h | h) | h)
      · exact .inr (.inl h.symm)
      · exact .inl h
      · exact .inr (.inr h)
theorem zb12 : ∀ (l : List (Nat × Row)) (σ : AS), (growL σ l).tm = σ.tm ∧ (growL σ l).gn = σ.gn ∧ (growL σ l).L = σ.L ∧ (growL σ l).hp = updL σ.hp (l.map fun p => (p.1, some p.2))
  | [], σ => ⟨rfl, rfl, rfl, rfl⟩
  | (j, r) :: l, σ => zb12 l (σ.grow j r)
section
variable {P : Program} {C : Ctx} {φ φ' : Nat → Lc} {F F' : Nat → List Nat} {St St' : Nat → Prop} {σ σ' : AS} {a : Act} {w : World}
structure Opn (C : Ctx) (φ : Nat → Lc) (F : Nat → List Nat) (St : Nat → Prop) (σ : AS) (a : Act) (w : World) (fp : List Nat) (σ' : AS) (φ' : Nat → Lc) (F' : Nat → List Nat) (St' : Nat → Prop) : Prop where
  sim : SimF C φ' F' St' σ' a w
  free : ∀ b, Free C φ F St σ b → b ∉ fp → Free C φ' F' St' σ' b
  hS : ∀ b, St b → b < w.heap.size → St' b
  hK : ∀ i, σ.Kn i → σ'.Kn i ∧ φ' i = φ i
theorem Opn.refl (h : SimF C φ F St σ a w) (fp : List Nat) : Opn C φ F St σ a w fp σ φ F St := ⟨h, fun b hb _ => hb, fun b hb _ => hb, fun i hi => ⟨hi, rfl⟩⟩
theorem Opn.trans {φ'' : Nat → Lc} {F'' : Nat → List Nat} {St'' : Nat → Prop} {σ'' : AS} {fp fp' : List Nat} (h : Opn C φ F St σ a w fp σ' φ' F' St') (k : Opn C φ' F' St' σ' a w fp' σ'' φ'' F'' St'') : Opn C φ F St σ a w (fp ++ fp') σ'' φ'' F'' St'' :=
  ⟨k.sim, fun b hb hn => k.free b (h.free b hb fun hm => hn (List.mem_append_left _ hm)) fun hm => hn (List.mem_append_right _ hm), fun b hb hl => k.hS b (h.hS b hb hl) hl, fun i hi => ⟨(k.hK i (h.hK i hi).1).1, (k.hK i (h.hK i hi).1).2.trans (h.hK i hi).2⟩⟩
theorem Opn.cr {fp : List Nat} (h : Opn C φ F St σ a w fp σ' φ' F' St') {c : AC} {u : Value} {f : List Nat} (hc : CR w St φ σ.Kn c u f) : CR w St' φ' σ'.Kn c u f := CR.mono (fun b hb hl => ⟨h.hS b hb hl, rfl⟩) (Nat.le_refl _) h.hK c u f (fun _ _ => rfl) hc
theorem Opn.vr {fp : List Nat} (h : Opn C φ F St σ a w fp σ' φ' F' St') {x : AV} {u : Value} (hc : VR w St φ σ.Kn x u) : VR w St' φ' σ'.Kn x u := VR.mono (fun b hb hl => ⟨h.hS b hb hl, rfl⟩) (Nat.le_refl _) h.hK x u hc
theorem CR.up (K : Nat → Prop) (φ : Nat → Lc) (hS : ∀ b, St b → b < w.heap.size → St' b) {c : AC} {u : Value} {f : List Nat} (hc : CR w St φ0 K0 c u f) : CR w St' φ K c u f := CR.mono (fun b hb hl => ⟨hS b hb hl, rfl⟩) (Nat.le_refl _) (fun i hi => hi.elim) c u f (fun _ _ => rfl) hc
theorem CRL.up (K : Nat → Prop) (φ : Nat → Lc) (hS : ∀ b, St b → b < w.heap.size → St' b) {c : List AC} {u : List Value} {f : List Nat} (hc : CRL w St φ0 K0 c u f) : CRL w St' φ K c u f := hc.mono (fun b hb hl => ⟨hS b hb hl, rfl⟩) (Nat.le_refl _) (fun i hi => hi.elim) (fun _ _ => rfl)
mutual
theorem VRF.up {St St' : Nat → Prop} (hS : ∀ b, St b → b < w.heap.size → St' b) : ∀ {x : AV} {u : Value} {f : List Nat}, VRF w St φ0 K0 x u f → VRF w St' φ0 K0 x u f
  | .c x, u, f, h => by simp only [VRF] at h ⊢; exact CR.up _ _ hS h
  | .ag l, u, f, h => by simp only [VRF] at h ⊢; obtain ⟨us, e, h⟩ := h; exact ⟨us, e, CRL.up _ _ hS h⟩
  | .tu l, u, f, h => by simp only [VRF] at h ⊢; obtain ⟨us, e, h⟩ := h; exact ⟨us, e, VRFL.up hS h⟩
theorem VRFL.up {St St' : Nat → Prop} (hS : ∀ b, St b → b < w.heap.size → St' b) : ∀ {x : List AV} {u : List Value} {f : List Nat}, VRFL w St φ0 K0 x u f → VRFL w St' φ0 K0 x u f
  | [], u, f, h => by simp only [VRFL] at h ⊢; exact h
  | c :: r, u, f, h => by
    simp only [VRFL] at h ⊢
    obtain ⟨v, vs, f1, f2, e1, e2, h1, h2⟩ := h
    exact ⟨v, vs, f1, f2, e1, e2, VRF.up hS h1, VRFL.up hS h2⟩
end
theorem za20 (h : SimF C φ F St σ a w) {c : AC} {u : Value} {fp : List Nat} (hx : CR w St φ0 K0 c u fp) (hnd : fp.Nodup) (hfr : ∀ b ∈ fp, Free C φ F St σ b) {id : Nat} (hid : ∀ p ∈ (opC id c).2, σ.gn ≤ p.1 ∧ p.1 ∉ σ.us) :
    ∃ φ' F' St', Opn C φ F St σ a w fp (growL σ (opC id c).2) φ' F' St' ∧ CR w St' φ' (growL σ (opC id c).2).Kn (opC id c).1 u [] := by
  cases c with
  | ow T n k l =>
    simp only [CR] at hx
    obtain ⟨us, fs, g1, g2, rfl⟩ := hx
    have hf := hid (id, ⟨T, k, n, false, l⟩) (by simp [opC])
    have h' := h.newRow hf.1 hf.2 (b0 := none) (Stp.refl none w) (fun b hb => by cases hb) (r := ⟨T, k, n, false, l⟩) (L := .slc u) (fp := obl u ++ fs)
      (fun St' φ' hS hK => ⟨rfl, us, fs, CRL.up _ φ' (fun b hb hl => (hS b hb hl).1) g1, g2, rfl⟩) hnd (fun b hb => .inr (hfr b hb)) (fun b lo e => by cases e)
    have hnk : ¬ σ.Kn id := fun hk => hk.elim (fun h1 => absurd h1 (by have := hf.1; omega)) hf.2
    have hkn : ∀ j, σ.Kn j → j ≠ id := fun j hj e => hnk (e ▸ hj)
    refine ⟨_, _, _, ⟨h', fun b hb hn => ⟨fun j s hj => ?_, fun hs => hb.2.1 hs.1, hb.2.2⟩, fun b hb hl => ⟨hb, hl⟩, fun j hj => ⟨hj.imp (fun q => q) (List.mem_cons_of_mem _), za3 _ _ (hkn j hj)⟩⟩, ?_⟩
    · by_cases e : j = id
      · subst e
        simp only [zg2]
        exact ⟨hn, fun lo e => by cases e⟩
      · have hj' : upd σ.hp id (some ⟨T, k, n, false, l⟩) j = some s := hj
        rw [za3 _ _ e] at hj'
        simp only [za3 _ _ e]
        exact hb.1 j s hj'
    · simp only [opC, CR]
      refine ⟨trivial, .inr List.mem_cons_self, by rw [zg2], ?_⟩
      obtain ⟨_, ⟨rfl, rfl⟩ | ⟨g, cap, cur, rfl, _⟩⟩ := g2
      · exact ⟨none, 0, rfl⟩
      · exact ⟨_, cap, rfl⟩
  | sl i n => simp only [CR] at hx; exact hx.2.1.elim
  | pt i o => simp only [CR] at hx; exact hx.2.1.elim
  | bx T l => exact ⟨φ, F, St, Opn.refl h _, by simp [opC, CR]⟩
  | un => exact ⟨φ, F, St, Opn.refl h _, by simp [opC, CR]⟩
  | nn => have h0 : fp = [] := by (simp only [CR] at hx; exact hx.1)
          subst h0; exact ⟨φ, F, St, Opn.refl h _, CR.up _ _ (fun b hb _ => hb) hx⟩
  | v x => have h0 : fp = [] := by (simp only [CR] at hx; exact hx.2.2)
           subst h0; exact ⟨φ, F, St, Opn.refl h _, CR.up _ _ (fun b hb _ => hb) hx⟩
  | ro n k l => have h0 : fp = [] := by (simp only [CR] at hx; exact hx.1)
                subst h0; exact ⟨φ, F, St, Opn.refl h _, CR.up _ _ (fun b hb _ => hb) hx⟩
  | rp l o => have h0 : fp = [] := by (simp only [CR] at hx; exact hx.1)
              subst h0; exact ⟨φ, F, St, Opn.refl h _, CR.up _ _ (fun b hb _ => hb) hx⟩
  | fn f c => have h0 : fp = [] := by (simp only [CR] at hx; exact hx.1)
              subst h0; exact ⟨φ, F, St, Opn.refl h _, CR.up _ _ (fun b hb _ => hb) hx⟩
def Seq (id : Nat) (l : List (Nat × Row)) : Prop := ∀ j p, l[j]? = some p → p.1 = id + j
theorem zc12 (id : Nat) (c : AC) : Seq id (opC id c).2 := by
  cases c <;> intro j p h <;> simp only [opC] at h <;> rcases j with _ | j <;> simp at h
  subst h; rfl
theorem Seq.app {id : Nat} {l m : List (Nat × Row)} (h : Seq id l) (k : Seq (id + l.length) m) : Seq id (l ++ m) := by
  intro j p hj
  rw [List.getElem?_append] at hj
  split at hj
  · exact h j p hj
  · have := k _ p hj; omega
theorem zd12 : ∀ (l : List AC) (id : Nat), Seq id (opL id l).2
  | [], id => by intro j p h; simp [opL] at h
  | c :: r, id => (zc12 id c).app (zd12 r _)
mutual
theorem zu15 : ∀ (x : AV) (id : Nat), Seq id (opV id x).2
  | .c x, id => by simp only [opV]; exact zc12 id x
  | .ag l, id => by simp only [opV]; exact zd12 l id
  | .tu l, id => by simp only [opV]; exact zy9 l id
theorem zy9 : ∀ (l : List AV) (id : Nat), Seq id (opVL id l).2
  | [], id => by intro j p h; simp [opVL] at h
  | c :: r, id => (zu15 c id).app (zy9 r _)
end
theorem Seq.range {id : Nat} {l : List (Nat × Row)} (h : Seq id l) {p : Nat × Row} (hp : p ∈ l) : id ≤ p.1 ∧ p.1 < id + l.length := by
  obtain ⟨j, hj, rfl⟩ := List.mem_iff_getElem.1 hp
  have := h j _ (List.getElem?_eq_getElem hj)
  omega
theorem zz10 {id : Nat} {l m : List (Nat × Row)} (h1 : Seq id l) (h2 : Seq (id + l.length) m) (hid : ∀ p ∈ l ++ m, σ.gn ≤ p.1 ∧ p.1 ∉ σ.us) : (∀ p ∈ l, σ.gn ≤ p.1 ∧ p.1 ∉ σ.us) ∧ ∀ p ∈ m, (growL σ l).gn ≤ p.1 ∧ p.1 ∉ (growL σ l).us := by
  refine ⟨fun p hp => hid p (List.mem_append_left _ hp), fun p hp => ⟨by rw [(zb12 l σ).2.1]; exact (hid p (List.mem_append_right _ hp)).1, fun hm => ?_⟩⟩
  rcases (zx9 l σ p.1).1 hm with ⟨q, hq, e⟩ | hm
  · have := h1.range hq; have := h2.range hp; omega
  · exact (hid p (List.mem_append_right _ hp)).2 hm
theorem zb20 : ∀ {l : List AC} {us : List Value} {fp : List Nat} {φ : Nat → Lc} {F : Nat → List Nat} {St : Nat → Prop} {σ : AS} {id : Nat}, SimF C φ F St σ a w → CRL w St φ0 K0 l us fp → fp.Nodup → (∀ b ∈ fp, Free C φ F St σ b) → (∀ p ∈ (opL id l).2, σ.gn ≤ p.1 ∧ p.1 ∉ σ.us) →
    ∃ φ' F' St', Opn C φ F St σ a w fp (growL σ (opL id l).2) φ' F' St' ∧ CRL w St' φ' (growL σ (opL id l).2).Kn (opL id l).1 us []
  | [], us, fp, φ, F, St, σ, id, h, hx, _, _, _ => by
    simp only [CRL] at hx
    obtain ⟨rfl, rfl⟩ := hx
    exact ⟨φ, F, St, Opn.refl h _, by simp only [opL]; exact CRL.nil⟩
  | c :: r, us, fp, φ, F, St, σ, id, h, hx, hnd, hfr, hid => by
    simp only [CRL] at hx
    obtain ⟨u, us', f, f', rfl, rfl, h1, h2⟩ := hx
    simp only [opL] at hid ⊢
    have hn := List.nodup_append.1 hnd
    obtain ⟨i1, i2⟩ := zz10 (zc12 id c) (zd12 r _) hid
    obtain ⟨φ1, F1, St1, o1, g1⟩ := za20 h h1 hn.1 (fun b hb => hfr b (List.mem_append_left _ hb)) i1
    obtain ⟨φ2, F2, St2, o2, g2⟩ := zb20 o1.sim (CRL.up _ _ o1.hS h2) hn.2.1 (fun b hb => o1.free b (hfr b (List.mem_append_right _ hb)) fun hm => hn.2.2 b hm b hb rfl) i2
    rw [zt8]
    exact ⟨φ2, F2, St2, o1.trans o2, CRL.cons (f := []) (f' := []) (o2.cr g1) g2⟩
mutual
theorem zc20 : ∀ {x : AV} {u : Value} {fp : List Nat} {φ : Nat → Lc} {F : Nat → List Nat} {St : Nat → Prop} {σ : AS} {id : Nat}, SimF C φ F St σ a w → VRF w St φ0 K0 x u fp → fp.Nodup → (∀ b ∈ fp, Free C φ F St σ b) → (∀ p ∈ (opV id x).2, σ.gn ≤ p.1 ∧ p.1 ∉ σ.us) →
    ∃ φ' F' St', Opn C φ F St σ a w fp (growL σ (opV id x).2) φ' F' St' ∧ VR w St' φ' (growL σ (opV id x).2).Kn (opV id x).1 u
  | .c x, u, fp, φ, F, St, σ, id, h, hx, hnd, hfr, hid => by
    simp only [VRF] at hx
    simp only [opV] at hid ⊢
    obtain ⟨φ1, F1, St1, o1, g1⟩ := za20 h hx hnd hfr hid
    exact ⟨φ1, F1, St1, o1, by simp only [VR]; exact g1⟩
  | .ag l, u, fp, φ, F, St, σ, id, h, hx, hnd, hfr, hid => by
    simp only [VRF] at hx
    simp only [opV] at hid ⊢
    obtain ⟨us, e, hx⟩ := hx
    obtain ⟨φ1, F1, St1, o1, g1⟩ := zb20 h hx hnd hfr hid
    exact ⟨φ1, F1, St1, o1, by simp only [VR]; exact ⟨us, e, g1⟩⟩
  | .tu l, u, fp, φ, F, St, σ, id, h, hx, hnd, hfr, hid => by
    simp only [VRF] at hx
    simp only [opV] at hid ⊢
    obtain ⟨us, e, hx⟩ := hx
    obtain ⟨φ1, F1, St1, o1, g1⟩ := zv15 h hx hnd hfr hid
    exact ⟨φ1, F1, St1, o1, by simp only [VR]; exact ⟨us, e, g1⟩⟩
theorem zv15 : ∀ {l : List AV} {us : List Value} {fp : List Nat} {φ : Nat → Lc} {F : Nat → List Nat} {St : Nat → Prop} {σ : AS} {id : Nat}, SimF C φ F St σ a w → VRFL w St φ0 K0 l us fp → fp.Nodup → (∀ b ∈ fp, Free C φ F St σ b) → (∀ p ∈ (opVL id l).2, σ.gn ≤ p.1 ∧ p.1 ∉ σ.us) →
    ∃ φ' F' St', Opn C φ F St σ a w fp (growL σ (opVL id l).2) φ' F' St' ∧ VRL w St' φ' (growL σ (opVL id l).2).Kn (opVL id l).1 us
  | [], us, fp, φ, F, St, σ, id, h, hx, _, _, _ => by
    simp only [VRFL] at hx
    obtain ⟨rfl, rfl⟩ := hx
    exact ⟨φ, F, St, Opn.refl h _, by simp [opVL, VRL]⟩
  | c :: r, us, fp, φ, F, St, σ, id, h, hx, hnd, hfr, hid => by
    simp only [VRFL] at hx
    obtain ⟨u, us', f, f', rfl, rfl, h1, h2⟩ := hx
    simp only [opVL] at hid ⊢
    have hn := List.nodup_append.1 hnd
    obtain ⟨i1, i2⟩ := zz10 (zu15 c id) (zy9 r _) hid
    obtain ⟨φ1, F1, St1, o1, g1⟩ := zc20 h h1 hn.1 (fun b hb => hfr b (List.mem_append_left _ hb)) i1
    obtain ⟨φ2, F2, St2, o2, g2⟩ := zv15 o1.sim (VRFL.up o1.hS h2) hn.2.1 (fun b hb => o1.free b (hfr b (List.mem_append_right _ hb)) fun hm => hn.2.2 b hm b hb rfl) i2
    rw [zt8]
    exact ⟨φ2, F2, St2, o1.trans o2, by simp only [VRL]; exact ⟨u, us', rfl, o2.vr g1, g2⟩⟩
end
end
def backU (hp : Nat → Option Row) : List Nat → List (List AC) → List (Nat × Option Row)
  | i :: D, c :: rows => (i, (hp i).map fun r => { r with cs := c }) :: backU hp D rows
  | _, _ => []
theorem zz9 : ∀ (U V : List (Nat × Option Row)) (hp : Nat → Option Row), updL hp (U ++ V) = updL (updL hp U) V
  | [], _, _ => rfl
  | (i, r) :: U, V, hp => zz9 U V (upd hp i r)
theorem za11 {hp : Nat → Option Row} : ∀ {D : List Nat} {rows : List (List AC)} {f : Nat → Option Row} {i : Nat}, D.Nodup → rows.length = D.length →
    (∃ d c, idx i D = some d ∧ rows[d]? = some c ∧ updL f (backU hp D rows) i = (hp i).map fun r => { r with cs := c }) ∨ (idx i D = none ∧ updL f (backU hp D rows) i = f i)
  | [], [], f, i, _, _ => .inr ⟨rfl, rfl⟩
  | [], c :: rows, f, i, _, hl => by simp at hl
  | j :: D, [], f, i, _, hl => by simp at hl
  | j :: D, c :: rows, f, i, hD, hl => by
    simp only [backU, updL]
    have hD' := List.nodup_cons.1 hD
    rcases za11 (hp := hp) (D := D) (rows := rows) (f := upd f j ((hp j).map fun r => { r with cs := c })) (i := i) hD'.2 (by simpa using hl) with ⟨d, c', h1, h2, h3⟩ | ⟨h1, h2⟩
    · have hji : j ≠ i := by rintro rfl; exact hD'.1 (List.mem_of_getElem? (zl5 h1))
      refine .inl ⟨d + 1, c', by simp [idx, hji, h1], by simpa using h2, h3⟩
    · by_cases hji : j = i
      · subst hji
        exact .inl ⟨0, c, by simp [idx], rfl, by rw [h2, zg2]⟩
      · exact .inr ⟨by simp [idx, hji, h1], by rw [h2, za3 _ _ (Ne.symm hji)]⟩
theorem updZ : ∀ (Z : List Nat) (f : Nat → Option Row) (i : Nat), updL f (Z.map fun z => (z, none)) i = if i ∈ Z then none else f i
  | [], f, i => by simp [updL]
  | z :: Z, f, i => by
    simp only [List.map_cons, updL]
    rw [updZ Z]
    by_cases h : i ∈ Z
    · simp [h]
    · rw [if_neg h]
      by_cases e : i = z
      · subst e; simp [zg2]
      · rw [za3 _ _ e]; simp [h, e]
def entB (P : Program) (f : FuncId) : Bool := match P.funcs[f]? with | some fn => !(fn.name == "runtime.NumGoroutine") && !fn.body.isNone | none => false
def Ctr (P : Program) (f : FuncId) (ins : List AV) (pars : List (List AC)) (res : AV) (rows : List (List AC)) : Prop := entB P f = true ∧ Fun P f ins pars fun r c => r = res ∧ c = rows
theorem zr7 {P : Program} {f : FuncId} (h : entB P f = true) (args : Array Value) (w : World) : (callFunc f args).run P w = .ok (.enter f args) w := by
  unfold entB at h
  split at h
  · rename_i fn hf
    simp only [Bool.and_eq_true, Bool.not_eq_true'] at h
    obtain ⟨h1, h2⟩ := h
    have h1' : ¬ fn.name = "runtime.NumGoroutine" := by simpa using h1
    have h2' : ¬ fn.body = none := by intro e; rw [e] at h2; cases h2
    simp [callFunc, hf, h1', h2']
  · cases h
theorem zb13 {hp hp' : Nat → Option Row} : ∀ {D : List Nat}, (∀ i ∈ D, hp' i = hp i) → lend hp' D = lend hp D
  | [], _ => rfl
  | j :: D, h => by simp only [lend]; rw [h j List.mem_cons_self, zb13 fun i hi => h i (List.mem_cons_of_mem _ hi)]
theorem zb11 {hp hp' : Nat → Option Row} : ∀ {D : List Nat} {rows : List (List AC)}, (∀ i ∈ D, hp' i = hp i) → backU hp' D rows = backU hp D rows
  | [], rows, _ => by simp [backU]
  | j :: D, [], _ => by simp [backU]
  | j :: D, c :: rows, h => by simp only [backU]; rw [h j List.mem_cons_self, zb11 fun i hi => h i (List.mem_cons_of_mem _ hi)]
theorem zw15 {hp hp' : Nat → Option Row} {D : List Nat} : ∀ c : AC, (∀ i ∈ snC c, hp' i = hp i) → cvC hp' D c = cvC hp D c := by
  intro c
  induction c using AC.ind with
  | h4 i n => intro h; simp only [cvC]; rw [h i (by simp [snC])]
  | h7 f c ih =>
    intro h
    simp only [cvC, zy11]
    congr 1
    refine List.map_congr_left fun x hx => ih x hx fun i hi => h i ?_
    simp only [snC]
    clear h ih
    induction c with
    | nil => cases hx
    | cons y r ihr =>
      simp only [snL, List.mem_append]
      rcases List.mem_cons.1 hx with rfl | hx
      · exact .inl hi
      · exact .inr (ihr hx)
  | _ => intros; simp [cvC]
theorem zx15 {i : Nat} : ∀ {l : List AC} {c : AC}, c ∈ l → i ∈ snC c → i ∈ snL l
  | [], _, h, _ => by cases h
  | x :: r, c, h, hi => by
    simp only [snL, List.mem_append]
    rcases List.mem_cons.1 h with rfl | h
    · exact .inl hi
    · exact .inr (zx15 h hi)
theorem ze21 {hp hp' : Nat → Option Row} {D : List Nat} (x : AV) (h : ∀ i ∈ snV x, hp' i = hp i) : cvV hp' D x = cvV hp D x := by
  cases x with
  | c x => simp only [cvV]; rw [zw15 x h]
  | ag l => simp only [cvV, zy11]; congr 1; exact List.map_congr_left fun c hc => zw15 c fun i hi => h i (zx15 hc hi)
  | tu l => rfl
section
variable {P : Program} {ops : Array Oper} {Q : Exit → Act → World → Prop} {C : Ctx} {φ : Nat → Lc} {F : Nat → List Nat} {St : Nat → Prop} {σ : AS} {a : Act} {w : World} {o : Oper} {i : Nat}
theorem zy15 {K : Nat → Prop} : ∀ {l : List AC} {us : List Value}, CRL w St φ K l us [] → VRL w St φ K (l.map .c) us
  | [], us, h => by simp only [CRL] at h; rw [h.1]; simp [VRL]
  | c :: r, us, h => by
    simp only [CRL] at h
    obtain ⟨u, us', f, f', rfl, e, h1, h2⟩ := h
    have e' := List.append_eq_nil_iff.1 e.symm
    rw [e'.1] at h1
    rw [e'.2] at h2
    simp only [List.map_cons, VRL]
    exact ⟨u, us', rfl, by simp only [VR]; exact h1, zy15 h2⟩
theorem VRL.app {K : Nat → Prop} : ∀ {l m : List AV} {us vs : List Value}, VRL w St φ K l us → VRL w St φ K m vs → VRL w St φ K (l ++ m) (us ++ vs)
  | [], m, us, vs, h, k => by simp only [VRL] at h; subst h; exact k
  | c :: r, m, us, vs, h, k => by
    simp only [VRL] at h
    obtain ⟨u, us', rfl, h1, h2⟩ := h
    simp only [List.cons_append, VRL]
    exact ⟨u, us' ++ vs, rfl, h1, h2.app k⟩
def callInf (σ : AS) (R D Z : List Nat) (id : Nat) (res : AV) (rows : List (List AC)) : Inf :=
  ⟨D ++ R ++ Z, backU σ.hp D rows ++ (Z.map fun z => (z, none)) ++ (opV id res).2.map (fun p => (p.1, some p.2)), (opV id res).2.map (·.1), (opV id res).1⟩
def callArgs (σ : AS) (c : Call) (caps : List AC) : List AV := c.args.toList.map σ.ev ++ caps.map .c
def callR (σ : AS) (c : Call) (caps : List AC) : List Nat := (callArgs σ c caps).flatMap snV
theorem zl18 {c : Call} (hop : ops[i]? = some o) (hoc : o.op = .call c) {fv : Operand} (hcal : c.callee = .value fv) {f : FuncId} {caps : List AC} (hfv : σ.ev fv = .c (.fn f caps)) (hg : gw ops σ.tm o = some true)
    {D Z : List Nat} {pars : List (List AC)} {res : AV} {rows : List (List AC)} {id : Nat} (hl : lend σ.hp D = some pars) (hRD : ∀ z ∈ callR σ c caps, z ∉ D) (hZD : ∀ z ∈ Z, z ∉ D)
    (hm : (rofrV res = true ∧ ∀ c ∈ rows, rofrL c = true) ∨ ∀ z ∈ callR σ c caps, z ∈ Z) (hctr : Ctr P f ((callArgs σ c caps).map (cvV σ.hp D)) pars res rows) (hf : ∀ p ∈ (opV id res).2, σ.gn ≤ p.1) :
    Snd P ops Q C i o σ (callInf σ (callR σ c caps) D Z id res rows) := by
  intro τ a w ha hs K hK
  obtain ⟨φ, F, St, hs⟩ := hs
  have hev := ha.ev
  rw [hoc] at hev
  have hargs : ∀ x ∈ c.args.toList, τ.ev x = σ.ev x := fun x hx => hev x (by simp only [Op.operands, Call.operands]; exact Array.mem_append.2 (.inr (by simpa using hx)))
  have hfe : τ.ev fv = .c (.fn f caps) := by rw [hev fv (by simp [Op.operands, Call.operands, hcal]), hfv]
  have eargs : callArgs τ c caps = callArgs σ c caps := by unfold callArgs; rw [zz19 hargs]
  have eD : ∀ i ∈ D, τ.hp i = σ.hp i := fun i hi => ha.hp i (by simp [callInf, hi])
  have eR : ∀ i ∈ callR σ c caps, τ.hp i = σ.hp i := fun i hi => ha.hp i (by simp [callInf, hi])
  have hl' : lend τ.hp D = some pars := by rw [zb13 eD]; exact hl
  have ecv : (callArgs σ c caps).map (cvV τ.hp D) = (callArgs σ c caps).map (cvV σ.hp D) := List.map_congr_left fun x hx => ze21 x fun i hi => eR i (List.mem_flatMap.2 ⟨x, hx, hi⟩)
  have hfn := hs.ev fv
  rw [hfe] at hfn
  simp only [VR, CR] at hfn
  obtain ⟨_, us, hfu, hcaps⟩ := hfn
  have hin : VRL w St φ τ.Kn (callArgs σ c caps) (c.args.toList.map a.eval ++ us) := by
    rw [← eargs]; exact (evs hs _).app (zy15 hcaps)
  have hent := hs.ent hl' (R := callR σ c caps) hRD hin fun x hx i hi => List.mem_flatMap.2 ⟨x, hx, hi⟩
  rw [ecv] at hent
  have hcall := hctr.2 w _ _ _ _ hent
  unfold wpOp
  rw [hop]
  have hw := zm14 hs (b := true) (by rw [ha.gw]; exact hg)
  simp only [hw, if_true]
  refine .inl ?_
  unfold Oper.wp
  have hrun : (execOp a.eval o).run P w = .ok (.enter f (c.args.toList.map a.eval ++ us).toArray) w := by
    have e : (#[] ++ c.args.map a.eval ++ us.toArray : Array Value) = (c.args.toList.map a.eval ++ us).toArray := by
      apply Array.ext'; simp
    have h1 : (resolve a.eval c o.type).run P w = .ok { target := .fn (.func f) us.toArray, args := #[] ++ c.args.map a.eval } w := by
      unfold resolve; rw [hcal]; simp only [hfu, Deferred.ofValue, Sem.run_pure]
    have h2 : execOp a.eval o = (do let d ← resolve a.eval c o.type; invoke d.target d.args) := by unfold execOp; rw [hoc]
    rw [h2, Sem.run_bind, h1]
    simp only [Result.andThen_ok, invoke]
    rw [e]
    exact zr7 hctr.1 _ _
  rw [hrun, Oper.upon_enter]
  refine hcall.mono ?_
  rintro e w' ⟨res', rows', u, St', F', G, ⟨rfl, rfl⟩, rfl, hx⟩
  have hrl : rows'.length = D.length := by rw [hx.len, zw5 hl']
  have hDn := zi6 hl'
  have hget : ∀ i, updL τ.hp (backU τ.hp D rows' ++ Z.map fun z => (z, none)) i = if i ∈ Z then none else updL τ.hp (backU τ.hp D rows') i := fun i => by rw [zz9, updZ]
  obtain ⟨St3, b1, b2, b3⟩ := hs.back hl' hx (hp3 := updL τ.hp (backU τ.hp D rows' ++ Z.map fun z => (z, none))) (fun i s hi => by
      rw [hget] at hi
      split at hi
      · cases hi
      · rcases za11 (hp := τ.hp) (f := τ.hp) (i := i) hDn hrl with ⟨d, cc, h1, h2, h3⟩ | ⟨h1, h2⟩
        · rw [h3] at hi
          simp only [Option.map_eq_some_iff] at hi
          obtain ⟨r, h4, h5⟩ := hi
          exact .inl ⟨d, r, cc, h1, h4, h2, h5.symm⟩
        · rw [h2] at hi; exact .inr ⟨h1, hi⟩) (hm.imp (fun q => q) fun hz i hi => by rw [hget, if_pos (hz i hi)])
  obtain ⟨φ4, F4, St4, o1, o2⟩ := zc20 b1 b2 hx.nodG b3 (id := id) (fun p hp => ⟨by show τ.gn ≤ _; rw [ha.gn]; exact hf p hp, by
    show p.1 ∉ τ.us
    exact ha.us p.1 (by simp only [callInf, List.mem_map]; exact ⟨p, hp, rfl⟩)⟩)
  refine hK _ _ (Sim.aeq ⟨φ4, F4, St4, o1.sim.put o.dst o2⟩ ?_)
  obtain ⟨g1, g2, g3, g4⟩ := zb12 (opV id res').2 { τ with hp := updL τ.hp (backU τ.hp D rows' ++ Z.map fun z => (z, none)) }
  have eb : backU τ.hp D rows' = backU σ.hp D rows' := zb11 eD
  refine ⟨?_, ?_, ?_, fun j => ?_, ?_⟩
  · rw [za6, zy19, g1, g3]; rfl
  · rw [zz5, (zm4 _ _ _).1, g4]
    simp only [callInf]
    rw [← zz9, eb]
  · rw [zo7, (zm4 _ _ _).2.1, g2]
  · rw [zp7, (zm4 _ _ _).2.2.1, zx9]
    simp only [callInf, List.mem_append, List.mem_map]
  · rw [zh9, (zm4 _ _ _).2.2.2, g3]
theorem zz15 {H : List (Nat × Oper × Inf)} {r : List Nat} {dr : Bool} {c : Call} (id : Nat) (D Z : List Nat) (hop : ops[i]? = some o) (hg : gw ops σ.tm o = some true) (hoc : o.op = .call c) {fv : Operand} (hcal : c.callee = .value fv) {f : FuncId} {caps : List AC} (hfv : σ.ev fv = .c (.fn f caps))
    {args : List AV} (hargs : callArgs σ c caps = args) {pars : List (List AC)} {res : AV} {rows : List (List AC)} (hl : lend σ.hp D = some pars) (hctr : Ctr P f (args.map (cvV σ.hp D)) pars res rows)
    (hRD : ((args.flatMap snV).all fun z => !D.contains z) = true) (hZD : (Z.all fun z => !D.contains z) = true)
    (hm : (rofrV res = true ∧ ∀ c ∈ rows, rofrL c = true) ∨ ((args.flatMap snV).all fun z => Z.contains z) = true) (hf : ((opV id res).2.all fun p => decide (σ.gn ≤ p.1) && !σ.us.contains p.1) = true)
    (hc : dr = true → (H.all fun h => wt .any ops ops.size i h.1 || inp ops o (callInf σ (args.flatMap snV) D Z id res rows) h.2.1 h.2.2) = true)
    (h : Walk P ops Q C dr ((i, o, callInf σ (args.flatMap snV) D Z id res rows) :: H) r (σ.app (callInf σ (args.flatMap snV) D Z id res rows) o)) : Walk P ops Q C dr H (i :: r) σ := by
  subst hargs
  have nc : ∀ {l m : List Nat}, (l.all fun z => !m.contains z) = true → ∀ z ∈ l, z ∉ m := fun h z hz hm => by have := List.all_eq_true.1 h z hz; simp at this; exact this hm
  have hf' : ∀ p ∈ (opV id res).2, σ.gn ≤ p.1 ∧ p.1 ∉ σ.us := fun p hp => by have := List.all_eq_true.1 hf p hp; simpa using this
  refine ⟨o, _, hop, zl18 hop hoc hcal hfv hg hl (nc hRD) (nc hZD) (hm.imp (fun q => q) fun h z hz => by have := List.all_eq_true.1 h z hz; simpa using this) hctr (fun p hp => (hf' p hp).1), fun n hn => ?_, hc, h⟩
  simp only [callInf, List.mem_map] at hn
  obtain ⟨p, hp, rfl⟩ := hn
  exact (hf' p hp).2
end
section
variable {P : Program} {Q : Exit → AS → Prop} {σ : AS}
theorem ze (h : Q .normal σ) : AWp P .skip Q σ := fun _ _ _ hs => wp_skip ⟨σ, h, hs⟩
theorem zf {id : Nat} (h : Q (.exit id) σ) : AWp P (.exit id) Q σ := fun _ _ _ hs => wp_exit ⟨σ, h, hs⟩
theorem zw (h : Q .ret σ) : AWp P .ret Q σ := fun _ _ _ hs => wp_ret ⟨σ, h, hs⟩
def thenA (next : AS → Prop) (Q : Exit → AS → Prop) : Exit → AS → Prop
  | .normal, σ => next σ
  | e, σ => Q e σ
theorem zj {x y : Code} (h : AWp P x (thenA (AWp P y Q) Q) σ) : AWp P (.seq x y) Q σ := fun C a w hs => wp_seq (wp_mono (h C a w hs) fun e a' w' ⟨σ', h1, h2⟩ => by
  cases e with
  | normal => exact h1 C a' w' h2
  | exit id => exact ⟨σ', h1, h2⟩
  | goto l => exact ⟨σ', h1, h2⟩
  | ret => exact ⟨σ', h1, h2⟩
  | panic c => exact ⟨σ', h1, h2⟩
  | outgrown => exact ⟨σ', h1, h2⟩)
theorem zc4 {c : Operand} {x y : Code} {t : Bool} (hc : σ.ev c = .c (.v (.bool t))) (h1 : t = true → AWp P x Q σ) (h2 : t = false → AWp P y Q σ) : AWp P (.cond c x y) Q σ := fun C a w hs => by
  have hv : a.eval c = .bool t := by
    obtain ⟨φ, F, St, hs⟩ := hs
    have := hs.ev c
    rw [hc] at this
    simp only [VR, CR] at this
    exact this.1
  cases t with
  | false => exact wp_cond_false hv (h2 rfl C a w hs)
  | true => exact wp_cond_true hv (h1 rfl C a w hs)
def inBlockA (id : Nat) (Q : Exit → AS → Prop) : Exit → AS → Prop
  | .exit id', σ => if id' = id then Q .normal σ else Q (.exit id') σ
  | e, σ => Q e σ
theorem zc {id : Nat} {c : Code} (h : AWp P c (inBlockA id Q) σ) : AWp P (.block id c) Q σ := fun C a w hs => wp_block (wp_mono (h C a w hs) fun e a' w' ⟨σ', h1, h2⟩ => by
  cases e with
  | exit id' =>
    simp only [inBlockA, Exit.inBlock] at h1 ⊢
    split
    · rename_i e; rw [if_pos e] at h1; exact ⟨σ', h1, h2⟩
    · rename_i e; rw [if_neg e] at h1; exact ⟨σ', h1, h2⟩
  | normal => exact ⟨σ', h1, h2⟩
  | goto l => exact ⟨σ', h1, h2⟩
  | ret => exact ⟨σ', h1, h2⟩
  | panic c => exact ⟨σ', h1, h2⟩
  | outgrown => exact ⟨σ', h1, h2⟩)
theorem zn9 {id : Nat} {ops : Array Oper} {dr : Bool} (hm : dr = true → P.follows .mixedOrders = true ∧ backB .any ops = true)
    (h : ∀ C, Walk P ops (fun e a w => ∃ σ', Q e σ' ∧ Sim C σ' a w) C dr [] (List.range ops.size) σ) : AWp P (.region id ops dr) Q σ := fun C _ _ hs => zn15 hm (h C) hs
theorem zd {ops : Array Oper} {C : Ctx} {dr : Bool} {H : List (Nat × Oper × Inf)} (h : Q .normal σ) : Walk P ops (fun e a w => ∃ σ', Q e σ' ∧ Sim C σ' a w) C dr H [] σ := fun _ _ hs => ⟨σ, h, hs⟩
theorem za16 {c : Code} {σ' : AS} (hg : ∀ C a w, Sim C σ a w → Sim C σ' a w) (h : AWp P c Q σ') : AWp P c Q σ := fun C a w hs => h C a w (hg C a w hs)
end
section
variable {C : Ctx} {φ : Nat → Lc} {F : Nat → List Nat} {St : Nat → Prop} {σ : AS} {a : Act} {w : World}
end
mutual
def rnC (ρ : Nat → Option Nat) : AC → Option AC
  | .v x => some (.v x)
  | .ro n k l => if cloL l = true then some (.ro n k l) else none
  | .ow T n k l => if cloL l = true then some (.ow T n k l) else none
  | .sl i n => (ρ i).map fun j => .sl j n
  | .pt i o => (ρ i).map fun j => .pt j o
  | .rp l o => if cloL l = true then some (.rp l o) else none
  | .fn f c => (rnL ρ c).map fun c' => .fn f c'
  | .bx T l => if cloL l = true then some (.bx T l) else none
  | .un => some .un
  | .nn => some .nn
def rnL (ρ : Nat → Option Nat) : List AC → Option (List AC)
  | [] => some []
  | c :: r => match rnC ρ c, rnL ρ r with
    | some c', some r' => some (c' :: r')
    | _, _ => none
end
mutual
def rnV (ρ : Nat → Option Nat) : AV → Option AV
  | .c x => (rnC ρ x).map .c
  | .ag l => (rnL ρ l).map .ag
  | .tu l => (rnVL ρ l).map .tu
def rnVL (ρ : Nat → Option Nat) : List AV → Option (List AV)
  | [] => some []
  | c :: r => match rnV ρ c, rnVL ρ r with
    | some c', some r' => some (c' :: r')
    | _, _ => none
end
abbrev RL := List (Nat × Nat × Row)
def oldN (rows : RL) (i : Nat) : Option Nat := (rows.find? fun p => p.2.1 == i).map (·.1)
def ρN (gn : Nat) (rows : RL) (i : Nat) : Option Nat := if i < gn then some i else oldN rows i
def tmsF : List (Nat × AV) → Nat → AV
  | [] => fun _ => .c .un
  | (t, x) :: l => upd (tmsF l) t x
def hpsF : RL → Nat → Option Row
  | [] => fun _ => none
  | (j, _, s) :: l => upd (hpsF l) j (some s)
def nodupB : List Nat → Bool
  | [] => true
  | x :: r => !r.contains x && nodupB r
def tidyB (gn : Nat) (rows : RL) : Bool := (rows.all fun p => if p.2.1 < gn then p.1 == p.2.1 else decide (gn ≤ p.1)) && nodupB (rows.map (·.1)) && nodupB (rows.map (·.2.1))
def TmOk (ρ : Nat → Option Nat) (tm : Nat → AV) : List (Nat × AV) → Prop
  | [] => True
  | (t, x) :: l => rnV ρ (tm t) = some x ∧ TmOk ρ tm l
def RwOk (ρ : Nat → Option Nat) (hp : Nat → Option Row) : RL → Prop
  | [] => True
  | (_, i, s) :: l => (∃ r, hp i = some r ∧ ((cloL r.cs = true ∧ s = r) ∨ ∃ cs, rnL ρ r.cs = some cs ∧ s = { r with cs := cs })) ∧ RwOk ρ hp l
theorem zu8 : ∀ {l : List Nat}, nodupB l = true → l.Nodup
  | [], _ => List.nodup_nil
  | x :: r, h => by
    simp only [nodupB, Bool.and_eq_true, Bool.not_eq_true'] at h
    exact List.nodup_cons.2 ⟨fun hm => by have := h.1; simp at this; exact this hm, zu8 h.2⟩
theorem zb16 {ρ : Nat → Option Nat} {tm : Nat → AV} : ∀ {l : List (Nat × AV)}, TmOk ρ tm l → ∀ t, tmsF l t = .c .un ∨ rnV ρ (tm t) = some (tmsF l t)
  | [], _, t => .inl rfl
  | (t', x) :: l, h, t => by
    simp only [tmsF]
    by_cases e : t = t'
    · subst e; rw [zg2]; exact .inr h.1
    · rw [za3 _ _ e]; exact zb16 h.2 t
theorem zc16 : ∀ {rows : RL} {j : Nat} {s : Row}, hpsF rows j = some s → ∃ i, (j, i, s) ∈ rows
  | [], j, s, h => by simp [hpsF] at h
  | (j', i, s') :: l, j, s, h => by
    simp only [hpsF] at h
    by_cases e : j = j'
    · subst e; rw [zg2] at h; injection h with h; subst h; exact ⟨i, List.mem_cons_self⟩
    · rw [za3 _ _ e] at h
      obtain ⟨i', h⟩ := zc16 h
      exact ⟨i', List.mem_cons_of_mem _ h⟩
theorem RwOk.at_ {ρ : Nat → Option Nat} {hp : Nat → Option Row} : ∀ {rows : RL}, RwOk ρ hp rows → ∀ p ∈ rows, ∃ r, hp p.2.1 = some r ∧ ((cloL r.cs = true ∧ p.2.2 = r) ∨ ∃ cs, rnL ρ r.cs = some cs ∧ p.2.2 = { r with cs := cs })
  | [], _, p, hp => by cases hp
  | (j, i, s) :: l, h, p, hp => by
    rcases List.mem_cons.1 hp with rfl | hp
    · exact h.1
    · exact RwOk.at_ h.2 p hp
theorem za10 {α : Type} {f : α → Nat} : ∀ {l : List α} {x y : α}, (l.map f).Nodup → x ∈ l → y ∈ l → f x = f y → x = y
  | [], _, _, _, h, _, _ => by cases h
  | z :: r, x, y, hn, hx, hy, e => by
    have hn' := List.nodup_cons.1 hn
    rcases List.mem_cons.1 hx with e1 | hx' <;> rcases List.mem_cons.1 hy with e2 | hy'
    · rw [e1, e2]
    · subst e1; exact absurd (e ▸ List.mem_map_of_mem hy') hn'.1
    · subst e2; exact absurd (e.symm ▸ List.mem_map_of_mem hx') hn'.1
    · exact za10 hn'.2 hx' hy' e
section
variable {C : Ctx} {φ φ' : Nat → Lc} {F : Nat → List Nat} {St : Nat → Prop} {σ : AS} {a : Act} {w : World} {K K' : Nat → Prop} {ρ : Nat → Option Nat}
theorem zd20 (hρ : ∀ i j, K i → ρ i = some j → K' j ∧ φ' j = φ i) : ∀ (c : AC) (c' : AC) (u : Value) (fp : List Nat), rnC ρ c = some c' → CR w St φ K c u fp → CR w St φ' K' c' u fp := by
  intro c
  induction c using AC.ind with
  | h1 x => intro c' u fp he h; simp only [rnC, Option.some.injEq] at he; subst he; simp only [CR] at h ⊢; exact h
  | h2 n k l _ =>
    intro c' u fp he h
    simp only [rnC] at he
    split at he
    · rename_i hc; injection he with he; subst he; exact CR.clo_ _ _ _ (by simpa [clo] using hc) h
    · cases he
  | h3 T n k l _ =>
    intro c' u fp he h
    simp only [rnC] at he
    split at he
    · rename_i hc; injection he with he; subst he; exact CR.clo_ _ _ _ (by simpa [clo] using hc) h
    · cases he
  | h4 i n =>
    intro c' u fp he h
    simp only [rnC, Option.map_eq_some_iff] at he
    obtain ⟨j, hj, rfl⟩ := he
    simp only [CR] at h ⊢
    obtain ⟨h0, h1, h2, h3⟩ := h
    have := hρ i j h1 hj
    exact ⟨h0, this.1, this.2.trans h2, h3⟩
  | h5 i o =>
    intro c' u fp he h
    simp only [rnC, Option.map_eq_some_iff] at he
    obtain ⟨j, hj, rfl⟩ := he
    simp only [CR] at h ⊢
    obtain ⟨h0, h1, h2⟩ := h
    have := hρ i j h1 hj
    rw [this.2]
    exact ⟨h0, this.1, h2⟩
  | h6 l o _ =>
    intro c' u fp he h
    simp only [rnC] at he
    split at he
    · rename_i hc; injection he with he; subst he; exact CR.clo_ _ _ _ (by simpa [clo] using hc) h
    · cases he
  | h7 f c ih =>
    intro c' u fp he h
    simp only [rnC, Option.map_eq_some_iff] at he
    obtain ⟨l', hl, rfl⟩ := he
    simp only [CR] at h ⊢
    obtain ⟨h0, us, e, h1⟩ := h
    refine ⟨h0, us, e, ?_⟩
    clear e h0
    induction c generalizing us l' with
    | nil => simp only [rnL, Option.some.injEq] at hl; subst hl; simp only [CRL] at h1; rw [h1.1]; exact CRL.nil
    | cons x r ihr =>
      simp only [rnL] at hl
      split at hl
      · rename_i c1 r1 e1 e2
        injection hl with hl
        subst hl
        simp only [CRL] at h1
        obtain ⟨v, vs, f1, f2, rfl, e, g1, g2⟩ := h1
        have e' := List.append_eq_nil_iff.1 e.symm
        rw [e'.1] at g1
        rw [e'.2] at g2
        exact CRL.cons (f := []) (f' := []) (ih x List.mem_cons_self c1 v [] e1 g1) (ihr (fun e he => ih e (List.mem_cons_of_mem _ he)) r1 e2 vs g2)
      · cases hl
  | h9 T l _ =>
    intro c' u fp he h
    simp only [rnC] at he
    split at he
    · rename_i hc; injection he with he; subst he; exact CR.clo_ _ _ _ (by simpa [clo] using hc) h
    · cases he
  | h8 => intro c' u fp he h; simp only [rnC, Option.some.injEq] at he; subst he; simp only [CR] at h ⊢; exact h
  | hn => intro c' u fp he h; simp only [rnC, Option.some.injEq] at he; subst he; simp only [CR] at h ⊢; exact h
theorem zc13 (hρ : ∀ i j, K i → ρ i = some j → K' j ∧ φ' j = φ i) : ∀ {l l' : List AC} {us : List Value} {fp : List Nat}, rnL ρ l = some l' → CRL w St φ K l us fp → CRL w St φ' K' l' us fp
  | [], l', us, fp, he, h => by simp only [rnL, Option.some.injEq] at he; subst he; simp only [CRL] at h ⊢; exact h
  | c :: r, l', us, fp, he, h => by
    simp only [rnL] at he
    split at he
    · rename_i c1 r1 e1 e2
      injection he with he
      subst he
      simp only [CRL] at h
      obtain ⟨v, vs, f1, f2, rfl, rfl, g1, g2⟩ := h
      exact CRL.cons (zd20 hρ c c1 v f1 e1 g1) (zc13 hρ e2 g2)
    · cases he
mutual
theorem ze20 (hρ : ∀ i j, K i → ρ i = some j → K' j ∧ φ' j = φ i) : ∀ {x x' : AV} {u : Value}, rnV ρ x = some x' → VR w St φ K x u → VR w St φ' K' x' u
  | .c x, x', u, he, h => by
    simp only [rnV, Option.map_eq_some_iff] at he
    obtain ⟨c', h1, rfl⟩ := he
    simp only [VR] at h ⊢
    exact zd20 hρ x c' u [] h1 h
  | .ag l, x', u, he, h => by
    simp only [rnV, Option.map_eq_some_iff] at he
    obtain ⟨c', h1, rfl⟩ := he
    simp only [VR] at h ⊢
    obtain ⟨us, e, h⟩ := h
    exact ⟨us, e, zc13 hρ h1 h⟩
  | .tu l, x', u, he, h => by
    simp only [rnV, Option.map_eq_some_iff] at he
    obtain ⟨c', h1, rfl⟩ := he
    simp only [VR] at h ⊢
    obtain ⟨us, e, h⟩ := h
    exact ⟨us, e, zd16 hρ h1 h⟩
theorem zd16 (hρ : ∀ i j, K i → ρ i = some j → K' j ∧ φ' j = φ i) : ∀ {l l' : List AV} {us : List Value}, rnVL ρ l = some l' → VRL w St φ K l us → VRL w St φ' K' l' us
  | [], l', us, he, h => by simp only [rnVL, Option.some.injEq] at he; subst he; simp only [VRL] at h ⊢; exact h
  | c :: r, l', us, he, h => by
    simp only [rnVL] at he
    split at he
    · rename_i c1 r1 e1 e2
      injection he with he
      subst he
      simp only [VRL] at h ⊢
      obtain ⟨v, vs, rfl, g1, g2⟩ := h
      exact ⟨v, vs, rfl, ze20 hρ e1 g1, zd16 hρ e2 g2⟩
    · cases he
end
end
section
variable {C : Ctx} {σ : AS} {a : Act} {w : World}
theorem zm18 (h : Sim C σ a w) (tms : List (Nat × AV)) (rows : RL) (hb : tidyB σ.gn rows = true) (ht : TmOk (ρN σ.gn rows) σ.tm tms) (hr : RwOk (ρN σ.gn rows) σ.hp rows) : Sim C ⟨tmsF tms, hpsF rows, σ.gn, rows.map (·.1), σ.L⟩ a w := by
  obtain ⟨φ, F, St, h⟩ := h
  simp only [tidyB, Bool.and_eq_true] at hb
  obtain ⟨⟨hb1, hb2⟩, hb3⟩ := hb
  have n1 := zu8 hb2
  have n2 := zu8 hb3
  have hb0 : ∀ p ∈ rows, (p.2.1 < σ.gn → p.1 = p.2.1) ∧ (σ.gn ≤ p.2.1 → σ.gn ≤ p.1) := fun p hp => by
    have := List.all_eq_true.1 hb1 p hp
    split at this
    · rename_i hl; exact ⟨fun _ => by simpa using this, fun h2 => by omega⟩
    · rename_i hl; exact ⟨fun h2 => absurd h2 hl, fun _ => by simpa using this⟩
  have old : ∀ p ∈ rows, oldN rows p.2.1 = some p.1 := fun p hp => by
    unfold oldN
    cases e : rows.find? (fun q => q.2.1 == p.2.1) with
    | none => have := List.find?_eq_none.1 e p hp; simp at this
    | some q =>
      have h1 := List.find?_some e
      have h2 := List.mem_of_find?_eq_some e
      rw [za10 (f := fun q : Nat × Nat × Row => q.2.1) n2 h2 hp (by simpa using h1)]; rfl
  let nw : Nat → Option (Nat × Nat × Row) := fun j => rows.find? fun p => p.1 == j
  have nwp : ∀ p ∈ rows, nw p.1 = some p := fun p hp => by
    show rows.find? _ = _
    cases e : rows.find? (fun q => q.1 == p.1) with
    | none => have := List.find?_eq_none.1 e p hp; simp at this
    | some q =>
      have h1 := List.find?_some e
      have h2 := List.mem_of_find?_eq_some e
      rw [za10 (f := fun q : Nat × Nat × Row => q.1) n1 h2 hp (by simpa using h1)]
  let φ' : Nat → Lc := fun j => if j < σ.gn then φ j else match nw j with | some p => φ p.2.1 | none => .box 0 0
  let F' : Nat → List Nat := fun j => match nw j with | some p => F p.2.1 | none => []
  have eF : ∀ p ∈ rows, F' p.1 = F p.2.1 := fun p hp => by simp only [F', nwp p hp]
  have eφ : ∀ p ∈ rows, φ' p.1 = φ p.2.1 := fun p hp => by
    simp only [φ']
    by_cases hl : p.2.1 < σ.gn
    · have := (hb0 p hp).1 hl
      rw [if_pos (by omega), this]
    · have := (hb0 p hp).2 (by omega)
      rw [if_neg (by omega), nwp p hp]
  have hρ : ∀ i j, σ.Kn i → ρN σ.gn rows i = some j → (j < σ.gn ∨ j ∈ rows.map (·.1)) ∧ φ' j = φ i := fun i j _ he => by
    unfold ρN at he
    split at he
    · rename_i hl; injection he with he; subst he; exact ⟨.inl hl, if_pos hl⟩
    · unfold oldN at he
      simp only [Option.map_eq_some_iff] at he
      obtain ⟨p, h1, rfl⟩ := he
      have h2 := List.mem_of_find?_eq_some h1
      have h3 : p.2.1 = i := by simpa using List.find?_some h1
      exact ⟨.inr (List.mem_map_of_mem h2), by rw [eφ p h2, h3]⟩
  have get : ∀ j s, hpsF rows j = some s → ∃ i r, (j, i, s) ∈ rows ∧ σ.hp i = some r ∧ ((cloL r.cs = true ∧ s = r) ∨ ∃ cs, rnL (ρN σ.gn rows) r.cs = some cs ∧ s = { r with cs := cs }) := fun j s hj => by
    obtain ⟨i, hi⟩ := zc16 hj
    obtain ⟨r, h1, h2⟩ := hr.at_ _ hi
    exact ⟨i, r, hi, h1, h2⟩
  have rl : ∀ {l l' : List AC}, rnL (ρN σ.gn rows) l = some l' → l'.length = l.length := by
    intro l
    induction l with
    | nil => intro l' he; simp only [rnL, Option.some.injEq] at he; subst he; rfl
    | cons c r ih =>
      intro l' he
      simp only [rnL] at he
      split at he
      · rename_i c1 r1 e1 e2; injection he with he; subst he; simp [ih e2]
      · cases he
  have len : ∀ {r s : Row}, ((cloL r.cs = true ∧ s = r) ∨ ∃ cs, rnL (ρN σ.gn rows) r.cs = some cs ∧ s = { r with cs := cs }) → s.cs.length = r.cs.length := fun {r s} hh => by
    rcases hh with ⟨_, rfl⟩ | ⟨cs, e, rfl⟩
    · rfl
    · exact rl e
  have ne : ∀ {j k i m : Nat} {s t : Row}, (j, i, s) ∈ rows → (k, m, t) ∈ rows → j ≠ k → i ≠ m := fun h1 h2 hne e => hne (by have := za10 (f := fun q : Nat × Nat × Row => q.2.1) n2 h1 h2 e; injection this)
  refine ⟨φ', F', St, h.dfr, h.len, fun t => ?_, fun j s hj => ?_, fun j s hj => ?_, fun j k s t hj hk hjk b hb => ?_, fun j k s t b lo hj hk e => ?_, fun j k s t b lo lo' hj hk hjk e e' => ?_, fun j s b hj hb => ?_, fun j s b lo hj e => ?_, h.frm, fun j s b hj hb => ?_, fun j hj => ?_, fun j s b lo hj e hN => ?_, h.gnN, h.stS⟩
  · rcases zb16 ht t with e | e
    · show VR w St φ' _ (tmsF tms t) _
      rw [e]; exact zz7 _
    · exact ze20 (K := σ.Kn) hρ e (h.tms t)
  · obtain ⟨i, r, h1, h2, h3⟩ := get j s hj
    refine ⟨.inr (List.mem_map_of_mem (f := fun q : Nat × Nat × Row => q.1) h1), ?_⟩
    have hrow := (h.row i r h2).2
    rw [eF _ h1, eφ _ h1]
    show RowOk w St φ' _ s (F i) (φ i)
    cases e : φ i with
    | box b lo =>
      rw [e] at hrow
      obtain ⟨g0, us, g1, g2⟩ := hrow
      rcases h3 with ⟨hc, rfl⟩ | ⟨cs, hc, rfl⟩
      · exact ⟨g0, us, g1.clo_ hc, g2⟩
      · exact ⟨g0, us, zc13 (K := σ.Kn) hρ hc g1, g2⟩
    | slc u =>
      rw [e] at hrow
      obtain ⟨g0, us, fs, g1, g2, g3⟩ := hrow
      rcases h3 with ⟨hc, rfl⟩ | ⟨cs, hc, rfl⟩
      · exact ⟨g0, us, fs, g1.clo_ hc, g2, g3⟩
      · exact ⟨g0, us, fs, zc13 (K := σ.Kn) hρ hc g1, g2, g3⟩
  · obtain ⟨i, r, h1, h2, _⟩ := get j s hj; rw [eF _ h1]; exact h.nod i r h2
  · obtain ⟨i, r, h1, h2, _⟩ := get j s hj
    obtain ⟨m, q, k1, k2, _⟩ := get k t hk
    rw [eF _ h1] at hb; rw [eF _ k1]
    exact h.dis i m r q h2 k2 (ne h1 k1 hjk) b hb
  · obtain ⟨i, r, h1, h2, _⟩ := get j s hj
    obtain ⟨m, q, k1, k2, _⟩ := get k t hk
    rw [eφ _ h1] at e; rw [eF _ k1]
    exact h.bxF i m r q b lo h2 k2 e
  · obtain ⟨i, r, h1, h2, h3⟩ := get j s hj
    obtain ⟨m, q, k1, k2, k3⟩ := get k t hk
    rw [eφ _ h1] at e; rw [eφ _ k1] at e'
    rw [len h3, len k3]
    exact h.bxd i m r q b lo lo' h2 k2 (ne h1 k1 hjk) e e'
  · obtain ⟨i, r, h1, h2, _⟩ := get j s hj; rw [eF _ h1] at hb; exact h.stF i r b h2 hb
  · obtain ⟨i, r, h1, h2, _⟩ := get j s hj; rw [eφ _ h1] at e; exact h.stB i r b lo h2 e
  · obtain ⟨i, r, h1, h2, _⟩ := get j s hj; rw [eF _ h1] at hb; exact h.own i r b h2 hb
  · have hlt : j < σ.gn := Nat.lt_of_lt_of_le hj h.gnN.1
    refine ⟨by show φ' j = _; simp only [φ', if_pos hlt]; exact (h.par j hj).1, fun s hs q hq => ?_⟩
    obtain ⟨i, r, h1, h2, h3⟩ := get j s hs
    have hij : i = j := by
      by_cases hl : i < σ.gn
      · exact ((hb0 _ h1).1 hl).symm
      · have := (hb0 _ h1).2 (by show σ.gn ≤ i; omega)
        have : σ.gn ≤ j := this
        omega
    subst hij
    exact (h.par i hj).2 r h2 q (by rw [← len h3]; exact hq)
  · obtain ⟨i, r, h1, h2, _⟩ := get j s hj
    rw [eφ _ h1] at e
    have : C.N ≤ i := by
      by_cases hl : i < σ.gn
      · have := (hb0 _ h1).1 hl; have : j = i := this; omega
      · have := h.gnN.1; omega
    exact h.new i r b lo h2 e this
variable {P : Program} {Q : Exit → AS → Prop} {c : Code}
end
section
variable {P : Program} {ops : Array Oper} {Q : Exit → Act → World → Prop} {C : Ctx} {H H' : List (Nat × Oper × Inf)} {i : Nat} {r : List Nat} {o : Oper} {dr : Bool}
variable {tm : Nat → AV} {hp : Nat → Option Row} {gn L : Nat} {us : List Nat} {x : AV}
theorem ze16 : ∀ {r : List Nat} {H H' : List (Nat × Oper × Inf)} {σ : AS}, Walk P ops Q C false H r σ → Walk P ops Q C false H' r σ
  | [], _, _, _, h => h
  | _ :: _, _, _, _, ⟨o, I, h0, h1, h2, h3, h4⟩ => ⟨o, I, h0, h1, h2, (fun h => by cases h), ze16 h4⟩
theorem zy4 {a b : Nat} (h : Nat.blt a b = true) : a < b := by simpa [Nat.blt_eq] using h
theorem zf5 {σ : AS} {t : Nat} (ht : t < σ.L) : σ.put (some t) x = { σ with tm := upd σ.tm t x } := by unfold AS.put; exact if_pos ht
def wtd (ops : Array Oper) (i j : Nat) : Bool := match ops[i]? with
  | some o => o.after.any fun e => Region.binds .any e && e.on == j
  | none => false
theorem zw22 {ops : Array Oper} {i j : Nat} (h : wtd ops i j = true) : wt .any ops ops.size i j = true := by
  unfold wtd at h
  split at h
  · rename_i o ho
    have hs : 0 < ops.size := by
      have := (Array.getElem?_eq_some_iff.1 ho).1
      omega
    obtain ⟨n, hn⟩ : ∃ n, ops.size = n + 1 := ⟨ops.size - 1, by omega⟩
    rw [hn]
    simp only [wt, ho]
    obtain ⟨e, he, h2⟩ := Array.any_eq_true'.1 h
    simp only [Bool.and_eq_true] at h2
    exact Array.any_eq_true'.2 ⟨e, he, by simp [h2.1, h2.2]⟩
  · cases h
def chk (dr : Bool) (ops : Array Oper) (i : Nat) (o : Oper) (I : Inf) (H : List (Nat × Oper × Inf)) : Bool := !dr || H.all fun h => inp ops o I h.2.1 h.2.2 || (wtd ops i h.1 || wt .any ops ops.size i h.1)
theorem zu4 {I : Inf} (h : chk dr ops i o I H = true) : dr = true → (H.all fun h => wt .any ops ops.size i h.1 || inp ops o I h.2.1 h.2.2) = true := by
  rintro rfl
  simp only [chk, Bool.not_true, Bool.false_or, List.all_eq_true, Bool.or_eq_true] at h ⊢
  intro x hx
  rcases h x hx with h1 | h1 | h1
  · exact .inr h1
  · exact .inl (zw22 h1)
  · exact .inl h1
def keepH (dr : Bool) (e : Nat × Oper × Inf) (H : List (Nat × Oper × Inf)) : List (Nat × Oper × Inf) := if dr then e :: H else []
theorem zw3 {e : Nat × Oper × Inf} {σ : AS} (h : Walk P ops Q C dr (keepH dr e H) r σ) : Walk P ops Q C dr (e :: H) r σ := by
  cases dr with
  | true => exact h
  | false => exact ze16 h
theorem zn14 {t : Nat} (id : Nat) (hop : ops[i]? = some o) (hd : o.dst = some t) (ht : Nat.blt t L = true) (hg : gw ops tm o = some true) (he : EffD P o (AS.ev ⟨tm, hp, gn, us, L⟩) hp id = some (x, .nop))
    (hc : chk dr ops i o ⟨fpO (AS.ev ⟨tm, hp, gn, us, L⟩) o, [], [], x⟩ H = true) (h : Walk P ops Q C dr (keepH dr (i, o, ⟨fpO (AS.ev ⟨tm, hp, gn, us, L⟩) o, [], [], x⟩) H) r ⟨upd tm t x, hp, gn, us, L⟩) : Walk P ops Q C dr H (i :: r) ⟨tm, hp, gn, us, L⟩ :=
  zb8 id hop hg he (fun n hn => absurd hn List.not_mem_nil) (zu4 hc) (zw3 (by rw [hd, zf5 (by simpa [Dl.ap] using zy4 ht)]; exact h))
theorem w_gr {t : Nat} (id : Nat) {rw : Row} (hop : ops[i]? = some o) (hd : o.dst = some t) (ht : Nat.blt t L = true) (hg : gw ops tm o = some true) (hf : (Nat.ble gn id && !us.contains id) = true) (he : EffD P o (AS.ev ⟨tm, hp, gn, us, L⟩) hp id = some (x, .gr id rw))
    (hc : chk dr ops i o ⟨fpO (AS.ev ⟨tm, hp, gn, us, L⟩) o, [(id, some rw)], [id], x⟩ H = true) (h : Walk P ops Q C dr (keepH dr (i, o, ⟨fpO (AS.ev ⟨tm, hp, gn, us, L⟩) o, [(id, some rw)], [id], x⟩) H) r ⟨upd tm t x, upd hp id (some rw), gn, id :: us, L⟩) : Walk P ops Q C dr H (i :: r) ⟨tm, hp, gn, us, L⟩ := by
  simp only [Bool.and_eq_true, Nat.ble_eq, Bool.not_eq_true'] at hf
  refine zb8 id hop hg he (fun n hn => ?_) (zu4 hc) (zw3 (by rw [hd, zf5 (by simpa [Dl.ap, AS.grow] using zy4 ht)]; exact h))
  obtain rfl : n = id := by simpa [Dl.N] using hn
  exact ⟨hf.1, fun hm => by have := hf.2; simp at this; exact this hm⟩
theorem w_mv {t : Nat} (id : Nat) {j : Nat} {rw : Row} (hop : ops[i]? = some o) (hd : o.dst = some t) (ht : Nat.blt t L = true) (hg : gw ops tm o = some true) (hf : (Nat.ble gn id && !us.contains id) = true) (he : EffD P o (AS.ev ⟨tm, hp, gn, us, L⟩) hp id = some (x, .mv j id rw))
    (hc : chk dr ops i o ⟨fpO (AS.ev ⟨tm, hp, gn, us, L⟩) o, [(j, none), (id, some rw)], [id], x⟩ H = true) (h : Walk P ops Q C dr (keepH dr (i, o, ⟨fpO (AS.ev ⟨tm, hp, gn, us, L⟩) o, [(j, none), (id, some rw)], [id], x⟩) H) r ⟨upd tm t x, upd (upd hp j none) id (some rw), gn, id :: us, L⟩) : Walk P ops Q C dr H (i :: r) ⟨tm, hp, gn, us, L⟩ := by
  simp only [Bool.and_eq_true, Nat.ble_eq, Bool.not_eq_true'] at hf
  refine zb8 id hop hg he (fun n hn => ?_) (zu4 hc) (zw3 (by rw [hd, zf5 (by simpa [Dl.ap, AS.grow, AS.set] using zy4 ht)]; exact h))
  obtain rfl : n = id := by simpa [Dl.N] using hn
  exact ⟨hf.1, fun hm => by have := hf.2; simp at this; exact this hm⟩
theorem w_st {j : Nat} {rw : Row} (hop : ops[i]? = some o) (hd : o.dst = none) (hg : gw ops tm o = some true) (he : EffD P o (AS.ev ⟨tm, hp, gn, us, L⟩) hp 0 = some (x, .st j rw))
    (hc : chk dr ops i o ⟨fpO (AS.ev ⟨tm, hp, gn, us, L⟩) o, [(j, some rw)], [], x⟩ H = true) (h : Walk P ops Q C dr (keepH dr (i, o, ⟨fpO (AS.ev ⟨tm, hp, gn, us, L⟩) o, [(j, some rw)], [], x⟩) H) r ⟨tm, upd hp j (some rw), gn, us, L⟩) : Walk P ops Q C dr H (i :: r) ⟨tm, hp, gn, us, L⟩ :=
  zb8 0 hop hg he (fun n hn => absurd hn List.not_mem_nil) (zu4 hc) (zw3 (by rw [hd]; exact h))
theorem zx22 {t : Nat} (hop : ops[i]? = some o) (hd : o.dst = some t) (ht : Nat.blt t L = true) (hg : gw ops tm o = some false) (hc : chk dr ops i o infSkip H = true) (h : Walk P ops Q C dr (keepH dr (i, o, infSkip) H) r ⟨upd tm t (.tu []), hp, gn, us, L⟩) : Walk P ops Q C dr H (i :: r) ⟨tm, hp, gn, us, L⟩ :=
  zy10 hop hg (zu4 hc) (zw3 (by rw [hd, zf5 (by simpa using zy4 ht)]; exact h))
theorem zf21 (hop : ops[i]? = some o) (hd : o.dst = none) (hg : gw ops tm o = some false) (hc : chk dr ops i o infSkip H = true) (h : Walk P ops Q C dr (keepH dr (i, o, infSkip) H) r ⟨tm, hp, gn, us, L⟩) : Walk P ops Q C dr H (i :: r) ⟨tm, hp, gn, us, L⟩ :=
  zy10 hop hg (zu4 hc) (zw3 (by rw [hd]; exact h))
end
theorem zi {l m : List AC} (h : cloL l = true) (k : cloL m = true) : cloL (l ++ m) = true := by
  rw [zw4] at h k ⊢
  intro c hc
  rcases List.mem_append.1 hc with hc | hc
  · exact h c hc
  · exact k c hc
theorem zh4 {l m : List AC} (h : rofrL l = true) (k : rofrL m = true) : rofrL (l ++ m) = true := by
  rw [zr5] at h k ⊢
  intro c hc
  rcases List.mem_append.1 hc with hc | hc
  · exact h c hc
  · exact k c hc
theorem zf16 (l m : List AC) : toRoL (l ++ m) = toRoL l ++ toRoL m := by simp [zv9]
mutual
def acE : E → List AC
  | .int k n => [.v (.int k n)]
  | .bool b => [.v (.bool b)]
  | .str s => [.v (.string s)]
  | .agg fs => acL fs
  | .lst k _ _ _ l => [.ro l.length k (acL l)]
def acL : List E → List AC
  | [] => []
  | e :: r => acE e ++ acL r
end
mutual
def owE : E → List AC
  | .int k n => [.v (.int k n)]
  | .bool b => [.v (.bool b)]
  | .str s => [.v (.string s)]
  | .agg fs => owL fs
  | .lst k T _ _ l => [.ow T l.length k (owL l)]
def owL : List E → List AC
  | [] => []
  | e :: r => owE e ++ owL r
end
mutual
theorem ze12 : ∀ e : E, (acE e).length = e.enc.length
  | .int _ _ => rfl
  | .bool _ => rfl
  | .str _ => rfl
  | .agg fs => by simp only [acE, E.enc]; exact zf12 fs
  | .lst .. => rfl
theorem zf12 : ∀ l : List E, (acL l).length = (E.encL l).length
  | [] => rfl
  | e :: r => by simp only [acL, E.encL, List.length_append]; rw [ze12 e, zf12 r]
end
mutual
theorem zn : ∀ e : E, cloL (acE e) = true
  | .int _ _ => rfl
  | .bool _ => rfl
  | .str _ => rfl
  | .agg fs => by simp only [acE]; exact zm fs
  | .lst k T A c l => by simp only [acE, cloL, clo, zm l]; rfl
theorem zm : ∀ l : List E, cloL (acL l) = true
  | [] => rfl
  | e :: r => by simp only [acL]; exact zi (zn e) (zm r)
end
mutual
theorem zo : ∀ e : E, cloL (owE e) = true
  | .int _ _ => rfl
  | .bool _ => rfl
  | .str _ => rfl
  | .agg fs => by simp only [owE]; exact zk fs
  | .lst k T A c l => by simp only [owE, cloL, clo, zk l]; rfl
theorem zk : ∀ l : List E, cloL (owL l) = true
  | [] => rfl
  | e :: r => by simp only [owL]; exact zi (zo e) (zk r)
end
mutual
theorem zs3 : ∀ e : E, rofrL (owE e) = true
  | .int _ _ => rfl
  | .bool _ => rfl
  | .str _ => rfl
  | .agg fs => by simp only [owE]; exact zj4 fs
  | .lst k T A c l => by simp only [owE, rofrL, rofr, zj4 l]; rfl
theorem zj4 : ∀ l : List E, rofrL (owL l) = true
  | [] => rfl
  | e :: r => by simp only [owL]; exact zh4 (zs3 e) (zj4 r)
end
mutual
theorem zn18 : ∀ e : E, toRoL (owE e) = acE e
  | .int _ _ => rfl
  | .bool _ => rfl
  | .str _ => rfl
  | .agg fs => by simp only [owE, acE]; exact zd4 fs
  | .lst k T A c l => by simp only [owE, acE, toRoL, toRo, zd4 l]
theorem zd4 : ∀ l : List E, toRoL (owL l) = acL l
  | [] => rfl
  | e :: r => by simp only [owL, acL]; rw [zf16, zn18 e, zd4 r]
end
theorem zk7 : ∀ (l m : List E), owL (l ++ m) = owL l ++ owL m
  | [], m => rfl
  | e :: l, m => by simp only [List.cons_append, owL, zk7 l m, List.append_assoc]
theorem zg16 {f : E → List AC} {g : List E → List AC} (g0 : g [] = []) (g1 : ∀ e r, g (e :: r) = f e ++ g r) {k : Nat} : ∀ {l : List E} {i j m : Nat} {x : E}, (∀ e ∈ l, (f e).length = k) → l[i]? = some x → j + m ≤ k → subL (g l) (i * k + j) m = subL (f x) j m
  | [], i, j, m, x, _, hx, _ => by simp at hx
  | e :: r, 0, j, m, x, hk, hx, hj => by
    simp only [List.getElem?_cons_zero, Option.some.injEq] at hx
    subst hx
    have he := hk e List.mem_cons_self
    rw [g1]
    unfold subL
    rw [Nat.zero_mul, Nat.zero_add, List.drop_append_of_le_length (by omega), List.take_append_of_le_length (by rw [List.length_drop]; omega)]
  | e :: r, i + 1, j, m, x, hk, hx, hj => by
    have he := hk e List.mem_cons_self
    have := zg16 g0 g1 (i := i) (fun y hy => hk y (List.mem_cons_of_mem _ hy)) (by simpa using hx) hj
    rw [g1, ← this]
    unfold subL
    have e1 : (i + 1) * k + j = (f e).length + (i * k + j) := by rw [he, Nat.add_mul]; omega
    rw [e1, List.drop_append, List.drop_eq_nil_of_le (by omega), List.nil_append, Nat.add_sub_cancel_left]
theorem zy22 {k : Nat} {l : List E} {i j m : Nat} {x : E} (h : ∀ e ∈ l, e.enc.length = k) (hx : l[i]? = some x) (hj : j + m ≤ k) : subL (acL l) (i * k + j) m = subL (acE x) j m :=
  zg16 (f := acE) (g := acL) rfl (fun _ _ => rfl) (fun e he => by rw [ze12]; exact h e he) hx hj
def AV.le (x y : AV) : Prop := ∀ (w : World) (St : Nat → Prop) (φ : Nat → Lc) (K : Nat → Prop) (u : Value), VR w St φ K x u → VR w St φ K y u
theorem AV.le_refl (x : AV) : x.le x := fun _ _ _ _ _ h => h
theorem Sim.weak {C : Ctx} {σ τ : AS} {a : Act} {w : World} (h : Sim C σ a w) (ht : ∀ t, (σ.tm t).le (τ.tm t)) (hh : σ.hp = τ.hp) (hg : σ.gn = τ.gn) (hu : σ.us = τ.us) (hL : σ.L = τ.L) : Sim C τ a w := by
  obtain ⟨tm, hp, gn, us, L⟩ := σ
  obtain ⟨tm', hp', gn', us', L'⟩ := τ
  obtain ⟨φ, F, St, h⟩ := h
  simp only at hh hg hu hL
  subst hh hg hu hL
  exact ⟨φ, F, St, h.dfr, h.len, fun t => ht t _ _ _ _ _ (h.tms t), h.row, h.nod, h.dis, h.bxF, h.bxd, h.stF, h.stB, h.frm, h.own, h.par, h.new, h.gnN, h.stS⟩
theorem zo18 {P : Program} {ops : Array Oper} {Q : Exit → Act → World → Prop} {C : Ctx} {i : Nat} {o : Oper} {σ : AS} {I : Inf} {y : AV} (h : Snd P ops Q C i o σ I) (hy : I.x.le y) : Snd P ops Q C i o σ { I with x := y } := by
  intro τ a w ha hs K hK
  refine h τ a w ⟨ha.tm, ha.hp, ha.gn, ha.L, ha.us⟩ hs K fun a' w' hs' => hK a' w' (hs'.weak (fun t => ?_) ?_ ?_ ?_ ?_)
  · rw [za6, za6]
    by_cases e : o.dst = some t ∧ t < τ.L
    · simp only [e, and_self, if_true]; exact hy
    · simp only [if_neg e]; exact AV.le_refl _
  · rw [zz5, zz5]
  · rw [zo7, zo7]
  · rw [zp7, zp7]
  · rw [zh9, zh9]
theorem zg21 {l : List AC} {a n : Nat} (h : a + n ≤ l.length) : AV.le (.c (.rp l a)) (.c (.rp (subL l a n) 0)) := by
  intro w St φ K u hu
  simp only [VR, CR] at hu ⊢
  obtain ⟨h0, b, p, us, e, h1, h2, h3, h4⟩ := hu
  have hle := h4.len
  refine ⟨h0, b, p + a, (us.drop a).take n, by rw [Nat.add_zero]; exact e, h1, h2, za8 h3, ?_⟩
  have e2 : l = l.take a ++ (subL l a n ++ (l.drop a).drop n) := by unfold subL; rw [List.take_append_drop, List.take_append_drop]
  rw [e2] at h4
  obtain ⟨u1, u2, f1, f2, rfl, e3, g1, g2⟩ := h4.split
  obtain ⟨u3, u4, f3, f4, rfl, e4, g5, g6⟩ := g2.split
  have l1 := g1.len
  have l3 := g5.len
  rw [List.length_take, Nat.min_eq_left (by omega)] at l1
  have ln : (subL l a n).length = n := by unfold subL; rw [List.length_take, List.length_drop]; omega
  rw [ln] at l3
  have d1 : (u1 ++ (u3 ++ u4)).drop a = u3 ++ u4 := by rw [← l1, List.drop_left]
  have d2 : (u3 ++ u4).take n = u3 := by rw [← l3, List.take_left]
  rw [d1, d2]
  have h5 := List.append_eq_nil_iff.1 e3.symm
  have h6 := List.append_eq_nil_iff.1 (e4 ▸ h5.2)
  rw [h6.1] at g5
  exact g5
def eltB (P : Program) (T : TypeId) (k : Nat) : Bool := match P.underlying T with | some (.slice e) => (P.info? e).map (·.size) == some k | _ => false
def appB (P : Program) (T T2 : TypeId) : Option (TypeId × Nat) :=
  match P.underlying T, P.underlying T2 with
  | some (.slice e), some d2 =>
    match P.info? e with
    | some i =>
      match i.zero with
      | some z => if (srcTy d2 && z.cells.size == i.size && Nat.blt 0 i.size && Nat.ble i.bytes 4096) = true then some (e, i.size) else none
      | none => none
    | none => none
  | _, _ => none
theorem zx5 {hp : Nat → Option Row} {j m k : Nat} {s : Row} (h : hp j = some s) (h1 : s.k = k) (h2 : s.n = m) (h3 : s.box = false) : srcOf hp k (.c (.sl j m)) = some (m, s.cs.map ld) := by
  unfold srcOf
  simp only [h, Option.bind_some]
  exact if_pos ⟨h1, h2, h3⟩
theorem zp18 {l m : List AC} (h : l.all noUn = true) (k : m.all noUn = true) : (l ++ m).all noUn = true := by rw [List.all_append, h, k]; rfl
mutual
theorem zq18 : ∀ e : E, (acE e).all noUn = true
  | .int _ _ => rfl
  | .bool _ => rfl
  | .str _ => rfl
  | .agg fs => by simp only [acE]; exact zn5 fs
  | .lst .. => rfl
theorem zn5 : ∀ l : List E, (acL l).all noUn = true
  | [] => rfl
  | e :: r => by simp only [acL]; exact zp18 (zq18 e) (zn5 r)
end
section
variable {P : Program} {ops : Array Oper} {Q : Exit → Act → World → Prop} {C : Ctx} {H : List (Nat × Oper × Inf)} {i : Nat} {r : List Nat} {o : Oper} {dr : Bool}
variable {tm : Nat → AV} {hp : Nat → Option Row} {gn L : Nat} {us : List Nat} {x : AV}
theorem zz22 {t : Nat} (id : Nat) {y : AV} (hop : ops[i]? = some o) (hd : o.dst = some t) (ht : Nat.blt t L = true) (hg : gw ops tm o = some true) (he : EffD P o (AS.ev ⟨tm, hp, gn, us, L⟩) hp id = some (x, .nop)) (hy : x.le y)
    (hc : chk dr ops i o ⟨fpO (AS.ev ⟨tm, hp, gn, us, L⟩) o, [], [], y⟩ H = true) (h : Walk P ops Q C dr (keepH dr (i, o, ⟨fpO (AS.ev ⟨tm, hp, gn, us, L⟩) o, [], [], y⟩) H) r ⟨upd tm t y, hp, gn, us, L⟩) : Walk P ops Q C dr H (i :: r) ⟨tm, hp, gn, us, L⟩ :=
  ⟨o, _, hop, zo18 (zt15 hop hg he fun n hn => absurd hn List.not_mem_nil) hy, fun n hn => absurd hn List.not_mem_nil, zu4 hc, zw3 (by
    show Walk P ops Q C dr _ r (AS.put _ o.dst y)
    rw [hd, zf5 (by exact zy4 ht)]; exact h)⟩
theorem zh16 {T : TypeId} {k : Nat} (h : eltB P T k = true) : ∃ e, P.underlying T = some (.slice e) ∧ (P.info? e).map (·.size) = some k := by
  unfold eltB at h
  split at h
  · rename_i e he; exact ⟨e, he, by simpa using h⟩
  · cases h
theorem w_idx {t n k j : Nat} {l : List E} {e : E} {kd : IntKind} {z : Int} {T : TypeId} {xo io : Operand} (hop : ops[i]? = some o) (ho : o.op = .indexAddr T xo io) (hd : o.dst = some t) (ht : Nat.blt t L = true) (hg : gw ops tm o = some true)
    (hx : AS.ev ⟨tm, hp, gn, us, L⟩ xo = .c (.ro n k (acL l))) (hi : AS.ev ⟨tm, hp, gn, us, L⟩ io = .c (.v (.int kd z))) (hT : eltB P T k = true) (hz : z = (j : Int)) (hn : n = l.length) (hk : ∀ e ∈ l, e.enc.length = k) (he : l[j]? = some e)
    (hc : chk dr ops i o ⟨fpO (AS.ev ⟨tm, hp, gn, us, L⟩) o, [], [], .c (.rp (acE e) 0)⟩ H = true) (h : Walk P ops Q C dr (keepH dr (i, o, ⟨fpO (AS.ev ⟨tm, hp, gn, us, L⟩) o, [], [], .c (.rp (acE e) 0)⟩) H) r ⟨upd tm t (.c (.rp (acE e) 0)), hp, gn, us, L⟩) : Walk P ops Q C dr H (i :: r) ⟨tm, hp, gn, us, L⟩ := by
  obtain ⟨hj, hje⟩ := List.getElem?_eq_some_iff.1 he
  obtain ⟨T', h1, h2⟩ := zh16 hT
  have hle : j * k + k ≤ (acL l).length := by
    rw [zf12, E.encL_len hk]
    have := Nat.mul_le_mul_right k (show j + 1 ≤ l.length from hj)
    rw [Nat.add_mul] at this; omega
  have hek : (acE e).length = k := by rw [ze12]; exact hk e (List.mem_of_getElem? he)
  have hs : subL (acL l) (j * k) k = acE e := by
    have := zy22 (j := 0) (m := k) hk he (by omega)
    rw [Nat.add_zero] at this
    rw [this]
    unfold subL
    rw [List.drop_zero, List.take_of_length_le (by omega)]
  refine zz22 0 (x := .c (.rp (acL l) (j * k))) hop hd ht hg ?_ (by have := zg21 hle; rw [hs] at this; exact this) hc h
  unfold EffD
  rw [ho]
  simp only [hx, hi]
  unfold nop? aIndexAddr
  simp only [h1, h2]
  subst hz hn
  rw [if_pos ⟨trivial, by omega, by omega⟩]
  simp
theorem za23 {t n k j s : Nat} {rw : Row} {kd : IntKind} {z : Int} {T : TypeId} {xo io : Operand} (hop : ops[i]? = some o) (ho : o.op = .indexAddr T xo io) (hd : o.dst = some t) (ht : Nat.blt t L = true) (hg : gw ops tm o = some true)
    (hx : AS.ev ⟨tm, hp, gn, us, L⟩ xo = .c (.sl s n)) (hi : AS.ev ⟨tm, hp, gn, us, L⟩ io = .c (.v (.int kd z))) (hr : hp s = some rw) (hb : rw.box = false) (hn : rw.n = n) (hk : rw.k = k) (hT : eltB P T k = true) (hz : z = (j : Int)) (hj : j < n)
    (hc : chk dr ops i o ⟨fpO (AS.ev ⟨tm, hp, gn, us, L⟩) o, [], [], .c (.pt s (j * k))⟩ H = true) (h : Walk P ops Q C dr (keepH dr (i, o, ⟨fpO (AS.ev ⟨tm, hp, gn, us, L⟩) o, [], [], .c (.pt s (j * k))⟩) H) r ⟨upd tm t (.c (.pt s (j * k))), hp, gn, us, L⟩) : Walk P ops Q C dr H (i :: r) ⟨tm, hp, gn, us, L⟩ := by
  obtain ⟨T', h1, h2⟩ := zh16 hT
  refine zn14 0 hop hd ht hg ?_ hc h
  unfold EffD
  rw [ho]
  simp only [hx, hi]
  unfold nop? aIndexAddr
  simp only [h1, h2, hr]
  subst hz
  rw [if_pos ⟨hb, hn, by omega, by omega⟩]
  simp
theorem w_ld {t s off : Nat} {rw : Row} {T : TypeId} {p : Operand} {cs : List AC} (hop : ops[i]? = some o) (ho : o.op = .load T p) (hd : o.dst = some t) (ht : Nat.blt t L = true) (hg : gw ops tm o = some true)
    (hx : AS.ev ⟨tm, hp, gn, us, L⟩ p = .c (.pt s off)) (hr : hp s = some rw) (hs : subL rw.cs off (P.cellsOf T) = cs) (hm : mkAV P T cs = some x)
    (hc : chk dr ops i o ⟨fpO (AS.ev ⟨tm, hp, gn, us, L⟩) o, [], [], x⟩ H = true) (h : Walk P ops Q C dr (keepH dr (i, o, ⟨fpO (AS.ev ⟨tm, hp, gn, us, L⟩) o, [], [], x⟩) H) r ⟨upd tm t x, hp, gn, us, L⟩) : Walk P ops Q C dr H (i :: r) ⟨tm, hp, gn, us, L⟩ := by
  refine zn14 0 hop hd ht hg ?_ hc h
  unfold EffD
  rw [ho]
  simp only [hx]
  unfold nop? aLoad
  simp only [hr, Option.bind_some, hs, hm, Option.map_some]
theorem w_sto {s off : Nat} {rw : Row} {T : TypeId} {p y : Operand} {cs : List AC} (hop : ops[i]? = some o) (ho : o.op = .store T p y) (hd : o.dst = none) (hg : gw ops tm o = some true)
    (hx : AS.ev ⟨tm, hp, gn, us, L⟩ p = .c (.pt s off)) (hr : hp s = some rw) (hy : (AS.ev ⟨tm, hp, gn, us, L⟩ y).cells = some cs) (hT : (P.info? T).map (·.size) = some cs.length) (hnu : cs.all noUn = true) (hle : off + cs.length ≤ rw.cs.length)
    (hc : chk dr ops i o ⟨fpO (AS.ev ⟨tm, hp, gn, us, L⟩) o, [(s, some { rw with cs := spl rw.cs off cs })], [], .c .un⟩ H = true) (h : Walk P ops Q C dr (keepH dr (i, o, ⟨fpO (AS.ev ⟨tm, hp, gn, us, L⟩) o, [(s, some { rw with cs := spl rw.cs off cs })], [], .c .un⟩) H) r ⟨tm, upd hp s (some { rw with cs := spl rw.cs off cs }), gn, us, L⟩) : Walk P ops Q C dr H (i :: r) ⟨tm, hp, gn, us, L⟩ := by
  refine w_st hop hd hg ?_ hc h
  unfold EffD
  rw [ho]
  simp only [hx]
  unfold dStore
  simp only [hy, hr]
  exact if_pos ⟨hT, hnu, hle⟩
theorem zi16 {T T2 e : TypeId} {k : Nat} (h : appB P T T2 = some (e, k)) : ∃ d2 i z, P.underlying T = some (.slice e) ∧ P.underlying T2 = some d2 ∧ P.info? e = some i ∧ i.zero = some z ∧ srcTy d2 = true ∧ z.cells.size = i.size ∧ 0 < i.size ∧ i.bytes ≤ 4096 ∧ i.size = k := by
  unfold appB at h
  split at h
  · rename_i e' d2 h1 h2
    split at h
    · rename_i inf h3
      split at h
      · rename_i z h4
        split at h
        · rename_i hc
          simp only [Bool.and_eq_true, Nat.ble_eq, beq_iff_eq] at hc
          injection h with h
          injection h with h5 h6
          subst h5
          exact ⟨d2, inf, z, h1, h2, h3, h4, hc.1.1.1, hc.1.1.2, zy4 hc.1.2, hc.2, h6⟩
        · cases h
      · cases h
    · cases h
  · cases h
theorem w_app {t j n m k : Nat} (id : Nat) {rw : Row} {e T T2 : TypeId} {xo yo : Operand} {ys : List AC} (hop : ops[i]? = some o) (ho : o.op = .call ⟨.builtin .append, #[xo, yo], #[T, T2]⟩) (hd : o.dst = some t) (ht : Nat.blt t L = true) (hg : gw ops tm o = some true) (hf : (Nat.ble gn id && !us.contains id) = true)
    (hx : AS.ev ⟨tm, hp, gn, us, L⟩ xo = .c (.sl j n)) (hr : hp j = some rw) (hT : appB P T T2 = some (e, k)) (hy : srcOf hp k (AS.ev ⟨tm, hp, gn, us, L⟩ yo) = some (m, ys)) (hnu : ys.all noUn = true) (hr1 : rw.T = e) (hr2 : rw.k = k) (hr3 : rw.n = n) (hr4 : rw.box = false) (hsz : n + m ≤ 4294967296)
    (hc : chk dr ops i o ⟨fpO (AS.ev ⟨tm, hp, gn, us, L⟩) o, [(j, none), (id, some ⟨e, k, n + m, false, rw.cs ++ ys⟩)], [id], .c (.sl id (n + m))⟩ H = true)
    (h : Walk P ops Q C dr (keepH dr (i, o, ⟨fpO (AS.ev ⟨tm, hp, gn, us, L⟩) o, [(j, none), (id, some ⟨e, k, n + m, false, rw.cs ++ ys⟩)], [id], .c (.sl id (n + m))⟩) H) r ⟨upd tm t (.c (.sl id (n + m))), upd (upd hp j none) id (some ⟨e, k, n + m, false, rw.cs ++ ys⟩), gn, id :: us, L⟩) : Walk P ops Q C dr H (i :: r) ⟨tm, hp, gn, us, L⟩ := by
  obtain ⟨d2, inf, z, h1, h2, h3, h4, h5, h6, h7, h8, rfl⟩ := zi16 hT
  refine w_mv id hop hd ht hg hf ?_ hc h
  unfold EffD
  rw [ho]
  simp only [EffCallD, hx]
  unfold dAppend
  simp only [h1, h2, h3, h4, hr]
  rw [if_pos ⟨h5, h6, h7⟩, hy]
  simp only []
  rw [if_pos hnu, if_pos ⟨hr1, hr2, hr3, hr4, Nat.le_trans (Nat.mul_le_mul hsz h8) (by decide), by omega⟩]
theorem zb23 {t m k : Nat} (id : Nat) {e T T2 : TypeId} {xo yo : Operand} {ys : List AC} (hop : ops[i]? = some o) (ho : o.op = .call ⟨.builtin .append, #[xo, yo], #[T, T2]⟩) (hd : o.dst = some t) (ht : Nat.blt t L = true) (hg : gw ops tm o = some true) (hf : (Nat.ble gn id && !us.contains id) = true)
    (hx : AS.ev ⟨tm, hp, gn, us, L⟩ xo = .c (.v (.slice none 0 0))) (hT : appB P T T2 = some (e, k)) (hy : srcOf hp k (AS.ev ⟨tm, hp, gn, us, L⟩ yo) = some (m, ys)) (hnu : ys.all noUn = true) (hsz : m ≤ 4294967296)
    (hc : chk dr ops i o ⟨fpO (AS.ev ⟨tm, hp, gn, us, L⟩) o, [(id, some ⟨e, k, m, false, ys⟩)], [id], .c (.sl id m)⟩ H = true)
    (h : Walk P ops Q C dr (keepH dr (i, o, ⟨fpO (AS.ev ⟨tm, hp, gn, us, L⟩) o, [(id, some ⟨e, k, m, false, ys⟩)], [id], .c (.sl id m)⟩) H) r ⟨upd tm t (.c (.sl id m)), upd hp id (some ⟨e, k, m, false, ys⟩), gn, id :: us, L⟩) : Walk P ops Q C dr H (i :: r) ⟨tm, hp, gn, us, L⟩ := by
  obtain ⟨d2, inf, z, h1, h2, h3, h4, h5, h6, h7, h8, rfl⟩ := zi16 hT
  refine w_gr id hop hd ht hg hf ?_ hc h
  unfold EffD
  rw [ho]
  simp only [EffCallD, hx]
  unfold dAppend
  simp only [h1, h2, h3, h4]
  rw [if_pos ⟨h5, h6, h7⟩, hy]
  simp only []
  rw [if_pos hnu, if_pos ⟨Nat.le_trans (Nat.mul_le_mul hsz h8) (by decide), by omega⟩]
theorem zd13 {t : Nat} (id : Nat) (D Z : List Nat) {c : Call} {fv : Operand} {f : FuncId} {caps : List AC} {args : List AV} {pars : List (List AC)} {res : AV} {rows : List (List AC)} (hop : ops[i]? = some o) (hoc : o.op = .call c) (hcal : c.callee = .value fv) (hd : o.dst = some t) (ht : Nat.blt t L = true) (hg : gw ops tm o = some true)
    (hfv : AS.ev ⟨tm, hp, gn, us, L⟩ fv = .c (.fn f caps)) (hargs : callArgs ⟨tm, hp, gn, us, L⟩ c caps = args) (hl : lend hp D = some pars) (hctr : Ctr P f (args.map (cvV hp D)) pars res rows)
    (hRD : ((args.flatMap snV).all fun z => !D.contains z) = true) (hZD : (Z.all fun z => !D.contains z) = true) (hm : (rofrV res = true ∧ ∀ c ∈ rows, rofrL c = true) ∨ ((args.flatMap snV).all fun z => Z.contains z) = true)
    {nv : AV} {nr : List (Nat × Row)} (hopn : opV id res = (nv, nr)) (hf : (nr.all fun p => Nat.ble gn p.1 && !us.contains p.1) = true)
    (hc : chk dr ops i o (callInf ⟨tm, hp, gn, us, L⟩ (args.flatMap snV) D Z id res rows) H = true)
    (h : Walk P ops Q C dr (keepH dr (i, o, callInf ⟨tm, hp, gn, us, L⟩ (args.flatMap snV) D Z id res rows) H) r ⟨upd tm t nv, updL hp (backU hp D rows ++ (Z.map fun z => (z, none)) ++ nr.map (fun p => (p.1, some p.2))), gn, nr.map (·.1) ++ us, L⟩) : Walk P ops Q C dr H (i :: r) ⟨tm, hp, gn, us, L⟩ := by
  refine zz15 id D Z hop hg hoc hcal hfv hargs hl hctr hRD hZD hm ?_ (zu4 hc) (zw3 ?_)
  · rw [hopn]
    refine List.all_eq_true.2 fun p hp => ?_
    have := List.all_eq_true.1 hf p hp
    simpa [Nat.ble_eq] using this
  · have e : AS.app ⟨tm, hp, gn, us, L⟩ (callInf ⟨tm, hp, gn, us, L⟩ (args.flatMap snV) D Z id res rows) o = ⟨upd tm t nv, updL hp (backU hp D rows ++ (Z.map fun z => (z, none)) ++ nr.map (fun p => (p.1, some p.2))), gn, nr.map (·.1) ++ us, L⟩ := by
      unfold AS.app callInf
      rw [hopn, hd, zf5 (zy4 ht)]
    rw [e]
    exact h
end
section
variable {P : Program} {hp hp' : Nat → Option Row}
theorem zm2 : clL hp [] = some ([], hp) := rfl
theorem zd2 {c : AC} {r r' : List AC} (h : clo c = true) (k : clL hp r = some (r', hp')) : clL hp (c :: r) = some (c :: r', hp') := by
  have : clC hp c = some (c, hp) := by
    unfold clC
    split
    · simp [clo] at h
    · exact if_pos h
  simp only [clL, this, Option.bind_some, k, Option.map_some]
theorem zs7 {i n : Nat} {rw : Row} {r r' : List AC} (hr : hp i = some rw) (hb : rw.box = false) (hn : rw.n = n) (hc : cloL rw.cs = true) (k : clL (upd hp i none) r = some (r', hp')) : clL hp (.sl i n :: r) = some (.ow rw.T n rw.k rw.cs :: r', hp') := by
  have : clC hp (.sl i n) = some (.ow rw.T n rw.k rw.cs, upd hp i none) := by
    unfold clC
    simp only [hr]
    exact if_pos ⟨hb, hn, hc⟩
  simp only [clL, this, Option.bind_some, k, Option.map_some]
theorem zm3 {l l' : List AC} (h : clL hp l = some (l', hp')) : clV hp (.ag l) = some (.ag l', hp') := by simp only [clV, h, Option.map_some]
theorem zc11 {c c' : AC} (h : clL hp [c] = some ([c'], hp')) : clV hp (.c c) = some (.c c', hp') := by
  simp only [clL, Option.bind_eq_some_iff, Option.map_eq_some_iff] at h
  obtain ⟨⟨q, hp1⟩, h1, ⟨r, hp2⟩, h2, h3⟩ := h
  simp only [Option.some.injEq, Prod.mk.injEq] at h2
  obtain ⟨rfl, rfl⟩ := h2
  simp only [Prod.mk.injEq, List.cons.injEq, and_true] at h3
  obtain ⟨rfl, rfl⟩ := h3
  simp only [clV, h1, Option.map_some]
theorem zj2 : clVL hp [] = some ([], hp) := rfl
theorem zf1 {x x' : AV} {r r' : List AV} {hp1 : Nat → Option Row} (h : clV hp x = some (x', hp1)) (k : clVL hp1 r = some (r', hp')) : clVL hp (x :: r) = some (x' :: r', hp') := by simp only [clVL, h, Option.bind_some, k, Option.map_some]
theorem zn3 {l l' : List AV} (h : clVL hp l = some (l', hp')) : clV hp (.tu l) = some (.tu l', hp') := by simp only [clV, h, Option.map_some]
theorem ret0 {fn : Func} {Post : AV → List (List AC) → Prop} {σ : AS} {l : List AV} {x : AV} (h1 : resL P σ.hp σ.tm fn.results.toList = some l) (h2 : clV σ.hp (joinAV l) = some (x, hp')) (h3 : Post x []) : retQ P fn [] Post σ :=
  ⟨l, x, hp', [], h1, h2, rfl, fun i cs h => by simp at h, h3⟩
theorem ret1 {fn : Func} {Post : AV → List (List AC) → Prop} {σ : AS} {l : List AV} {x : AV} {p : List AC} {rw : Row} (h1 : resL P σ.hp σ.tm fn.results.toList = some l) (h2 : clV σ.hp (joinAV l) = some (x, hp')) (hr : hp' 0 = some rw) (hc : cloL rw.cs = true) (hl : rw.cs.length = p.length) (h3 : Post x [rw.cs]) : retQ P fn [p] Post σ :=
  ⟨l, x, hp', [rw.cs], h1, h2, rfl, fun i cs h => by
    rcases i with _ | i
    · simp only [List.getElem?_cons_zero, Option.some.injEq] at h
      subst h
      exact ⟨hc, ⟨rw, hr, rfl⟩, p, rfl, hl⟩
    · simp at h, h3⟩
theorem za2 {f : FuncId} {fn : Func} {c : Code} {ins : List AV} {pars : List (List AC)} {res : AV} {rows : List (List AC)} (hf : P.funcs[f]? = some fn) (hb : fn.body = some c) (hn : (fn.name == "runtime.NumGoroutine") = false)
    (h : AWp P c (bodyQ P fn pars fun r c => r = res ∧ c = rows) (σ0 ins pars fn.ntmps)) : Ctr P f ins pars res rows :=
  ⟨by unfold entB; rw [hf]; simp [hn, hb], zx11 hf hb h⟩
end
section
variable {P : Program} {ops : Array Oper} {Q : Exit → Act → World → Prop} {C : Ctx} {H : List (Nat × Oper × Inf)} {i : Nat} {r : List Nat} {o : Oper} {dr : Bool}
variable {tm : Nat → AV} {hp : Nat → Option Row} {gn L : Nat} {us : List Nat} {x : AV}
theorem v_gr {t : Nat} {rw : Row} (hop : ops[i]? = some o) (hd : o.dst = some t) (ht : Nat.blt t L = true) (hg : gw ops tm o = some true) (hf : (Nat.ble gn t && !us.contains t) = true) (he : EffD P o (AS.ev ⟨tm, hp, gn, us, L⟩) hp t = some (x, .gr t rw))
    (hc : chk dr ops i o ⟨fpO (AS.ev ⟨tm, hp, gn, us, L⟩) o, [(t, some rw)], [t], x⟩ H = true) (h : Walk P ops Q C dr (keepH dr (i, o, ⟨fpO (AS.ev ⟨tm, hp, gn, us, L⟩) o, [(t, some rw)], [t], x⟩) H) r ⟨upd tm t x, upd hp t (some rw), gn, t :: us, L⟩) : Walk P ops Q C dr H (i :: r) ⟨tm, hp, gn, us, L⟩ := w_gr t hop hd ht hg hf he hc h
theorem v_mv {t : Nat} {j : Nat} {rw : Row} (hop : ops[i]? = some o) (hd : o.dst = some t) (ht : Nat.blt t L = true) (hg : gw ops tm o = some true) (hf : (Nat.ble gn t && !us.contains t) = true) (he : EffD P o (AS.ev ⟨tm, hp, gn, us, L⟩) hp t = some (x, .mv j t rw))
    (hc : chk dr ops i o ⟨fpO (AS.ev ⟨tm, hp, gn, us, L⟩) o, [(j, none), (t, some rw)], [t], x⟩ H = true) (h : Walk P ops Q C dr (keepH dr (i, o, ⟨fpO (AS.ev ⟨tm, hp, gn, us, L⟩) o, [(j, none), (t, some rw)], [t], x⟩) H) r ⟨upd tm t x, upd (upd hp j none) t (some rw), gn, t :: us, L⟩) : Walk P ops Q C dr H (i :: r) ⟨tm, hp, gn, us, L⟩ := w_mv t hop hd ht hg hf he hc h
theorem v_app {t j n m k nm : Nat} {rw : Row} {e T T2 : TypeId} {xo yo : Operand} {ys zs : List AC} (hop : ops[i]? = some o) (ho : o.op = .call ⟨.builtin .append, #[xo, yo], #[T, T2]⟩) (hd : o.dst = some t) (ht : Nat.blt t L = true) (hg : gw ops tm o = some true) (hf : (Nat.ble gn t && !us.contains t) = true)
    (hx : AS.ev ⟨tm, hp, gn, us, L⟩ xo = .c (.sl j n)) (hr : hp j = some rw) (hT : appB P T T2 = some (e, k)) (hy : srcOf hp k (AS.ev ⟨tm, hp, gn, us, L⟩ yo) = some (m, ys)) (hnu : ys.all noUn = true) (hr1 : rw.T = e) (hr2 : rw.k = k) (hr3 : rw.n = n) (hr4 : rw.box = false) (hsz : n + m ≤ 4294967296) (hnm : n + m = nm) (hz : rw.cs ++ ys = zs)
    (hc : chk dr ops i o ⟨fpO (AS.ev ⟨tm, hp, gn, us, L⟩) o, [(j, none), (t, some ⟨e, k, nm, false, zs⟩)], [t], .c (.sl t nm)⟩ H = true)
    (h : Walk P ops Q C dr (keepH dr (i, o, ⟨fpO (AS.ev ⟨tm, hp, gn, us, L⟩) o, [(j, none), (t, some ⟨e, k, nm, false, zs⟩)], [t], .c (.sl t nm)⟩) H) r ⟨upd tm t (.c (.sl t nm)), upd (upd hp j none) t (some ⟨e, k, nm, false, zs⟩), gn, t :: us, L⟩) : Walk P ops Q C dr H (i :: r) ⟨tm, hp, gn, us, L⟩ := by
  subst hnm hz
  exact w_app t hop ho hd ht hg hf hx hr hT hy hnu hr1 hr2 hr3 hr4 hsz hc h
theorem zc23 {t m k : Nat} {e T T2 : TypeId} {xo yo : Operand} {ys : List AC} (hop : ops[i]? = some o) (ho : o.op = .call ⟨.builtin .append, #[xo, yo], #[T, T2]⟩) (hd : o.dst = some t) (ht : Nat.blt t L = true) (hg : gw ops tm o = some true) (hf : (Nat.ble gn t && !us.contains t) = true)
    (hx : AS.ev ⟨tm, hp, gn, us, L⟩ xo = .c (.v (.slice none 0 0))) (hT : appB P T T2 = some (e, k)) (hy : srcOf hp k (AS.ev ⟨tm, hp, gn, us, L⟩ yo) = some (m, ys)) (hnu : ys.all noUn = true) (hsz : m ≤ 4294967296)
    (hc : chk dr ops i o ⟨fpO (AS.ev ⟨tm, hp, gn, us, L⟩) o, [(t, some ⟨e, k, m, false, ys⟩)], [t], .c (.sl t m)⟩ H = true)
    (h : Walk P ops Q C dr (keepH dr (i, o, ⟨fpO (AS.ev ⟨tm, hp, gn, us, L⟩) o, [(t, some ⟨e, k, m, false, ys⟩)], [t], .c (.sl t m)⟩) H) r ⟨upd tm t (.c (.sl t m)), upd hp t (some ⟨e, k, m, false, ys⟩), gn, t :: us, L⟩) : Walk P ops Q C dr H (i :: r) ⟨tm, hp, gn, us, L⟩ :=
  zb23 t hop ho hd ht hg hf hx hT hy hnu hsz hc h
end
theorem zb {Q : Exit → AS → Prop} {P : Program} {id : Nat} {ops : Array Oper} {σ : AS} (h : ∀ C, Walk P ops (fun e a w => ∃ σ', Q e σ' ∧ Sim C σ' a w) C false [] (List.range ops.size) σ) : AWp P (.region id ops false) Q σ := zn9 (fun h => by cases h) h
theorem za1 {Q : Exit → AS → Prop} {P : Program} {id : Nat} {ops : Array Oper} {σ : AS} (h1 : P.follows .mixedOrders = true) (h2 : backB .any ops = true) (h : ∀ C, Walk P ops (fun e a w => ∃ σ', Q e σ' ∧ Sim C σ' a w) C true [] (List.range ops.size) σ) : AWp P (.region id ops true) Q σ := zn9 (fun _ => ⟨h1, h2⟩) h
def catP (k : Nat) : Nat → List (Nat × AV) → Option (List AC)
  | _, [] => some []
  | i, (j, x) :: r => match x.cells, catP k (i + 1) r with
    | some xs, some ys => if (Nat.beq i j && Nat.beq xs.length k) = true then some (xs ++ ys) else none
    | _, _ => none
theorem ze13 {k : Nat} : ∀ {parts : List (Nat × AV)} {i : Nat} {pre rest ys : List AC}, catP k i parts = some ys → pre.length = i * k → rest.length = parts.length * k → aFill (fun j => some (j * k, k)) (pre ++ rest) parts = some (pre ++ ys)
  | [], i, pre, rest, ys, h, hp, hr => by
    simp only [catP, Option.some.injEq] at h
    subst h
    have : rest = [] := List.eq_nil_of_length_eq_zero (by simpa using hr)
    subst this
    rfl
  | (j, x) :: r, i, pre, rest, ys, h, hp, hr => by
    simp only [catP] at h
    split at h
    · rename_i xs zs hx hz
      split at h
      · rename_i hc
        simp only [Bool.and_eq_true, Nat.beq_eq] at hc
        obtain ⟨rfl, hl⟩ := hc
        injection h with h
        subst h
        simp only [aFill, hx]
        have hrl : rest.length = k + r.length * k := by rw [hr, List.length_cons, Nat.add_mul]; omega
        rw [if_pos ⟨hl, by rw [List.length_append, hp]; omega⟩]
        have e : spl (pre ++ rest) (i * k) xs = (pre ++ xs) ++ rest.drop k := by
          unfold spl
          rw [← hp, List.take_left, hl, List.drop_append, List.drop_eq_nil_of_le (by omega), List.nil_append, Nat.add_sub_cancel_left]
        rw [e, ze13 hz (by rw [List.length_append, hp, hl, Nat.add_mul]; omega) (by rw [List.length_drop, hrl]; omega), List.append_assoc]
      · cases h
    · cases h
def sliT (P : Program) (T : TypeId) : Option (TypeId × Nat) :=
  match P.underlying T with
  | some (.slice e) => match P.info? e with | some i => if i.zero.isSome = true then some (e, i.size) else none | none => none
  | _ => none
section
variable {P : Program} {ops : Array Oper} {Q : Exit → Act → World → Prop} {C : Ctx} {H : List (Nat × Oper × Inf)} {i : Nat} {r : List Nat} {o : Oper} {dr : Bool}
variable {tm : Nat → AV} {hp : Nat → Option Row} {gn L : Nat} {us : List Nat} {x : AV}
theorem v_bs {t n k : Nat} {T e : TypeId} {parts : Array (Nat × Operand)} {zs : List AC} (hop : ops[i]? = some o) (ho : o.op = .buildSlice T n parts) (hd : o.dst = some t) (ht : Nat.blt t L = true) (hg : gw ops tm o = some true) (hf : (Nat.ble gn t && !us.contains t) = true)
    (hT : sliT P T = some (e, k)) (hz : catP k 0 (parts.toList.map fun p => (p.1, AS.ev ⟨tm, hp, gn, us, L⟩ p.2)) = some zs) (hn : n = parts.toList.length) (hb : (Nat.ble (n * k) 16777216 && Nat.ble n 16777216) = true)
    (hc : chk dr ops i o ⟨fpO (AS.ev ⟨tm, hp, gn, us, L⟩) o, [(t, some ⟨e, k, n, false, zs⟩)], [t], .c (.sl t n)⟩ H = true)
    (h : Walk P ops Q C dr (keepH dr (i, o, ⟨fpO (AS.ev ⟨tm, hp, gn, us, L⟩) o, [(t, some ⟨e, k, n, false, zs⟩)], [t], .c (.sl t n)⟩) H) r ⟨upd tm t (.c (.sl t n)), upd hp t (some ⟨e, k, n, false, zs⟩), gn, t :: us, L⟩) : Walk P ops Q C dr H (i :: r) ⟨tm, hp, gn, us, L⟩ := by
  refine w_gr t hop hd ht hg hf ?_ hc h
  unfold sliT at hT
  split at hT
  · rename_i e' h1
    split at hT
    · rename_i inf h2
      split at hT
      · rename_i h3
        obtain ⟨z, hz'⟩ := Option.isSome_iff_exists.1 h3
        injection hT with hT
        injection hT with e1 e2
        subst e1 e2
        unfold EffD
        rw [ho]
        simp only []
        unfold dBuildSlice
        simp only [h1, h2, hz']
        simp only [Bool.and_eq_true, Nat.ble_eq] at hb
        have := ze13 (pre := []) (rest := (madeCells z.cells (n * inf.size)).toList.map ofC) hz (by simp) (by rw [List.length_map, Array.length_toList, size_madeCells, hn, List.length_map])
        rw [List.nil_append, List.nil_append] at this
        rw [this]
        exact if_pos hb
      · cases hT
    · cases hT
  · cases hT
end
theorem zp1 {z : Int} (h0 : 0 ≤ z) (h : z ≤ 9223372036854775807) : IntKind.i64.wrap z = z := by
  rw [IntKind.wrap_i64]; omega
def Gh (σ τ : AS) : Prop := ∀ C a w, Sim C σ a w → Sim C τ a w
theorem Gh.refl (σ : AS) : Gh σ σ := fun _ _ _ h => h
theorem Gh.trans {σ τ υ : AS} (h : Gh σ τ) (k : Gh τ υ) : Gh σ υ := fun C a w hs => k C a w (h C a w hs)
section
variable {P : Program} {Q : Exit → AS → Prop} {σ : AS}
theorem zf13 {c : Code} {τ : AS} (hg : Gh σ τ) (h : AWp P c Q τ) : AWp P c Q σ := za16 hg h
theorem zb3 {c : Code} {α : Type} (st : α → AS) (I : Nat → α → Prop) (n : Nat) (d : α) (h0 : I n d) (hg : Gh σ (st d))
    (round : ∀ n d, I n d → AWp P c (thenA (fun σ' => ∃ m d', m < n ∧ I m d' ∧ Gh σ' (st d')) Q) (st d)) : AWp P (.loop c) Q σ := by
  refine zf13 hg ?_
  intro C a w hs b k cs
  have key : ∀ (n : Nat) (d : α) (a : Act) (w : World), I n d → Sim C (st d) a w →
      ∃ e a' w', (∃ σ', Q e σ' ∧ Sim C σ' a' w') ∧ Arrives P (lone (b.at a (.code c :: .inLoop c :: k)) cs w) b k cs e a' w' := by
    intro n
    induction n using Nat.strongRecOn with
    | _ n ih =>
      intro d a w hI hs
      obtain ⟨e, a₁, w₁, ⟨σ', h1, h2⟩, harr⟩ := round n d hI C a w hs b (.inLoop c :: k) cs
      cases e with
      | normal =>
        obtain ⟨m, d', hlt, hI', hg'⟩ := h1
        obtain ⟨e₂, a₂, w₂, hq₂, harr₂⟩ := ih m hlt d' a₁ w₁ hI' (hg' C _ _ h2)
        exact ⟨e₂, a₂, w₂, hq₂, .of_steps (Steps.trans harr (.one step_inLoop)) harr₂⟩
      | exit id => exact ⟨_, a₁, w₁, ⟨σ', h1, h2⟩, .pass (x := .inLoop c) rfl (fun _ _ => .inl (by simp)) harr⟩
      | goto l => exact ⟨_, a₁, w₁, ⟨σ', h1, h2⟩, .pass (x := .inLoop c) rfl (fun _ _ => .inl (by simp)) harr⟩
      | ret => exact ⟨_, a₁, w₁, ⟨σ', h1, h2⟩, .pass (x := .inLoop c) rfl (fun _ _ => .inl (by simp)) harr⟩
      | panic ch => exact ⟨_, a₁, w₁, ⟨σ', h1, h2⟩, .pass (x := .inLoop c) rfl (fun _ _ => .inl (by simp)) harr⟩
      | outgrown => exact ⟨_, a₁, w₁, ⟨σ', h1, h2⟩, .pass (x := .inLoop c) rfl (fun _ _ => .inl (by simp)) harr⟩
  obtain ⟨e, a', w', hq, harr⟩ := key n d a w h0 hs
  exact ⟨e, a', w', hq, .of_steps (.one step_loop) harr⟩
theorem ze2 {tm : Nat → AV} {hp : Nat → Option Row} {gn L : Nat} {us us' : List Nat} (tms : List (Nat × AV)) (rows : RL) (hu : rows.map (·.1) = us') (hb : tidyB gn rows = true) (ht : TmOk (ρN gn rows) tm tms) (hr : RwOk (ρN gn rows) hp rows) : Gh ⟨tm, hp, gn, us, L⟩ ⟨tmsF tms, hpsF rows, gn, us', L⟩ := by
  subst hu
  exact fun _ _ _ hs => zm18 hs tms rows hb ht hr
theorem zg13 (ren : Nat → Nat) : ∀ rows : RL, hpsF (rows.map fun p => (p.1, ren p.1, p.2.2)) = hpsF rows
  | [] => rfl
  | (j, i, s) :: l => by simp only [List.map_cons, hpsF]; rw [zg13 ren l]
theorem zb6 (ren : Nat → Nat) {tm : Nat → AV} {hp : Nat → Option Row} {gn L : Nat} {us us' : List Nat} (tms : List (Nat × AV)) (rows : RL) (hu : rows.map (·.1) = us') (hb : tidyB gn (rows.map fun p => (p.1, ren p.1, p.2.2)) = true) (ht : TmOk (ρN gn (rows.map fun p => (p.1, ren p.1, p.2.2))) tm tms) (hr : RwOk (ρN gn (rows.map fun p => (p.1, ren p.1, p.2.2))) hp (rows.map fun p => (p.1, ren p.1, p.2.2))) : Gh ⟨tm, hp, gn, us, L⟩ ⟨tmsF tms, hpsF rows, gn, us', L⟩ := by
  have := ze2 (L := L) (us := us) tms _ rfl hb ht hr
  rw [zg13] at this
  have e : (rows.map fun p => (p.1, ren p.1, p.2.2)).map (·.1) = us' := by rw [List.map_map]; exact hu
  rw [e] at this
  exact this
end
theorem TmOk.cons {ρ : Nat → Option Nat} {tm : Nat → AV} {t : Nat} {x : AV} {l : List (Nat × AV)} (h : rnV ρ (tm t) = some x) (k : TmOk ρ tm l) : TmOk ρ tm ((t, x) :: l) := ⟨h, k⟩
theorem TmOk.nil {ρ : Nat → Option Nat} {tm : Nat → AV} : TmOk ρ tm [] := trivial
theorem RwOk.cons {ρ : Nat → Option Nat} {hp : Nat → Option Row} {j i : Nat} {s : Row} {l : RL} (h : ∃ r, hp i = some r ∧ ((cloL r.cs = true ∧ s = r) ∨ ∃ cs, rnL ρ r.cs = some cs ∧ s = { r with cs := cs })) (k : RwOk ρ hp l) : RwOk ρ hp ((j, i, s) :: l) := ⟨h, k⟩
theorem RwOk.nil {ρ : Nat → Option Nat} {hp : Nat → Option Row} : RwOk ρ hp [] := trivial
def cloV : AV → Bool
  | .c x => clo x
  | .ag l => cloL l
  | .tu _ => false
mutual
theorem zf20 {ρ : Nat → Option Nat} : ∀ c : AC, clo c = true → rnC ρ c = some c
  | .v x, _ => rfl
  | .ro n k l, h => by simp only [clo] at h; simp [rnC, h]
  | .ow T n k l, h => by simp only [clo] at h; simp [rnC, h]
  | .sl i n, h => by simp [clo] at h
  | .pt i o, h => by simp [clo] at h
  | .rp l o, h => by simp only [clo] at h; simp [rnC, h]
  | .fn f c, h => by simp only [clo] at h; simp [rnC, zd11 c h]
  | .bx T l, h => by simp only [clo] at h; simp [rnC, h]
  | .un, _ => rfl
  | .nn, _ => rfl
theorem zd11 {ρ : Nat → Option Nat} : ∀ l : List AC, cloL l = true → rnL ρ l = some l
  | [], _ => rfl
  | c :: r, h => by simp only [cloL, Bool.and_eq_true] at h; simp only [rnL, zf20 c h.1, zd11 r h.2]
end
theorem zd23 {ρ : Nat → Option Nat} {x : AV} (h : cloV x = true) : rnV ρ x = some x := by
  cases x with
  | c x => simp only [rnV, zf20 x h, Option.map_some]
  | ag l => simp only [rnV, zd11 l h, Option.map_some]
  | tu l => cases h
theorem rnV_id' {ρ : Nat → Option Nat} {x y : AV} (h : x = y) (k : cloV y = true) : rnV ρ x = some y := by subst h; exact zd23 k
theorem zk2 {ρ : Nat → Option Nat} {kd : IntKind} {z z' : Int} (h : z = z') : rnV ρ (.c (.v (.int kd z))) = some (.c (.v (.int kd z'))) := by subst h; rfl
theorem ze1 {ρ : Nat → Option Nat} {y : Option Row} {s : Row} (h : y = some s) (hc : cloL s.cs = true) : ∃ r, y = some r ∧ ((cloL r.cs = true ∧ s = r) ∨ ∃ cs, rnL ρ r.cs = some cs ∧ s = { r with cs := cs }) := ⟨s, h, .inl ⟨hc, rfl⟩⟩
theorem rw_rn' {ρ : Nat → Option Nat} {y : Option Row} {r s : Row} {cs : List AC} (h : y = some r) (hc : rnL ρ r.cs = some cs) (e : s = { r with cs := cs }) : ∃ r', y = some r' ∧ ((cloL r'.cs = true ∧ s = r') ∨ ∃ cs', rnL ρ r'.cs = some cs' ∧ s = { r' with cs := cs' }) := ⟨r, h, .inr ⟨cs, hc, e⟩⟩
theorem zg12 {ρ : Nat → Option Nat} {y : Option Row} {r s : Row} (h : y = some r) (e : r = s) (hc : cloL s.cs = true) : ∃ r, y = some r ∧ ((cloL r.cs = true ∧ s = r) ∨ ∃ cs, rnL ρ r.cs = some cs ∧ s = { r with cs := cs }) := ⟨r, h, .inl ⟨by rw [e]; exact hc, e.symm⟩⟩
theorem zg3 {ρ : Nat → Option Nat} {y : Option Row} {r : Row} {cs : List AC} (h : y = some r) (hc : rnL ρ r.cs = some cs) : ∃ r', y = some r' ∧ ((cloL r'.cs = true ∧ ({ r with cs := cs } : Row) = r') ∨ ∃ cs', rnL ρ r'.cs = some cs' ∧ ({ r with cs := cs } : Row) = { r' with cs := cs' }) := ⟨r, h, .inr ⟨cs, hc, rfl⟩⟩
section
variable {P : Program} {w : World} {φ : Nat → Lc} {K : Nat → Prop}
end
section
variable {P : Program} {w : World}
theorem zj16 {f : FuncId} {ins : List AV} {res : AV} (h : Ctr P f ins [] res []) {us : List Value} (hin : VRL w (fun b => b < w.heap.size) φ0 K0 ins us) (gw : Gl w := by (first | assumption | exact gl_any _ | exact Gl.below_ gl0 (by exact (by repeat (first | (with_reducible refine Below.setCell ?_ (by first | omega | (· simp) | (· (simp; omega))) _) | (with_reducible refine Below.alloc ?_ (by first | omega | (· simp) | (· (simp; omega))) _) | (with_reducible refine Below.drew ?_) | (with_reducible refine zv14 ?_ _) | (with_reducible exact Below.refl _ _) | (with_reducible assumption) | (with_reducible refine Below.trans ?_ (Below.mono (by assumption) (by first | omega | (· simp) | (· (simp; omega))))) | (with_reducible refine Below.trans ?_ (Kp.below (by assumption) (by first | omega | (· simp) | (· (simp; omega))) (by first | omega | (· simp) | (· (simp; omega)))))))))) :
    Calls P f us.toArray w fun r w' => ∃ u St G, r = .returned u ∧ VRF w' St φ0 K0 res u G ∧ G.Nodup ∧ (∀ b ∈ G, w.heap.size ≤ b) ∧ Below w.heap.size w w' := by
  have hent : Ent w (fun b => b < w.heap.size) φ0 (fun _ => []) ins us [] := by
    refine ⟨?_, fun i cs hi => by simp at hi, fun i hi => by simp at hi, fun i j hi => by simp at hi, fun i j b lo hi => by simp at hi, fun i j b lo lo' ci cj hi => by simp at hi, fun i b hi => by simp at hi, fun i b lo hi => by simp at hi, gw, fun b _ => ⟨fun ⟨i, hi, _⟩ => by simp at hi, fun o ⟨i, lo, cs, hi, _⟩ => by simp at hi⟩⟩
    have : K0 = fun i => i < ([] : List (List AC)).length := by funext i; simp [K0]
    rw [← this]; exact hin
  refine (h.2 w _ _ _ _ hent).mono ?_
  rintro e w' ⟨res', rows, u, St', F', G, ⟨rfl, rfl⟩, rfl, hx⟩
  have nl : ∀ b, ¬ lentM (fun _ => []) ([] : List (List AC)).length b := fun b ⟨i, hi, _⟩ => by simp at hi
  have nr : ∀ b o, ¬ lentR φ0 [] b o := fun b o ⟨i, lo, cs, hi, _⟩ => by simp at hi
  refine ⟨u, St', G, rfl, hx.res, hx.nodG, fun b hb => (hx.own b (.inl hb)).resolve_left (nl b), hx.frm.os, hx.frm.tape, hx.frm.output, hx.frm.size, fun k hk => (hx.frm.blk k hk (nl k)).same (nr k)⟩
end
section
variable {P : Program} {w : World} {φ : Nat → Lc} {K : Nat → Prop}
end
def CLe (l m : List AC) : Prop := m.length = l.length ∧ ∀ (w : World) (St : Nat → Prop) (φ : Nat → Lc) (K : Nat → Prop) (us : List Value) (fp : List Nat), CRL w St φ K l us fp → CRL w St φ K m us fp
theorem CLe.refl (l : List AC) : CLe l l := ⟨rfl, fun _ _ _ _ _ _ h => h⟩
theorem CLe.cons (c : AC) {l m : List AC} (h : CLe l m) : CLe (c :: l) (c :: m) := ⟨by simp [h.1], fun w St φ K us fp hc => by
  simp only [CRL] at hc
  obtain ⟨u, us', f, f', rfl, rfl, h1, h2⟩ := hc
  exact CRL.cons h1 (h.2 w St φ K us' f' h2)⟩
theorem CLe.nil (T : TypeId) (k : Nat) {l m : List AC} (h : CLe l m) : CLe (.v (.slice none 0 0) :: l) (.ow T 0 k [] :: m) := ⟨by simp [h.1], fun w St φ K us fp hc => by
  simp only [CRL, CR] at hc
  obtain ⟨u, us', f, f', rfl, rfl, ⟨rfl, _, rfl⟩, h2⟩ := hc
  refine CRL.cons (f := []) ?_ (h.2 w St φ K us' f' h2)
  simp only [CR]
  exact ⟨[], [], CRL.nil, World.ownsRow_nil w 0 T k, by simp [obl, Value.ownBlock]⟩⟩
theorem CLe.app {l m l' m' : List AC} (h : CLe l m) (k : CLe l' m') : CLe (l ++ l') (m ++ m') := ⟨by simp [h.1, k.1], fun w St φ K us fp hc => by
  obtain ⟨u1, u2, f1, f2, rfl, rfl, g1, g2⟩ := hc.split
  exact (h.2 _ _ _ _ _ _ g1).app (k.2 _ _ _ _ _ _ g2)⟩
section
variable {C : Ctx} {φ : Nat → Lc} {F : Nat → List Nat} {St : Nat → Prop} {σ : AS} {a : Act} {w : World}
theorem SimF.cells (h : SimF C φ F St σ a w) {i : Nat} {r : Row} (hr : σ.hp i = some r) {cs : List AC} (hc : CLe r.cs cs) : SimF C φ F St { σ with hp := upd σ.hp i (some { r with cs := cs }) } a w := by
  have get : ∀ j s, upd σ.hp i (some { r with cs := cs }) j = some s → ∃ s', σ.hp j = some s' ∧ s.cs.length = s'.cs.length ∧ (s = s' ∨ (j = i ∧ s' = r ∧ s = { r with cs := cs })) := fun j s hj => by
    by_cases e : j = i
    · subst e; rw [zg2] at hj; injection hj with hj; subst hj; exact ⟨r, hr, hc.1, .inr ⟨rfl, rfl, rfl⟩⟩
    · rw [za3 _ _ e] at hj; exact ⟨s, hj, rfl, .inl rfl⟩
  refine ⟨h.dfr, h.len, h.tms, fun j s hj => ?_, fun j s hj => ?_, fun j k s t hj hk => ?_, fun j k s t b lo hj hk => ?_, fun j k s t b lo lo' hj hk hjk e e' => ?_, fun j s b hj => ?_, fun j s b lo hj => ?_, h.frm, fun j s b hj => ?_, fun j hj => ⟨(h.par j hj).1, fun s hs q hq => ?_⟩, fun j s b lo hj => ?_, h.gnN, h.stS⟩
  · obtain ⟨s', h1, _, rfl | ⟨rfl, rfl, rfl⟩⟩ := get j s hj
    · exact h.row j s h1
    · refine ⟨(h.row j s' h1).1, ?_⟩
      have hrow := (h.row j s' h1).2
      show RowOk w St φ σ.Kn _ (F j) (φ j)
      cases e : φ j with
      | box b lo => rw [e] at hrow; obtain ⟨g0, us, g1, g2⟩ := hrow; exact ⟨g0, us, hc.2 _ _ _ _ _ _ g1, g2⟩
      | slc u => rw [e] at hrow; obtain ⟨g0, us, fs, g1, g2, g3⟩ := hrow; exact ⟨g0, us, fs, hc.2 _ _ _ _ _ _ g1, g2, g3⟩
  · obtain ⟨s', h1, _⟩ := get j s hj; exact h.nod j s' h1
  · obtain ⟨s', h1, _⟩ := get j s hj; obtain ⟨t', h2, _⟩ := get k t hk; exact h.dis j k s' t' h1 h2
  · obtain ⟨s', h1, _⟩ := get j s hj; obtain ⟨t', h2, _⟩ := get k t hk; exact h.bxF j k s' t' b lo h1 h2
  · obtain ⟨s', h1, e1, _⟩ := get j s hj; obtain ⟨t', h2, e2, _⟩ := get k t hk; rw [e1, e2]; exact h.bxd j k s' t' b lo lo' h1 h2 hjk e e'
  · obtain ⟨s', h1, _⟩ := get j s hj; exact h.stF j s' b h1
  · obtain ⟨s', h1, _⟩ := get j s hj; exact h.stB j s' b lo h1
  · obtain ⟨s', h1, _⟩ := get j s hj; exact h.own j s' b h1
  · obtain ⟨s', h1, e1, _⟩ := get j s hs; exact (h.par j hj).2 s' h1 q (by rw [← e1]; exact hq)
  · obtain ⟨s', h1, _⟩ := get j s hj; exact h.new j s' b lo h1
end
section
variable {tm : Nat → AV} {hp : Nat → Option Row} {gn L : Nat} {us : List Nat}
end
section
variable {hp : Nat → Option Row} {D : List Nat}
theorem zh5 : List.map (cvV hp D) [] = [] := rfl
theorem zn4 {x y : AV} {r r' : List AV} (h : cvV hp D x = y) (k : List.map (cvV hp D) r = r') : List.map (cvV hp D) (x :: r) = y :: r' := by rw [List.map_cons, h, k]
theorem cv_c {c c' : AC} (h : cvC hp D c = c') : cvV hp D (.c c) = .c c' := by rw [cvV, h]
theorem zv8 {l l' : List AC} (h : cvL hp D l = l') : cvV hp D (.ag l) = .ag l' := by rw [cvV, h]
theorem zo4 {c c' : AC} {r r' : List AC} (h : cvC hp D c = c') (k : cvL hp D r = r') : cvL hp D (c :: r) = c' :: r' := by rw [cvL, h, k]
theorem zc6 {n k : Nat} {l : List AC} (h : cloL l = true) : cvC hp D (.ro n k l) = .ro n k l := by rw [cvC, if_pos h]
theorem zd6 {o : Nat} {l : List AC} (h : cloL l = true) : cvC hp D (.rp l o) = .rp l o := by rw [cvC, if_pos h]
theorem ze6 {f : FuncId} {c c' : List AC} (h : cvL hp D c = c') : cvC hp D (.fn f c) = .fn f c' := by rw [cvC, h]
theorem cvC_sl {i n : Nat} {rw : Row} {l : List AC} (hr : hp i = some rw) (hb : rw.box = false) (hn : rw.n = n) (hc : cloL rw.cs = true) (hl : toRoL rw.cs = l) : cvC hp D (.sl i n) = .ro n rw.k l := by
  simp only [cvC, hr]
  rw [if_pos ⟨hb, hn, hc⟩, hl]
end
section
variable {P : Program} {ops : Array Oper} {Q : Exit → Act → World → Prop} {C : Ctx} {H : List (Nat × Oper × Inf)} {i : Nat} {r : List Nat} {o : Oper} {dr : Bool}
variable {tm : Nat → AV} {hp : Nat → Option Row} {gn L : Nat} {us : List Nat} {x : AV}
theorem zg20 (id : Nat) {t : Nat} {c : Call} {fv : Operand} {f : FuncId} {caps : List AC} {args ins : List AV} {res : AV} (hctr : Ctr P f ins [] res []) (hop : ops[i]? = some o) (hoc : o.op = .call c) (hcal : c.callee = .value fv) (hd : o.dst = some t) (ht : Nat.blt t L = true) (hg : gw ops tm o = some true)
    (hfv : AS.ev ⟨tm, hp, gn, us, L⟩ fv = .c (.fn f caps)) (hargs : callArgs ⟨tm, hp, gn, us, L⟩ c caps = args) (hcv : args.map (cvV hp []) = ins) (hm : rofrV res = true)
    {nv : AV} {nr : List (Nat × Row)} (hopn : opV id res = (nv, nr)) (hf : (nr.all fun p => Nat.ble gn p.1 && !us.contains p.1) = true)
    (hc : chk dr ops i o ⟨args.flatMap snV ++ [], nr.map (fun p => (p.1, some p.2)), nr.map (·.1), nv⟩ H = true)
    (h : Walk P ops Q C dr (keepH dr (i, o, ⟨args.flatMap snV ++ [], nr.map (fun p => (p.1, some p.2)), nr.map (·.1), nv⟩) H) r ⟨upd tm t nv, updL hp (nr.map (fun p => (p.1, some p.2))), gn, nr.map (·.1) ++ us, L⟩) : Walk P ops Q C dr H (i :: r) ⟨tm, hp, gn, us, L⟩ := by
  have e : callInf ⟨tm, hp, gn, us, L⟩ (args.flatMap snV) [] [] id res [] = ⟨args.flatMap snV ++ [], nr.map (fun p => (p.1, some p.2)), nr.map (·.1), nv⟩ := by
    unfold callInf; rw [hopn]; simp [backU]
  refine zd13 id [] [] hop hoc hcal hd ht hg hfv hargs (pars := []) rfl (by rw [hcv]; exact hctr) (by simp) rfl (.inl ⟨hm, fun c hc => absurd hc List.not_mem_nil⟩) hopn hf (by rw [e]; exact hc) ?_
  rw [e]
  simpa [backU] using h
end
theorem zb10 {l : List AC} (h : rofrL l = true) : ∀ c ∈ [l], rofrL c = true := fun c hc => by rw [List.mem_singleton] at hc; subst hc; exact h
theorem VRL_nil {w : World} {St : Nat → Prop} {φ : Nat → Lc} {K : Nat → Prop} : VRL w St φ K [] [] := by simp [VRL]
theorem VRL_cons {w : World} {St : Nat → Prop} {φ : Nat → Lc} {K : Nat → Prop} {x : AV} {u : Value} {r : List AV} {us : List Value} (h : VR w St φ K x u) (k : VRL w St φ K r us) : VRL w St φ K (x :: r) (u :: us) := by simp only [VRL]; exact ⟨u, us, rfl, h, k⟩
section
variable {P : Program} {w : World}
theorem zh21 {f : FuncId} {ins : List AV} {v : Value} (h : Ctr P f ins [] (.c (.v v)) []) {us : List Value} (hin : VRL w (fun b => b < w.heap.size) φ0 K0 ins us) (gw : Gl w := by (first | assumption | exact gl_any _ | exact Gl.below_ gl0 (by exact (by repeat (first | (with_reducible refine Below.setCell ?_ (by first | omega | (· simp) | (· (simp; omega))) _) | (with_reducible refine Below.alloc ?_ (by first | omega | (· simp) | (· (simp; omega))) _) | (with_reducible refine Below.drew ?_) | (with_reducible refine zv14 ?_ _) | (with_reducible exact Below.refl _ _) | (with_reducible assumption) | (with_reducible refine Below.trans ?_ (Below.mono (by assumption) (by first | omega | (· simp) | (· (simp; omega))))) | (with_reducible refine Below.trans ?_ (Kp.below (by assumption) (by first | omega | (· simp) | (· (simp; omega))) (by first | omega | (· simp) | (· (simp; omega)))))))))) :
    Calls P f us.toArray w fun r w' => r = .returned v ∧ Below w.heap.size w w' := by
  refine (zj16 h hin gw).mono ?_
  rintro e w' ⟨u, St, G, rfl, hr, hn, hlo, hb⟩
  simp only [VRF, CR] at hr
  exact ⟨by rw [hr.1], hb⟩
end
end Go.Proofs.YtnlgmojciplnoaaDoor
