/- The abstract machine, fifteen: regions: whatever order is drawn, what comes of them is what comes of their text's order. -/
import Derived.Test.YtfnnbjkjfoiboaaA14
namespace Go.Proofs.Ytfnnbjkjfoiboaa
open Go.RowKit

/-- The same state, however its names are listed. -/
structure AEq (σ τ : AS) : Prop where
  tm : σ.tm = τ.tm
  hp : σ.hp = τ.hp
  gn : σ.gn = τ.gn
  us : ∀ i, i ∈ σ.us ↔ i ∈ τ.us
  L : σ.L = τ.L
theorem AEq.refl (σ : AS) : AEq σ σ := ⟨rfl, rfl, rfl, fun _ => Iff.rfl, rfl⟩
theorem AEq.symm {σ τ : AS} (h : AEq σ τ) : AEq τ σ := ⟨h.tm.symm, h.hp.symm, h.gn.symm, fun i => (h.us i).symm, h.L.symm⟩
theorem AEq.kn {σ τ : AS} (h : AEq σ τ) : σ.Kn = τ.Kn := by
  funext i; unfold AS.Kn; rw [h.gn, h.us i]
theorem Sim.aeq {C : Ctx} {σ τ : AS} {a : Act} {w : World} (h : Sim C σ a w) (e : AEq σ τ) : Sim C τ a w := by
  obtain ⟨φ, F, St, h⟩ := h
  have hk := e.kn
  refine ⟨φ, F, St, h.dfr, by rw [← e.L]; exact h.len, fun t => by rw [← e.tm, ← hk]; exact h.tms t, ?_, ?_, ?_, ?_, ?_, ?_, ?_, h.frm, ?_, ?_, ?_, by rw [← e.gn]; exact h.gnN, h.stS⟩
  all_goals rw [← e.hp]
  · rw [← hk]; exact h.row
  · exact h.nod
  · exact h.dis
  · exact h.bxF
  · exact h.bxd
  · exact h.stF
  · exact h.stB
  · exact h.own
  · exact h.par
  · exact h.new
def updL (hp : Nat → Option Row) : List (Nat × Option Row) → Nat → Option Row
  | [] => hp
  | (i, r) :: l => updL (upd hp i r) l
theorem updL_none : ∀ {U : List (Nat × Option Row)} {hp : Nat → Option Row} {i : Nat}, (∀ p ∈ U, p.1 ≠ i) → updL hp U i = hp i
  | [], _, _, _ => rfl
  | (j, r) :: l, hp, i, h => by
    rw [updL, updL_none (fun p hp => h p (List.mem_cons_of_mem _ hp)), upd_ne _ _ (fun e => h (j, r) List.mem_cons_self e.symm)]
theorem updL_some : ∀ {U : List (Nat × Option Row)} {hp hp' : Nat → Option Row} {i : Nat}, (hp i = hp' i ∨ ∃ p ∈ U, p.1 = i) → updL hp U i = updL hp' U i
  | [], _, _, _, h => by
    rcases h with h | ⟨p, hp, _⟩
    · exact h
    · cases hp
  | (j, r) :: l, hp, hp', i, h => by
    rw [updL, updL]
    refine updL_some ?_
    by_cases e : i = j
    · subst e; exact .inl (by rw [upd_same, upd_same])
    · rw [upd_ne _ _ e, upd_ne _ _ e]
      rcases h with h | ⟨p, hp, h⟩
      · exact .inl h
      · rcases List.mem_cons.1 hp with rfl | hp
        · exact absurd h.symm e
        · exact .inr ⟨p, hp, h⟩
theorem updL_comm {U V : List (Nat × Option Row)} {hp : Nat → Option Row} (h : ∀ p ∈ U, ∀ q ∈ V, p.1 ≠ q.1) : updL (updL hp U) V = updL (updL hp V) U := by
  funext i
  by_cases hU : ∃ p ∈ U, p.1 = i
  · obtain ⟨p, hp1, rfl⟩ := hU
    rw [updL_none (fun q hq e => h p hp1 q hq e.symm)]
    exact updL_some (.inr ⟨p, hp1, rfl⟩)
  · have hU' : ∀ p ∈ U, p.1 ≠ i := fun p hp e => hU ⟨p, hp, e⟩
    rw [updL_none (U := U) (hp := updL hp V) hU']
    exact updL_some (.inl (updL_none hU'))
/-- What an operation looks at, and what it does. -/
structure Inf where
  fp : List Nat
  U : List (Nat × Option Row)
  N : List Nat
  x : AV
def AS.app (σ : AS) (I : Inf) (o : Oper) : AS := ({ σ with hp := updL σ.hp I.U, us := I.N ++ σ.us } : AS).put o.dst I.x
/-- States that an operation cannot tell apart. -/
structure Agr (ops : Array Oper) (o : Oper) (I : Inf) (σ τ : AS) : Prop where
  tm : ∀ t ∈ o.looksAt ops, τ.tm t = σ.tm t
  hp : ∀ i ∈ I.fp, τ.hp i = σ.hp i
  gn : τ.gn = σ.gn
  L : τ.L = σ.L
  us : ∀ n ∈ I.N, n ∉ τ.us
section
variable {P : Program} {ops : Array Oper} {Q : Exit → Act → World → Prop} {C : Ctx}
def Snd (P : Program) (ops : Array Oper) (Q : Exit → Act → World → Prop) (C : Ctx) (i : Nat) (o : Oper) (σ : AS) (I : Inf) : Prop :=
  ∀ τ a w, Agr ops o I σ τ → Sim C τ a w → ∀ K : Act → World → Prop, (∀ a' w', Sim C (τ.app I o) a' w' → K a' w') → wpOp P ops Q i K a w
def inp (ops : Array Oper) (o : Oper) (I : Inf) (p : Oper) (J : Inf) : Bool :=
  o.apart ops p && (I.U.all fun q => !J.fp.contains q.1) && (J.U.all fun q => !I.fp.contains q.1) && (I.U.all fun q => J.U.all fun q' => q.1 != q'.1) && (I.N.all fun n => !J.N.contains n)
structure Inp (ops : Array Oper) (o : Oper) (I : Inf) (p : Oper) (J : Inf) : Prop where
  l1 : ∀ d, o.dst = some d → d ∉ p.looksAt ops
  l2 : ∀ d, p.dst = some d → d ∉ o.looksAt ops
  dd : ∀ d, o.dst = some d → p.dst ≠ some d
  u1 : ∀ q ∈ I.U, q.1 ∉ J.fp
  u2 : ∀ q ∈ J.U, q.1 ∉ I.fp
  uu : ∀ q ∈ I.U, ∀ q' ∈ J.U, q.1 ≠ q'.1
  nn : ∀ n ∈ I.N, n ∉ J.N
theorem inp_to {o p : Oper} {I J : Inf} (h : inp ops o I p J = true) : Inp ops o I p J := by
  simp only [inp, Bool.and_eq_true, List.all_eq_true, Bool.not_eq_true', bne_iff_ne, ne_eq] at h
  obtain ⟨⟨⟨⟨h1, h2⟩, h3⟩, h4⟩, h5⟩ := h
  obtain ⟨g1, g2, g3⟩ := Oper.apart_spec h1
  refine ⟨g1, g3, g2, fun q hq hc => ?_, fun q hq hc => ?_, h4, fun n hn hc => ?_⟩
  · have := h2 q hq; simp at this; exact this hc
  · have := h3 q hq; simp at this; exact this hc
  · have := h5 n hn; simp at this; exact this hc
theorem Inp.symm {o p : Oper} {I J : Inf} (h : Inp ops o I p J) : Inp ops p J o I :=
  ⟨h.l2, h.l1, fun d h1 h2 => h.dd d h2 h1, h.u2, h.u1, fun q hq q' hq' e => h.uu q' hq' q hq e.symm, fun n h1 h2 => h.nn n h2 h1⟩
theorem put_fields (σ : AS) (d : Option Nat) (x : AV) : (σ.put d x).hp = σ.hp ∧ (σ.put d x).gn = σ.gn ∧ (σ.put d x).us = σ.us ∧ (σ.put d x).L = σ.L := by
  unfold AS.put
  split
  · split <;> exact ⟨rfl, rfl, rfl, rfl⟩
  · exact ⟨rfl, rfl, rfl, rfl⟩
theorem put_tm (σ : AS) (d : Option Nat) (x : AV) : (σ.put d x).tm = fun t => if d = some t ∧ t < σ.L then x else σ.tm t := by
  funext t
  unfold AS.put
  split
  · rename_i d
    split
    · rename_i hd
      show upd σ.tm d x t = _
      unfold upd
      by_cases e : t = d
      · subst e; simp [hd]
      · have : ¬ (some d = some t ∧ t < σ.L) := fun h => e (by have := h.1; injection this with h; exact h.symm)
        rw [if_neg e, if_neg this]
    · rename_i hd
      have : ¬ (some d = some t ∧ t < σ.L) := fun h => hd (by have h1 := h.1; injection h1 with h1; rw [h1]; exact h.2)
      rw [if_neg this]
  · simp
theorem app_hp (σ : AS) (I : Inf) (o : Oper) : (σ.app I o).hp = updL σ.hp I.U := (put_fields _ _ _).1
theorem app_gn (σ : AS) (I : Inf) (o : Oper) : (σ.app I o).gn = σ.gn := (put_fields _ _ _).2.1
theorem app_us (σ : AS) (I : Inf) (o : Oper) : (σ.app I o).us = I.N ++ σ.us := (put_fields _ _ _).2.2.1
theorem app_L (σ : AS) (I : Inf) (o : Oper) : (σ.app I o).L = σ.L := (put_fields _ _ _).2.2.2
theorem app_tm (σ : AS) (I : Inf) (o : Oper) : (σ.app I o).tm = fun t => if o.dst = some t ∧ t < σ.L then I.x else σ.tm t := put_tm _ _ _
theorem app_comm {σ : AS} {o p : Oper} {I J : Inf} (h : Inp ops o I p J) : AEq ((σ.app I o).app J p) ((σ.app J p).app I o) := by
  refine ⟨?_, ?_, ?_, fun i => ?_, ?_⟩
  · rw [app_tm, app_tm, app_tm, app_tm, app_L, app_L]
    funext t
    by_cases h1 : o.dst = some t ∧ t < σ.L
    · have h2 : ¬ (p.dst = some t ∧ t < σ.L) := fun h2 => h.dd t h1.1 h2.1
      rw [if_neg h2]; simp only [h1, and_self, if_true]
    · simp only [if_neg h1]
  · rw [app_hp, app_hp, app_hp, app_hp]; exact updL_comm h.uu
  · simp only [app_gn]
  · simp only [app_us, List.mem_append]; constructor <;> rintro (h | h | h) <;> simp [h]
  · simp only [app_L]
theorem app_aeq {σ τ : AS} (h : AEq σ τ) (I : Inf) (o : Oper) : AEq (σ.app I o) (τ.app I o) := by
  refine ⟨?_, ?_, ?_, fun i => ?_, ?_⟩
  · rw [app_tm, app_tm, h.tm, h.L]
  · rw [app_hp, app_hp, h.hp]
  · rw [app_gn, app_gn, h.gn]
  · rw [app_us, app_us, List.mem_append, List.mem_append, h.us]
  · rw [app_L, app_L, h.L]
theorem Agr.app {σ τ : AS} {o p : Oper} {I J : Inf} (h : Agr ops o I σ τ) (hi : Inp ops o I p J) : Agr ops o I (σ.app J p) τ := by
  refine ⟨fun t ht => (h.tm t ht).trans ?_, fun i hi' => (h.hp i hi').trans ?_, by rw [app_gn]; exact h.gn, by rw [app_L]; exact h.L, h.us⟩
  · rw [app_tm]
    have : ¬ (p.dst = some t ∧ t < σ.L) := fun h1 => hi.l2 t h1.1 ht
    simp only [if_neg this]
  · rw [app_hp]; exact (updL_none fun q hq e => hi.u2 q hq (e ▸ hi')).symm
theorem Agr.unapp {σ τ : AS} {o p : Oper} {I J : Inf} (h : Agr ops o I (σ.app J p) τ) (hi : Inp ops o I p J) : Agr ops o I σ τ := by
  refine ⟨fun t ht => (h.tm t ht).trans ?_, fun i hi' => (h.hp i hi').trans ?_, by have := h.gn; rwa [app_gn] at this, by have := h.L; rwa [app_L] at this, h.us⟩
  · rw [app_tm]
    have : ¬ (p.dst = some t ∧ t < σ.L) := fun h1 => hi.l2 t h1.1 ht
    simp only [if_neg this]
  · rw [app_hp]; exact updL_none fun q hq e => hi.u2 q hq (e ▸ hi')
/-- The operations, one after the other. -/
def Chain (P : Program) (ops : Array Oper) (Q : Exit → Act → World → Prop) (C : Ctx) (inf : Nat → Inf) : List Nat → AS → Prop
  | [], σ => ∀ a w, Sim C σ a w → Q .normal a w
  | i :: r, σ => ∃ o, ops[i]? = some o ∧ Snd P ops Q C i o σ (inf i) ∧ (∀ n ∈ (inf i).N, n ∉ σ.us) ∧ Chain P ops Q C inf r (σ.app (inf i) o)
theorem Snd.aeq {i : Nat} {o : Oper} {σ τ : AS} {I : Inf} (h : Snd P ops Q C i o σ I) (e : AEq σ τ) : Snd P ops Q C i o τ I := fun υ a w ha hs =>
  h υ a w ⟨fun t ht => by rw [e.tm]; exact ha.tm t ht, fun i hi => by rw [e.hp]; exact ha.hp i hi, by rw [e.gn]; exact ha.gn, by rw [e.L]; exact ha.L, ha.us⟩ hs
theorem Chain.aeq {inf : Nat → Inf} : ∀ {L : List Nat} {σ τ : AS}, Chain P ops Q C inf L σ → AEq σ τ → Chain P ops Q C inf L τ
  | [], σ, τ, h, e => fun a w hs => h a w (hs.aeq e.symm)
  | i :: r, σ, τ, ⟨o, h1, h2, h3, h4⟩, e => ⟨o, h1, h2.aeq e, fun n hn hm => h3 n hn ((e.us n).2 hm), h4.aeq (app_aeq e _ _)⟩
theorem Chain.swap {inf : Nat → Inf} {i j : Nat} {r : List Nat} {σ : AS} {oi oj : Oper} (hi : ops[i]? = some oi) (hj : ops[j]? = some oj) (hp : Inp ops oi (inf i) oj (inf j)) (h : Chain P ops Q C inf (j :: i :: r) σ) : Chain P ops Q C inf (i :: j :: r) σ := by
  obtain ⟨o1, e1, s1, f1, o2, e2, s2, f2, h⟩ := h
  rw [hj] at e1; injection e1 with e1; subst e1
  rw [hi] at e2; injection e2 with e2; subst e2
  refine ⟨oi, hi, fun τ a w ha hs => s2 τ a w (ha.app hp) hs, fun n hn hm => f2 n hn (by rw [app_us]; exact List.mem_append_right _ hm), oj, hj, fun τ a w ha hs => s1 τ a w (ha.unapp hp.symm) hs, fun n hn hm => ?_, h.aeq (app_comm hp.symm)⟩
  rw [app_us] at hm
  rcases List.mem_append.1 hm with hm | hm
  · exact hp.nn n hm hn
  · exact f1 n hn hm
theorem Chain.bubble {inf : Nat → Inf} {i : Nat} {oi : Oper} (hi : ops[i]? = some oi) : ∀ {L r : List Nat} {σ : AS}, (∀ j ∈ L, ∃ oj, ops[j]? = some oj ∧ Inp ops oi (inf i) oj (inf j)) → Chain P ops Q C inf (L ++ i :: r) σ → Chain P ops Q C inf (i :: (L ++ r)) σ
  | [], r, σ, _, h => h
  | j :: L, r, σ, hh, h => by
    obtain ⟨oj, hj, hp⟩ := hh j List.mem_cons_self
    obtain ⟨o, e1, s1, f1, h⟩ := h
    exact Chain.swap hi hj hp ⟨o, e1, s1, f1, Chain.bubble hi (fun k hk => hh k (List.mem_cons_of_mem _ hk)) h⟩
/-- i waits for j, be it through others. -/
def wt (md : Region.Mode) (ops : Array Oper) : Nat → Nat → Nat → Bool
  | 0, _, _ => false
  | f + 1, i, j => match ops[i]? with
    | some o => o.after.any fun e => Region.binds md e && (e.on == j || wt md ops f e.on j)
    | none => false
def backB (md : Region.Mode) (ops : Array Oper) : Bool := (List.range ops.size).all fun i => match ops[i]? with | some o => o.after.all fun e => !Region.binds md e || decide (e.on < i) | none => true
structure Lst (md : Region.Mode) (ops : Array Oper) (listed : Array Bool) (L : List Nat) : Prop where
  size : listed.size = ops.size
  closed : ∀ j oj, ops[j]? = some oj → listed.getD j false = true → ∀ e ∈ oj.after, Region.binds md e = true → listed.getD e.on false = true
  mem : ∀ i, i ∈ L ↔ i < ops.size ∧ listed.getD i true = false
  sort : L.Pairwise (· < ·)
theorem getD_swap {listed : Array Bool} {i : Nat} (h : i < listed.size) (d d' : Bool) : listed.getD i d = listed.getD i d' := by simp [h]
theorem wt_listed {md : Region.Mode} {listed : Array Bool} (hc : ∀ j oj, ops[j]? = some oj → listed.getD j false = true → ∀ e ∈ oj.after, Region.binds md e = true → listed.getD e.on false = true) :
    ∀ (f i j : Nat), wt md ops f i j = true → (∀ oi, ops[i]? = some oi → ∀ e ∈ oi.after, Region.binds md e = true → listed.getD e.on false = true) → listed.getD j false = true
  | 0, i, j, h, _ => by simp [wt] at h
  | f + 1, i, j, h, hr => by
    simp only [wt] at h
    split at h
    · rename_i o ho
      obtain ⟨e, he, hb⟩ := Array.any_eq_true'.1 h
      simp only [Bool.and_eq_true, Bool.or_eq_true, beq_iff_eq] at hb
      have hl := hr o ho e he hb.1
      rcases hb.2 with rfl | h2
      · exact hl
      · exact wt_listed hc f e.on j h2 fun oi hoi => hc e.on oi hoi hl
    · cases h
theorem wpAny_chain {md : Region.Mode} {inf : Nat → Inf} (hback : backB md ops = true)
    (hind : ∀ i j oi oj, j < i → ops[i]? = some oi → ops[j]? = some oj → wt md ops ops.size i j = true ∨ Inp ops oi (inf i) oj (inf j)) :
    ∀ (fuel : Nat) (L : List Nat) (listed : Array Bool) (σ : AS) (a : Act) (w : World), L.length = fuel → Lst md ops listed L → Chain P ops Q C inf L σ → Sim C σ a w → wpAny P md ops Q fuel listed a w := by
  have hb : ∀ i o, ops[i]? = some o → ∀ e ∈ o.after, Region.binds md e = true → e.on < i := by
    intro i o ho e he hbd
    have h1 := List.all_eq_true.1 hback i (List.mem_range.2 (Array.getElem?_eq_some_iff.1 ho).1)
    rw [ho] at h1
    have h2 := Array.all_eq_true_iff_forall_mem.1 h1 e he
    simpa [hbd] using h2
  have none_ready : ∀ listed, Lst md ops listed [] → Region.ready md ops listed = [] := by
    intro listed hL
    apply List.eq_nil_iff_forall_not_mem.2
    intro j hj
    obtain ⟨h1, oj, h2, _⟩ := mem_ready.1 hj
    have := (hL.mem j).2 ⟨(Array.getElem?_eq_some_iff.1 h2).1, h1⟩
    cases this
  intro fuel
  induction fuel with
  | zero =>
    intro L listed σ a w hl hL hC hs
    obtain rfl := List.eq_nil_of_length_eq_zero hl
    exact ⟨none_ready listed hL, hC a w hs⟩
  | succ fuel ih =>
    intro L listed σ a w hl hL hC hs
    refine ⟨fun h0 => ?_, fun i hi => ?_⟩
    · rcases L with _ | ⟨j, L⟩
      · cases hl
      · exfalso
        obtain ⟨h1, h2⟩ := (hL.mem j).1 List.mem_cons_self
        have : j ∈ Region.ready md ops listed := by
          refine mem_ready.2 ⟨h2, ops[j], Array.getElem?_eq_getElem h1, fun e he hbd => ?_⟩
          have hlt := hb j _ (Array.getElem?_eq_getElem h1) e he hbd
          cases hx : listed.getD e.on false with
          | true => rfl
          | false =>
            have hm := (hL.mem e.on).2 ⟨by omega, by rw [getD_swap (by rw [hL.size]; omega) true false]; exact hx⟩
            rcases List.mem_cons.1 hm with e1 | hm
            · omega
            · have := List.rel_of_pairwise_cons hL.sort hm; omega
        rw [h0] at this; cases this
    · obtain ⟨h1, oi, h2, h3⟩ := mem_ready.1 hi
      have hlt := (Array.getElem?_eq_some_iff.1 h2).1
      have hm := (hL.mem i).2 ⟨hlt, h1⟩
      obtain ⟨L1, r, rfl⟩ := List.append_of_mem hm
      have hsort := List.pairwise_append.1 hL.sort
      have hC2 := Chain.bubble (i := i) h2 (L := L1) (r := r) (fun j hj => by
        have hji : j < i := hsort.2.2 j hj i List.mem_cons_self
        have hjm := (hL.mem j).1 (List.mem_append_left _ hj)
        refine ⟨ops[j], Array.getElem?_eq_getElem hjm.1, (hind i j oi _ hji h2 (Array.getElem?_eq_getElem hjm.1)).resolve_left fun hw => ?_⟩
        have := wt_listed hL.closed ops.size i j hw fun oi' h2' => by rw [h2] at h2'; injection h2' with h2'; subst h2'; exact h3
        rw [getD_swap (by rw [hL.size]; exact hjm.1) false true, hjm.2] at this
        cases this) hC
      obtain ⟨o, e1, s1, f1, hC3⟩ := hC2
      rw [h2] at e1; injection e1 with e1; subst e1
      refine s1 σ a w ⟨fun _ _ => rfl, fun _ _ => rfl, rfl, rfl, f1⟩ hs _ fun a' w' hs' => ?_
      have hnd : ¬ i ∈ L1 ++ r := by
        intro hmem
        rcases List.mem_append.1 hmem with h | h
        · have := hsort.2.2 i h i List.mem_cons_self; omega
        · have := List.rel_of_pairwise_cons hsort.2.1 h; omega
      refine ih (L1 ++ r) (listed.setIfInBounds i true) _ a' w' (by simp only [List.length_append, List.length_cons] at hl ⊢; omega) ⟨by simp [hL.size], fun j oj hj hlj e he hbd => ?_, fun j => ?_, ?_⟩ hC3 hs'
      · by_cases hji : i = j
        · subst hji
          rw [h2] at hj; injection hj with hj; subst hj
          exact getD_set_true (h3 e he hbd)
        · rw [getD_set_ne false hji] at hlj
          exact getD_set_true (hL.closed j oj hj hlj e he hbd)
      · by_cases hji : i = j
        · subst hji
          constructor
          · exact fun h => absurd h hnd
          · rintro ⟨_, h⟩
            simp [hL.size, hlt] at h
        · rw [getD_set_ne true hji, ← hL.mem j]
          simp [Ne.symm hji]
      · refine List.pairwise_append.2 ⟨hsort.1, (List.pairwise_cons.1 hsort.2.1).2, fun x hx y hy => hsort.2.2 x hx y (List.mem_cons_of_mem _ hy)⟩
theorem find_sorted : ∀ {H : List (Nat × Oper × Inf)} {h : Nat × Oper × Inf}, (H.Pairwise fun a b => b.1 < a.1) → h ∈ H → H.find? (fun h' => h'.1 == h.1) = some h
  | [], _, _, hh => by cases hh
  | x :: r, h, hs, hh => by
    rcases List.mem_cons.1 hh with rfl | hh'
    · simp
    · have h1 := List.rel_of_pairwise_cons hs hh'
      rw [List.find?_cons_of_neg (by simp; omega)]
      exact find_sorted (List.pairwise_cons.1 hs).2 hh'
/-- The walk along the text. -/
def Walk (P : Program) (ops : Array Oper) (Q : Exit → Act → World → Prop) (C : Ctx) (dr : Bool) : List (Nat × Oper × Inf) → List Nat → AS → Prop
  | _, [], σ => ∀ a w, Sim C σ a w → Q .normal a w
  | H, i :: r, σ => ∃ o I, ops[i]? = some o ∧ Snd P ops Q C i o σ I ∧ (∀ n ∈ I.N, n ∉ σ.us) ∧ (dr = true → (H.all fun h => wt .any ops ops.size i h.1 || inp ops o I h.2.1 h.2.2) = true) ∧ Walk P ops Q C dr ((i, o, I) :: H) r (σ.app I o)
theorem walk_chain {dr : Bool} : ∀ {L : List Nat} {H : List (Nat × Oper × Inf)} {σ : AS}, L.Pairwise (· < ·) → (∀ h ∈ H, ∀ i ∈ L, h.1 < i) → (∀ h ∈ H, ops[h.1]? = some h.2.1) → (H.Pairwise fun a b => b.1 < a.1) → Walk P ops Q C dr H L σ →
    ∃ inf : Nat → Inf, (∀ h ∈ H, inf h.1 = h.2.2) ∧ Chain P ops Q C inf L σ ∧ (dr = true → ∀ i ∈ L, ∀ j oi oj, j < i → (j ∈ L ∨ ∃ h ∈ H, h.1 = j) → ops[i]? = some oi → ops[j]? = some oj → wt .any ops ops.size i j = true ∨ Inp ops oi (inf i) oj (inf j))
  | [], H, σ, _, _, _, hs, h => by
    refine ⟨fun i => ((H.find? (fun h => h.1 == i)).map (·.2.2)).getD ⟨[], [], [], .c .un⟩, fun h hh => ?_, h, fun _ i hi => absurd hi List.not_mem_nil⟩
    have : H.find? (fun h' => h'.1 == h.1) = some h := find_sorted hs hh
    simp [this]
  | i :: r, H, σ, hL, hHL, hops, hs, h => by
    obtain ⟨o, I, h1, h2, h3, h4, h5⟩ := h
    obtain ⟨inf, g1, g2, g3⟩ := walk_chain (L := r) (H := (i, o, I) :: H) (List.pairwise_cons.1 hL).2 (fun h hh j hj => by
        rcases List.mem_cons.1 hh with rfl | hh
        · exact List.rel_of_pairwise_cons hL hj
        · exact hHL h hh j (List.mem_cons_of_mem _ hj)) (fun h hh => by
        rcases List.mem_cons.1 hh with rfl | hh
        · exact h1
        · exact hops h hh) (List.pairwise_cons.2 ⟨fun h hh => hHL h hh i List.mem_cons_self, hs⟩) h5
    have hi : inf i = I := g1 _ List.mem_cons_self
    refine ⟨inf, fun h hh => g1 h (List.mem_cons_of_mem _ hh), ⟨o, h1, by rw [hi]; exact h2, by rw [hi]; exact h3, by rw [hi]; exact g2⟩, fun hd k hk j oi oj hjk hj hoi hoj => ?_⟩
    rcases List.mem_cons.1 hk with rfl | hk
    · have hjH : ∃ h ∈ H, h.1 = j := by
        rcases hj with hj | hj
        · rcases List.mem_cons.1 hj with rfl | hj
          · omega
          · have := List.rel_of_pairwise_cons hL hj; omega
        · exact hj
      obtain ⟨h, hh, rfl⟩ := hjH
      have := List.all_eq_true.1 (h4 hd) h hh
      rw [Bool.or_eq_true] at this
      rw [h1] at hoi; injection hoi with hoi; subst hoi
      have e := hops h hh
      rw [hoj] at e; injection e with e; subst e
      refine this.imp id fun hp => ?_
      rw [hi, g1 h (List.mem_cons_of_mem _ hh)]
      exact inp_to hp
    · refine g3 hd k hk j oi oj hjk ?_ hoi hoj
      rcases hj with hj | ⟨h, hh, e⟩
      · rcases List.mem_cons.1 hj with rfl | hj
        · exact .inr ⟨_, List.mem_cons_self, rfl⟩
        · exact .inl hj
      · exact .inr ⟨h, List.mem_cons_of_mem _ hh, e⟩
theorem range_sorted (n : Nat) : (List.range n).Pairwise (· < ·) := by
  rw [List.pairwise_iff_getElem]
  intro i j hi hj hij
  simpa using hij
theorem chain_ops {inf : Nat → Inf} : ∀ {L : List Nat} {σ : AS} {a : Act} {w : World}, Chain P ops Q C inf L σ → Sim C σ a w → wpOps P ops Q L a w
  | [], σ, a, w, h, hs => h a w hs
  | i :: r, σ, a, w, ⟨o, h1, h2, h3, h4⟩, hs => by
    rw [wpOps_cons]
    exact h2 σ a w ⟨fun _ _ => rfl, fun _ _ => rfl, rfl, rfl, h3⟩ hs _ fun a' w' hs' => chain_ops h4 hs'
theorem Sim.drawn {σ : AS} {a : Act} {w : World} (h : Sim C σ a w) (n : Nat) : Sim C σ a { w with drawn := n } := by
  obtain ⟨φ, F, St, h⟩ := h
  exact ⟨φ, F, St, h.keep (Stp.drawn w n none)⟩
/-- A region. -/
theorem region_wp {id : Nat} {dr : Bool} {σ : AS} (hm : dr = true → P.follows .mixedOrders = true ∧ backB .any ops = true) (h : Walk P ops Q C dr [] (List.range ops.size) σ) {a : Act} {w : World} (hs : Sim C σ a w) : (Code.region id ops dr).wp P Q a w := by
  obtain ⟨inf, _, h2, h3⟩ := walk_chain (range_sorted _) (fun h hh => absurd hh List.not_mem_nil) (fun h hh => absurd hh List.not_mem_nil) List.Pairwise.nil h
  cases dr with
  | false => exact wp_region (chain_ops h2 hs)
  | true =>
    refine wp_region_any (hm rfl).1 ?_
    refine wpAny_chain (hm rfl).2 (fun i j oi oj hji hoi hoj => h3 rfl i (List.mem_range.2 (Array.getElem?_eq_some_iff.1 hoi).1) j oi oj hji (.inl (List.mem_range.2 (Array.getElem?_eq_some_iff.1 hoj).1)) hoi hoj) ops.size (List.range ops.size) _ σ a _ (by simp) ⟨by simp, fun j oj hj hl => ?_, fun i => ?_, range_sorted _⟩ h2 (hs.drawn _)
    · have hlt := (Array.getElem?_eq_some_iff.1 hj).1
      simp [hlt] at hl
    · rw [List.mem_range]
      constructor
      · exact fun h => ⟨h, by simp [h]⟩
      · exact fun h => h.1
end
end Go.Proofs.Ytfnnbjkjfoiboaa
