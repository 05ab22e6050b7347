/- The abstract machine, twelve: how a body begins and ends; rows opened and closed. -/
import Derived.Test.YtfnnbjkjfoiboaaA11
namespace Go.Proofs.Ytfnnbjkjfoiboaa
open Go.RowKit

def σ0 (ins : List AV) (pars : List (List AC)) (nt : Nat) : AS :=
  { tm := fun t => (ins[t]?).getD (.c .un), hp := fun i => (pars[i]?).map fun cs => ⟨0, 0, 0, true, cs⟩, gn := pars.length, us := [], L := ins.length + (nt - ins.length) }
def plOf (φ : Nat → Lc) (i : Nat) : Nat × Nat := match φ i with | .box b lo => (b, lo) | _ => (0, 0)
def ctxOf (w : World) (St : Nat → Prop) (φ : Nat → Lc) (F : Nat → List Nat) (pars : List (List AC)) : Ctx :=
  { w0 := w, N := pars.length, pl := plOf φ, M := lentM F pars.length, R := lentR φ pars, S0 := St }
theorem VRL.len {w : World} {St : Nat → Prop} {φ : Nat → Lc} {K : Nat → Prop} : ∀ {l : List AV} {us : List Value}, VRL w St φ K l us → us.length = l.length
  | [], us, h => by simp only [VRL] at h; simp [h]
  | c :: r, us, h => by simp only [VRL] at h; obtain ⟨u, us', rfl, _, h2⟩ := h; simp [h2.len]
section
variable {P : Program} {w : World} {St : Nat → Prop} {φ : Nat → Lc} {F : Nat → List Nat} {ins : List AV} {us : List Value} {pars : List (List AC)}
theorem Ent.sim (h : Ent w St φ F ins us pars) (nt : Nat) : SimF (ctxOf w St φ F pars) φ F St (σ0 ins pars nt) { tmps := us.toArray ++ Array.replicate (nt - us.toArray.size) undef, defers := [] } w := by
  have hl := h.args.len
  have hKn : (σ0 ins pars nt).Kn = fun i => i < pars.length := by funext i; simp [AS.Kn, σ0]
  have hrow : ∀ i r, (σ0 ins pars nt).hp i = some r → ∃ cs, pars[i]? = some cs ∧ r = ⟨0, 0, 0, true, cs⟩ ∧ i < pars.length := by
    intro i r hr
    simp only [σ0, Option.map_eq_some_iff] at hr
    obtain ⟨cs, h1, h2⟩ := hr
    exact ⟨cs, h1, h2.symm, (List.getElem?_eq_some_iff.1 h1).1⟩
  refine ⟨rfl, by simp [σ0, hl], fun t => ?_, fun i r hr => ?_, fun i r hr => ?_, fun i j r s hr hs hij => ?_, fun i j r s b lo hr hs => ?_, fun i j r s b lo lo' hr hs hij e e' => ?_, fun i r b hr => ?_, fun i r b lo hr => ?_, Fc.refl _ _ _, fun i r b hr hb => ?_, fun i hi => ?_, fun i r b lo hr e hN => ?_, Nat.le_refl _, fun b hb _ => .inl hb⟩
  · rw [hKn]
    show VR w St φ _ ((ins[t]?).getD (.c .un)) _
    rcases Nat.lt_or_ge t ins.length with ht | ht
    · rw [List.getElem?_eq_getElem ht]
      obtain ⟨u, h1, h2⟩ := h.args.at_ (List.getElem?_eq_getElem ht)
      have e : (us.toArray ++ Array.replicate (nt - us.toArray.size) undef).getD t undef = u := by
        rw [Array.getD_eq_getD_getElem?, Array.getElem?_append_left (by simp [hl, ht])]
        simp [h1]
      rw [e]; exact h2
    · rw [List.getElem?_eq_none ht]; exact undef_un _
  · obtain ⟨cs, h1, rfl, hi⟩ := hrow i r hr
    obtain ⟨b, lo, vs, e, h2, h3⟩ := h.row i cs h1
    rw [hKn, e]
    exact ⟨hi, rfl, vs, h2, h3⟩
  · obtain ⟨_, _, _, hi⟩ := hrow i r hr; exact h.nod i hi
  · obtain ⟨_, _, _, hi⟩ := hrow i r hr; obtain ⟨_, _, _, hj⟩ := hrow j s hs; exact h.dis i j hi hj hij
  · obtain ⟨_, _, _, hi⟩ := hrow i r hr; obtain ⟨_, _, _, hj⟩ := hrow j s hs; exact h.bxF i j b lo hi hj
  · obtain ⟨ci, h1, rfl, hi⟩ := hrow i r hr; obtain ⟨cj, h2, rfl, hj⟩ := hrow j s hs; exact h.bxd i j b lo lo' ci cj h1 h2 hij e e'
  · obtain ⟨_, _, _, hi⟩ := hrow i r hr; exact h.stF i b hi
  · obtain ⟨_, _, _, hi⟩ := hrow i r hr; exact h.stB i b lo hi
  · obtain ⟨_, _, _, hi⟩ := hrow i r hr; exact .inl ⟨i, hi, hb⟩
  · have hi' : i < pars.length := hi
    obtain ⟨b, lo, vs, e, h2, h3⟩ := h.row i pars[i] (List.getElem?_eq_getElem hi')
    refine ⟨by simp [ctxOf, plOf, e], fun r hr j hj => ?_⟩
    obtain ⟨cs, h1, rfl, _⟩ := hrow i r hr
    refine ⟨i, lo, cs, h1, by simp [ctxOf, plOf, e], ?_, ?_⟩
    · simp [ctxOf, plOf, e]
    · have hj' : j < cs.length := hj
      simp [ctxOf, plOf, e]; exact hj'
  · obtain ⟨_, _, _, hi⟩ := hrow i r hr
    have : pars.length ≤ i := hN
    omega
end

def resL (P : Program) (hp : Nat → Option Row) (tm : Nat → AV) : List ResultVar → Option (List AV)
  | [] => some []
  | .tmp t :: r => (resL P hp tm r).map (tm t :: ·)
  | .cell p ty :: r => (aLoad P ty hp (tm p)).bind fun x => (resL P hp tm r).map (x :: ·)
def resSem (tmps : Array Value) : ResultVar → Sem Value
  | .tmp t => pure (tmps.getD t undef)
  | .cell p t => do loadVar t (← asAddr (tmps.getD p undef))
def joinAV : List AV → AV
  | [x] => x
  | l => .tu l
/-- A cell of a result, closed. -/
def clC (hp : Nat → Option Row) : AC → Option (AC × (Nat → Option Row))
  | .sl i n =>
    match hp i with
    | some r => if r.box = false ∧ r.n = n ∧ cloL r.cs = true then some (.ow r.T n r.k r.cs, upd hp i none) else none
    | none => none
  | c => if clo c = true then some (c, hp) else none
def clL (hp : Nat → Option Row) : List AC → Option (List AC × (Nat → Option Row))
  | [] => some ([], hp)
  | c :: r => (clC hp c).bind fun q => (clL q.2 r).map fun s => (q.1 :: s.1, s.2)
mutual
def clV (hp : Nat → Option Row) : AV → Option (AV × (Nat → Option Row))
  | .c x => (clC hp x).map fun q => (.c q.1, q.2)
  | .ag l => (clL hp l).map fun q => (.ag q.1, q.2)
  | .tu l => (clVL hp l).map fun q => (.tu q.1, q.2)
def clVL (hp : Nat → Option Row) : List AV → Option (List AV × (Nat → Option Row))
  | [] => some ([], hp)
  | c :: r => (clV hp c).bind fun q => (clVL q.2 r).map fun s => (q.1 :: s.1, s.2)
end
section
variable {P : Program} {C : Ctx} {φ : Nat → Lc} {F : Nat → List Nat} {St : Nat → Prop} {σ : AS} {a : Act} {w : World}
theorem resL_to (h : SimF C φ F St σ a w) : ∀ (rs : List ResultVar) (l : List AV), resL P σ.hp σ.tm rs = some l →
    ∃ vs, (rs.mapM (resSem a.tmps)).run P w = .ok vs w ∧ VRL w St φ σ.Kn l vs
  | [], l, he => by simp only [resL, Option.some.injEq] at he; subst he; exact ⟨[], by simp, by simp [VRL]⟩
  | .tmp t :: r, l, he => by
    simp only [resL, Option.map_eq_some_iff] at he
    obtain ⟨l', h1, rfl⟩ := he
    obtain ⟨vs, h2, h3⟩ := resL_to h r l' h1
    refine ⟨a.tmps.getD t undef :: vs, ?_, by simp only [VRL]; exact ⟨_, _, rfl, h.tms t, h3⟩⟩
    rw [List.mapM_cons]
    simp only [resSem, Sem.run_bind, Sem.run_pure, Result.andThen_ok, h2]
  | .cell p ty :: r, l, he => by
    simp only [resL, Option.bind_eq_some_iff, Option.map_eq_some_iff] at he
    obtain ⟨x, hx, l', h1, rfl⟩ := he
    obtain ⟨vs, h2, h3⟩ := resL_to h r l' h1
    obtain ⟨v, h4, h5⟩ := aLoad_run (P := P) h (h.tms p) hx
    refine ⟨v :: vs, ?_, by simp only [VRL]; exact ⟨_, _, rfl, h5, h3⟩⟩
    have h6 : (resSem a.tmps (.cell p ty)).run P w = .ok v w := by
      have := h4
      show (do loadVar ty (← asAddr (a.tmps.getD p undef)) : Sem Value).run P w = .ok v w
      generalize a.tmps.getD p undef = q at *
      cases q <;> try (simp [Instr.loadAt, Instr.sureAddr, stuck, Sem.run] at this; done)
      rename_i ad
      cases ad with
      | none => simp [Instr.loadAt, Instr.sureAddr, stuck, Sem.run] at this
      | some ad => simpa [Instr.loadAt, Instr.sureAddr, asAddr] using this
    rw [List.mapM_cons]
    simp only [Sem.run_bind, Sem.run_pure, Result.andThen_ok, h2, h6]
theorem Free.drop {b : Nat} (h : Free C φ F St σ b) (i : Nat) : Free C φ F St { σ with hp := upd σ.hp i none } b := by
  refine ⟨fun j s hj => h.1 j s ?_, h.2⟩
  have hj' : upd σ.hp i none j = some s := hj
  by_cases hji : j = i
  · subst hji; rw [upd_same] at hj'; cases hj'
  · rwa [upd_ne _ _ hji] at hj'
theorem clC_to (h : SimF C φ F St σ a w) {c c' : AC} {u : Value} {hp' : Nat → Option Row} (hx : CR w St φ σ.Kn c u []) (he : clC σ.hp c = some (c', hp')) :
    ∃ fp, CR w St φ0 K0 c' u fp ∧ SimF C φ F St { σ with hp := hp' } a w ∧ fp.Nodup ∧ (∀ b ∈ fp, Free C φ F St { σ with hp := hp' } b ∧ ∃ i r, σ.hp i = some r ∧ b ∈ F i) ∧ (∀ b, Free C φ F St σ b → Free C φ F St { σ with hp := hp' } b) ∧ ∀ i r, hp' i = some r → σ.hp i = some r := by
  unfold clC at he
  split at he
  · rename_i i n
    split at he
    · rename_i r hr
      split at he
      · rename_i hc
        obtain ⟨hb, rfl, hcl⟩ := hc
        injection he with he; injection he with e1 e2; subst e1 e2
        simp only [CR] at hx
        obtain ⟨_, _, eφ, A, cc, rfl⟩ := hx
        have hrow := (h.row i r hr).2
        rw [eφ] at hrow
        obtain ⟨_, us, fs, g1, g2, g3⟩ := hrow
        refine ⟨F i, ?_, h.drop i, h.nod i r hr, fun b hb => ⟨h.free hr hb, i, r, hr, hb⟩, fun b hb => hb.drop i, fun j s hj => ?_⟩
        · simp only [CR]
          exact ⟨us, fs, g1.clo_ hcl, g2, g3⟩
        · by_cases hji : j = i
          · subst hji; rw [upd_same] at hj; cases hj
          · rwa [upd_ne _ _ hji] at hj
      · cases he
    · cases he
  · split at he
    · rename_i hc
      injection he with he; injection he with e1 e2; subst e1 e2
      exact ⟨[], CR.clo_ _ _ _ hc hx, h, List.nodup_nil, fun b hb => absurd hb List.not_mem_nil, fun b hb => hb, fun i r hr => hr⟩
    · cases he
theorem clL_to : ∀ {l l' : List AC} {us : List Value} {hp' : Nat → Option Row} {σ : AS}, SimF C φ F St σ a w → CRL w St φ σ.Kn l us [] → clL σ.hp l = some (l', hp') →
    ∃ fp, CRL w St φ0 K0 l' us fp ∧ SimF C φ F St { σ with hp := hp' } a w ∧ fp.Nodup ∧ (∀ b ∈ fp, Free C φ F St { σ with hp := hp' } b ∧ ∃ i r, σ.hp i = some r ∧ b ∈ F i) ∧ (∀ b, Free C φ F St σ b → Free C φ F St { σ with hp := hp' } b) ∧ ∀ i r, hp' i = some r → σ.hp i = some r
  | [], l', us, hp', σ, h, hx, he => by
    simp only [clL, Option.some.injEq, Prod.mk.injEq] at he
    obtain ⟨rfl, rfl⟩ := he
    simp only [CRL] at hx
    obtain ⟨rfl, _⟩ := hx
    exact ⟨[], CRL.nil, h, List.nodup_nil, fun b hb => absurd hb List.not_mem_nil, fun b hb => hb, fun i r hr => hr⟩
  | c :: r, l', us, hp', σ, h, hx, he => by
    simp only [clL, Option.bind_eq_some_iff, Option.map_eq_some_iff] at he
    obtain ⟨⟨c', hp1⟩, h1, ⟨r', hp2⟩, h2, he⟩ := he
    simp only [Prod.mk.injEq] at he
    obtain ⟨rfl, rfl⟩ := he
    simp only [CRL] at hx
    obtain ⟨u, us', f1, f2, rfl, e, g1, g2⟩ := hx
    have e' := List.append_eq_nil_iff.1 e.symm
    rw [e'.1] at g1
    rw [e'.2] at g2
    obtain ⟨fp1, a1, a2, a3, a4, a5, a6⟩ := clC_to h g1 h1
    obtain ⟨fp2, b1, b2, b3, b4, b5, b6⟩ := clL_to (σ := { σ with hp := hp1 }) a2 g2 h2
    refine ⟨fp1 ++ fp2, CRL.cons a1 b1, b2, ?_, fun b hb => ?_, fun b hb => b5 b (a5 b hb), fun i r hr => a6 i r (b6 i r hr)⟩
    · rw [List.nodup_append]
      refine ⟨a3, b3, fun p hp q hq hpq => ?_⟩
      subst hpq
      obtain ⟨_, i, r, hi, hm⟩ := b4 p hq
      exact ((a4 p hp).1.1 i r hi).1 hm
    · rcases List.mem_append.1 hb with hb | hb
      · exact ⟨b5 b (a4 b hb).1, (a4 b hb).2⟩
      · obtain ⟨g, i, r, hi, hm⟩ := b4 b hb
        exact ⟨g, i, r, a6 i r hi, hm⟩
/-- What closing a value comes to. -/
def Closed (C : Ctx) (φ : Nat → Lc) (F : Nat → List Nat) (St : Nat → Prop) (a : Act) (w : World) (σ : AS) (hp' : Nat → Option Row) (fp : List Nat) : Prop :=
  SimF C φ F St { σ with hp := hp' } a w ∧ fp.Nodup ∧ (∀ b ∈ fp, Free C φ F St { σ with hp := hp' } b ∧ ∃ i r, σ.hp i = some r ∧ b ∈ F i) ∧ (∀ b, Free C φ F St σ b → Free C φ F St { σ with hp := hp' } b) ∧ ∀ i r, hp' i = some r → σ.hp i = some r
mutual
theorem clV_to : ∀ {x x' : AV} {u : Value} {hp' : Nat → Option Row} {σ : AS}, SimF C φ F St σ a w → VR w St φ σ.Kn x u → clV σ.hp x = some (x', hp') → ∃ fp, VRF w St φ0 K0 x' u fp ∧ Closed C φ F St a w σ hp' fp
  | .c x, x', u, hp', σ, h, hx, he => by
    simp only [clV, Option.map_eq_some_iff] at he
    obtain ⟨⟨c', hp1⟩, h1, he⟩ := he
    simp only [Prod.mk.injEq] at he
    obtain ⟨rfl, rfl⟩ := he
    simp only [VR] at hx
    obtain ⟨fp, a1, a2⟩ := clC_to h hx h1
    exact ⟨fp, by simp only [VRF]; exact a1, a2⟩
  | .ag l, x', u, hp', σ, h, hx, he => by
    simp only [clV, Option.map_eq_some_iff] at he
    obtain ⟨⟨c', hp1⟩, h1, he⟩ := he
    simp only [Prod.mk.injEq] at he
    obtain ⟨rfl, rfl⟩ := he
    simp only [VR] at hx
    obtain ⟨us, rfl, hx⟩ := hx
    obtain ⟨fp, a1, a2⟩ := clL_to h hx h1
    exact ⟨fp, by simp only [VRF]; exact ⟨us, rfl, a1⟩, a2⟩
  | .tu l, x', u, hp', σ, h, hx, he => by
    simp only [clV, Option.map_eq_some_iff] at he
    obtain ⟨⟨c', hp1⟩, h1, he⟩ := he
    simp only [Prod.mk.injEq] at he
    obtain ⟨rfl, rfl⟩ := he
    simp only [VR] at hx
    obtain ⟨us, rfl, hx⟩ := hx
    obtain ⟨fp, a1, a2⟩ := clVL_to h hx h1
    exact ⟨fp, by simp only [VRF]; exact ⟨us, rfl, a1⟩, a2⟩
theorem clVL_to : ∀ {l l' : List AV} {us : List Value} {hp' : Nat → Option Row} {σ : AS}, SimF C φ F St σ a w → VRL w St φ σ.Kn l us → clVL σ.hp l = some (l', hp') → ∃ fp, VRFL w St φ0 K0 l' us fp ∧ Closed C φ F St a w σ hp' fp
  | [], l', us, hp', σ, h, hx, he => by
    simp only [clVL, Option.some.injEq, Prod.mk.injEq] at he
    obtain ⟨rfl, rfl⟩ := he
    simp only [VRL] at hx
    subst hx
    exact ⟨[], by simp [VRFL], h, List.nodup_nil, fun b hb => absurd hb List.not_mem_nil, fun b hb => hb, fun i r hr => hr⟩
  | c :: r, l', us, hp', σ, h, hx, he => by
    simp only [clVL, Option.bind_eq_some_iff, Option.map_eq_some_iff] at he
    obtain ⟨⟨c', hp1⟩, h1, ⟨r', hp2⟩, h2, he⟩ := he
    simp only [Prod.mk.injEq] at he
    obtain ⟨rfl, rfl⟩ := he
    simp only [VRL] at hx
    obtain ⟨u, us', rfl, g1, g2⟩ := hx
    obtain ⟨fp1, a1, a2, a3, a4, a5, a6⟩ := clV_to h g1 h1
    obtain ⟨fp2, b1, b2, b3, b4, b5, b6⟩ := clVL_to (σ := { σ with hp := hp1 }) a2 g2 h2
    refine ⟨fp1 ++ fp2, by simp only [VRFL]; exact ⟨u, us', fp1, fp2, rfl, rfl, a1, b1⟩, b2, ?_, fun b hb => ?_, fun b hb => b5 b (a5 b hb), fun i r hr => a6 i r (b6 i r hr)⟩
    · rw [List.nodup_append]
      refine ⟨a3, b3, fun p hp q hq hpq => ?_⟩
      subst hpq
      obtain ⟨_, i, r, hi, hm⟩ := b4 p hq
      exact ((a4 p hp).1.1 i r hi).1 hm
    · rcases List.mem_append.1 hb with hb | hb
      · exact ⟨b5 b (a4 b hb).1, (a4 b hb).2⟩
      · obtain ⟨g, i, r, hi, hm⟩ := b4 b hb
        exact ⟨g, i, r, a6 i r hi, hm⟩
end
theorem joinAV_to {K : Nat → Prop} {l : List AV} {vs : List Value} (h : VRL w St φ K l vs) : ∃ v, (if h : vs.toArray.size = 1 then vs.toArray[0] else .tuple vs.toArray) = v ∧ VR w St φ K (joinAV l) v := by
  have hl := h.len
  rcases l with _ | ⟨x, _ | ⟨y, r⟩⟩
  · obtain rfl := List.eq_nil_of_length_eq_zero hl
    exact ⟨.tuple #[], by simp, by simp only [joinAV, VR]; exact ⟨[], rfl, h⟩⟩
  · simp only [VRL] at h
    obtain ⟨u, us', rfl, h1, rfl⟩ := h
    exact ⟨u, by simp, by simp only [joinAV]; exact h1⟩
  · have : vs.length ≠ 1 := by rw [hl]; simp
    exact ⟨.tuple vs.toArray, by simp [this], by simp only [joinAV, VR]; exact ⟨vs, rfl, h⟩⟩
end
/-- What a body must come to. -/
def retQ (P : Program) (fn : Func) (pars : List (List AC)) (Post : AV → List (List AC) → Prop) (σ : AS) : Prop :=
  ∃ l x hp' rows, resL P σ.hp σ.tm fn.results.toList = some l ∧ clV σ.hp (joinAV l) = some (x, hp') ∧ rows.length = pars.length ∧ (∀ i cs, rows[i]? = some cs → cloL cs = true ∧ (∃ r, hp' i = some r ∧ r.cs = cs) ∧ ∃ cs0, pars[i]? = some cs0 ∧ cs.length = cs0.length) ∧ Post x rows
def bodyQ (P : Program) (fn : Func) (pars : List (List AC)) (Post : AV → List (List AC) → Prop) : Exit → AS → Prop
  | .normal, σ => retQ P fn pars Post σ
  | .ret, σ => retQ P fn pars Post σ
  | _, _ => False
/-- A piece of code, over states. -/
def AWp (P : Program) (c : Code) (Q : Exit → AS → Prop) (σ : AS) : Prop := ∀ C a w, Sim C σ a w → c.wp P (fun e a' w' => ∃ σ', Q e σ' ∧ Sim C σ' a' w') a w
theorem fun_of_body {P : Program} {f : FuncId} {fn : Func} {c : Code} {ins : List AV} {pars : List (List AC)} {Post : AV → List (List AC) → Prop} (hf : P.funcs[f]? = some fn) (hb : fn.body = some c)
    (h : AWp P c (bodyQ P fn pars Post) (σ0 ins pars fn.ntmps)) : Fun P f ins pars Post := by
  intro w St φ F us hE
  have hs := hE.sim fn.ntmps
  refine calls_of_wp hf hb (wp_mono (h _ _ _ ⟨φ, F, St, hs⟩) ?_)
  rintro e a' w' ⟨σ', hq, φ', F', St', hsim⟩
  have key : retQ P fn pars Post σ' → a'.defers = [] ∧ ∃ v, (results fn a'.tmps).run P w' = .ok v w' ∧ ∃ res rows u St'' F'' G, Post res rows ∧ Ending.returned v = .returned u ∧ Ext w w' St φ F pars res u rows St'' F'' G := by
    rintro ⟨l, x, hp', rows, h1, h2, h3, h4, h5⟩
    obtain ⟨vs, r1, r2⟩ := resL_to (P := P) hsim _ _ h1
    obtain ⟨v, r3, r4⟩ := joinAV_to r2
    obtain ⟨G, c1, c2, c3, c4, c5, c6⟩ := clV_to hsim r4 h2
    refine ⟨hsim.dfr, v, ?_, x, rows, v, St', F', G, h5, rfl, ?_⟩
    · have : (fun | ResultVar.tmp t => pure (a'.tmps.getD t undef) | ResultVar.cell a t => (do loadVar t (← asAddr (a'.tmps.getD a undef)) : Sem Value)) = resSem a'.tmps := by funext z; cases z <;> rfl
      have hres : results fn a'.tmps = (fn.results.mapM (resSem a'.tmps) >>= fun vs => pure (if h : vs.size = 1 then vs[0] else .tuple vs)) := by rw [← this]; rfl
      simp [hres, Array.mapM_eq_mapM_toList, r1, ← r3]
    · have hrow : ∀ i cs, rows[i]? = some cs → i < pars.length := fun i cs hi => by have := (List.getElem?_eq_some_iff.1 hi).1; omega
      have hpar : ∀ i, i < pars.length → ∃ cs r, rows[i]? = some cs ∧ hp' i = some r ∧ r.cs = cs := fun i hi => by
        have hi' : i < rows.length := by omega
        obtain ⟨_, ⟨r, h6, h7⟩, _⟩ := h4 i rows[i] (List.getElem?_eq_getElem hi')
        exact ⟨_, r, List.getElem?_eq_getElem hi', h6, h7⟩
      have hloc : ∀ i, i < pars.length → ∃ b lo, φ i = .box b lo ∧ φ' i = .box b lo := fun i hi => by
        obtain ⟨b, lo, vs, e, _⟩ := hE.row i pars[i] (List.getElem?_eq_getElem hi)
        have := (c2.par i hi).1
        refine ⟨b, lo, e, ?_⟩
        rw [this]; simp [ctxOf, plOf, e]
      refine ⟨c2.frm, c1, c3, h3, fun i cs hi => ?_, fun i hi => ?_, fun i hi b hb => ?_, fun i j hi hj hij b hb => ?_, fun i b lo hi e => ?_, fun b hb => ?_, fun b hb => ?_⟩
      · obtain ⟨h6, ⟨r, h7, rfl⟩, h8⟩ := h4 i cs hi
        obtain ⟨b, lo, e1, e2⟩ := hloc i (hrow i _ hi)
        have := (c2.row i r h7).2
        rw [e2] at this
        obtain ⟨_, us', g1, g2⟩ := this
        exact ⟨b, lo, us', e1, g1.clo_ h6, g2, h8⟩
      · obtain ⟨cs, r, _, h7, _⟩ := hpar i hi; exact c2.nod i r h7
      · obtain ⟨cs, r, _, h7, _⟩ := hpar i hi; exact fun hG => ((c4 b hG).1.1 i r h7).1 hb
      · obtain ⟨_, r, _, h7, _⟩ := hpar i hi; obtain ⟨_, s, _, h8, _⟩ := hpar j hj; exact c2.dis i j r s h7 h8 hij b hb
      · obtain ⟨_, r, _, h7, _⟩ := hpar i hi
        obtain ⟨b', lo', e1, e2⟩ := hloc i hi
        rw [e] at e1
        injection e1 with e1 e1'
        subst e1 e1'
        refine ⟨fun hG => ((c4 b hG).1.1 i r h7).2 lo e2, fun j hj => ?_⟩
        obtain ⟨_, s, _, h8, _⟩ := hpar j hj
        exact c2.bxF i j r s b lo h7 h8 e2
      · rcases hb with hb | ⟨i, hi, hb⟩
        · exact (c4 b hb).1.2.2
        · obtain ⟨_, r, _, h7, _⟩ := hpar i hi
          exact c2.own i r b h7 hb
      · refine ⟨fun hlt => c2.stS b hb hlt, fun hG => (c4 b hG).1.2.1 hb, fun i hi => ?_⟩
        obtain ⟨_, r, _, h7, _⟩ := hpar i hi
        obtain ⟨b', lo', e1, e2⟩ := hloc i hi
        refine ⟨fun hF => c2.stF i r b h7 hF hb, fun lo e => ?_⟩
        rw [e] at e1
        injection e1 with e1 e1'
        subst e1 e1'
        exact c2.stB i r b lo h7 e2 hb
  cases e <;> first | exact hq.elim | exact key hq
end Go.Proofs.Ytfnnbjkjfoiboaa
