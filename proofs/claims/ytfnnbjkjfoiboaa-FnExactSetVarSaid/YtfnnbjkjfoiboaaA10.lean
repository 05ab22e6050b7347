/- The abstract machine, ten: one operation, all kinds but calls; what it leans on. -/
import Derived.Test.YtfnnbjkjfoiboaaA9
namespace Go.Proofs.Ytfnnbjkjfoiboaa
open Go.RowKit

def lenOk (P : Program) (t : TypeId) (x : AV) : Bool :=
  match P.underlying t with
  | some (.slice _) => !isStr x
  | some .string => isStr x
  | _ => false
def still (σ : AS) (x : Option AV) : Option (AV × AS) := x.map fun y => (y, σ)
def EffCall (P : Program) (o : Oper) (σ : AS) (id : Nat) (c : Call) : Option (AV × AS) :=
  match c.callee, c.args.toList, c.argTypes.toList with
  | .builtin .len, [x], [t] => if lenOk P t (σ.ev x) = true then still σ (aLen (σ.ev x)) else none
  | .builtin .append, [x, y], [T, T2] => aAppend P σ id T T2 (σ.ev x) (σ.ev y)
  | .builtin .min, _, _ => still σ (aScal P σ.ev o)
  | .builtin .max, _, _ => still σ (aScal P σ.ev o)
  | _, _, _ => none
def Eff (P : Program) (o : Oper) (σ : AS) (id : Nat) : Option (AV × AS) :=
  match o.op with
  | .move x => some (σ.ev x, σ)
  | .assign x => some (σ.ev x, σ)
  | .pick c a b => still σ (aPick (σ.ev c) (σ.ev a) (σ.ev b))
  | .alloc T => aAlloc P σ id T
  | .box T x => aBox σ id T (σ.ev x)
  | .load t p => still σ (aLoad P t σ.hp (σ.ev p))
  | .store t p x => aStore P σ t (σ.ev p) (σ.ev x)
  | .nilCheck x => still σ (aNil (σ.ev x))
  | .fieldAddr S p f => still σ (aFieldAddr P S f (σ.ev p))
  | .indexAddr T x i => still σ (aIndexAddr P σ.hp T (σ.ev x) (σ.ev i))
  | .field S x f => still σ (aField P S f (σ.ev x))
  | .extract x j => still σ (aExtract j (σ.ev x))
  | .build T parts => still σ (aBuild P T (parts.toList.map fun p => (p.1, σ.ev p.2)))
  | .buildSlice T n parts => aBuildSlice P σ id T n (parts.toList.map fun p => (p.1, σ.ev p.2))
  | .makeFunc (.func f) first caps => if first.size = 0 then still σ (aFunc f (caps.toList.map σ.ev)) else none
  | .slice T x lo hi mx => if mx.isSome = true then none else if isStr (σ.ev x) = true then still σ (aScal P σ.ev o) else aSlice P σ id T (σ.ev x) (lo.map σ.ev) (hi.map σ.ev)
  | .convert s d x => if (σ.ev x).val?.isSome = true ∧ isStr (σ.ev x) = true ∨ (σ.ev x).val?.isSome = true ∧ (aStr P σ.hp s d (σ.ev x)).isSome = false then still σ (aScal P σ.ev o) else if isStr (σ.ev x) = true then none else still σ (aStr P σ.hp s d (σ.ev x))
  | .binOp .. => still σ (aScal P σ.ev o)
  | .unOp .. => still σ (aScal P σ.ev o)
  | .index .. => still σ (aScal P σ.ev o)
  | .call c => EffCall P o σ id c
  | _ => none
section
variable {P : Program} {C : Ctx} {φ : Nat → Lc} {F : Nat → List Nat} {St : Nat → Prop} {σ : AS} {a : Act} {w : World}
theorem still_to (h : SimF C φ F St σ a w) {o : Oper} {x : AV} {σ' : AS} {e : Option AV} (he : still σ e = some (x, σ')) (hr : ∀ y, e = some y → ∃ v, (execOp a.eval o).run P w = .ok (.value v) w ∧ VR w St φ σ.Kn y v) : OpTo P C o a w x σ' := by
  simp only [still, Option.map_eq_some_iff] at he
  obtain ⟨y, hy, he⟩ := he
  injection he with e1 e2
  subst e1 e2
  obtain ⟨v, h1, h2⟩ := hr y hy
  exact ⟨_, v, w, h1, .inl rfl, φ, F, St, h, h2⟩
theorem val_to {o : Oper} {x : AV} {σ' : AS} {s : Sem Value} (ho : execOp a.eval o = (do pure (Next.value (← s)))) (hr : ∃ v w', s.run P w = .ok v w' ∧ PostS C σ' a x v w') : OpTo P C o a w x σ' := by
  obtain ⟨v, w', h1, h2⟩ := hr
  exact ⟨_, v, w', by rw [ho]; simp [Sem.run_bind, h1], .inl rfl, h2⟩
set_option maxHeartbeats 2000000 in
theorem eff_sound (h : SimF C φ F St σ a w) {o : Oper} {id : Nat} {x : AV} {σ' : AS} (he : Eff P o σ id = some (x, σ')) : OpTo P C o a w x σ' := by
  have scal : ∀ {x : AV} {σ' : AS}, still σ (aScal P σ.ev o) = some (x, σ') → OpTo P C o a w x σ' := fun he => still_to h he fun y hy => aScal_to h hy (P := P)
  obtain ⟨dst, op, type, pos, after, guard⟩ := o
  cases op <;> simp only [Eff] at he <;> (try cases he; done)
  case move y =>
    injection he with he; injection he with e1 e2; subst e1 e2
    exact ⟨_, a.eval y, w, rfl, .inl rfl, φ, F, St, h, h.ev y⟩
  case assign y =>
    injection he with he; injection he with e1 e2; subst e1 e2
    exact ⟨_, a.eval y, w, rfl, .inl rfl, φ, F, St, h, h.ev y⟩
  case pick c y z =>
    refine still_to h he fun q hq => ?_
    unfold aPick at hq
    split at hq
    · rename_i t hc
      injection hq with hq; subst hq
      have hcv := h.ev c
      rw [hc] at hcv
      simp only [VR, CR] at hcv
      refine ⟨if t then a.eval y else a.eval z, ?_, ?_⟩
      · simp [execOp, hcv.1, asBool]
      · cases t
        · exact h.ev z
        · exact h.ev y
    · cases hq
  case alloc T => exact val_to (s := Instr.alloc T true (.tuple #[])) rfl (aAlloc_to h he)
  case box T y => exact val_to (s := Instr.box T (a.eval y)) rfl (aBox_to h (h.ev y) he)
  case load t p => exact still_to h he fun q hq => by obtain ⟨v, h1, h2⟩ := aLoad_run (P := P) h (h.ev p) hq; exact ⟨v, by simp [execOp, h1], h2⟩
  case store t p y =>
    obtain ⟨w', h1, h2⟩ := aStore_to h (h.ev p) (h.ev y) he
    exact ⟨.skip, undef, w', by simp [execOp, h1], .inr ⟨rfl, rfl⟩, h2⟩
  case nilCheck y =>
    refine still_to h he fun q hq => ?_
    obtain ⟨rfl, h1⟩ := aNil_to (P := P) (w := w) (h.ev y) hq
    exact ⟨_, h1 _ _ y rfl rfl, h.ev y⟩
  case fieldAddr S p f => exact still_to h he fun q hq => by obtain ⟨v, h1, h2⟩ := aFieldAddr_to (P := P) (w := w) (h.ev p) hq; exact ⟨v, by simp [execOp, h1], h2⟩
  case indexAddr T y i => exact still_to h he fun q hq => by obtain ⟨v, h1, h2⟩ := aIndexAddr_to (P := P) h (h.ev y) (h.ev i) hq; exact ⟨v, by simp [execOp, h1], h2⟩
  case field S y f => exact still_to h he fun q hq => by obtain ⟨v, h1, h2⟩ := aField_to (P := P) (w := w) (h.ev y) hq; exact ⟨v, by simp [execOp, h1], h2⟩
  case extract y j => exact still_to h he fun q hq => by obtain ⟨v, h1, h2⟩ := aExtract_to (P := P) (w := w) (h.ev y) hq; exact ⟨v, by simp [execOp, h1], h2⟩
  case build T parts =>
    refine still_to h he fun q hq => ?_
    obtain ⟨v, h1, h2⟩ := aBuild_to (P := P) (w := w) (vs := parts.map fun (i, x) => (i, a.eval x)) (by rw [Array.toList_map]; exact prl h parts.toList) hq
    exact ⟨v, by simp [execOp, h1], h2⟩
  case buildSlice T n parts => exact val_to (s := Instr.buildSlice T n (parts.map fun (i, x) => (i, a.eval x))) rfl (aBuildSlice_to h (vs := parts.map fun (i, x) => (i, a.eval x)) (by rw [Array.toList_map]; exact prl h parts.toList) he)
  case makeFunc fn first caps =>
    cases fn <;> simp only [] at he <;> (try cases he; done)
    rename_i f
    split at he
    · rename_i hf
      obtain rfl : first = #[] := Array.eq_empty_of_size_eq_zero hf
      refine still_to h he fun q hq => ?_
      simp only [aFunc, Option.map_eq_some_iff] at hq
      obtain ⟨cs, h1, rfl⟩ := hq
      have h2 := cellsOne_to (evs h caps.toList) h1
      refine ⟨.func (.func f) #[] (caps.map a.eval), by simp [execOp, Instr.makeFunc], ?_⟩
      simp only [VR, CR]
      exact ⟨trivial, caps.toList.map a.eval, by rw [← Array.toList_map, Array.toArray_toList], h2⟩
    · cases he
  case slice T y lo hi mx =>
    split at he
    · cases he
    · rename_i hmx
      obtain rfl : mx = none := by cases mx <;> simp_all
      split at he
      · exact scal he
      · refine val_to (s := Instr.sliceAt T (a.eval y) (lo.map a.eval) (hi.map a.eval) none) rfl (aSlice_to (P := P) h (h.ev y) (ulo := lo.map a.eval) (uhi := hi.map a.eval) ?_ ?_ he)
        · cases lo with
          | none => trivial
          | some z => exact h.ev z
        · cases hi with
          | none => trivial
          | some z => exact h.ev z
  case convert s d y =>
    split at he
    · exact scal he
    · split at he
      · cases he
      · rename_i hs
        exact still_to h he fun q hq => by obtain ⟨v, h1, h2⟩ := aStr_to (P := P) h (h.ev y) (by simpa using hs) hq; exact ⟨v, by simp [execOp, h1], h2⟩
  case binOp => exact scal he
  case unOp => exact scal he
  case index => exact scal he
  case call c =>
    obtain ⟨callee, args, argTypes⟩ := c
    unfold EffCall at he
    split at he
    · rename_i y t hc ha ht
      simp only at hc ha ht
      subst hc
      obtain rfl : args = #[y] := by rw [← Array.toArray_toList (xs := args), ha]
      obtain rfl : argTypes = #[t] := by rw [← Array.toArray_toList (xs := argTypes), ht]
      split at he
      · rename_i hok
        refine still_to h he fun q hq => ?_
        obtain ⟨n, rfl, hn⟩ := aLen_to (h.ev y) hq
        have hs : isStr (σ.ev y) = true ↔ ∃ s, a.eval y = .string s := by
          have hy := h.ev y
          constructor
          · intro hs
            unfold isStr at hs
            split at hs
            · rename_i s e; rw [e] at hy; simp only [VR, CR] at hy; exact ⟨s, hy.1⟩
            · cases hs
          · rintro ⟨s, e⟩
            rw [e] at hy
            generalize σ.ev y = z at hq hy ⊢
            unfold aLen at hq
            split at hq <;> (try cases hq) <;> simp only [VR, CR] at hy
            · obtain ⟨_, _, _, A, c, hy⟩ := hy; cases hy
            · obtain ⟨_, A, c, hy, _⟩ := hy; cases hy
            · obtain ⟨hy, _⟩ := hy; cases hy
            · rfl
        refine ⟨.int .i64 n, ?_, by simp only [VR, CR]; exact ⟨trivial, rfl, trivial⟩⟩
        unfold lenOk at hok
        split at hok
        · rename_i e hu
          rcases hn with ⟨A, c, e'⟩ | ⟨s, e', _⟩
          · simp [execOp, resolve, invoke, builtin, Builtin.len_, run_underlying hu, e', goInt]
          · have := hs.2 ⟨s, e'⟩; rw [this] at hok; cases hok
        · rename_i hu
          rcases hn with ⟨A, c, e'⟩ | ⟨s, e', rfl⟩
          · obtain ⟨s, e''⟩ := hs.1 hok; rw [e'] at e''; cases e''
          · simp [execOp, resolve, invoke, builtin, Builtin.len_, run_underlying hu, e', goInt]
        · cases hok
      · cases he
    · rename_i y z T T2 hc ha ht
      simp only at hc ha ht
      subst hc
      obtain rfl : args = #[y, z] := by rw [← Array.toArray_toList (xs := args), ha]
      obtain rfl : argTypes = #[T, T2] := by rw [← Array.toArray_toList (xs := argTypes), ht]
      obtain ⟨v, w', h1, h2⟩ := aAppend_to (P := P) h (h.ev y) (h.ev z) he type
      exact ⟨.value v, v, w', by simp [execOp, resolve, invoke, builtin, h1], .inl rfl, h2⟩
    · exact scal he
    · exact scal he
    · cases he
end
end Go.Proofs.Ytfnnbjkjfoiboaa
