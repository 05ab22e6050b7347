/- The abstract machine, sixteen: operations by what they do alone (whatever else the state holds). -/
import Derived.Test.YtfnnbjkjfoiboaaA15
namespace Go.Proofs.Ytfnnbjkjfoiboaa
open Go.RowKit

/-- What turns in a state. -/
inductive Dl where
  | nop
  | gr (id : Nat) (r : Row)
  | st (i : Nat) (r : Row)
  | mv (j id : Nat) (r : Row)
def Dl.ap : Dl → AS → AS
  | .nop, σ => σ
  | .gr id r, σ => σ.grow id r
  | .st i r, σ => σ.set i (some r)
  | .mv j id r, σ => (σ.set j none).grow id r
def Dl.N : Dl → List Nat
  | .nop => []
  | .gr id _ => [id]
  | .st _ _ => []
  | .mv _ id _ => [id]
def Dl.U : Dl → List (Nat × Option Row)
  | .nop => []
  | .gr id r => [(id, some r)]
  | .st i r => [(i, some r)]
  | .mv j id r => [(j, none), (id, some r)]
def Dl.inf (d : Dl) (fp : List Nat) (x : AV) : Inf := ⟨fp, d.U, d.N, x⟩
theorem Dl.app_eq (d : Dl) (fp : List Nat) (x : AV) (σ : AS) (o : Oper) : σ.app (d.inf fp x) o = (d.ap σ).put o.dst x := by
  cases d <;> rfl
def nmV : AV → List Nat
  | .c (.sl i _) => [i]
  | .c (.pt i _) => [i]
  | _ => []
def dAlloc (P : Program) (id : Nat) (T : TypeId) : Option (AV × Dl) :=
  match (P.info? T).bind (·.zero) with
  | some z => some (.c (.pt id 0), .gr id ⟨T, 0, 0, true, z.cells.toList.map ofC⟩)
  | none => none
def dBox (id : Nat) (T : TypeId) (x : AV) : Option (AV × Dl) :=
  match x.cells with
  | some cs => some (.c (.pt id 0), .gr id ⟨T, 0, 0, true, cs⟩)
  | none => none
def dStore (P : Program) (hp : Nat → Option Row) (t : TypeId) (p x : AV) : Option (AV × Dl) :=
  match p, x.cells with
  | .c (.pt i o), some cs =>
    match hp i with
    | some r => if (P.info? t).map (·.size) = some cs.length ∧ cs.all noUn = true ∧ o + cs.length ≤ r.cs.length then some (.c .un, .st i { r with cs := spl r.cs o cs }) else none
    | none => none
  | _, _ => none
def dBuildSlice (P : Program) (id : Nat) (T : TypeId) (len : Nat) (parts : List (Nat × AV)) : Option (AV × Dl) :=
  match P.underlying T with
  | some (.slice e) =>
    match P.info? e with
    | some i =>
      match i.zero with
      | some z =>
        match aFill (fun j => some (j * i.size, i.size)) ((madeCells z.cells (len * i.size)).toList.map ofC) parts with
        | some cs => if len * i.size ≤ 16777216 ∧ len ≤ 16777216 then some (.c (.sl id len), .gr id ⟨e, i.size, len, false, cs⟩) else none
        | none => none
      | none => none
    | none => none
  | _ => none
def dAppend (P : Program) (hp : Nat → Option Row) (id : Nat) (T T2 : TypeId) (x y : AV) : Option (AV × Dl) :=
  match P.underlying T, P.underlying T2 with
  | some (.slice e), some d2 =>
    match P.info? e with
    | some i =>
      match i.zero with
      | some z =>
        if srcTy d2 = true ∧ z.cells.size = i.size ∧ 0 < i.size then
        match srcOf hp i.size y with
        | some (m, ys) =>
          if ys.all noUn = true then
          match x with
          | .c (.sl j n) =>
            match hp j with
            | some r => if r.T = e ∧ r.k = i.size ∧ r.n = n ∧ r.box = false ∧ (n + m) * i.bytes ≤ 140737488355328 ∧ n + m ≤ 9223372036854775807 then some (.c (.sl id (n + m)), .mv j id ⟨e, i.size, n + m, false, r.cs ++ ys⟩) else none
            | none => none
          | .c (.v (.slice none 0 0)) => if m * i.bytes ≤ 140737488355328 ∧ m ≤ 9223372036854775807 then some (.c (.sl id m), .gr id ⟨e, i.size, m, false, ys⟩) else none
          | _ => none
          else none
        | none => none
        else none
      | none => none
    | none => none
  | _, _ => none
def dSlice (P : Program) (hp : Nat → Option Row) (id : Nat) (T : TypeId) (x : AV) (lo hi : Option AV) : Option (AV × Dl) :=
  match P.underlying T with
  | some (.slice e) =>
    match (P.info? e).map (·.size) with
    | some k =>
      match x with
      | .c (.ro n k' l) =>
        match bnd 0 lo, bnd n hi with
        | some a, some b => if k' = k ∧ a ≤ b ∧ b ≤ n then some (.c (.ro (b - a) k (subL l (a * k) ((b - a) * k))), .nop) else none
        | _, _ => none
      | .c (.sl i n) =>
        match bnd 0 lo, bnd n hi, hp i with
        | some 0, some b, some r => if r.k = k ∧ r.n = n ∧ r.box = false ∧ b ≤ n then some (.c (.sl id b), .mv i id ⟨r.T, k, b, false, r.cs.take (b * k)⟩) else none
        | _, _, _ => none
      | _ => none
    | none => none
  | _ => none
def nop? (x : Option AV) : Option (AV × Dl) := x.map fun y => (y, .nop)
def EffCallD (P : Program) (o : Oper) (ev : Operand → AV) (hp : Nat → Option Row) (id : Nat) (c : Call) : Option (AV × Dl) :=
  match c.callee, c.args.toList, c.argTypes.toList with
  | .builtin .len, [x], [t] => if lenOk P t (ev x) = true then nop? (aLen (ev x)) else none
  | .builtin .append, [x, y], [T, T2] => dAppend P hp id T T2 (ev x) (ev y)
  | .builtin .min, _, _ => nop? (aScal P ev o)
  | .builtin .max, _, _ => nop? (aScal P ev o)
  | _, _, _ => none
def EffD (P : Program) (o : Oper) (ev : Operand → AV) (hp : Nat → Option Row) (id : Nat) : Option (AV × Dl) :=
  match o.op with
  | .move x => some (ev x, .nop)
  | .assign x => some (ev x, .nop)
  | .pick c a b => nop? (aPick (ev c) (ev a) (ev b))
  | .alloc T => dAlloc P id T
  | .box T x => dBox id T (ev x)
  | .load t p => nop? (aLoad P t hp (ev p))
  | .store t p x => dStore P hp t (ev p) (ev x)
  | .nilCheck x => nop? (aNil (ev x))
  | .fieldAddr S p f => nop? (aFieldAddr P S f (ev p))
  | .indexAddr T x i => nop? (aIndexAddr P hp T (ev x) (ev i))
  | .field S x f => nop? (aField P S f (ev x))
  | .extract x j => nop? (aExtract j (ev x))
  | .build T parts => nop? (aBuild P T (parts.toList.map fun p => (p.1, ev p.2)))
  | .buildSlice T n parts => dBuildSlice P id T n (parts.toList.map fun p => (p.1, ev p.2))
  | .makeFunc (.func f) first caps => if first.size = 0 then nop? (aFunc f (caps.toList.map ev)) else none
  | .slice T x lo hi mx => if mx.isSome = true then none else if isStr (ev x) = true then nop? (aScal P ev o) else dSlice P hp id T (ev x) (lo.map ev) (hi.map ev)
  | .convert s d x => if (ev x).val?.isSome = true ∧ isStr (ev x) = true ∨ (ev x).val?.isSome = true ∧ (aStr P hp s d (ev x)).isSome = false then nop? (aScal P ev o) else if isStr (ev x) = true then none else nop? (aStr P hp s d (ev x))
  | .binOp .. => nop? (aScal P ev o)
  | .unOp .. => nop? (aScal P ev o)
  | .index .. => nop? (aScal P ev o)
  | .call c => EffCallD P o ev hp id c
  | _ => none
def fpO (ev : Operand → AV) (o : Oper) : List Nat := o.op.operands.toList.flatMap fun x => nmV (ev x)
section
variable {P : Program} {σ τ : AS} {id : Nat} {x : AV} {d : Dl} {o : Oper}
theorem still_nop {e : Option AV} (h : nop? e = some (x, d)) : still σ e = some (x, d.ap σ) := by
  unfold nop? at h
  simp only [Option.map_eq_some_iff, Prod.mk.injEq] at h
  obtain ⟨y, rfl, rfl, rfl⟩ := h
  rfl
theorem dAlloc_to {T : TypeId} (h : dAlloc P id T = some (x, d)) (hf : ∀ n ∈ d.N, σ.gn ≤ n ∧ n ∉ σ.us) : aAlloc P σ id T = some (x, d.ap σ) := by
  unfold dAlloc at h
  split at h
  · rename_i z hz
    simp only [Option.some.injEq, Prod.mk.injEq] at h
    obtain ⟨rfl, rfl⟩ := h
    unfold aAlloc
    rw [hz]
    exact if_pos (hf id (by simp [Dl.N]))
  · cases h
theorem dBox_to {T : TypeId} {y : AV} (h : dBox id T y = some (x, d)) (hf : ∀ n ∈ d.N, σ.gn ≤ n ∧ n ∉ σ.us) : aBox σ id T y = some (x, d.ap σ) := by
  unfold dBox at h
  split at h
  · rename_i z hz
    simp only [Option.some.injEq, Prod.mk.injEq] at h
    obtain ⟨rfl, rfl⟩ := h
    unfold aBox
    rw [hz]
    exact if_pos (hf id (by simp [Dl.N]))
  · cases h
theorem dStore_to {t : TypeId} {p y : AV} (h : dStore P σ.hp t p y = some (x, d)) : aStore P σ t p y = some (x, d.ap σ) := by
  unfold dStore at h
  split at h
  · rename_i i o cs hcs
    split at h
    · rename_i r hr
      split at h
      · rename_i hc
        simp only [Option.some.injEq, Prod.mk.injEq] at h
        obtain ⟨rfl, rfl⟩ := h
        unfold aStore
        simp only [hcs, hr]
        exact if_pos hc
      · cases h
    · cases h
  · cases h
theorem dBuildSlice_to {T : TypeId} {len : Nat} {parts : List (Nat × AV)} (h : dBuildSlice P id T len parts = some (x, d)) (hf : ∀ n ∈ d.N, σ.gn ≤ n ∧ n ∉ σ.us) : aBuildSlice P σ id T len parts = some (x, d.ap σ) := by
  unfold dBuildSlice at h
  split at h
  · rename_i e hT
    split at h
    · rename_i i hi
      split at h
      · rename_i z hz
        split at h
        · rename_i cs hcs
          split at h
          · rename_i hc
            simp only [Option.some.injEq, Prod.mk.injEq] at h
            obtain ⟨rfl, rfl⟩ := h
            have := hf id (by simp [Dl.N])
            unfold aBuildSlice
            simp only [hT, hi, hz, hcs]
            exact if_pos ⟨this.1, this.2, hc⟩
          · cases h
        · cases h
      · cases h
    · cases h
  · cases h
theorem dAppend_to {T T2 : TypeId} {y z : AV} (h : dAppend P σ.hp id T T2 y z = some (x, d)) (hf : ∀ n ∈ d.N, σ.gn ≤ n ∧ n ∉ σ.us) : aAppend P σ id T T2 y z = some (x, d.ap σ) := by
  unfold dAppend at h
  split at h
  · rename_i e d2 hT hT2
    split at h
    · rename_i i hi
      split at h
      · rename_i zz hz
        split at h
        · rename_i hc
          split at h
          · rename_i m ys hsrc
            split at h
            · rename_i hnu
              split at h
              · rename_i j n
                split at h
                · rename_i r hr
                  split at h
                  · rename_i hc2
                    simp only [Option.some.injEq, Prod.mk.injEq] at h
                    obtain ⟨rfl, rfl⟩ := h
                    have := hf id (by simp [Dl.N])
                    unfold aAppend
                    simp only [hT, hT2, hi, hz, hsrc, hr]
                    rw [if_pos ⟨hc.1, hc.2.1, hc.2.2, this.1, this.2⟩, if_pos hnu, if_pos hc2]
                    rfl
                  · cases h
                · cases h
              · split at h
                · rename_i hc2
                  simp only [Option.some.injEq, Prod.mk.injEq] at h
                  obtain ⟨rfl, rfl⟩ := h
                  have := hf id (by simp [Dl.N])
                  unfold aAppend
                  simp only [hT, hT2, hi, hz, hsrc]
                  rw [if_pos ⟨hc.1, hc.2.1, hc.2.2, this.1, this.2⟩, if_pos hnu, if_pos hc2]
                  rfl
                · cases h
              · cases h
            · cases h
          · cases h
        · cases h
      · cases h
    · cases h
  · cases h
theorem dSlice_to {T : TypeId} {y : AV} {lo hi : Option AV} (h : dSlice P σ.hp id T y lo hi = some (x, d)) (hf : ∀ n ∈ d.N, σ.gn ≤ n ∧ n ∉ σ.us) : aSlice P σ id T y lo hi = some (x, d.ap σ) := by
  unfold dSlice at h
  split at h
  · rename_i e hT
    split at h
    · rename_i k hk
      split at h
      · split at h
        · rename_i a b ha hb
          split at h
          · rename_i hc
            simp only [Option.some.injEq, Prod.mk.injEq] at h
            obtain ⟨rfl, rfl⟩ := h
            unfold aSlice
            simp only [hT, hk, ha, hb]
            exact if_pos hc
          · cases h
        · cases h
      · split at h
        · rename_i b r ha hb hr
          split at h
          · rename_i hc
            simp only [Option.some.injEq, Prod.mk.injEq] at h
            obtain ⟨rfl, rfl⟩ := h
            have := hf id (by simp [Dl.N])
            unfold aSlice
            simp only [hT, hk, ha, hb, hr]
            exact if_pos ⟨hc.1, hc.2.1, hc.2.2.1, hc.2.2.2, this.1, this.2⟩
          · cases h
        · cases h
      · cases h
    · cases h
  · cases h
theorem effD_to (h : EffD P o σ.ev σ.hp id = some (x, d)) (hf : ∀ n ∈ d.N, σ.gn ≤ n ∧ n ∉ σ.us) : Eff P o σ id = some (x, d.ap σ) := by
  obtain ⟨dst, op, type, pos, after, guard⟩ := o
  cases op <;> simp only [EffD] at h <;> (try cases h; done) <;> simp only [Eff]
  case move y => simp only [Option.some.injEq, Prod.mk.injEq] at h; obtain ⟨rfl, rfl⟩ := h; rfl
  case assign y => simp only [Option.some.injEq, Prod.mk.injEq] at h; obtain ⟨rfl, rfl⟩ := h; rfl
  case pick => exact still_nop h
  case alloc T => exact dAlloc_to h hf
  case box T y => exact dBox_to h hf
  case load => exact still_nop h
  case store => exact dStore_to h
  case nilCheck => exact still_nop h
  case fieldAddr => exact still_nop h
  case indexAddr => exact still_nop h
  case field => exact still_nop h
  case extract => exact still_nop h
  case build => exact still_nop h
  case buildSlice => exact dBuildSlice_to h hf
  case makeFunc fn first caps =>
    cases fn <;> simp only [] at h ⊢ <;> (try cases h; done)
    split at h
    · rename_i hc; rw [if_pos hc]; exact still_nop h
    · cases h
  case slice T y lo hi mx =>
    split at h
    · cases h
    · rename_i h1
      rw [if_neg h1]
      split at h
      · rename_i h2; rw [if_pos h2]; exact still_nop h
      · rename_i h2; rw [if_neg h2]; exact dSlice_to h hf
  case convert s dd y =>
    split at h
    · rename_i h1; rw [if_pos h1]; exact still_nop h
    · rename_i h1
      rw [if_neg h1]
      split at h
      · cases h
      · rename_i h2; rw [if_neg h2]; exact still_nop h
  case binOp => exact still_nop h
  case unOp => exact still_nop h
  case index => exact still_nop h
  case call c =>
    unfold EffCallD at h
    unfold EffCall
    split at h
    · rename_i y t hc ha ht
      simp only [hc, ha, ht]
      split at h
      · rename_i h1; rw [if_pos h1]; exact still_nop h
      · cases h
    · rename_i y z T T2 hc ha ht
      simp only [hc, ha, ht]
      exact dAppend_to h hf
    · rename_i hc
      simp only [hc]
      exact still_nop h
    · rename_i hc
      simp only [hc]
      exact still_nop h
    · cases h
end
/- An operation sees no more than its operands and the rows that they name. -/
section
variable {P : Program} {hp hp' : Nat → Option Row} {ev ev' : Operand → AV}
theorem aLoad_loc {t : TypeId} {v : AV} (h : ∀ i ∈ nmV v, hp' i = hp i) : aLoad P t hp' v = aLoad P t hp v := by
  unfold aLoad
  split
  · rw [h _ (by simp [nmV])]
  · rfl
  · rfl
theorem dStore_loc {t : TypeId} {p x : AV} (h : ∀ i ∈ nmV p, hp' i = hp i) : dStore P hp' t p x = dStore P hp t p x := by
  unfold dStore
  split
  · rw [h _ (by simp [nmV])]
  · rfl
theorem aIndexAddr_loc {T : TypeId} {x ix : AV} (h : ∀ i ∈ nmV x, hp' i = hp i) : aIndexAddr P hp' T x ix = aIndexAddr P hp T x ix := by
  unfold aIndexAddr
  split
  · split
    · split
      · rw [h _ (by simp [nmV])]
      · rfl
      · rfl
    · rfl
  · rfl
theorem srcOf_loc {k : Nat} {v : AV} (h : ∀ i ∈ nmV v, hp' i = hp i) : srcOf hp' k v = srcOf hp k v := by
  unfold srcOf
  split
  · rw [h _ (by simp [nmV])]
  all_goals rfl
theorem aStr_loc {s d : TypeId} {v : AV} (h : ∀ i ∈ nmV v, hp' i = hp i) : aStr P hp' s d v = aStr P hp s d v := by
  unfold aStr
  rw [srcOf_loc h]
theorem dAppend_loc {id : Nat} {T T2 : TypeId} {x y : AV} (h : ∀ i ∈ nmV x, hp' i = hp i) (h2 : ∀ i ∈ nmV y, hp' i = hp i) : dAppend P hp' id T T2 x y = dAppend P hp id T T2 x y := by
  unfold dAppend
  split
  · split
    · split
      · split
        · rw [srcOf_loc h2]
          split
          · split
            · split
              · rw [h _ (by simp [nmV])]
              · rfl
              · rfl
            · rfl
          · rfl
        · rfl
      · rfl
    · rfl
  · rfl
theorem dSlice_loc {id : Nat} {T : TypeId} {x : AV} {lo hi : Option AV} (h : ∀ i ∈ nmV x, hp' i = hp i) : dSlice P hp' id T x lo hi = dSlice P hp id T x lo hi := by
  unfold dSlice
  split
  · split
    · split
      · rfl
      · rw [h _ (by simp [nmV])]
      · rfl
    · rfl
  · rfl
theorem aScal_loc {o : Oper} (he : ∀ x ∈ o.op.operands, ev' x = ev x) : aScal P ev' o = aScal P ev o := by
  unfold aScal
  have h1 : (notSel o.op = true ∧ ∀ x ∈ o.op.operands, (ev' x).val?.isSome = true) ↔ (notSel o.op = true ∧ ∀ x ∈ o.op.operands, (ev x).val?.isSome = true) := by
    constructor
    · exact fun h => ⟨h.1, fun x hx => by rw [← he x hx]; exact h.2 x hx⟩
    · exact fun h => ⟨h.1, fun x hx => by rw [he x hx]; exact h.2 x hx⟩
  by_cases hc : notSel o.op = true ∧ ∀ x ∈ o.op.operands, (ev x).val?.isSome = true
  · rw [if_pos hc, if_pos (h1.2 hc)]
    have : execOp (fun x => ((ev' x).val?).getD undef) o = execOp (fun x => ((ev x).val?).getD undef) o :=
      execOp_congr o (fun cs b e => by have := hc.1; rw [e] at this; cases this) fun x hx => by rw [he x hx]
    rw [this]
  · rw [if_neg hc, if_neg fun h => hc (h1.1 h)]
theorem map_ev {l : List Operand} (h : ∀ x ∈ l, ev' x = ev x) : l.map ev' = l.map ev := List.map_congr_left h
theorem pairs_ev {l : Array (Nat × Operand)} (h : ∀ x ∈ (l.toList.map (·.2)).toArray, ev' x = ev x) : (l.toList.map fun p => (p.1, ev' p.2)) = l.toList.map fun p => (p.1, ev p.2) :=
  List.map_congr_left fun p hp => by rw [h p.2 (by simp only [List.mem_toArray, List.mem_map]; exact ⟨p, hp, rfl⟩)]
theorem effD_loc {o : Oper} {id : Nat} (he : ∀ x ∈ o.op.operands, ev' x = ev x) (hh : ∀ i ∈ fpO ev o, hp' i = hp i) : EffD P o ev' hp' id = EffD P o ev hp id := by
  have hh' : ∀ x ∈ o.op.operands, ∀ i ∈ nmV (ev x), hp' i = hp i := fun x hx i hi => hh i (List.mem_flatMap.2 ⟨x, by simpa using hx, hi⟩)
  have sc := aScal_loc (P := P) he
  clear hh
  obtain ⟨dst, op, type, pos, after, guard⟩ := o
  cases op <;> simp only [Op.operands] at he hh' <;> simp only [EffD]
  case move y => rw [he y (by simp)]
  case assign y => rw [he y (by simp)]
  case pick c a b => rw [he c (by simp), he a (by simp), he b (by simp)]
  case box T y => rw [he y (by simp)]
  case load t p => rw [he p (by simp), aLoad_loc (hh' p (by simp))]
  case store t p y => rw [he p (by simp), he y (by simp), dStore_loc (hh' p (by simp))]
  case nilCheck y => rw [he y (by simp)]
  case fieldAddr S p f => rw [he p (by simp)]
  case indexAddr T y i => rw [he y (by simp), he i (by simp), aIndexAddr_loc (hh' y (by simp))]
  case field S y f => rw [he y (by simp)]
  case extract y j => rw [he y (by simp)]
  case build T parts => rw [pairs_ev he]
  case buildSlice T n parts => rw [pairs_ev he]
  case makeFunc fn first caps =>
    cases fn <;> simp only []
    rw [map_ev (l := caps.toList) fun x hx => he x (by simp; exact .inr (by simpa using hx))]
  case slice T y lo hi mx =>
    rw [he y (by simp), sc]
    have h1 : lo.map ev' = lo.map ev := by cases lo <;> simp; exact he _ (by simp)
    have h2 : hi.map ev' = hi.map ev := by cases hi <;> simp; exact he _ (by simp)
    rw [h1, h2, dSlice_loc (hh' y (by simp))]
  case convert s d y => rw [he y (by simp), sc, aStr_loc (hh' y (by simp))]
  case binOp => rw [sc]
  case unOp => rw [sc]
  case index => rw [sc]
  case call c =>
    obtain ⟨callee, args, argTypes⟩ := c
    unfold EffCallD
    split
    · rename_i y t hc ha ht
      simp only at hc ha ht
      rw [he y (by simp [Call.operands]; exact .inr (by rw [← Array.mem_toList_iff, ha]; simp))]
    · rename_i y z T T2 hc ha ht
      simp only at hc ha ht
      have h1 : y ∈ (Call.operands { callee := callee, args := args, argTypes := argTypes }) := by simp [Call.operands]; exact .inr (by rw [← Array.mem_toList_iff, ha]; simp)
      have h2 : z ∈ (Call.operands { callee := callee, args := args, argTypes := argTypes }) := by simp [Call.operands]; exact .inr (by rw [← Array.mem_toList_iff, ha]; simp)
      rw [he y h1, he z h2, dAppend_loc (hh' y h1) (hh' z h2)]
    · rw [sc]
    · rw [sc]
    · rfl
end
/-- Is it wanted? -/
def gw (ops : Array Oper) (tm : Nat → AV) (o : Oper) : Option Bool :=
  match o.guard with
  | none => some true
  | some (g, want) =>
    match (ops[g]?).bind (·.dst) with
    | none => some false
    | some t =>
      match tm t with
      | .c (.v (.bool b)) => some (b == want)
      | .tu [] => some false
      | _ => none
section
variable {P : Program} {ops : Array Oper} {Q : Exit → Act → World → Prop} {C : Ctx} {φ : Nat → Lc} {F : Nat → List Nat} {St : Nat → Prop} {σ : AS} {a : Act} {w : World} {o : Oper} {i : Nat}
theorem gw_to (h : SimF C φ F St σ a w) {b : Bool} (hg : gw ops σ.tm o = some b) : Region.wanted o (yielded ops a.tmps) = b := by
  unfold gw at hg
  unfold Region.wanted
  split at hg
  · rename_i hgu; injection hg with hg; simp only [hgu]; exact hg
  · rename_i g want hgu
    simp only [hgu]
    split at hg
    · rename_i hd
      injection hg with hg
      subst hg
      simp [yielded, hd]
    · rename_i t hd
      have ht := h.tms t
      have hy1 : ∀ b', a.tmps[t]? = some (.bool b') → yielded ops a.tmps g = some b' := fun v hv => by simp [yielded, hd, hv]
      have hy2 : ∀ us, a.tmps[t]? = some (.tuple us) → yielded ops a.tmps g = none := fun v hv => by simp [yielded, hd, hv]
      have hy3 : a.tmps[t]? = none → yielded ops a.tmps g = none := fun hv => by simp [yielded, hd, hv]
      split at hg
      · rename_i b' e
        injection hg with hg
        subst hg
        rw [e] at ht
        simp only [VR, CR] at ht
        have : a.tmps[t]? = some (.bool b') := by
          have h1 := ht.1
          rw [Array.getD_eq_getD_getElem?] at h1
          cases e2 : a.tmps[t]? with
          | none => rw [e2] at h1; simp [undef] at h1
          | some v => rw [e2] at h1; simp at h1; rw [h1]
        rw [hy1 _ this]
        cases b' <;> cases want <;> rfl
      · rename_i e
        injection hg with hg
        subst hg
        rw [e] at ht
        simp only [VR, VRL] at ht
        obtain ⟨us, h1, rfl⟩ := ht
        have : yielded ops a.tmps g = none := by
          rw [Array.getD_eq_getD_getElem?] at h1
          cases e2 : a.tmps[t]? with
          | none => exact hy3 e2
          | some v => rw [e2] at h1; simp at h1; subst h1; exact hy2 _ e2
        rw [this]; rfl
      · cases hg
theorem Agr.gw {I : Inf} {σ τ : AS} (h : Agr ops o I σ τ) : gw ops τ.tm o = gw ops σ.tm o := by
  unfold Proofs.Ytfnnbjkjfoiboaa.gw
  split
  · rfl
  · rename_i g want hgu
    split
    · rfl
    · rename_i t hd
      rw [h.tm t (by unfold Oper.looksAt; rw [hgu]; simp [hd])]
theorem Agr.ev {I : Inf} {σ τ : AS} (h : Agr ops o I σ τ) : ∀ x ∈ o.op.operands, τ.ev x = σ.ev x := by
  intro x hx
  cases x with
  | tmp t => exact h.tm t (by unfold Oper.looksAt; exact List.mem_append_left _ (List.mem_filterMap.2 ⟨.tmp t, by simpa using hx, rfl⟩))
  | _ => rfl
theorem snd_eff {id : Nat} {x : AV} {d : Dl} (hop : ops[i]? = some o) (hg : gw ops σ.tm o = some true) (he : EffD P o σ.ev σ.hp id = some (x, d)) (hf : ∀ n ∈ d.N, σ.gn ≤ n) : Snd P ops Q C i o σ (d.inf (fpO σ.ev o) x) := by
  intro τ a w ha hs K hK
  obtain ⟨φ, F, St, hs⟩ := hs
  have h1 : EffD P o τ.ev τ.hp id = some (x, d) := by rw [effD_loc ha.ev ha.hp]; exact he
  have h2 := effD_to h1 fun n hn => ⟨by rw [ha.gn]; exact hf n hn, ha.us n hn⟩
  obtain ⟨n, v, w', h3, h4, φ', F', St', h5, h6⟩ := eff_sound (P := P) hs h2
  unfold wpOp
  rw [hop]
  have hw := gw_to hs (b := true) (by rw [ha.gw]; exact hg)
  simp only [hw, if_true]
  refine .inl ?_
  unfold Oper.wp
  rw [h3]
  have h7 := h5.put o.dst h6
  rw [Dl.app_eq] at hK
  rcases h4 with rfl | ⟨rfl, rfl⟩
  · exact hK _ _ ⟨φ', F', St', h7⟩
  · exact hK _ _ ⟨φ', F', St', h7⟩
def infSkip : Inf := ⟨[], [], [], .tu []⟩
theorem snd_skip (hop : ops[i]? = some o) (hg : gw ops σ.tm o = some false) : Snd P ops Q C i o σ infSkip := by
  intro τ a w ha hs K hK
  obtain ⟨φ, F, St, hs⟩ := hs
  unfold wpOp
  rw [hop]
  have hw := gw_to hs (b := false) (by rw [ha.gw]; exact hg)
  simp only [hw]
  exact hK _ _ ⟨φ, F, St, hs.put o.dst (x := .tu []) (by simp only [VR]; exact ⟨[], rfl, by simp [VRL]⟩)⟩
variable {H : List (Nat × Oper × Inf)} {r : List Nat} {dr : Bool}
theorem walk_eff (id : Nat) {x : AV} {d : Dl} (hop : ops[i]? = some o) (hg : gw ops σ.tm o = some true) (he : EffD P o σ.ev σ.hp id = some (x, d)) (hf : ∀ n ∈ d.N, σ.gn ≤ n ∧ n ∉ σ.us)
    (hc : dr = true → (H.all fun h => wt .any ops ops.size i h.1 || inp ops o (d.inf (fpO σ.ev o) x) h.2.1 h.2.2) = true) (h : Walk P ops Q C dr ((i, o, d.inf (fpO σ.ev o) x) :: H) r ((d.ap σ).put o.dst x)) : Walk P ops Q C dr H (i :: r) σ :=
  ⟨o, _, hop, snd_eff hop hg he fun n hn => (hf n hn).1, fun n hn => (hf n hn).2, hc, by rw [Dl.app_eq]; exact h⟩
theorem walk_skip (hop : ops[i]? = some o) (hg : gw ops σ.tm o = some false) (hc : dr = true → (H.all fun h => wt .any ops ops.size i h.1 || inp ops o infSkip h.2.1 h.2.2) = true)
    (h : Walk P ops Q C dr ((i, o, infSkip) :: H) r (σ.put o.dst (.tu []))) : Walk P ops Q C dr H (i :: r) σ :=
  ⟨o, _, hop, snd_skip hop hg, fun n hn => absurd hn List.not_mem_nil, hc, h⟩
theorem walk_nil (h : ∀ a w, Sim C σ a w → Q .normal a w) : Walk P ops Q C dr H [] σ := h
end
end Go.Proofs.Ytfnnbjkjfoiboaa
