/- The abstract machine, seven: one operation. -/
import Derived.Test.YtfnnbjkjfoiboaaA6
namespace Go.Proofs.Ytfnnbjkjfoiboaa
open Go.RowKit

def AS.grow (σ : AS) (id : Nat) (r : Row) : AS := { σ with hp := upd σ.hp id (some r), us := id :: σ.us }
def AS.set (σ : AS) (i : Nat) (r : Option Row) : AS := { σ with hp := upd σ.hp i r }
/-- What one operation comes to. -/
def OpTo (P : Program) (C : Ctx) (o : Oper) (a : Act) (w : World) (x : AV) (σ' : AS) : Prop :=
  ∃ n v w', (execOp a.eval o).run P w = .ok n w' ∧ (n = .value v ∨ n = .skip ∧ v = undef) ∧ PostS C σ' a x v w'

def aAlloc (P : Program) (σ : AS) (id : Nat) (T : TypeId) : Option (AV × AS) :=
  match (P.info? T).bind (·.zero) with
  | some z => if σ.gn ≤ id ∧ id ∉ σ.us then some (.c (.pt id 0), σ.grow id ⟨T, 0, 0, true, z.cells.toList.map ofC⟩) else none
  | none => none
def aBox (σ : AS) (id : Nat) (T : TypeId) (x : AV) : Option (AV × AS) :=
  match x.cells with
  | some cs => if σ.gn ≤ id ∧ id ∉ σ.us then some (.c (.pt id 0), σ.grow id ⟨T, 0, 0, true, cs⟩) else none
  | none => none
def aStore (P : Program) (σ : AS) (t : TypeId) (p x : AV) : Option (AV × AS) :=
  match p, x.cells with
  | .c (.pt i o), some cs =>
    match σ.hp i with
    | some r => if (P.info? t).map (·.size) = some cs.length ∧ cs.all noUn = true ∧ o + cs.length ≤ r.cs.length then some (.c .un, σ.set i (some { r with cs := spl r.cs o cs })) else none
    | none => none
  | _, _ => none
def aNil : AV → Option AV
  | .c (.pt i o) => some (.c (.pt i o))
  | .c (.rp l o) => some (.c (.rp l o))
  | .c (.fn f c) => some (.c (.fn f c))
  | _ => none
def fldOf (P : Program) (S : TypeId) (f : Nat) : Option Field :=
  match P.underlying S with
  | some (.struct fs) => fs[f]?
  | _ => none
def aFieldAddr (P : Program) (S : TypeId) (f : Nat) (p : AV) : Option AV :=
  match fldOf P S f with
  | some fl => if (P.info? fl.type).isSome = true ∧ P.cellsOf fl.type ≠ 0 then
      match p with
      | .c (.pt i o) => some (.c (.pt i (o + fl.offset)))
      | .c (.rp l o) => some (.c (.rp l (o + fl.offset)))
      | _ => none
    else none
  | none => none
def aIndexAddr (P : Program) (hp : Nat → Option Row) (T : TypeId) (x ix : AV) : Option AV :=
  match P.underlying T, ix with
  | some (.slice e), .c (.v (.int _ n)) =>
    match (P.info? e).map (·.size) with
    | some k =>
      match x with
      | .c (.sl i m) =>
        match hp i with
        | some r => if r.box = false ∧ r.n = m ∧ 0 ≤ n ∧ n < m then some (.c (.pt i (n.toNat * k))) else none
        | none => none
      | .c (.ro m k' l) => if k' = k ∧ 0 ≤ n ∧ n < m then some (.c (.rp l (n.toNat * k))) else none
      | _ => none
    | none => none
  | _, _ => none
def aField (P : Program) (S : TypeId) (f : Nat) : AV → Option AV
  | .ag l => (fldOf P S f).bind fun fl => mkAV P fl.type (subL l fl.offset (P.cellsOf fl.type))
  | _ => none
def aExtract (j : Nat) : AV → Option AV
  | .tu l => l[j]?
  | _ => none
def aPick : AV → AV → AV → Option AV
  | .c (.v (.bool t)), a, b => some (if t then a else b)
  | _, _, _ => none
def aLen : AV → Option AV
  | .c (.sl _ n) => some (.c (.v (.int .i64 n)))
  | .c (.ro n _ _) => some (.c (.v (.int .i64 n)))
  | .c (.v (.slice none 0 0)) => some (.c (.v (.int .i64 0)))
  | .c (.v (.string s)) => some (.c (.v (.int .i64 s.size)))
  | _ => none
section
variable {P : Program} {C : Ctx} {φ : Nat → Lc} {F : Nat → List Nat} {St : Nat → Prop} {σ : AS} {a : Act} {w : World}
theorem aAlloc_to (h : SimF C φ F St σ a w) {id : Nat} {T : TypeId} {x : AV} {σ' : AS} (he : aAlloc P σ id T = some (x, σ')) : ∃ v w', (Instr.alloc T true (.tuple #[])).run P w = .ok v w' ∧ PostS C σ' a x v w' := by
  unfold aAlloc at he
  split at he
  · rename_i z hz
    split at he
    · rename_i hc
      injection he with he
      injection he with e1 e2
      subst e1 e2
      simp only [Option.bind_eq_some_iff] at hz
      obtain ⟨i, hi, hz⟩ := hz
      refine ⟨_, _, ?_, h.newBox hc.1 hc.2 (ofC_CRL z.cells.toList) T⟩
      simp [Instr.alloc, zeroValue, typeInfo, hi, hz, newVar, newRow]
    · cases he
  · cases he
theorem aBox_to (h : SimF C φ F St σ a w) {id : Nat} {T : TypeId} {y x : AV} {u : Value} (hy : VR w St φ σ.Kn y u) {σ' : AS} (he : aBox σ id T y = some (x, σ')) : ∃ v w', (Instr.box T u).run P w = .ok v w' ∧ PostS C σ' a x v w' := by
  unfold aBox at he
  split at he
  · rename_i cs hcs
    split at he
    · rename_i hc
      injection he with he
      injection he with e1 e2
      subst e1 e2
      refine ⟨_, _, ?_, h.newBox hc.1 hc.2 (cells_CRL hcs hy) T⟩
      simp [Instr.box, newVar, newRow]
    · cases he
  · cases he
theorem aStore_to (h : SimF C φ F St σ a w) {t : TypeId} {p y x : AV} {up u : Value} (hp : VR w St φ σ.Kn p up) (hy : VR w St φ σ.Kn y u) {σ' : AS} (he : aStore P σ t p y = some (x, σ')) : ∃ w', (Instr.storeAt t up u).run P w = .ok () w' ∧ PostS C σ' a x undef w' := by
  unfold aStore at he
  split at he
  · rename_i i o cs hcs
    split at he
    · rename_i r hr
      split at he
      · rename_i hc
        obtain ⟨h1, h2, h3⟩ := hc
        injection he with he
        injection he with e1 e2
        subst e1 e2
        have hcr := cells_CRL hcs hy
        simp only [VR] at hp
        obtain ⟨b, p, w', F', rfl, hst, hsim⟩ := h.store (P := P) hr hp hcr (hcr.one h2) h3
        refine ⟨w', ?_, φ, F', St, hsim, undef_un _⟩
        simp only [Option.map_eq_some_iff] at h1
        obtain ⟨inf, hi, hs⟩ := h1
        have hl := hcr.len
        simp only [Array.length_toList] at hl
        simp [Instr.storeAt, Instr.sureAddr, storeVar, sizeOf, typeInfo, hi, hs, hl, hst]
      · cases he
    · cases he
  · cases he
theorem aNil_to {K : Nat → Prop} {x y : AV} {u : Value} (hx : VR w St φ K x u) (he : aNil x = some y) : y = x ∧ ∀ (o : Oper) (ρ : Operand → Value) (z : Operand), o.op = .nilCheck z → ρ z = u → (execOp ρ o).run P w = .ok (.value u) w := by
  unfold aNil at he
  split at he
  · injection he with he; subst he
    simp only [VR, CR] at hx
    obtain ⟨_, _, ⟨b, lo, _, rfl⟩ | ⟨b, n, c, _, rfl⟩⟩ := hx <;> exact ⟨rfl, fun o ρ z ho hz => by simp [execOp, ho, hz]⟩
  · injection he with he; subst he
    simp only [VR, CR] at hx
    obtain ⟨_, b, p, us, rfl, _⟩ := hx
    exact ⟨rfl, fun o ρ z ho hz => by simp [execOp, ho, hz]⟩
  · injection he with he; subst he
    simp only [VR, CR] at hx
    obtain ⟨_, us, rfl, _⟩ := hx
    exact ⟨rfl, fun o ρ z ho hz => by simp [execOp, ho, hz]⟩
  · cases he
theorem fld_run {S : TypeId} {f : Nat} {fl : Field} (h : fldOf P S f = some fl) : ∃ fs, P.underlying S = some (.struct fs) ∧ fs[f]? = some fl := by
  unfold fldOf at h
  split at h
  · rename_i fs hS; exact ⟨fs, hS, h⟩
  · cases h
theorem aFieldAddr_to {K : Nat → Prop} {S : TypeId} {f : Nat} {x y : AV} {u : Value} (hx : VR w St φ K x u) (he : aFieldAddr P S f x = some y) : ∃ v, (Instr.fieldAt S u f).run P w = .ok v w ∧ VR w St φ K y v := by
  unfold aFieldAddr at he
  split at he
  · rename_i fl hfl
    obtain ⟨fs, hS, hf⟩ := fld_run hfl
    split at he
    · rename_i hc
      obtain ⟨hi, h0⟩ := hc
      obtain ⟨inf, hi⟩ := Option.isSome_iff_exists.1 hi
      have h0' : inf.size ≠ 0 := by simpa [Program.cellsOf, hi] using h0
      have hplace : ∀ ad : Addr, (fieldPlace ad fl).run P w = .ok (ad.add fl.offset) w := fun ad => by simp [fieldPlace, sizeOf, typeInfo, hi, h0']
      have hrun : ∀ b q : Nat, (Instr.fieldAt S (.pointer (some ⟨b, q, none⟩)) f).run P w = .ok (.pointer (some ⟨b, q + fl.offset, none⟩)) w := fun b q => by
        simp [Instr.fieldAt, run_underlying hS, hf, Instr.sureAddr, hplace, Addr.add_lit]
      split at he
      · rename_i i o
        injection he with he; subst he
        simp only [VR, CR] at hx ⊢
        obtain ⟨_, hk, ⟨b, lo, e, rfl⟩ | ⟨b, n, c, e, rfl⟩⟩ := hx
        · exact ⟨_, hrun b (lo + o), trivial, hk, .inl ⟨b, lo, e, by rw [Nat.add_assoc]⟩⟩
        · exact ⟨_, hrun b o, trivial, hk, .inr ⟨b, n, c, e, rfl⟩⟩
      · rename_i l o
        injection he with he; subst he
        simp only [VR, CR] at hx ⊢
        obtain ⟨_, b, p, us, rfl, h1⟩ := hx
        exact ⟨_, hrun b (p + o), trivial, b, p, us, by rw [Nat.add_assoc], h1⟩
      · cases he
    · cases he
  · cases he
theorem aIndexAddr_to (h : SimF C φ F St σ a w) {T : TypeId} {x ix y : AV} {u ui : Value} (hx : VR w St φ σ.Kn x u) (hi : VR w St φ σ.Kn ix ui) (he : aIndexAddr P σ.hp T x ix = some y) : ∃ v, (Instr.indexAt T u ui).run P w = .ok v w ∧ VR w St φ σ.Kn y v := by
  unfold aIndexAddr at he
  split at he
  · rename_i e kd n hT
    simp only [VR, CR] at hi
    obtain ⟨rfl, _, _⟩ := hi
    split at he
    · rename_i k hk
      simp only [Option.map_eq_some_iff] at hk
      obtain ⟨inf, hinf, rfl⟩ := hk
      have hrun : ∀ (b q m c : Nat), 0 ≤ n → n < m → (Instr.indexAt T (.slice (some ⟨b, q, none⟩) m c) (.int kd n)).run P w = .ok (.pointer (some ⟨b, q + n.toNat * inf.size, none⟩)) w := fun b q m c h0 h1 => by
        simp [Instr.indexAt, asIntOf, run_underlying hT, h0, h1, sizeOf, typeInfo, hinf, Addr.add_lit]
      split at he
      · rename_i i m
        split at he
        · rename_i r hr
          split at he
          · rename_i hc
            obtain ⟨hb, hm, h0, h1⟩ := hc
            injection he with he; subst he
            simp only [VR, CR] at hx
            obtain ⟨_, hk, e, A, c, rfl⟩ := hx
            have hrow := (h.row i r hr).2
            rw [e] at hrow
            obtain ⟨_, us, fs, _, ⟨_, hown⟩, _⟩ := hrow
            rcases hown with ⟨hv, hn⟩ | ⟨g, cap, cur, hv, _⟩
            · omega
            · injection hv with hv1 hv2 hv3
              subst hv1
              refine ⟨_, hrun g 0 m c h0 h1, ?_⟩
              simp only [VR, CR]
              exact ⟨trivial, hk, .inr ⟨g, m, c, e, by rw [Nat.zero_add]⟩⟩
          · cases he
        · cases he
      · rename_i m k' l
        split at he
        · rename_i hc
          obtain ⟨rfl, h0, h1⟩ := hc
          injection he with he; subst he
          simp only [VR, CR] at hx
          obtain ⟨_, A, c, rfl, _, _, hcell⟩ := hx
          obtain ⟨b, o, us, rfl, s1, s2, s3, s4⟩ := hcell (by omega)
          refine ⟨_, hrun b o m c h0 h1, ?_⟩
          simp only [VR, CR]
          exact ⟨trivial, b, o, us, rfl, s1, s2, s3, s4⟩
        · cases he
      · cases he
    · cases he
  · cases he
theorem aField_to {K : Nat → Prop} {S : TypeId} {f : Nat} {x y : AV} {u : Value} (hx : VR w St φ K x u) (he : aField P S f x = some y) : ∃ v, (Instr.field S u f).run P w = .ok v w ∧ VR w St φ K y v := by
  unfold aField at he
  split at he
  · rename_i l
    simp only [Option.bind_eq_some_iff] at he
    obtain ⟨fl, hfl, hm⟩ := he
    obtain ⟨fs, hS, hf⟩ := fld_run hfl
    simp only [VR] at hx
    obtain ⟨us, rfl, hc⟩ := hx
    obtain ⟨fs', h3⟩ := hc.sub fl.offset (P.cellsOf fl.type)
    unfold mkAV at hm
    split at hm
    · rename_i d i hd hi
      have hz : P.cellsOf fl.type = i.size := by simp [Program.cellsOf, hi]
      split at hm
      · rename_i hl
        have hl3 := h3.len
        rw [hl] at hl3
        split at hm
        · rename_i hag
          injection hm with hm; subst hm
          refine ⟨.agg ((us.drop fl.offset).take (P.cellsOf fl.type)).toArray, ?_, by simp only [VR]; exact ⟨_, rfl, ld_CRL h3⟩⟩
          have e : us.toArray.extract fl.offset (fl.offset + i.size) = ((us.drop fl.offset).take (P.cellsOf fl.type)).toArray := by
            rw [hz]
            apply Array.ext'
            simp only [List.extract_toArray, List.extract_eq_take_drop, Nat.add_sub_cancel_left]
          simp [Instr.field, run_underlying hS, hf, part, run_isAgg hd, hag, asAgg, run_sizeOf hi, e, hz]
        · rename_i hag
          split at hm
          · rename_i c hcs
            injection hm with hm; subst hm
            rw [hcs] at h3
            simp only [CRL] at h3
            obtain ⟨v, us', f1, f2, e, _, h1, rfl, rfl⟩ := h3
            refine ⟨v, ?_, by simp only [VR]; exact ld_CR h1⟩
            have e2 : us[fl.offset]? = some v := by
              have := congrArg (fun l : List Value => l[0]?) e
              simp only [List.getElem?_cons_zero, List.getElem?_take, List.getElem?_drop, Nat.add_zero] at this
              split at this
              · exact this
              · cases this
            simp [Instr.field, run_underlying hS, hf, part, run_isAgg hd, hag, asAgg, e2]
          · cases hm
      · cases hm
    · cases hm
  · cases he
theorem VRL.at_ {K : Nat → Prop} : ∀ {l : List AV} {us : List Value} {j : Nat} {x : AV}, VRL w St φ K l us → l[j]? = some x → ∃ u, us[j]? = some u ∧ VR w St φ K x u
  | [], _, _, _, _, h => by simp at h
  | c :: r, us, 0, x, h, hx => by
    simp only [VRL] at h
    obtain ⟨u, us', rfl, h1, _⟩ := h
    obtain rfl : c = x := by simpa using hx
    exact ⟨u, rfl, h1⟩
  | c :: r, us, j + 1, x, h, hx => by
    simp only [VRL] at h
    obtain ⟨u, us', rfl, _, h2⟩ := h
    obtain ⟨v, h3, h4⟩ := h2.at_ (j := j) (by simpa using hx)
    exact ⟨v, by simpa using h3, h4⟩
theorem aExtract_to {K : Nat → Prop} {j : Nat} {x y : AV} {u : Value} (hx : VR w St φ K x u) (he : aExtract j x = some y) : ∃ v, (Instr.extract u j).run P w = .ok v w ∧ VR w St φ K y v := by
  unfold aExtract at he
  split at he
  · rename_i l
    simp only [VR] at hx
    obtain ⟨us, rfl, hl⟩ := hx
    obtain ⟨v, h1, h2⟩ := hl.at_ he
    exact ⟨v, by simp [Instr.extract, h1], h2⟩
  · cases he
theorem aLen_to {K : Nat → Prop} {x y : AV} {u : Value} (hx : VR w St φ K x u) (he : aLen x = some y) : ∃ n : Nat, y = .c (.v (.int .i64 n)) ∧ ((∃ A c, u = .slice A n c) ∨ ∃ s : ByteArray, u = .string s ∧ s.size = n) := by
  unfold aLen at he
  split at he <;> (try cases he) <;> simp only [VR, CR] at hx
  · obtain ⟨_, _, _, A, c, rfl⟩ := hx; exact ⟨_, rfl, .inl ⟨A, c, rfl⟩⟩
  · obtain ⟨_, A, c, rfl, _⟩ := hx; exact ⟨_, rfl, .inl ⟨A, c, rfl⟩⟩
  · obtain ⟨rfl, _⟩ := hx; exact ⟨0, rfl, .inl ⟨none, 0, rfl⟩⟩
  · obtain ⟨rfl, _⟩ := hx; exact ⟨_, rfl, .inr ⟨_, rfl, rfl⟩⟩
end
end Go.Proofs.Ytfnnbjkjfoiboaa
