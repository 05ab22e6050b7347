/- The abstract machine, three: what reads. -/
import Derived.Test.YtfnnbjkjfoiboaaA2
import Derived.Orders
namespace Go.Proofs.Ytfnnbjkjfoiboaa
open Go.RowKit

/-- A computation that asks nothing of the world. -/
def Semval {α : Type} (P : Program) : Sem α → Option α
  | .pure a => some a
  | .program k => Semval P (k P)
  | .mark _ k => Semval P k
  | _ => none
theorem run_of_val {α : Type} {P : Program} {s : Sem α} {a : α} (w : World) (h : Semval P s = some a) : s.run P w = .ok a w := by
  induction s with
  | pure b => simp only [Semval, Option.some.injEq] at h; subst h; rfl
  | program k ih => simp only [Semval] at h; exact ih P h
  | mark m k ih => simp only [Semval] at h; exact ih h
  | _ => simp [Semval] at h

def ofC (v : Value) : AC := if scal v then .v v else .un
def ofV : Value → AV
  | .agg cs => .ag (cs.toList.map ofC)
  | v => .c (ofC v)
def AS.ev (σ : AS) : Operand → AV
  | .tmp t => σ.tm t
  | .const v => ofV v
  | .global _ => .c .un
  | .func f => .c (.fn f [])
def AC.val? : AC → Option Value
  | .v x => some x
  | _ => none
def valL : List AC → Option (List Value)
  | [] => some []
  | .v x :: r => (valL r).map (x :: ·)
  | _ :: _ => none
def AV.val? : AV → Option Value
  | .c (.v x) => some x
  | .ag l => (valL l).map fun us => .agg us.toArray
  | _ => none
def AV.cells : AV → Option (List AC)
  | .c .un => none
  | .c x => some [x]
  | .ag l => some l
  | .tu _ => none
def aggD : TypeDesc → Bool
  | .struct _ | .array _ _ => true
  | _ => false
def ld : AC → AC
  | .ow .. => .un
  | .bx .. => .un
  | c => c
/-- A value of type t out of its cells. -/
def mkAV (P : Program) (t : TypeId) (cs : List AC) : Option AV :=
  match P.underlying t, P.info? t with
  | some d, some i => if cs.length = i.size then (if aggD d then some (.ag (cs.map ld)) else match cs with | [c] => some (.c (ld c)) | _ => none) else none
  | _, _ => none

section
variable {P : Program} {w : World} {St : Nat → Prop} {φ : Nat → Lc} {K : Nat → Prop}
theorem ofC_CR (v : Value) : CR w St φ K (ofC v) v [] := by
  unfold ofC
  split
  · simp only [CR]; exact ⟨trivial, by assumption, trivial⟩
  · simp [CR]
theorem ofC_CRL : ∀ us : List Value, CRL w St φ K (us.map ofC) us []
  | [] => CRL.nil
  | u :: us => CRL.cons (f := []) (ofC_CR u) (ofC_CRL us)
theorem ofV_VR (v : Value) : VR w St φ K (ofV v) v := by
  unfold ofV
  split
  · rename_i cs; simp only [VR]; exact ⟨cs.toList, by simp, ofC_CRL _⟩
  · simp only [VR]; exact ofC_CR _
theorem valL_eq : ∀ {l : List AC} {us vs : List Value} {fp : List Nat}, valL l = some vs → CRL w St φ K l us fp → us = vs
  | [], us, vs, fp, h, h' => by simp only [valL, Option.some.injEq] at h; simp only [CRL] at h'; rw [h'.1, ← h]
  | .v x :: r, us, vs, fp, h, h' => by
    simp only [valL, Option.map_eq_some_iff] at h
    obtain ⟨vs', h1, rfl⟩ := h
    simp only [CRL, CR] at h'
    obtain ⟨u, us', f1, f2, rfl, _, ⟨rfl, _, _⟩, h4⟩ := h'
    rw [valL_eq h1 h4]
  | .ro .. :: _, _, _, _, h, _ | .ow .. :: _, _, _, _, h, _ | .sl .. :: _, _, _, _, h, _ | .pt .. :: _, _, _, _, h, _ | .rp .. :: _, _, _, _, h, _ | .fn .. :: _, _, _, _, h, _ | .bx .. :: _, _, _, _, h, _ | .un :: _, _, _, _, h, _ => by simp [valL] at h
theorem val_eq {x : AV} {u y : Value} (h : x.val? = some y) (hx : VR w St φ K x u) : u = y := by
  unfold AV.val? at h
  split at h
  · simp only [VR, CR] at hx; injection h with h; rw [hx.1, h]
  · simp only [VR] at hx
    obtain ⟨us, rfl, hx⟩ := hx
    simp only [Option.map_eq_some_iff] at h
    obtain ⟨vs, h1, rfl⟩ := h
    rw [valL_eq h1 hx]
  · cases h
theorem ld_CR {c : AC} {u : Value} {f : List Nat} (h : CR w St φ K c u f) : CR w St φ K (ld c) u [] := by
  unfold ld
  split
  · simp [CR]
  · simp [CR]
  · rename_i hne hne2
    cases c <;> first | exact absurd rfl (hne _ _ _ _) | exact absurd rfl (hne2 _ _) | (simp only [CR] at h ⊢ <;> first | exact ⟨h.1, h.2.1, trivial⟩ | exact ⟨trivial, h.2⟩)
theorem ld_CRL : ∀ {l : List AC} {us : List Value} {fp : List Nat}, CRL w St φ K l us fp → CRL w St φ K (l.map ld) us []
  | [], us, fp, h => by simp only [CRL] at h; rw [h.1]; exact CRL.nil
  | c :: r, us, fp, h => by
    simp only [CRL] at h
    obtain ⟨u, us', f1, f2, rfl, rfl, h1, h2⟩ := h
    exact CRL.cons (f := []) (ld_CR h1) (ld_CRL h2)
theorem cells_CRL {x : AV} {u : Value} {cs : List AC} (h : x.cells = some cs) (hx : VR w St φ K x u) : CRL w St φ K cs u.cells.toList [] := by
  unfold AV.cells at h
  split at h
  · cases h
  · rename_i c hne
    injection h with h
    subst h
    simp only [VR] at hx
    have h1 := CR.one (by intro e; exact hne e) hx
    have e : u.cells = #[u] := by cases u <;> first | rfl | simp [Value.oneCell'] at h1
    rw [e]
    exact CRL.cons (f := []) (f' := []) hx CRL.nil
  · injection h with h
    subst h
    simp only [VR] at hx
    obtain ⟨us, rfl, hx⟩ := hx
    simpa [Value.cells] using hx
  · cases h
theorem run_isAgg {t : TypeId} {d : TypeDesc} (h : P.underlying t = some d) (w : World) : (isAgg t).run P w = .ok (aggD d) w := by
  unfold isAgg
  rw [Sem.run_bind, run_underlying h w]
  cases d <;> simp [aggD, Result.andThen]
theorem run_sizeOf {t : TypeId} {i : TypeInfo} (h : P.info? t = some i) (w : World) : (sizeOf t).run P w = .ok i.size w := by
  simp [sizeOf, typeInfo, h]
/-- Reading a variable. -/
theorem run_mkAV {t : TypeId} {cs : List AC} {us : List Value} {fp : List Nat} {x : AV} {b p : Nat} (hm : mkAV P t cs = some x) (hc : CRL w St φ K cs us fp) (hcell : ∀ j y, us[j]? = some y → w.cell? ⟨b, p + j, none⟩ = some y) :
    ∃ v, (loadVar t ⟨b, p, none⟩).run P w = .ok v w ∧ VR w St φ K x v := by
  unfold mkAV at hm
  split at hm
  · rename_i d i hd hi
    split at hm
    · rename_i hl
      have hl' : us.length = i.size := by rw [hc.len, hl]
      split at hm
      · rename_i ha
        injection hm with hm
        subst hm
        have h1 : (loadCells ⟨b, p, none⟩ us.length).run P w = .ok us.toArray w := run_loadCells_list (P := P) w ⟨b, p, none⟩ us fun j y hy => by rw [Addr.add_lit]; exact hcell j y hy
        refine ⟨.agg us.toArray, ?_, by simp only [VR]; exact ⟨us, rfl, ld_CRL hc⟩⟩
        unfold loadVar
        rw [Sem.run_bind, run_isAgg hd, ha]
        simp only [Result.andThen_ok, if_true, Sem.run_bind, run_sizeOf hi, ← hl', h1, Sem.run_pure]
      · rename_i ha
        split at hm
        · rename_i c
          injection hm with hm
          subst hm
          simp only [CRL] at hc
          obtain ⟨u, us', f1, f2, rfl, rfl, h1, rfl, rfl⟩ := hc
          have h2 := hcell 0 u rfl
          rw [Nat.add_zero] at h2
          refine ⟨u, ?_, by simp only [VR]; exact ld_CR h1⟩
          unfold loadVar
          rw [Sem.run_bind, run_isAgg hd]
          simp only [Bool.not_eq_true] at ha
          simp only [Result.andThen_ok, ha, Bool.false_eq_true, if_false, load, Sem.run, h2]
        · cases hm
    · cases hm
  · cases hm
end
section
variable {P : Program} {C : Ctx} {φ : Nat → Lc} {F : Nat → List Nat} {St : Nat → Prop} {σ : AS} {a : Act} {w : World}
theorem SimF.ev (h : SimF C φ F St σ a w) (x : Operand) : VR w St φ σ.Kn (σ.ev x) (a.eval x) := by
  cases x with
  | tmp t => exact h.tms t
  | const v => exact ofV_VR v
  | global g => exact undef_un _
  | func f => simp only [AS.ev, VR, CR, Act.eval]; exact ⟨trivial, [], rfl, CRL.nil⟩
/-- A row's cells, where a pointer into it points. -/
theorem SimF.at_ (h : SimF C φ F St σ a w) {i o : Nat} {r : Row} (hr : σ.hp i = some r) {u : Value} (hu : CR w St φ σ.Kn (.pt i o) u []) :
    ∃ b p us fs, u = .pointer (some ⟨b, p + o, none⟩) ∧ CRL w St φ σ.Kn r.cs us fs ∧ (∀ j y, us[j]? = some y → w.cell? ⟨b, p + j, none⟩ = some y) := by
  have h1 := (h.row i r hr).2
  simp only [CR] at hu
  obtain ⟨_, _, ⟨b, lo, e, rfl⟩ | ⟨b, n, c, e, rfl⟩⟩ := hu
  · rw [e] at h1
    obtain ⟨_, us, h2, h3⟩ := h1
    exact ⟨b, lo, us, F i, rfl, h2, fun j y hy => h3.cell hy⟩
  · rw [e] at h1
    obtain ⟨_, us, fs, h2, h3, _⟩ := h1
    refine ⟨b, 0, us, fs, by simp, h2, fun j y hy => ?_⟩
    have := h3.cells (g := b) rfl j y hy
    rwa [Addr.add_lit] at this
end
def subL (l : List AC) (o n : Nat) : List AC := (l.drop o).take n
/-- Reading through a pointer. -/
def aLoad (P : Program) (t : TypeId) (hp : Nat → Option Row) : AV → Option AV
  | .c (.pt i o) => (hp i).bind fun r => mkAV P t (subL r.cs o (P.cellsOf t))
  | .c (.rp l o) => mkAV P t (subL l o (P.cellsOf t))
  | _ => none
section
variable {P : Program} {C : Ctx} {φ : Nat → Lc} {F : Nat → List Nat} {St : Nat → Prop} {σ : AS} {a : Act} {w : World}
theorem CRL.drop {K : Nat → Prop} : ∀ {l : List AC} {us : List Value} {fp : List Nat} (o : Nat), CRL w St φ K l us fp → ∃ fs, CRL w St φ K (l.drop o) (us.drop o) fs
  | l, us, fp, 0, h => ⟨fp, by simpa using h⟩
  | [], us, fp, o + 1, h => ⟨[], by simp only [CRL] at h; rw [h.1]; simpa using CRL.nil⟩
  | c :: r, us, fp, o + 1, h => by
    simp only [CRL] at h
    obtain ⟨u, us', f1, f2, rfl, rfl, h1, h2⟩ := h
    simpa using h2.drop o
theorem CRL.take {K : Nat → Prop} : ∀ {l : List AC} {us : List Value} {fp : List Nat} (o : Nat), CRL w St φ K l us fp → ∃ fs, CRL w St φ K (l.take o) (us.take o) fs
  | l, us, fp, 0, h => ⟨[], by simpa using CRL.nil⟩
  | [], us, fp, o + 1, h => ⟨[], by simp only [CRL] at h; rw [h.1]; simpa using CRL.nil⟩
  | c :: r, us, fp, o + 1, h => by
    simp only [CRL] at h
    obtain ⟨u, us', f1, f2, rfl, rfl, h1, h2⟩ := h
    obtain ⟨fs, h3⟩ := h2.take o
    exact ⟨f1 ++ fs, by simpa using CRL.cons h1 h3⟩
theorem CRL.sub {K : Nat → Prop} {l : List AC} {us : List Value} {fp : List Nat} (h : CRL w St φ K l us fp) (o n : Nat) : ∃ fs, CRL w St φ K (subL l o n) ((us.drop o).take n) fs := by
  obtain ⟨fs, h1⟩ := h.drop o
  exact h1.take n
theorem sub_cell {us : List Value} {b p o n : Nat} (h : ∀ j y, us[j]? = some y → w.cell? ⟨b, p + j, none⟩ = some y) : ∀ j y, ((us.drop o).take n)[j]? = some y → w.cell? ⟨b, p + o + j, none⟩ = some y := by
  intro j y hy
  rw [List.getElem?_take] at hy
  split at hy
  · rw [List.getElem?_drop] at hy
    have := h (o + j) y hy
    rwa [← Nat.add_assoc] at this
  · cases hy
theorem aLoad_run (h : SimF C φ F St σ a w) {t : TypeId} {x y : AV} {u : Value} (hx : VR w St φ σ.Kn x u) (hl : aLoad P t σ.hp x = some y) : ∃ v, (Instr.loadAt t u).run P w = .ok v w ∧ VR w St φ σ.Kn y v := by
  unfold aLoad at hl
  split at hl
  · rename_i i o
    simp only [VR] at hx
    simp only [Option.bind_eq_some_iff] at hl
    obtain ⟨r, hr, hm⟩ := hl
    obtain ⟨b, p, us, fs, rfl, h1, h2⟩ := h.at_ hr hx
    obtain ⟨fs', h3⟩ := h1.sub o (P.cellsOf t)
    obtain ⟨v, h4, h5⟩ := run_mkAV (P := P) hm h3 (sub_cell h2)
    refine ⟨v, ?_, h5⟩
    simp only [Instr.loadAt, Instr.sureAddr, Sem.run_bind, Sem.run_pure, Result.andThen_ok, h4]
  · rename_i l o
    simp only [VR, CR] at hx
    obtain ⟨_, b, p, us, rfl, _, _, h2, h1⟩ := hx
    obtain ⟨fs', h3⟩ := h1.sub o (P.cellsOf t)
    obtain ⟨v, h4, h5⟩ := run_mkAV (P := P) hl h3 (sub_cell h2)
    refine ⟨v, ?_, h5⟩
    simp only [Instr.loadAt, Instr.sureAddr, Sem.run_bind, Sem.run_pure, Result.andThen_ok, h4]
  · cases hl
end
end Go.Proofs.Ytfnnbjkjfoiboaa
