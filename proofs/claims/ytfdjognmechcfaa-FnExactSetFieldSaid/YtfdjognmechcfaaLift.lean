/- What data say, handed to a function of data with places. -/
import Derived.Test.YtfdjognmechcfaaAB
namespace Go.Proofs.Ytfdjognmechcfaa
open Go.RowKit
noncomputable def liftS {α β : Type} (R : α → Prop) (f : α → β) (z : β) : β := open Classical in if h : ∃ a, R a then f h.choose else z
theorem liftS_to {α β : Type} {R : α → Prop} {f : α → β} {z : β} {a : α} (h : R a) : ∃ a', R a' ∧ liftS R f z = f a' := by
  have h' : ∃ a, R a := ⟨a, h⟩
  refine ⟨h'.choose, h'.choose_spec, ?_⟩
  unfold liftS
  rw [dif_pos h']
theorem liftS_prop {α β : Type} {R : α → Prop} {f : α → β} {z : β} (p : β → Prop) (h1 : ∀ a, R a → p (f a)) (h2 : p z) : p (liftS R f z) := by
  unfold liftS
  split
  · rename_i h; exact h1 _ h.choose_spec
  · exact h2
theorem avI_of_d {P : Program} {e e' : E} {t : TypeId} (h : e.Ty P t) (h' : e'.Ty P t) (hd : e.d = e'.d) : avI e = avI e' := by
  have ha := acE_of_d e e' t h h' hd
  cases e <;> cases e' <;> simp_all [avI, E.d, acE]
/-- What is returned beside two values. -/
theorem ctr_val2 {P : Program} {w : World} {f : FuncId} {ins : List AV} {v1 v2 : Value} (h : Ctr P f ins [] (.tu [.c (.v v1), .c (.v v2)]) []) {us : List Value} (hin : VRL w (fun b => b < w.heap.size) φ0 K0 ins us) (gw : Gl w := by (first | assumption | exact gl_any _ | exact Gl.below_ gl0 (by exact (by repeat (first | (with_reducible refine Below.setCell ?_ (by first | omega | (· simp) | (· (simp; omega))) _) | (with_reducible refine Below.alloc ?_ (by first | omega | (· simp) | (· (simp; omega))) _) | (with_reducible refine Below.drew ?_) | (with_reducible refine bdrewN ?_ _) | (with_reducible exact Below.refl _ _) | (with_reducible assumption) | (with_reducible refine Below.trans ?_ (Below.mono (by assumption) (by first | omega | (· simp) | (· (simp; omega))))) | (with_reducible refine Below.trans ?_ (Kp.below (by assumption) (by first | omega | (· simp) | (· (simp; omega))) (by first | omega | (· simp) | (· (simp; omega)))))))))) :
    Calls P f us.toArray w fun r w' => r = .returned (.tuple #[v1, v2]) ∧ Below w.heap.size w w' := by
  refine (ctr_calls h hin gw).mono ?_
  rintro e w' ⟨u, St, G, rfl, hr, hn, hlo, hb⟩
  simp only [VRF, VRFL, CR] at hr
  obtain ⟨us', rfl, u1, us1, f1, f1', rfl, -, ⟨rfl, -, -⟩, u2, us2, f2, f2', rfl, -, ⟨rfl, -, -⟩, rfl, -⟩ := hr
  exact ⟨rfl, hb⟩
end Go.Proofs.Ytfdjognmechcfaa
