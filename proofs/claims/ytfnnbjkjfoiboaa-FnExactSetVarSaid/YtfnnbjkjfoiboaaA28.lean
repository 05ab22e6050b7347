/- The abstract machine, twenty-eight: contracts over data with places, by what the data say alone. -/
import Derived.Test.YtfnnbjkjfoiboaaA27
namespace Go.Proofs.Ytfnnbjkjfoiboaa
open Go.RowKit

theorem liftD_prop {β : Type} {P : Program} {t : TypeId} {f : E → β} {z : β} {D : E} (p : β → Prop) (h1 : ∀ e, e.Ty P t → e.d = D → p (f e)) (h2 : p z) : p (liftD P t f z D) := by
  unfold liftD
  split
  · rename_i h; exact h1 _ h.choose_spec.1 h.choose_spec.2
  · exact h2
theorem avI_agg {fs : List E} : avI (.agg fs) = .ag (acE (.agg fs)) := rfl
theorem VRL_nil {w : World} {St : Nat → Prop} {φ : Nat → Lc} {K : Nat → Prop} : VRL w St φ K [] [] := by simp [VRL]
theorem VRL_cons {w : World} {St : Nat → Prop} {φ : Nat → Lc} {K : Nat → Prop} {x : AV} {u : Value} {r : List AV} {us : List Value} (h : VR w St φ K x u) (k : VRL w St φ K r us) : VRL w St φ K (x :: r) (u :: us) := by simp only [VRL]; exact ⟨u, us, rfl, h, k⟩
theorem VR_str {w : World} {St : Nat → Prop} {φ : Nat → Lc} {K : Nat → Prop} (s : ByteArray) : VR w St φ K (.c (.v (.string s))) (.string s) := by simp only [VR, CR]; exact ⟨trivial, rfl, trivial⟩
theorem VR_int {w : World} {St : Nat → Prop} {φ : Nat → Lc} {K : Nat → Prop} (k : IntKind) (n : Int) : VR w St φ K (.c (.v (.int k n))) (.int k n) := by simp only [VR, CR]; exact ⟨trivial, rfl, trivial⟩
theorem VR_bool {w : World} {St : Nat → Prop} {φ : Nat → Lc} {K : Nat → Prop} (b : Bool) : VR w St φ K (.c (.v (.bool b))) (.bool b) := by simp only [VR, CR]; exact ⟨trivial, rfl, trivial⟩
theorem szL_set_le : ∀ (l : List E) (k : Nat) (x : E), E.szL (l.set k x) ≤ E.szL l + x.sz
  | [], _, _ => by simp [E.szL]
  | e :: r, 0, x => by simp only [List.set_cons_zero, E.szL]; omega
  | e :: r, k + 1, x => by simp only [List.set_cons_succ, E.szL]; have := szL_set_le r k x; omega
section
variable {P : Program} {w : World}
/-- What is returned, as data that are held. -/
theorem ctr_own {f : FuncId} {ins : List AV} {D : E} {t : TypeId} (h : Ctr P f ins [] (avO D) []) (ht : D.Ty P t) {us : List Value} (hin : VRL w (fun b => b < w.heap.size) φ0 K0 ins us) :
    Calls P f us.toArray w fun r w' => ∃ x : E, r = .returned x.val ∧ x.d = D.d ∧ x.Ty P t ∧ x.Ho w' w.heap.size w'.heap.size ∧ x.fp.Nodup ∧ Below w.heap.size w w' := by
  refine (ctr_calls h hin).mono ?_
  rintro e w' ⟨u, St, G, rfl, hr, hn, hlo, hb⟩
  obtain ⟨x, rfl, rfl, h3, h4, h5⟩ := avO_E ht hr hlo
  exact ⟨x, rfl, h3, h5, h4, hn, hb⟩
/-- What is returned beside a value. -/
theorem ctr_own2 {f : FuncId} {ins : List AV} {D : E} {v : Value} {t : TypeId} (hv : scal v = true) (h : Ctr P f ins [] (.tu [avO D, .c (.v v)]) []) (ht : D.Ty P t) {us : List Value} (hin : VRL w (fun b => b < w.heap.size) φ0 K0 ins us) :
    Calls P f us.toArray w fun r w' => ∃ x : E, r = .returned (.tuple #[x.val, v]) ∧ x.d = D.d ∧ x.Ty P t ∧ x.Ho w' w.heap.size w'.heap.size ∧ x.fp.Nodup ∧ Below w.heap.size w w' := by
  refine (ctr_calls h hin).mono ?_
  rintro e w' ⟨u, St, G, rfl, hr, hn, hlo, hb⟩
  simp only [VRF, VRFL, CR] at hr
  obtain ⟨us', rfl, u1, us1, f1, f1', rfl, rfl, hr1, u2, us2, f2, f2', rfl, rfl, ⟨rfl, _, rfl⟩, rfl, rfl⟩ := hr
  simp only [List.append_nil] at hn hlo
  obtain ⟨x, rfl, rfl, h3, h4, h5⟩ := avO_E ht hr1 hlo
  exact ⟨x, rfl, h3, h5, h4, hn, hb⟩
/-- A plain value is returned. -/
theorem ctr_val {f : FuncId} {ins : List AV} {v : Value} (h : Ctr P f ins [] (.c (.v v)) []) {us : List Value} (hin : VRL w (fun b => b < w.heap.size) φ0 K0 ins us) :
    Calls P f us.toArray w fun r w' => r = .returned v ∧ Below w.heap.size w w' := by
  refine (ctr_calls h hin).mono ?_
  rintro e w' ⟨u, St, G, rfl, hr, hn, hlo, hb⟩
  simp only [VRF, CR] at hr
  exact ⟨by rw [hr.1], hb⟩
end
end Go.Proofs.Ytfnnbjkjfoiboaa
