/- From a law's walk to its row: every law of this seat returns true and writes nothing that was there; one lemma closes all rows. -/
import Derived.Test.YtfdjognmechcfaaRows
import Derived.Test.YtfdjognmechcfaaBase
import Derived.ProofKit
import Derived.OpenShut
import Derived.ShutString
import Derived.ChangeOld
import Derived.SizedLaws
namespace Go.Proofs.Ytfdjognmechcfaa
open Go.ChangeShapes Go.WideShapes Go.ChangeAt Go.RowKit

theorem own : ownKnob Try.prog.godebug = none := by kernel_rfl
theorem laidOut : laidOutB Try.prog = true := by kernel_rfl

section
variable {H : Type} {enc : TypeId × Value → H} {P : Program}
theorem trodAll_below (hl : laidOutB P = true) {W W' : World} (hb : Below W.heap.size W W') : ∀ (ts : List TypeId) (vs : List Value) (ds : List (DataW H)) (ps : List MemPlace),
    (∀ t ∈ ts, P.readableRec t = true ∧ t < P.types.size) → DataW.TrodAll enc P W 0 (fun _ => true) true ts vs ds ps →
    DataW.TrodAll enc P W' 0 (fun b => decide (b < W.heap.size)) true ts vs ds ps
  | [], vs, ds, ps, _, h => by
    cases vs <;> cases ds <;> simp_all [DataW.TrodAll]
  | t :: ts, vs, ds, ps, ht, h => by
    obtain ⟨v, vs', d, ds', p, q, rfl, rfl, rfl, h0, h1⟩ := trodAll_cons h
    have hlt : ∀ x ∈ p, x.block < W.heap.size := by obtain ⟨m, hm⟩ := h0; exact DataW.trod_lt m _ _ _ hm
    exact ⟨p, q, Below.trod hl (ht t (by simp)).1 (ht t (by simp)).2 h0 hb hlt, trodAll_below hl hb ts vs' ds' q (fun x hx => ht x (by simp [hx])) h1, rfl⟩

theorem trodAll_len {w : World} {base : Nat} {spare : Nat → Bool} {held : Bool} : ∀ (ts : List TypeId) (vs : List Value) (ds : List (DataW H)) (ps : List MemPlace), DataW.TrodAll enc P w base spare held ts vs ds ps → ds.length = ts.length
  | [], vs, ds, ps, h => by cases vs <;> cases ds <;> simp_all [DataW.TrodAll]
  | t :: ts, vs, ds, ps, h => by
    obtain ⟨v, vs', d, ds', p, q, rfl, rfl, rfl, h0, h1⟩ := trodAll_cons h
    simp [trodAll_len ts vs' ds' q h1]

/-- What the specification of a law says: true; the arguments as they were. -/
def IsLaw (s : ChangeSpec) (n : Nat) : Prop := s.vars = [] ∧ ∀ (H : Type) (ds : List (DataW H)), ds.length = n → (s.fn H ds).results = [.lit (.bool true)] ∧ (s.fn H ds).args = ds ∧ (s.fn H ds).vars = []
theorem isLaw1 {s : ChangeSpec} (hv : s.vars = []) (h : ∀ (H : Type) (d : DataW H), s.fn H [d] = { results := [.lit (.bool true)], args := [d] }) : IsLaw s 1 :=
  ⟨hv, fun H ds hl => by match ds, hl with | [d], _ => rw [h]; exact ⟨rfl, rfl, rfl⟩⟩
theorem isLaw2 {s : ChangeSpec} (hv : s.vars = []) (h : ∀ (H : Type) (d e : DataW H), s.fn H [d, e] = { results := [.lit (.bool true)], args := [d, e] }) : IsLaw s 2 :=
  ⟨hv, fun H ds hl => by match ds, hl with | [d, e], _ => rw [h]; exact ⟨rfl, rfl, rfl⟩⟩
theorem isLaw3 {s : ChangeSpec} (hv : s.vars = []) (h : ∀ (H : Type) (d e f : DataW H), s.fn H [d, e, f] = { results := [.lit (.bool true)], args := [d, e, f] }) : IsLaw s 3 :=
  ⟨hv, fun H ds hl => by match ds, hl with | [d, e, f], _ => rw [h]; exact ⟨rfl, rfl, rfl⟩⟩
theorem isLaw4 {s : ChangeSpec} (hv : s.vars = []) (h : ∀ (H : Type) (d e f g : DataW H), s.fn H [d, e, f, g] = { results := [.lit (.bool true)], args := [d, e, f, g] }) : IsLaw s 4 :=
  ⟨hv, fun H ds hl => by match ds, hl with | [d, e, f, g], _ => rw [h]; exact ⟨rfl, rfl, rfl⟩⟩

theorem law_post {f : FuncId} {fn : Func} {s : ChangeSpec} {tb : TypeId} (hl : laidOutB P = true) (hread : ∀ t ∈ fn.params.toList, P.readableRec t = true ∧ t < P.types.size)
    (hr : fn.resultTypes = #[tb]) (hB : P.underlying tb = some .bool) (hs : IsLaw s fn.params.toList.length)
    {W : World} {args : Array Value} {ds gs : List (DataW H)} {before : List MemPlace} (hW : DataW.Whole enc P fn.params.toList s.vars false W args.toList ds gs before)
    (walk : Calls P f args W fun e W' => e = .returned (.bool true) ∧ Below W.heap.size W W') :
    Calls P f args W fun e W' => ∃ v, e = .returned v ∧ s.post enc P fn false true false false W args v W' := by
  refine walk.mono fun e W' ⟨he, hb⟩ => ?_
  have hW' := hW
  obtain ⟨p, q, hA, hV, rfl, hfz, hnd⟩ := hW
  rw [hs.1] at hV
  obtain ⟨rfl, rfl⟩ := trodVars_none hV
  have hlen := trodAll_len _ _ _ _ hA
  obtain ⟨h1, h2, h3⟩ := hs.2 H ds hlen
  refine ⟨_, he, ds, [], _, [], p, [], hW', ?_, ?_, ?_, hb.frame _, fun h => by cases h⟩
  · rw [List.append_nil, h1, hr]
    exact trodAll_mk1 (shut_bool hB _)
  · rw [List.append_nil, h2]
    exact trodAll_below hl hb _ _ _ _ hread hA
  · rw [List.append_nil, h3, hs.1]
    rfl
end

set_option maxRecDepth 100000 in
/-- The row of a law, lifted: what the walk needs of the arguments is what it is told here. -/
theorem law_lifted {f : FuncId} {fn : Func} {s : ChangeSpec} {tb : TypeId} {os : Os} (started : os.Started) (H : Type) (enc : TypeId × Value → H)
    (noInit : Try.checked.prog.inits.idxOf? f = none) (hfn : Try.checked.prog.funcs[f]? = some fn)
    (hread : fn.params.toList.all (fun t => Try.prog.readableRec t && decide (t < Try.prog.types.size)) = true)
    (hr : fn.resultTypes = #[tb]) (hB : Try.prog.underlying tb = some .bool) (hs : IsLaw s fn.params.toList.length)
    (witness : ∃ (w : World) (tape : Tape) (i : Input), w.os = os ∧ (w.forCall tape i).Shaped Try.checked.prog ∧ i.vars = [] ∧ Input.okWide Try.checked.prog (w.forCall tape i) .any w.heap.size f i ∧
      s.pre6 enc Try.checked.prog fn [] false (w.forCall tape i).memory i.args ∧ ({} : Assume).holds Try.checked.prog (lone (Frame.enter Try.checked.prog f i.args .normal) [] (w.forCall tape i)))
    (walk : ∀ (W : World) (base : Nat) (args : Array Value) (ds : List (DataW H)) (ps : List MemPlace),
      (∀ (j : Nat) t v, fn.params[j]? = some t → args[j]? = some v → Value.okWide Try.prog W .any base t v) →
      DataW.TrodAll enc Try.prog W 0 (fun _ => true) true fn.params.toList args.toList ds ps →
      (DataW.weightsEach Try.prog fn.params.toList ds).all (· ≤ reachBytes) = true →
      Calls Try.prog f args W fun e W' => e = .returned (.bool true) ∧ Below W.heap.size W W') :
    ReturnsInHanded {} Try.checked os f .any (s.pre6 enc Try.prog fn [] false) (s.post enc Try.prog fn false true false false) := by
  refine returnsInHanded_of_change_sized (C := Try.checked) own started noInit hfn witness ?_
  intro W base args ds gs before hval hW _ hsz _
  have hread' : ∀ t ∈ fn.params.toList, Try.prog.readableRec t = true ∧ t < Try.prog.types.size := fun t ht => by
    have h := List.all_eq_true.1 hread t ht
    rw [Bool.and_eq_true] at h
    exact ⟨h.1, of_decide_eq_true h.2⟩
  obtain ⟨p, q, hA, hV, _, _, _⟩ := id hW
  rw [hs.1] at hV
  obtain ⟨rfl, rfl⟩ := trodVars_none hV
  refine law_post (P := Try.prog) laidOut hread' hr hB hs hW (walk W base args ds p hval hA ?_)
  have e : s.plain.varTypes Try.checked.prog = [] := by
    have : s.plain.vars = [] := hs.1
    simp [DataSpec.varTypes, this]
  rw [e, List.append_nil, List.append_nil] at hsz
  exact hsz
end Go.Proofs.Ytfdjognmechcfaa
