/- From a law's walk to its row, where the row lays the package variables. -/
import Derived.LaidMore
import Derived.LaidLaws
import Derived.LaidHandle
import Derived.Handed
import Derived.Stop.Joined
import Derived.Stop.LaidErr
import Derived.Test.YtfemkmnkofgaaaaDoorInsA
namespace Go.Proofs.YtfemkmnkofgaaaaDoor
open Go.ChangeShapes Go.WideShapes Go.ChangeAt Go.RowKit
set_option maxRecDepth 100000
def laidL : List (String × DataW Unit) := [("math/bits.deBruijn32tab", Rows.laid_math_bits_deBruijn32tab), ("math/bits.deBruijn64tab", Rows.laid_math_bits_deBruijn64tab), ("internal/strconv.uint64pow10", Rows.laid_internal_strconv_uint64pow10)]
theorem zv16 (os : Os) (args : Array Value) : laidMetH Tryd.prog laidL ((World.doorLaid Tryd.prog 24 os).forCall (fun _ _ => 0) ⟨#[], args, []⟩).memory :=
  laidMetH_of_parts3 (fuel := 8) (laidMet_of_run' 8 (by kernel_rfl) (by kernel_rfl)) (by kernel_rfl) (by kernel_rfl)
theorem zj13 {W : World} (h : laidMetH Tryd.prog laidL W) : Gl W := by
  have h1 : laidMet Tryd.prog laidL W := h
  have h2 := laidMet.tail (laidMet.tail h1)
  have h3 : laidMet Tryd.prog (("internal/strconv.uint64pow10", Lib.tabData .u64 Lib.pow10Tab) :: []) W := h2
  have hg : (Tryd.prog).globalNamed "internal/strconv.uint64pow10" = some 3 := by kernel_rfl
  have h4 : Lib.TabIs Tryd.prog W "internal/strconv.uint64pow10" .u64 Lib.pow10Tab := Lib.tabIs_of_head (t := 243) (e := 231) (n := 20) hg (by kernel_rfl) (by kernel_rfl) Tryd.underlying231 (by kernel_rfl) (by kernel_rfl) h3
  intro p hp
  obtain rfl := List.mem_singleton.1 hp
  unfold Lib.TabIs World.var? at h4
  rw [hg] at h4
  simp only [Option.bind_some] at h4
  split at h4
  · rename_i cs T fr he
    injection h4 with h4
    subst h4
    exact ⟨_, _, he⟩
  · cases h4
set_option maxRecDepth 100000 in
theorem zn7 {f : FuncId} {fn : Func} {s : ChangeSpec} {tb : TypeId} {os : Os} (started : os.Started) (H : Type) (enc : TypeId × Value → H)
    (noInit : Tryd.checked.prog.inits.idxOf? f = none) (hfn : Tryd.checked.prog.funcs[f]? = some fn)
    (hread : fn.params.toList.all (fun t => Tryd.prog.readableRec t && decide (t < Tryd.prog.types.size)) = true)
    (hr : fn.resultTypes = #[tb]) (hB : Tryd.prog.underlying tb = some .bool) (hs : IsLaw s fn.params.toList.length)
    (args0 : Array Value)
    (hok : Input.okWideB Tryd.checked.prog ((World.doorLaid Tryd.prog 24 os).forCall (fun _ _ => 0) ⟨#[], args0, []⟩) f ⟨#[], args0, []⟩ = true)
    (hpre : s.preB enc Tryd.checked.prog fn [] false ((World.doorLaid Tryd.prog 24 os).forCall (fun _ _ => 0) ⟨#[], args0, []⟩).memory args0 8 = true)
    (hsz : s.sizedB enc Tryd.checked.prog fn false ((World.doorLaid Tryd.prog 24 os).forCall (fun _ _ => 0) ⟨#[], args0, []⟩).memory args0 8 = true)
    (walk : ∀ (W : World) (base : Nat) (args : Array Value) (ds : List (DataW H)) (ps : List MemPlace), Gl W →
      (∀ (j : Nat) t v, fn.params[j]? = some t → args[j]? = some v → Value.okWide Tryd.prog W .any base t v) →
      DataW.TrodAll enc Tryd.prog W 0 (fun _ => true) true fn.params.toList args.toList ds ps →
      (DataW.weightsEach Tryd.prog fn.params.toList ds).all (· ≤ reachBytes) = true →
      Calls Tryd.prog f args W fun e W' => e = .returned (.bool true) ∧ Below W.heap.size W W') :
    ReturnsInHanded {} Tryd.checked os f .any (fun w args => (s.pre enc Tryd.prog fn [] false w args ∧ laidMetH Tryd.prog laidL w) ∧ sizedMet enc Tryd.prog fn (OpenSpec.ofChange s) false w args) (s.post enc Tryd.prog fn false true false false) := by
  refine returnsInHanded_of_change_and (C := Tryd.checked) (X := fun w _ => laidMetH Tryd.prog laidL w) (fun _ _ _ hh h => h.of_heap hh) own started noInit hfn
    (ChangeSpec.witness_shaped (enc := enc) (C := Tryd.checked) (os := os) (X := fun w _ => laidMetH Tryd.prog laidL w) false (World.doorLaid Tryd.prog 24 os) args0 8 rfl (World.shaped_of_RefB (by kernel_rfl) (by kernel_rfl)) hok hpre hsz (zv16 os _)) ?_
  intro W base args ds gs before hval hW _ hsz hL _
  have hread' : ∀ t ∈ fn.params.toList, Tryd.prog.readableRec t = true ∧ t < Tryd.prog.types.size := fun t ht => by
    have h := List.all_eq_true.1 hread t ht
    rw [Bool.and_eq_true] at h
    exact ⟨h.1, of_decide_eq_true h.2⟩
  obtain ⟨p, q, hA, hV, _, _, _⟩ := id hW
  rw [hs.1] at hV
  obtain ⟨rfl, rfl⟩ := trodVars_none hV
  refine zt16 (P := Tryd.prog) zd19 hread' hr hB hs hW (walk W base args ds p (zj13 hL) hval hA ?_)
  have e : s.plain.varTypes Tryd.checked.prog = [] := by
    have : s.plain.vars = [] := hs.1
    simp [DataSpec.varTypes, this]
  rw [e, List.append_nil, List.append_nil] at hsz
  exact hsz
end Go.Proofs.YtfemkmnkofgaaaaDoor
