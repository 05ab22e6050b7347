/-
  No cell of these rows narrows 'for every input' (looked for: loops, veiled, ifaces, maps, wideKeys, modest, calm, conditions, laid).
  DERIVED. THE GIVEN ROWS OF THIS SEAT. 4 by the template 'for every input the law returns true; each argument reads behind the call as it read before'; 0 by the template 'total and deterministic' (their statements: YtghljnfbbaklnaaTotals.lean).
  GIVEN WITH THE SEED: the statements are not yours to turn. If you find one false, say at which input.
  Laid BY PROGRAM, IN A SANDBOX (cutbox-rows.mjs): the forced cells as the released guide's own fill.sh prints them over the translation 53ce939f5739b9bc… (all of the seat's roots in one cut). By AI agents, Wed Nov 11 2026. No macro, syntax, notation, axiom, sorry.
-/
import Derived.Test.YtghljnfbbaklnaaChecked
import GoSem.Claim
import GoSem.ClaimJoined
import GoSem.ClaimMapViews
import Derived.JoinedTies
import Derived.KernelRfl
namespace Go.Proofs.Ytghljnfbbaklnaa
/- THE CELL 'sum', in the pinned program and in every row, IS THE sha256 OF THE DUMP (.gsa) THAT YtghljnfbbaklnaaProg.lean LOADS. Nothing in Lean hashes anything: it is a label: what it is worth is what the hold of that sum in a sandbox is worth. -/
noncomputable def Try.pinned : Pinned := { name := "ytghljnfbbaklnaa", sum := "53ce939f5739b9bc82b9adc4e3352b42fee258d5c89e9d91bdb7f6eccb7240bd", checked := Try.checked }
namespace Rows
def none {H : Type} : Left H := { results := [], args := [] }

/-- 'laws.FnVars': WHATEVER THE INPUT: true; the input reads as it did. -/
def fnVarsSpec : ChangeSpec := { name := "fnVars", fn := fun _ => fun
  | [d] => { results := [.lit (.bool true)], args := [d] }
  | _ => none }
def fnVarsRow : OpenClaim := { program := "ytghljnfbbaklnaa", sum := "53ce939f5739b9bc82b9adc4e3352b42fee258d5c89e9d91bdb7f6eccb7240bd", func := "loop.example/g00288/laws.FnVars", spec := "fnVars", unfollowed := true, recurses := true, apart := false }
def FnVarsSaid : Prop := fnVarsRow.holds Try.pinned (OpenSpec.ofChange fnVarsSpec)

/-- ITS FALSE NEIGHBOUR: 'it returns false'. Refute it at one input. -/
def fnVarsWrong : ChangeSpec := { name := "fnVars", fn := fun _ => fun
  | [d] => { results := [.lit (.bool false)], args := [d] }
  | _ => none }
def FnVarsWrongFalsely : Prop := fnVarsRow.holds Try.pinned (OpenSpec.ofChange fnVarsWrong)

/-- 'laws.FnCellsBent': WHATEVER THE INPUT: true; the input reads as it did. -/
def fnCellsBentSpec : ChangeSpec := { name := "fnCellsBent", fn := fun _ => fun
  | [d] => { results := [.lit (.bool true)], args := [d] }
  | _ => none }
def fnCellsBentRow : OpenClaim := { program := "ytghljnfbbaklnaa", sum := "53ce939f5739b9bc82b9adc4e3352b42fee258d5c89e9d91bdb7f6eccb7240bd", func := "loop.example/g00288/laws.FnCellsBent", spec := "fnCellsBent", apart := false }
def FnCellsBentSaid : Prop := fnCellsBentRow.holds Try.pinned (OpenSpec.ofChange fnCellsBentSpec)

/-- ITS FALSE NEIGHBOUR: 'it returns false'. Refute it at one input. -/
def fnCellsBentWrong : ChangeSpec := { name := "fnCellsBent", fn := fun _ => fun
  | [d] => { results := [.lit (.bool false)], args := [d] }
  | _ => none }
def FnCellsBentWrongFalsely : Prop := fnCellsBentRow.holds Try.pinned (OpenSpec.ofChange fnCellsBentWrong)

/-- 'laws.FnEntries': WHATEVER THE INPUT: true; the input reads as it did. -/
def fnEntriesSpec : ChangeSpec := { name := "fnEntries", fn := fun _ => fun
  | [d] => { results := [.lit (.bool true)], args := [d] }
  | _ => none }
def fnEntriesRow : OpenClaim := { program := "ytghljnfbbaklnaa", sum := "53ce939f5739b9bc82b9adc4e3352b42fee258d5c89e9d91bdb7f6eccb7240bd", func := "loop.example/g00288/laws.FnEntries", spec := "fnEntries", unfollowed := true, recurses := true, apart := false }
def FnEntriesSaid : Prop := fnEntriesRow.holds Try.pinned (OpenSpec.ofChange fnEntriesSpec)

/-- ITS FALSE NEIGHBOUR: 'it returns false'. Refute it at one input. -/
def fnEntriesWrong : ChangeSpec := { name := "fnEntries", fn := fun _ => fun
  | [d] => { results := [.lit (.bool false)], args := [d] }
  | _ => none }
def FnEntriesWrongFalsely : Prop := fnEntriesRow.holds Try.pinned (OpenSpec.ofChange fnEntriesWrong)

/-- 'laws.FnExactModuleOk': WHATEVER THE INPUT: true; the input reads as it did. -/
def fnExactModuleOkSpec : ChangeSpec := { name := "fnExactModuleOk", fn := fun _ => fun
  | [d] => { results := [.lit (.bool true)], args := [d] }
  | _ => none }
def fnExactModuleOkRow : OpenClaim := { program := "ytghljnfbbaklnaa", sum := "53ce939f5739b9bc82b9adc4e3352b42fee258d5c89e9d91bdb7f6eccb7240bd", func := "loop.example/g00288/laws.FnExactModuleOk", spec := "fnExactModuleOk", inPlace := ["internal/bytealg.IndexByteString", "internal/abi.NoEscape", "internal/bytealg.MakeNoZero"], unfollowed := true, recurses := true, apart := false }
def FnExactModuleOkSaid : Prop := fnExactModuleOkRow.holds Try.pinned (OpenSpec.ofChange fnExactModuleOkSpec)

/-- ITS FALSE NEIGHBOUR: 'it returns false'. Refute it at one input. -/
def fnExactModuleOkWrong : ChangeSpec := { name := "fnExactModuleOk", fn := fun _ => fun
  | [d] => { results := [.lit (.bool false)], args := [d] }
  | _ => none }
def FnExactModuleOkWrongFalsely : Prop := fnExactModuleOkRow.holds Try.pinned (OpenSpec.ofChange fnExactModuleOkWrong)

/- THE SECOND FORM. 'bulk': how many values and letters a reading holds, each counted each time it is reached (what is shared counts as often as it is met; a slice's spare places count too). A statement '..UptoSaid' is the law's where the arguments, and the package variables that the reading takes, are together of bulk at most 1048576: NARROWER than '..Said'. Prove '..Said' where nothing that the law and all that it calls make is longer than what came in: it says more and counts as full. Else prove '..UptoSaid'. A law counts once. -/
mutual
def uptoBulk {H : Type} : DataW H → Nat
  | .lit (.string bytes) => bytes.length + 1
  | .lit _ => 1
  | .nil => 1
  | .ptr d => uptoBulk d + 1
  | .slice elems spare => uptoBulkAll elems + uptoBulkAll spare + 1
  | .agg parts => uptoBulkAll parts + 1
  | .iface _ d => uptoBulk d + 1
  | .map entries => uptoBulkEntries entries + 1
  | .held _ => 1
def uptoBulkAll {H : Type} : List (DataW H) → Nat
  | [] => 0
  | d :: r => uptoBulk d + uptoBulkAll r
def uptoBulkEntries {H : Type} : List (Lit × DataW H) → Nat
  | [] => 0
  | x :: r => uptoBulkEntry x + uptoBulkEntries r
def uptoBulkEntry {H : Type} : Lit × DataW H → Nat
  | (.string bytes, d) => bytes.length + uptoBulk d + 1
  | (_, d) => uptoBulk d + 1
 end
def uptoSmall : (H : Type) → List (DataW H) → Bool := fun _ ds => decide (uptoBulkAll ds ≤ 1048576)
def OpenSpec.upto (s : _root_.Go.ChangeSpec) : _root_.Go.OpenSpec := { _root_.Go.OpenSpec.ofChange s with cond := some uptoSmall }

/-- 'laws.FnVars', WHERE WHAT IT READS IS OF BULK AT MOST 1048576: true; the input reads as it did. -/
def fnVarsUptoRow : OpenClaim := { program := "ytghljnfbbaklnaa", sum := "53ce939f5739b9bc82b9adc4e3352b42fee258d5c89e9d91bdb7f6eccb7240bd", func := "loop.example/g00288/laws.FnVars", spec := "fnVars", unfollowed := true, recurses := true, apart := false, narrowed := true }
def FnVarsUptoSaid : Prop := fnVarsUptoRow.holds Try.pinned (OpenSpec.upto fnVarsSpec)

/-- 'laws.FnCellsBent', WHERE WHAT IT READS IS OF BULK AT MOST 1048576: true; the input reads as it did. -/
def fnCellsBentUptoRow : OpenClaim := { program := "ytghljnfbbaklnaa", sum := "53ce939f5739b9bc82b9adc4e3352b42fee258d5c89e9d91bdb7f6eccb7240bd", func := "loop.example/g00288/laws.FnCellsBent", spec := "fnCellsBent", apart := false, narrowed := true }
def FnCellsBentUptoSaid : Prop := fnCellsBentUptoRow.holds Try.pinned (OpenSpec.upto fnCellsBentSpec)

/-- 'laws.FnEntries', WHERE WHAT IT READS IS OF BULK AT MOST 1048576: true; the input reads as it did. -/
def fnEntriesUptoRow : OpenClaim := { program := "ytghljnfbbaklnaa", sum := "53ce939f5739b9bc82b9adc4e3352b42fee258d5c89e9d91bdb7f6eccb7240bd", func := "loop.example/g00288/laws.FnEntries", spec := "fnEntries", unfollowed := true, recurses := true, apart := false, narrowed := true }
def FnEntriesUptoSaid : Prop := fnEntriesUptoRow.holds Try.pinned (OpenSpec.upto fnEntriesSpec)

/-- 'laws.FnExactModuleOk', WHERE WHAT IT READS IS OF BULK AT MOST 1048576: true; the input reads as it did. -/
def fnExactModuleOkUptoRow : OpenClaim := { program := "ytghljnfbbaklnaa", sum := "53ce939f5739b9bc82b9adc4e3352b42fee258d5c89e9d91bdb7f6eccb7240bd", func := "loop.example/g00288/laws.FnExactModuleOk", spec := "fnExactModuleOk", inPlace := ["internal/bytealg.IndexByteString", "internal/abi.NoEscape", "internal/bytealg.MakeNoZero"], unfollowed := true, recurses := true, apart := false, narrowed := true }
def FnExactModuleOkUptoSaid : Prop := fnExactModuleOkUptoRow.holds Try.pinned (OpenSpec.upto fnExactModuleOkSpec)

end Rows
end Go.Proofs.Ytghljnfbbaklnaa
