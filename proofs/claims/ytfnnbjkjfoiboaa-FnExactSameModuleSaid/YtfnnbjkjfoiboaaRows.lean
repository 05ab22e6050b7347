/-
  No cell of these rows narrows 'for every input' (looked for: loops, veiled, ifaces, maps, wideKeys, modest, calm, conditions, laid).
  DERIVED. THE GIVEN ROWS OF THIS SEAT. 12 by the template 'for every input the law returns true; each argument reads behind the call as it read before'; 0 by the template 'total and deterministic' (their statements: YtfnnbjkjfoiboaaTotals.lean).
  GIVEN WITH THE SEED: the statements are not yours to turn. If you find one false, say at which input.
  Laid BY PROGRAM, IN A SANDBOX (cutbox-rows.mjs): the forced cells as the released guide's own fill.sh prints them over the translation 19fa5ca7a0188429… (all of the seat's roots in one cut). By AI agents, Wed Nov 11 2026. No macro, syntax, notation, axiom, sorry.
-/
import Derived.Test.YtfnnbjkjfoiboaaChecked
import GoSem.Claim
import GoSem.ClaimJoined
import GoSem.ClaimMapViews
import Derived.JoinedTies
import Derived.KernelRfl
namespace Go.Proofs.Ytfnnbjkjfoiboaa
/- THE CELL 'sum', in the pinned program and in every row, IS THE sha256 OF THE DUMP (.gsa) THAT YtfnnbjkjfoiboaaProg.lean LOADS. Nothing in Lean hashes anything: it is a label: what it is worth is what the hold of that sum in a sandbox is worth. -/
noncomputable def Try.pinned : Pinned := { name := "ytfnnbjkjfoiboaa", sum := "19fa5ca7a01884291b538ffc6aed1a13e00530c6643cdc54b52e9be6148e5dfe", checked := Try.checked }
namespace Rows
def none {H : Type} : Left H := { results := [], args := [] }

/-- 'laws.FnExactAlloc': WHATEVER THE INPUT: true; the input reads as it did. -/
def fnExactAllocSpec : ChangeSpec := { name := "fnExactAlloc", fn := fun _ => fun
  | [d1, d2] => { results := [.lit (.bool true)], args := [d1, d2] }
  | _ => none }
def fnExactAllocRow : OpenClaim := { program := "ytfnnbjkjfoiboaa", sum := "19fa5ca7a01884291b538ffc6aed1a13e00530c6643cdc54b52e9be6148e5dfe", func := "loop.example/g00288/laws.FnExactAlloc", spec := "fnExactAlloc", unfollowed := true, recurses := true, apart := false }
def FnExactAllocSaid : Prop := fnExactAllocRow.holds Try.pinned (OpenSpec.ofChange fnExactAllocSpec)

/-- ITS FALSE NEIGHBOUR: 'it returns false'. Refute it at one input. -/
def fnExactAllocWrong : ChangeSpec := { name := "fnExactAlloc", fn := fun _ => fun
  | [d1, d2] => { results := [.lit (.bool false)], args := [d1, d2] }
  | _ => none }
def FnExactAllocWrongFalsely : Prop := fnExactAllocRow.holds Try.pinned (OpenSpec.ofChange fnExactAllocWrong)

/-- 'laws.FnVars': WHATEVER THE INPUT: true; the input reads as it did. -/
def fnVarsSpec : ChangeSpec := { name := "fnVars", fn := fun _ => fun
  | [d] => { results := [.lit (.bool true)], args := [d] }
  | _ => none }
def fnVarsRow : OpenClaim := { program := "ytfnnbjkjfoiboaa", sum := "19fa5ca7a01884291b538ffc6aed1a13e00530c6643cdc54b52e9be6148e5dfe", func := "loop.example/g00288/laws.FnVars", spec := "fnVars", unfollowed := true, recurses := true, apart := false }
def FnVarsSaid : Prop := fnVarsRow.holds Try.pinned (OpenSpec.ofChange fnVarsSpec)

/-- ITS FALSE NEIGHBOUR: 'it returns false'. Refute it at one input. -/
def fnVarsWrong : ChangeSpec := { name := "fnVars", fn := fun _ => fun
  | [d] => { results := [.lit (.bool false)], args := [d] }
  | _ => none }
def FnVarsWrongFalsely : Prop := fnVarsRow.holds Try.pinned (OpenSpec.ofChange fnVarsWrong)

/-- 'laws.FnCellsBent': WHATEVER THE INPUT: true; the input reads as it did. -/
def fnCellsBentSpec : ChangeSpec := { name := "fnCellsBent", fn := fun _ => fun
  | [d] => { results := [.lit (.bool true)], args := [d] }
  | _ => none }
def fnCellsBentRow : OpenClaim := { program := "ytfnnbjkjfoiboaa", sum := "19fa5ca7a01884291b538ffc6aed1a13e00530c6643cdc54b52e9be6148e5dfe", func := "loop.example/g00288/laws.FnCellsBent", spec := "fnCellsBent", apart := false }
def FnCellsBentSaid : Prop := fnCellsBentRow.holds Try.pinned (OpenSpec.ofChange fnCellsBentSpec)

/-- ITS FALSE NEIGHBOUR: 'it returns false'. Refute it at one input. -/
def fnCellsBentWrong : ChangeSpec := { name := "fnCellsBent", fn := fun _ => fun
  | [d] => { results := [.lit (.bool false)], args := [d] }
  | _ => none }
def FnCellsBentWrongFalsely : Prop := fnCellsBentRow.holds Try.pinned (OpenSpec.ofChange fnCellsBentWrong)

/-- 'laws.FnExactVarOf': WHATEVER THE INPUT: true; the input reads as it did. -/
def fnExactVarOfSpec : ChangeSpec := { name := "fnExactVarOf", fn := fun _ => fun
  | [d1, d2] => { results := [.lit (.bool true)], args := [d1, d2] }
  | _ => none }
def fnExactVarOfRow : OpenClaim := { program := "ytfnnbjkjfoiboaa", sum := "19fa5ca7a01884291b538ffc6aed1a13e00530c6643cdc54b52e9be6148e5dfe", func := "loop.example/g00288/laws.FnExactVarOf", spec := "fnExactVarOf", unfollowed := true, recurses := true, apart := false }
def FnExactVarOfSaid : Prop := fnExactVarOfRow.holds Try.pinned (OpenSpec.ofChange fnExactVarOfSpec)

/-- ITS FALSE NEIGHBOUR: 'it returns false'. Refute it at one input. -/
def fnExactVarOfWrong : ChangeSpec := { name := "fnExactVarOf", fn := fun _ => fun
  | [d1, d2] => { results := [.lit (.bool false)], args := [d1, d2] }
  | _ => none }
def FnExactVarOfWrongFalsely : Prop := fnExactVarOfRow.holds Try.pinned (OpenSpec.ofChange fnExactVarOfWrong)

/-- 'laws.FnEntries': WHATEVER THE INPUT: true; the input reads as it did. -/
def fnEntriesSpec : ChangeSpec := { name := "fnEntries", fn := fun _ => fun
  | [d] => { results := [.lit (.bool true)], args := [d] }
  | _ => none }
def fnEntriesRow : OpenClaim := { program := "ytfnnbjkjfoiboaa", sum := "19fa5ca7a01884291b538ffc6aed1a13e00530c6643cdc54b52e9be6148e5dfe", func := "loop.example/g00288/laws.FnEntries", spec := "fnEntries", unfollowed := true, recurses := true, apart := false }
def FnEntriesSaid : Prop := fnEntriesRow.holds Try.pinned (OpenSpec.ofChange fnEntriesSpec)

/-- ITS FALSE NEIGHBOUR: 'it returns false'. Refute it at one input. -/
def fnEntriesWrong : ChangeSpec := { name := "fnEntries", fn := fun _ => fun
  | [d] => { results := [.lit (.bool false)], args := [d] }
  | _ => none }
def FnEntriesWrongFalsely : Prop := fnEntriesRow.holds Try.pinned (OpenSpec.ofChange fnEntriesWrong)

/-- 'laws.FnExactEntryOf': WHATEVER THE INPUT: true; the input reads as it did. -/
def fnExactEntryOfSpec : ChangeSpec := { name := "fnExactEntryOf", fn := fun _ => fun
  | [d1, d2, d3] => { results := [.lit (.bool true)], args := [d1, d2, d3] }
  | _ => none }
def fnExactEntryOfRow : OpenClaim := { program := "ytfnnbjkjfoiboaa", sum := "19fa5ca7a01884291b538ffc6aed1a13e00530c6643cdc54b52e9be6148e5dfe", func := "loop.example/g00288/laws.FnExactEntryOf", spec := "fnExactEntryOf", unfollowed := true, recurses := true, apart := false }
def FnExactEntryOfSaid : Prop := fnExactEntryOfRow.holds Try.pinned (OpenSpec.ofChange fnExactEntryOfSpec)

/-- ITS FALSE NEIGHBOUR: 'it returns false'. Refute it at one input. -/
def fnExactEntryOfWrong : ChangeSpec := { name := "fnExactEntryOf", fn := fun _ => fun
  | [d1, d2, d3] => { results := [.lit (.bool false)], args := [d1, d2, d3] }
  | _ => none }
def FnExactEntryOfWrongFalsely : Prop := fnExactEntryOfRow.holds Try.pinned (OpenSpec.ofChange fnExactEntryOfWrong)

/-- 'laws.FnExactEnvOk': WHATEVER THE INPUT: true; the input reads as it did. -/
def fnExactEnvOkSpec : ChangeSpec := { name := "fnExactEnvOk", fn := fun _ => fun
  | [d] => { results := [.lit (.bool true)], args := [d] }
  | _ => none }
def fnExactEnvOkRow : OpenClaim := { program := "ytfnnbjkjfoiboaa", sum := "19fa5ca7a01884291b538ffc6aed1a13e00530c6643cdc54b52e9be6148e5dfe", func := "loop.example/g00288/laws.FnExactEnvOk", spec := "fnExactEnvOk", unfollowed := true, recurses := true, apart := false }
def FnExactEnvOkSaid : Prop := fnExactEnvOkRow.holds Try.pinned (OpenSpec.ofChange fnExactEnvOkSpec)

/-- ITS FALSE NEIGHBOUR: 'it returns false'. Refute it at one input. -/
def fnExactEnvOkWrong : ChangeSpec := { name := "fnExactEnvOk", fn := fun _ => fun
  | [d] => { results := [.lit (.bool false)], args := [d] }
  | _ => none }
def FnExactEnvOkWrongFalsely : Prop := fnExactEnvOkRow.holds Try.pinned (OpenSpec.ofChange fnExactEnvOkWrong)

/-- 'laws.FnExactKeysOf': WHATEVER THE INPUT: true; the input reads as it did. -/
def fnExactKeysOfSpec : ChangeSpec := { name := "fnExactKeysOf", fn := fun _ => fun
  | [d1, d2] => { results := [.lit (.bool true)], args := [d1, d2] }
  | _ => none }
def fnExactKeysOfRow : OpenClaim := { program := "ytfnnbjkjfoiboaa", sum := "19fa5ca7a01884291b538ffc6aed1a13e00530c6643cdc54b52e9be6148e5dfe", func := "loop.example/g00288/laws.FnExactKeysOf", spec := "fnExactKeysOf", unfollowed := true, recurses := true, apart := false }
def FnExactKeysOfSaid : Prop := fnExactKeysOfRow.holds Try.pinned (OpenSpec.ofChange fnExactKeysOfSpec)

/-- ITS FALSE NEIGHBOUR: 'it returns false'. Refute it at one input. -/
def fnExactKeysOfWrong : ChangeSpec := { name := "fnExactKeysOf", fn := fun _ => fun
  | [d1, d2] => { results := [.lit (.bool false)], args := [d1, d2] }
  | _ => none }
def FnExactKeysOfWrongFalsely : Prop := fnExactKeysOfRow.holds Try.pinned (OpenSpec.ofChange fnExactKeysOfWrong)

/-- 'laws.FnExactSetVar': WHATEVER THE INPUT: true; the input reads as it did. -/
def fnExactSetVarSpec : ChangeSpec := { name := "fnExactSetVar", fn := fun _ => fun
  | [d1, d2, d3] => { results := [.lit (.bool true)], args := [d1, d2, d3] }
  | _ => none }
def fnExactSetVarRow : OpenClaim := { program := "ytfnnbjkjfoiboaa", sum := "19fa5ca7a01884291b538ffc6aed1a13e00530c6643cdc54b52e9be6148e5dfe", func := "loop.example/g00288/laws.FnExactSetVar", spec := "fnExactSetVar", unfollowed := true, recurses := true, apart := false }
def FnExactSetVarSaid : Prop := fnExactSetVarRow.holds Try.pinned (OpenSpec.ofChange fnExactSetVarSpec)

/-- ITS FALSE NEIGHBOUR: 'it returns false'. Refute it at one input. -/
def fnExactSetVarWrong : ChangeSpec := { name := "fnExactSetVar", fn := fun _ => fun
  | [d1, d2, d3] => { results := [.lit (.bool false)], args := [d1, d2, d3] }
  | _ => none }
def FnExactSetVarWrongFalsely : Prop := fnExactSetVarRow.holds Try.pinned (OpenSpec.ofChange fnExactSetVarWrong)

/-- 'laws.FnExactDropEntry': WHATEVER THE INPUT: true; the input reads as it did. -/
def fnExactDropEntrySpec : ChangeSpec := { name := "fnExactDropEntry", fn := fun _ => fun
  | [d1, d2, d3] => { results := [.lit (.bool true)], args := [d1, d2, d3] }
  | _ => none }
def fnExactDropEntryRow : OpenClaim := { program := "ytfnnbjkjfoiboaa", sum := "19fa5ca7a01884291b538ffc6aed1a13e00530c6643cdc54b52e9be6148e5dfe", func := "loop.example/g00288/laws.FnExactDropEntry", spec := "fnExactDropEntry", unfollowed := true, recurses := true, apart := false }
def FnExactDropEntrySaid : Prop := fnExactDropEntryRow.holds Try.pinned (OpenSpec.ofChange fnExactDropEntrySpec)

/-- ITS FALSE NEIGHBOUR: 'it returns false'. Refute it at one input. -/
def fnExactDropEntryWrong : ChangeSpec := { name := "fnExactDropEntry", fn := fun _ => fun
  | [d1, d2, d3] => { results := [.lit (.bool false)], args := [d1, d2, d3] }
  | _ => none }
def FnExactDropEntryWrongFalsely : Prop := fnExactDropEntryRow.holds Try.pinned (OpenSpec.ofChange fnExactDropEntryWrong)

/-- 'laws.FnExactPutEntry': WHATEVER THE INPUT: true; the input reads as it did. -/
def fnExactPutEntrySpec : ChangeSpec := { name := "fnExactPutEntry", fn := fun _ => fun
  | [d1, d2, d3, d4] => { results := [.lit (.bool true)], args := [d1, d2, d3, d4] }
  | _ => none }
def fnExactPutEntryRow : OpenClaim := { program := "ytfnnbjkjfoiboaa", sum := "19fa5ca7a01884291b538ffc6aed1a13e00530c6643cdc54b52e9be6148e5dfe", func := "loop.example/g00288/laws.FnExactPutEntry", spec := "fnExactPutEntry", unfollowed := true, recurses := true, apart := false }
def FnExactPutEntrySaid : Prop := fnExactPutEntryRow.holds Try.pinned (OpenSpec.ofChange fnExactPutEntrySpec)

/-- ITS FALSE NEIGHBOUR: 'it returns false'. Refute it at one input. -/
def fnExactPutEntryWrong : ChangeSpec := { name := "fnExactPutEntry", fn := fun _ => fun
  | [d1, d2, d3, d4] => { results := [.lit (.bool false)], args := [d1, d2, d3, d4] }
  | _ => none }
def FnExactPutEntryWrongFalsely : Prop := fnExactPutEntryRow.holds Try.pinned (OpenSpec.ofChange fnExactPutEntryWrong)

/-- 'laws.FnExactSameModule': WHATEVER THE INPUT: true; the input reads as it did. -/
def fnExactSameModuleSpec : ChangeSpec := { name := "fnExactSameModule", fn := fun _ => fun
  | [d1, d2] => { results := [.lit (.bool true)], args := [d1, d2] }
  | _ => none }
def fnExactSameModuleRow : OpenClaim := { program := "ytfnnbjkjfoiboaa", sum := "19fa5ca7a01884291b538ffc6aed1a13e00530c6643cdc54b52e9be6148e5dfe", func := "loop.example/g00288/laws.FnExactSameModule", spec := "fnExactSameModule", unfollowed := true, recurses := true, apart := false }
def FnExactSameModuleSaid : Prop := fnExactSameModuleRow.holds Try.pinned (OpenSpec.ofChange fnExactSameModuleSpec)

/-- ITS FALSE NEIGHBOUR: 'it returns false'. Refute it at one input. -/
def fnExactSameModuleWrong : ChangeSpec := { name := "fnExactSameModule", fn := fun _ => fun
  | [d1, d2] => { results := [.lit (.bool false)], args := [d1, d2] }
  | _ => none }
def FnExactSameModuleWrongFalsely : Prop := fnExactSameModuleRow.holds Try.pinned (OpenSpec.ofChange fnExactSameModuleWrong)

/- THE SECOND FORM. 'bulk': how many values and letters a reading holds, each counted each time it is reached (what is shared counts as often as it is met; a slice's spare places count too). A statement '..UptoSaid' is the law's where the arguments, and the package variables that the reading takes, are together of bulk at most 1048576: NARROWER than '..Said'. Prove '..Said' where nothing that the law and all that it calls make is longer than what came in: it says more and counts as full. Else prove '..UptoSaid'. A law counts once. -/
mutual
def uptoBulk {H : Type} : DataW H → Nat
  | .lit (.string bytes) => bytes.length + 1
  | .lit _ => 1
  | .nil => 1
  | .ptr d => uptoBulk d + 1
  | .slice elems spare => uptoBulkAll elems + uptoBulkAll spare + 1
  | .agg parts => uptoBulkAll parts + 1
  | .iface _ d => uptoBulk d + 1
  | .map entries => uptoBulkEntries entries + 1
  | .held _ => 1
def uptoBulkAll {H : Type} : List (DataW H) → Nat
  | [] => 0
  | d :: r => uptoBulk d + uptoBulkAll r
def uptoBulkEntries {H : Type} : List (Lit × DataW H) → Nat
  | [] => 0
  | x :: r => uptoBulkEntry x + uptoBulkEntries r
def uptoBulkEntry {H : Type} : Lit × DataW H → Nat
  | (.string bytes, d) => bytes.length + uptoBulk d + 1
  | (_, d) => uptoBulk d + 1
 end
def uptoSmall : (H : Type) → List (DataW H) → Bool := fun _ ds => decide (uptoBulkAll ds ≤ 1048576)
def OpenSpec.upto (s : _root_.Go.ChangeSpec) : _root_.Go.OpenSpec := { _root_.Go.OpenSpec.ofChange s with cond := some uptoSmall }

/-- 'laws.FnExactAlloc', WHERE WHAT IT READS IS OF BULK AT MOST 1048576: true; the input reads as it did. -/
def fnExactAllocUptoRow : OpenClaim := { program := "ytfnnbjkjfoiboaa", sum := "19fa5ca7a01884291b538ffc6aed1a13e00530c6643cdc54b52e9be6148e5dfe", func := "loop.example/g00288/laws.FnExactAlloc", spec := "fnExactAlloc", unfollowed := true, recurses := true, apart := false, narrowed := true }
def FnExactAllocUptoSaid : Prop := fnExactAllocUptoRow.holds Try.pinned (OpenSpec.upto fnExactAllocSpec)

/-- 'laws.FnVars', WHERE WHAT IT READS IS OF BULK AT MOST 1048576: true; the input reads as it did. -/
def fnVarsUptoRow : OpenClaim := { program := "ytfnnbjkjfoiboaa", sum := "19fa5ca7a01884291b538ffc6aed1a13e00530c6643cdc54b52e9be6148e5dfe", func := "loop.example/g00288/laws.FnVars", spec := "fnVars", unfollowed := true, recurses := true, apart := false, narrowed := true }
def FnVarsUptoSaid : Prop := fnVarsUptoRow.holds Try.pinned (OpenSpec.upto fnVarsSpec)

/-- 'laws.FnCellsBent', WHERE WHAT IT READS IS OF BULK AT MOST 1048576: true; the input reads as it did. -/
def fnCellsBentUptoRow : OpenClaim := { program := "ytfnnbjkjfoiboaa", sum := "19fa5ca7a01884291b538ffc6aed1a13e00530c6643cdc54b52e9be6148e5dfe", func := "loop.example/g00288/laws.FnCellsBent", spec := "fnCellsBent", apart := false, narrowed := true }
def FnCellsBentUptoSaid : Prop := fnCellsBentUptoRow.holds Try.pinned (OpenSpec.upto fnCellsBentSpec)

/-- 'laws.FnExactVarOf', WHERE WHAT IT READS IS OF BULK AT MOST 1048576: true; the input reads as it did. -/
def fnExactVarOfUptoRow : OpenClaim := { program := "ytfnnbjkjfoiboaa", sum := "19fa5ca7a01884291b538ffc6aed1a13e00530c6643cdc54b52e9be6148e5dfe", func := "loop.example/g00288/laws.FnExactVarOf", spec := "fnExactVarOf", unfollowed := true, recurses := true, apart := false, narrowed := true }
def FnExactVarOfUptoSaid : Prop := fnExactVarOfUptoRow.holds Try.pinned (OpenSpec.upto fnExactVarOfSpec)

/-- 'laws.FnEntries', WHERE WHAT IT READS IS OF BULK AT MOST 1048576: true; the input reads as it did. -/
def fnEntriesUptoRow : OpenClaim := { program := "ytfnnbjkjfoiboaa", sum := "19fa5ca7a01884291b538ffc6aed1a13e00530c6643cdc54b52e9be6148e5dfe", func := "loop.example/g00288/laws.FnEntries", spec := "fnEntries", unfollowed := true, recurses := true, apart := false, narrowed := true }
def FnEntriesUptoSaid : Prop := fnEntriesUptoRow.holds Try.pinned (OpenSpec.upto fnEntriesSpec)

/-- 'laws.FnExactEntryOf', WHERE WHAT IT READS IS OF BULK AT MOST 1048576: true; the input reads as it did. -/
def fnExactEntryOfUptoRow : OpenClaim := { program := "ytfnnbjkjfoiboaa", sum := "19fa5ca7a01884291b538ffc6aed1a13e00530c6643cdc54b52e9be6148e5dfe", func := "loop.example/g00288/laws.FnExactEntryOf", spec := "fnExactEntryOf", unfollowed := true, recurses := true, apart := false, narrowed := true }
def FnExactEntryOfUptoSaid : Prop := fnExactEntryOfUptoRow.holds Try.pinned (OpenSpec.upto fnExactEntryOfSpec)

/-- 'laws.FnExactEnvOk', WHERE WHAT IT READS IS OF BULK AT MOST 1048576: true; the input reads as it did. -/
def fnExactEnvOkUptoRow : OpenClaim := { program := "ytfnnbjkjfoiboaa", sum := "19fa5ca7a01884291b538ffc6aed1a13e00530c6643cdc54b52e9be6148e5dfe", func := "loop.example/g00288/laws.FnExactEnvOk", spec := "fnExactEnvOk", unfollowed := true, recurses := true, apart := false, narrowed := true }
def FnExactEnvOkUptoSaid : Prop := fnExactEnvOkUptoRow.holds Try.pinned (OpenSpec.upto fnExactEnvOkSpec)

/-- 'laws.FnExactKeysOf', WHERE WHAT IT READS IS OF BULK AT MOST 1048576: true; the input reads as it did. -/
def fnExactKeysOfUptoRow : OpenClaim := { program := "ytfnnbjkjfoiboaa", sum := "19fa5ca7a01884291b538ffc6aed1a13e00530c6643cdc54b52e9be6148e5dfe", func := "loop.example/g00288/laws.FnExactKeysOf", spec := "fnExactKeysOf", unfollowed := true, recurses := true, apart := false, narrowed := true }
def FnExactKeysOfUptoSaid : Prop := fnExactKeysOfUptoRow.holds Try.pinned (OpenSpec.upto fnExactKeysOfSpec)

/-- 'laws.FnExactSetVar', WHERE WHAT IT READS IS OF BULK AT MOST 1048576: true; the input reads as it did. -/
def fnExactSetVarUptoRow : OpenClaim := { program := "ytfnnbjkjfoiboaa", sum := "19fa5ca7a01884291b538ffc6aed1a13e00530c6643cdc54b52e9be6148e5dfe", func := "loop.example/g00288/laws.FnExactSetVar", spec := "fnExactSetVar", unfollowed := true, recurses := true, apart := false, narrowed := true }
def FnExactSetVarUptoSaid : Prop := fnExactSetVarUptoRow.holds Try.pinned (OpenSpec.upto fnExactSetVarSpec)

/-- 'laws.FnExactDropEntry', WHERE WHAT IT READS IS OF BULK AT MOST 1048576: true; the input reads as it did. -/
def fnExactDropEntryUptoRow : OpenClaim := { program := "ytfnnbjkjfoiboaa", sum := "19fa5ca7a01884291b538ffc6aed1a13e00530c6643cdc54b52e9be6148e5dfe", func := "loop.example/g00288/laws.FnExactDropEntry", spec := "fnExactDropEntry", unfollowed := true, recurses := true, apart := false, narrowed := true }
def FnExactDropEntryUptoSaid : Prop := fnExactDropEntryUptoRow.holds Try.pinned (OpenSpec.upto fnExactDropEntrySpec)

/-- 'laws.FnExactPutEntry', WHERE WHAT IT READS IS OF BULK AT MOST 1048576: true; the input reads as it did. -/
def fnExactPutEntryUptoRow : OpenClaim := { program := "ytfnnbjkjfoiboaa", sum := "19fa5ca7a01884291b538ffc6aed1a13e00530c6643cdc54b52e9be6148e5dfe", func := "loop.example/g00288/laws.FnExactPutEntry", spec := "fnExactPutEntry", unfollowed := true, recurses := true, apart := false, narrowed := true }
def FnExactPutEntryUptoSaid : Prop := fnExactPutEntryUptoRow.holds Try.pinned (OpenSpec.upto fnExactPutEntrySpec)

/-- 'laws.FnExactSameModule', WHERE WHAT IT READS IS OF BULK AT MOST 1048576: true; the input reads as it did. -/
def fnExactSameModuleUptoRow : OpenClaim := { program := "ytfnnbjkjfoiboaa", sum := "19fa5ca7a01884291b538ffc6aed1a13e00530c6643cdc54b52e9be6148e5dfe", func := "loop.example/g00288/laws.FnExactSameModule", spec := "fnExactSameModule", unfollowed := true, recurses := true, apart := false, narrowed := true }
def FnExactSameModuleUptoSaid : Prop := fnExactSameModuleUptoRow.holds Try.pinned (OpenSpec.upto fnExactSameModuleSpec)

end Rows
end Go.Proofs.Ytfnnbjkjfoiboaa
