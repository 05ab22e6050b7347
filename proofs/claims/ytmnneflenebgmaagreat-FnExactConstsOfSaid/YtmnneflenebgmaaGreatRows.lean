/-
  NARROWER THAN 'FOR EVERY INPUT', by the rows' own cells (each row's printed sentence says how): FnExactRexesOf: loops · FnExactConstsOf: loops · FnExactTablesOf: loops · FnExactVarsOf: loops · FnExactCheck: loops · FnExactEnvNew: loops.
  DERIVED. THE GIVEN ROWS OF THIS SEAT. 8 by the template 'for every input the law returns true; each argument reads behind the call as it read before'; 0 by the template 'total and deterministic' (their statements: YtmnneflenebgmaaGreatTotals.lean).
  GIVEN WITH THE SEED: the statements are not yours to turn. If you find one false, say at which input.
  Laid BY PROGRAM, IN A SANDBOX (cutbox-rows.mjs): the forced cells as the released guide's own fill.sh prints them over the translation f565bf175190dbcb… (all of the seat's roots in one cut). By AI agents, Wed Nov 11 2026. No macro, syntax, notation, axiom, sorry.
-/
import Derived.Test.YtmnneflenebgmaaGreatChecked
import GoSem.Claim
import GoSem.ClaimJoined
import GoSem.ClaimMapViews
import Derived.JoinedTies
import Derived.KernelRfl
namespace Go.Proofs.YtmnneflenebgmaaGreat
/- THE CELL 'sum', in the pinned program and in every row, IS THE sha256 OF THE DUMP (.gsa) THAT YtmnneflenebgmaaGreatProg.lean LOADS. Nothing in Lean hashes anything: it is a label: what it is worth is what the hold of that sum in a sandbox is worth. -/
noncomputable def Tryz.pinned : Pinned := { name := "ytmnneflenebgmaagreat", sum := "f565bf175190dbcba22a859df340fd701b794385cf672dceed0f2d79e97e7d5d", checked := Tryz.checked }
namespace Rows
def none {H : Type} : Left H := { results := [], args := [] }

/-- 'laws.FnPools': WHATEVER THE INPUT: true; the input reads as it did. -/
def fnPoolsSpec : ChangeSpec := { name := "fnPools", fn := fun _ => fun
  | [d] => { results := [.lit (.bool true)], args := [d] }
  | _ => none }
def fnPoolsRow : OpenClaim := { program := "ytmnneflenebgmaagreat", sum := "f565bf175190dbcba22a859df340fd701b794385cf672dceed0f2d79e97e7d5d", func := "loop.example/g00288/laws.FnPools", spec := "fnPools", inPlace := ["internal/bytealg.IndexByteString", "internal/abi.NoEscape", "internal/bytealg.MakeNoZero"], unfollowed := true, recurses := true, apart := false }
def FnPoolsSaid : Prop := fnPoolsRow.holds Tryz.pinned (OpenSpec.ofChange fnPoolsSpec)

/-- ITS FALSE NEIGHBOUR: 'it returns false'. Refute it at one input. -/
def fnPoolsWrong : ChangeSpec := { name := "fnPools", fn := fun _ => fun
  | [d] => { results := [.lit (.bool false)], args := [d] }
  | _ => none }
def FnPoolsWrongFalsely : Prop := fnPoolsRow.holds Tryz.pinned (OpenSpec.ofChange fnPoolsWrong)

/-- 'laws.FnExactRexesOf': WHATEVER THE INPUT: true; the input reads as it did. -/
def fnExactRexesOfSpec : ChangeSpec := { name := "fnExactRexesOf", fn := fun _ => fun
  | [d] => { results := [.lit (.bool true)], args := [d] }
  | _ => none }
def fnExactRexesOfRow : OpenClaim := { program := "ytmnneflenebgmaagreat", sum := "f565bf175190dbcba22a859df340fd701b794385cf672dceed0f2d79e97e7d5d", func := "loop.example/g00288/laws.FnExactRexesOf", spec := "fnExactRexesOf", inPlace := ["internal/bytealg.IndexByteString", "internal/abi.NoEscape", "internal/bytealg.MakeNoZero"], unfollowed := true, recurses := true, loops := true, apart := false }
def FnExactRexesOfSaid : Prop := fnExactRexesOfRow.holds Tryz.pinned (OpenSpec.ofChange fnExactRexesOfSpec)

/-- ITS FALSE NEIGHBOUR: 'it returns false'. Refute it at one input. -/
def fnExactRexesOfWrong : ChangeSpec := { name := "fnExactRexesOf", fn := fun _ => fun
  | [d] => { results := [.lit (.bool false)], args := [d] }
  | _ => none }
def FnExactRexesOfWrongFalsely : Prop := fnExactRexesOfRow.holds Tryz.pinned (OpenSpec.ofChange fnExactRexesOfWrong)

/-- 'laws.FnExactConstsOf': WHATEVER THE INPUT: true; the input reads as it did. -/
def fnExactConstsOfSpec : ChangeSpec := { name := "fnExactConstsOf", fn := fun _ => fun
  | [d] => { results := [.lit (.bool true)], args := [d] }
  | _ => none }
def fnExactConstsOfRow : OpenClaim := { program := "ytmnneflenebgmaagreat", sum := "f565bf175190dbcba22a859df340fd701b794385cf672dceed0f2d79e97e7d5d", func := "loop.example/g00288/laws.FnExactConstsOf", spec := "fnExactConstsOf", inPlace := ["internal/bytealg.IndexByteString", "internal/abi.NoEscape", "internal/bytealg.MakeNoZero"], unfollowed := true, recurses := true, loops := true, apart := false }
def FnExactConstsOfSaid : Prop := fnExactConstsOfRow.holds Tryz.pinned (OpenSpec.ofChange fnExactConstsOfSpec)

/-- ITS FALSE NEIGHBOUR: 'it returns false'. Refute it at one input. -/
def fnExactConstsOfWrong : ChangeSpec := { name := "fnExactConstsOf", fn := fun _ => fun
  | [d] => { results := [.lit (.bool false)], args := [d] }
  | _ => none }
def FnExactConstsOfWrongFalsely : Prop := fnExactConstsOfRow.holds Tryz.pinned (OpenSpec.ofChange fnExactConstsOfWrong)

/-- 'laws.FnNames': WHATEVER THE INPUT: true; the input reads as it did. -/
def fnNamesSpec : ChangeSpec := { name := "fnNames", fn := fun _ => fun
  | [d] => { results := [.lit (.bool true)], args := [d] }
  | _ => none }
def fnNamesRow : OpenClaim := { program := "ytmnneflenebgmaagreat", sum := "f565bf175190dbcba22a859df340fd701b794385cf672dceed0f2d79e97e7d5d", func := "loop.example/g00288/laws.FnNames", spec := "fnNames", inPlace := ["internal/bytealg.IndexByteString", "internal/abi.NoEscape", "internal/bytealg.MakeNoZero"], unfollowed := true, recurses := true, apart := false }
def FnNamesSaid : Prop := fnNamesRow.holds Tryz.pinned (OpenSpec.ofChange fnNamesSpec)

/-- ITS FALSE NEIGHBOUR: 'it returns false'. Refute it at one input. -/
def fnNamesWrong : ChangeSpec := { name := "fnNames", fn := fun _ => fun
  | [d] => { results := [.lit (.bool false)], args := [d] }
  | _ => none }
def FnNamesWrongFalsely : Prop := fnNamesRow.holds Tryz.pinned (OpenSpec.ofChange fnNamesWrong)

/-- 'laws.FnExactTablesOf': WHATEVER THE INPUT: true; the input reads as it did. -/
def fnExactTablesOfSpec : ChangeSpec := { name := "fnExactTablesOf", fn := fun _ => fun
  | [d] => { results := [.lit (.bool true)], args := [d] }
  | _ => none }
def fnExactTablesOfRow : OpenClaim := { program := "ytmnneflenebgmaagreat", sum := "f565bf175190dbcba22a859df340fd701b794385cf672dceed0f2d79e97e7d5d", func := "loop.example/g00288/laws.FnExactTablesOf", spec := "fnExactTablesOf", inPlace := ["internal/bytealg.IndexByteString", "internal/abi.NoEscape", "internal/bytealg.MakeNoZero"], unfollowed := true, recurses := true, loops := true, apart := false }
def FnExactTablesOfSaid : Prop := fnExactTablesOfRow.holds Tryz.pinned (OpenSpec.ofChange fnExactTablesOfSpec)

/-- ITS FALSE NEIGHBOUR: 'it returns false'. Refute it at one input. -/
def fnExactTablesOfWrong : ChangeSpec := { name := "fnExactTablesOf", fn := fun _ => fun
  | [d] => { results := [.lit (.bool false)], args := [d] }
  | _ => none }
def FnExactTablesOfWrongFalsely : Prop := fnExactTablesOfRow.holds Tryz.pinned (OpenSpec.ofChange fnExactTablesOfWrong)

/-- 'laws.FnExactVarsOf': WHATEVER THE INPUT: true; the input reads as it did. -/
def fnExactVarsOfSpec : ChangeSpec := { name := "fnExactVarsOf", fn := fun _ => fun
  | [d] => { results := [.lit (.bool true)], args := [d] }
  | _ => none }
def fnExactVarsOfRow : OpenClaim := { program := "ytmnneflenebgmaagreat", sum := "f565bf175190dbcba22a859df340fd701b794385cf672dceed0f2d79e97e7d5d", func := "loop.example/g00288/laws.FnExactVarsOf", spec := "fnExactVarsOf", inPlace := ["internal/bytealg.IndexByteString", "internal/abi.NoEscape", "internal/bytealg.MakeNoZero"], unfollowed := true, recurses := true, loops := true, apart := false }
def FnExactVarsOfSaid : Prop := fnExactVarsOfRow.holds Tryz.pinned (OpenSpec.ofChange fnExactVarsOfSpec)

/-- ITS FALSE NEIGHBOUR: 'it returns false'. Refute it at one input. -/
def fnExactVarsOfWrong : ChangeSpec := { name := "fnExactVarsOf", fn := fun _ => fun
  | [d] => { results := [.lit (.bool false)], args := [d] }
  | _ => none }
def FnExactVarsOfWrongFalsely : Prop := fnExactVarsOfRow.holds Tryz.pinned (OpenSpec.ofChange fnExactVarsOfWrong)

/-- 'laws.FnExactCheck': WHATEVER THE INPUT: true; the input reads as it did. -/
def fnExactCheckSpec : ChangeSpec := { name := "fnExactCheck", fn := fun _ => fun
  | [d] => { results := [.lit (.bool true)], args := [d] }
  | _ => none }
def fnExactCheckRow : OpenClaim := { program := "ytmnneflenebgmaagreat", sum := "f565bf175190dbcba22a859df340fd701b794385cf672dceed0f2d79e97e7d5d", func := "loop.example/g00288/laws.FnExactCheck", spec := "fnExactCheck", inPlace := ["internal/bytealg.IndexByteString", "internal/abi.NoEscape", "internal/bytealg.MakeNoZero"], unfollowed := true, recurses := true, loops := true, apart := false }
def FnExactCheckSaid : Prop := fnExactCheckRow.holds Tryz.pinned (OpenSpec.ofChange fnExactCheckSpec)

/-- ITS FALSE NEIGHBOUR: 'it returns false'. Refute it at one input. -/
def fnExactCheckWrong : ChangeSpec := { name := "fnExactCheck", fn := fun _ => fun
  | [d] => { results := [.lit (.bool false)], args := [d] }
  | _ => none }
def FnExactCheckWrongFalsely : Prop := fnExactCheckRow.holds Tryz.pinned (OpenSpec.ofChange fnExactCheckWrong)

/-- 'laws.FnExactEnvNew': WHATEVER THE INPUT: true; the input reads as it did. -/
def fnExactEnvNewSpec : ChangeSpec := { name := "fnExactEnvNew", fn := fun _ => fun
  | [d] => { results := [.lit (.bool true)], args := [d] }
  | _ => none }
def fnExactEnvNewRow : OpenClaim := { program := "ytmnneflenebgmaagreat", sum := "f565bf175190dbcba22a859df340fd701b794385cf672dceed0f2d79e97e7d5d", func := "loop.example/g00288/laws.FnExactEnvNew", spec := "fnExactEnvNew", inPlace := ["internal/bytealg.IndexByteString", "internal/abi.NoEscape", "internal/bytealg.MakeNoZero"], unfollowed := true, recurses := true, loops := true, apart := false }
def FnExactEnvNewSaid : Prop := fnExactEnvNewRow.holds Tryz.pinned (OpenSpec.ofChange fnExactEnvNewSpec)

/-- ITS FALSE NEIGHBOUR: 'it returns false'. Refute it at one input. -/
def fnExactEnvNewWrong : ChangeSpec := { name := "fnExactEnvNew", fn := fun _ => fun
  | [d] => { results := [.lit (.bool false)], args := [d] }
  | _ => none }
def FnExactEnvNewWrongFalsely : Prop := fnExactEnvNewRow.holds Tryz.pinned (OpenSpec.ofChange fnExactEnvNewWrong)

/- THE SECOND FORM. 'bulk': how many values and letters a reading holds, each counted each time it is reached (what is shared counts as often as it is met; a slice's spare places count too). A statement '..UptoSaid' is the law's where the arguments, and the package variables that the reading takes, are together of bulk at most 1048576: NARROWER than '..Said'. Prove '..Said' where nothing that the law and all that it calls make is longer than what came in: it says more and counts as full. Else prove '..UptoSaid'. A law counts once. -/
mutual
def uptoBulk {H : Type} : DataW H → Nat
  | .lit (.string bytes) => bytes.length + 1
  | .lit _ => 1
  | .nil => 1
  | .ptr d => uptoBulk d + 1
  | .slice elems spare => uptoBulkAll elems + uptoBulkAll spare + 1
  | .agg parts => uptoBulkAll parts + 1
  | .iface _ d => uptoBulk d + 1
  | .map entries => uptoBulkEntries entries + 1
  | .held _ => 1
def uptoBulkAll {H : Type} : List (DataW H) → Nat
  | [] => 0
  | d :: r => uptoBulk d + uptoBulkAll r
def uptoBulkEntries {H : Type} : List (Lit × DataW H) → Nat
  | [] => 0
  | x :: r => uptoBulkEntry x + uptoBulkEntries r
def uptoBulkEntry {H : Type} : Lit × DataW H → Nat
  | (.string bytes, d) => bytes.length + uptoBulk d + 1
  | (_, d) => uptoBulk d + 1
 end
def uptoSmall : (H : Type) → List (DataW H) → Bool := fun _ ds => decide (uptoBulkAll ds ≤ 1048576)
def OpenSpec.upto (s : _root_.Go.ChangeSpec) : _root_.Go.OpenSpec := { _root_.Go.OpenSpec.ofChange s with cond := some uptoSmall }

/-- 'laws.FnPools', WHERE WHAT IT READS IS OF BULK AT MOST 1048576: true; the input reads as it did. -/
def fnPoolsUptoRow : OpenClaim := { program := "ytmnneflenebgmaagreat", sum := "f565bf175190dbcba22a859df340fd701b794385cf672dceed0f2d79e97e7d5d", func := "loop.example/g00288/laws.FnPools", spec := "fnPools", inPlace := ["internal/bytealg.IndexByteString", "internal/abi.NoEscape", "internal/bytealg.MakeNoZero"], unfollowed := true, recurses := true, apart := false, narrowed := true }
def FnPoolsUptoSaid : Prop := fnPoolsUptoRow.holds Tryz.pinned (OpenSpec.upto fnPoolsSpec)

/-- 'laws.FnExactRexesOf', WHERE WHAT IT READS IS OF BULK AT MOST 1048576: true; the input reads as it did. -/
def fnExactRexesOfUptoRow : OpenClaim := { program := "ytmnneflenebgmaagreat", sum := "f565bf175190dbcba22a859df340fd701b794385cf672dceed0f2d79e97e7d5d", func := "loop.example/g00288/laws.FnExactRexesOf", spec := "fnExactRexesOf", inPlace := ["internal/bytealg.IndexByteString", "internal/abi.NoEscape", "internal/bytealg.MakeNoZero"], unfollowed := true, recurses := true, loops := true, apart := false, narrowed := true }
def FnExactRexesOfUptoSaid : Prop := fnExactRexesOfUptoRow.holds Tryz.pinned (OpenSpec.upto fnExactRexesOfSpec)

/-- 'laws.FnExactConstsOf', WHERE WHAT IT READS IS OF BULK AT MOST 1048576: true; the input reads as it did. -/
def fnExactConstsOfUptoRow : OpenClaim := { program := "ytmnneflenebgmaagreat", sum := "f565bf175190dbcba22a859df340fd701b794385cf672dceed0f2d79e97e7d5d", func := "loop.example/g00288/laws.FnExactConstsOf", spec := "fnExactConstsOf", inPlace := ["internal/bytealg.IndexByteString", "internal/abi.NoEscape", "internal/bytealg.MakeNoZero"], unfollowed := true, recurses := true, loops := true, apart := false, narrowed := true }
def FnExactConstsOfUptoSaid : Prop := fnExactConstsOfUptoRow.holds Tryz.pinned (OpenSpec.upto fnExactConstsOfSpec)

/-- 'laws.FnNames', WHERE WHAT IT READS IS OF BULK AT MOST 1048576: true; the input reads as it did. -/
def fnNamesUptoRow : OpenClaim := { program := "ytmnneflenebgmaagreat", sum := "f565bf175190dbcba22a859df340fd701b794385cf672dceed0f2d79e97e7d5d", func := "loop.example/g00288/laws.FnNames", spec := "fnNames", inPlace := ["internal/bytealg.IndexByteString", "internal/abi.NoEscape", "internal/bytealg.MakeNoZero"], unfollowed := true, recurses := true, apart := false, narrowed := true }
def FnNamesUptoSaid : Prop := fnNamesUptoRow.holds Tryz.pinned (OpenSpec.upto fnNamesSpec)

/-- 'laws.FnExactTablesOf', WHERE WHAT IT READS IS OF BULK AT MOST 1048576: true; the input reads as it did. -/
def fnExactTablesOfUptoRow : OpenClaim := { program := "ytmnneflenebgmaagreat", sum := "f565bf175190dbcba22a859df340fd701b794385cf672dceed0f2d79e97e7d5d", func := "loop.example/g00288/laws.FnExactTablesOf", spec := "fnExactTablesOf", inPlace := ["internal/bytealg.IndexByteString", "internal/abi.NoEscape", "internal/bytealg.MakeNoZero"], unfollowed := true, recurses := true, loops := true, apart := false, narrowed := true }
def FnExactTablesOfUptoSaid : Prop := fnExactTablesOfUptoRow.holds Tryz.pinned (OpenSpec.upto fnExactTablesOfSpec)

/-- 'laws.FnExactVarsOf', WHERE WHAT IT READS IS OF BULK AT MOST 1048576: true; the input reads as it did. -/
def fnExactVarsOfUptoRow : OpenClaim := { program := "ytmnneflenebgmaagreat", sum := "f565bf175190dbcba22a859df340fd701b794385cf672dceed0f2d79e97e7d5d", func := "loop.example/g00288/laws.FnExactVarsOf", spec := "fnExactVarsOf", inPlace := ["internal/bytealg.IndexByteString", "internal/abi.NoEscape", "internal/bytealg.MakeNoZero"], unfollowed := true, recurses := true, loops := true, apart := false, narrowed := true }
def FnExactVarsOfUptoSaid : Prop := fnExactVarsOfUptoRow.holds Tryz.pinned (OpenSpec.upto fnExactVarsOfSpec)

/-- 'laws.FnExactCheck', WHERE WHAT IT READS IS OF BULK AT MOST 1048576: true; the input reads as it did. -/
def fnExactCheckUptoRow : OpenClaim := { program := "ytmnneflenebgmaagreat", sum := "f565bf175190dbcba22a859df340fd701b794385cf672dceed0f2d79e97e7d5d", func := "loop.example/g00288/laws.FnExactCheck", spec := "fnExactCheck", inPlace := ["internal/bytealg.IndexByteString", "internal/abi.NoEscape", "internal/bytealg.MakeNoZero"], unfollowed := true, recurses := true, loops := true, apart := false, narrowed := true }
def FnExactCheckUptoSaid : Prop := fnExactCheckUptoRow.holds Tryz.pinned (OpenSpec.upto fnExactCheckSpec)

/-- 'laws.FnExactEnvNew', WHERE WHAT IT READS IS OF BULK AT MOST 1048576: true; the input reads as it did. -/
def fnExactEnvNewUptoRow : OpenClaim := { program := "ytmnneflenebgmaagreat", sum := "f565bf175190dbcba22a859df340fd701b794385cf672dceed0f2d79e97e7d5d", func := "loop.example/g00288/laws.FnExactEnvNew", spec := "fnExactEnvNew", inPlace := ["internal/bytealg.IndexByteString", "internal/abi.NoEscape", "internal/bytealg.MakeNoZero"], unfollowed := true, recurses := true, loops := true, apart := false, narrowed := true }
def FnExactEnvNewUptoSaid : Prop := fnExactEnvNewUptoRow.holds Tryz.pinned (OpenSpec.upto fnExactEnvNewSpec)

end Rows
end Go.Proofs.YtmnneflenebgmaaGreat
