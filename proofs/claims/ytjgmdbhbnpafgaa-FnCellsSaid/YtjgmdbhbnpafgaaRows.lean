/-
  No cell of these rows narrows 'for every input' (looked for: loops, veiled, ifaces, maps, wideKeys, modest, calm, conditions, laid).
  DERIVED. THE GIVEN ROWS OF THIS SEAT. 12 by the template 'for every input the law returns true; each argument reads behind the call as it read before'; 0 by the template 'total and deterministic' (their statements: YtjgmdbhbnpafgaaTotals.lean).
  GIVEN WITH THE SEED: the statements are not yours to turn. If you find one false, say at which input.
  Laid BY PROGRAM, IN A SANDBOX (cutbox-rows.mjs): the forced cells as the released guide's own fill.sh prints them over the translation 421017a8705809a6… (all of the seat's roots in one cut). By AI agents, Wed Nov 11 2026. No macro, syntax, notation, axiom, sorry.
-/
import Derived.Test.YtjgmdbhbnpafgaaChecked
import GoSem.Claim
import GoSem.ClaimJoined
import GoSem.ClaimMapViews
import Derived.JoinedTies
import Derived.KernelRfl
namespace Go.Proofs.Ytjgmdbhbnpafgaa
/- THE CELL 'sum', in the pinned program and in every row, IS THE sha256 OF THE DUMP (.gsa) THAT YtjgmdbhbnpafgaaProg.lean LOADS. Nothing in Lean hashes anything: it is a label: what it is worth is what the hold of that sum in a sandbox is worth. -/
noncomputable def Try.pinned : Pinned := { name := "ytjgmdbhbnpafgaa", sum := "421017a8705809a61892a7dca66be92be4e4ece5ef6cbc89e9c84c128628190d", checked := Try.checked }
namespace Rows
def none {H : Type} : Left H := { results := [], args := [] }

/-- 'laws.FnExactInsOk': WHATEVER THE INPUT: true; the input reads as it did. -/
def fnExactInsOkSpec : ChangeSpec := { name := "fnExactInsOk", fn := fun _ => fun
  | [d] => { results := [.lit (.bool true)], args := [d] }
  | _ => none }
def fnExactInsOkRow : OpenClaim := { program := "ytjgmdbhbnpafgaa", sum := "421017a8705809a61892a7dca66be92be4e4ece5ef6cbc89e9c84c128628190d", func := "loop.example/g00288/laws.FnExactInsOk", spec := "fnExactInsOk", apart := false }
def FnExactInsOkSaid : Prop := fnExactInsOkRow.holds Try.pinned (OpenSpec.ofChange fnExactInsOkSpec)

/-- ITS FALSE NEIGHBOUR: 'it returns false'. Refute it at one input. -/
def fnExactInsOkWrong : ChangeSpec := { name := "fnExactInsOk", fn := fun _ => fun
  | [d] => { results := [.lit (.bool false)], args := [d] }
  | _ => none }
def FnExactInsOkWrongFalsely : Prop := fnExactInsOkRow.holds Try.pinned (OpenSpec.ofChange fnExactInsOkWrong)

/-- 'laws.FnExactRecOk': WHATEVER THE INPUT: true; the input reads as it did. -/
def fnExactRecOkSpec : ChangeSpec := { name := "fnExactRecOk", fn := fun _ => fun
  | [d] => { results := [.lit (.bool true)], args := [d] }
  | _ => none }
def fnExactRecOkRow : OpenClaim := { program := "ytjgmdbhbnpafgaa", sum := "421017a8705809a61892a7dca66be92be4e4ece5ef6cbc89e9c84c128628190d", func := "loop.example/g00288/laws.FnExactRecOk", spec := "fnExactRecOk", apart := false }
def FnExactRecOkSaid : Prop := fnExactRecOkRow.holds Try.pinned (OpenSpec.ofChange fnExactRecOkSpec)

/-- ITS FALSE NEIGHBOUR: 'it returns false'. Refute it at one input. -/
def fnExactRecOkWrong : ChangeSpec := { name := "fnExactRecOk", fn := fun _ => fun
  | [d] => { results := [.lit (.bool false)], args := [d] }
  | _ => none }
def FnExactRecOkWrongFalsely : Prop := fnExactRecOkRow.holds Try.pinned (OpenSpec.ofChange fnExactRecOkWrong)

/-- 'laws.FnExactFieldOf': WHATEVER THE INPUT: true; the input reads as it did. -/
def fnExactFieldOfSpec : ChangeSpec := { name := "fnExactFieldOf", fn := fun _ => fun
  | [d1, d2] => { results := [.lit (.bool true)], args := [d1, d2] }
  | _ => none }
def fnExactFieldOfRow : OpenClaim := { program := "ytjgmdbhbnpafgaa", sum := "421017a8705809a61892a7dca66be92be4e4ece5ef6cbc89e9c84c128628190d", func := "loop.example/g00288/laws.FnExactFieldOf", spec := "fnExactFieldOf", apart := false }
def FnExactFieldOfSaid : Prop := fnExactFieldOfRow.holds Try.pinned (OpenSpec.ofChange fnExactFieldOfSpec)

/-- ITS FALSE NEIGHBOUR: 'it returns false'. Refute it at one input. -/
def fnExactFieldOfWrong : ChangeSpec := { name := "fnExactFieldOf", fn := fun _ => fun
  | [d1, d2] => { results := [.lit (.bool false)], args := [d1, d2] }
  | _ => none }
def FnExactFieldOfWrongFalsely : Prop := fnExactFieldOfRow.holds Try.pinned (OpenSpec.ofChange fnExactFieldOfWrong)

/-- 'laws.FnExactPutIns': WHATEVER THE INPUT: true; the input reads as it did. -/
def fnExactPutInsSpec : ChangeSpec := { name := "fnExactPutIns", fn := fun _ => fun
  | [d1, d2] => { results := [.lit (.bool true)], args := [d1, d2] }
  | _ => none }
def fnExactPutInsRow : OpenClaim := { program := "ytjgmdbhbnpafgaa", sum := "421017a8705809a61892a7dca66be92be4e4ece5ef6cbc89e9c84c128628190d", func := "loop.example/g00288/laws.FnExactPutIns", spec := "fnExactPutIns", apart := false }
def FnExactPutInsSaid : Prop := fnExactPutInsRow.holds Try.pinned (OpenSpec.ofChange fnExactPutInsSpec)

/-- ITS FALSE NEIGHBOUR: 'it returns false'. Refute it at one input. -/
def fnExactPutInsWrong : ChangeSpec := { name := "fnExactPutIns", fn := fun _ => fun
  | [d1, d2] => { results := [.lit (.bool false)], args := [d1, d2] }
  | _ => none }
def FnExactPutInsWrongFalsely : Prop := fnExactPutInsRow.holds Try.pinned (OpenSpec.ofChange fnExactPutInsWrong)

/-- 'laws.FnExactValAt': WHATEVER THE INPUT: true; the input reads as it did. -/
def fnExactValAtSpec : ChangeSpec := { name := "fnExactValAt", fn := fun _ => fun
  | [d1, d2] => { results := [.lit (.bool true)], args := [d1, d2] }
  | _ => none }
def fnExactValAtRow : OpenClaim := { program := "ytjgmdbhbnpafgaa", sum := "421017a8705809a61892a7dca66be92be4e4ece5ef6cbc89e9c84c128628190d", func := "loop.example/g00288/laws.FnExactValAt", spec := "fnExactValAt", apart := false }
def FnExactValAtSaid : Prop := fnExactValAtRow.holds Try.pinned (OpenSpec.ofChange fnExactValAtSpec)

/-- ITS FALSE NEIGHBOUR: 'it returns false'. Refute it at one input. -/
def fnExactValAtWrong : ChangeSpec := { name := "fnExactValAt", fn := fun _ => fun
  | [d1, d2] => { results := [.lit (.bool false)], args := [d1, d2] }
  | _ => none }
def FnExactValAtWrongFalsely : Prop := fnExactValAtRow.holds Try.pinned (OpenSpec.ofChange fnExactValAtWrong)

/-- 'laws.FnExactHeldOf': WHATEVER THE INPUT: true; the input reads as it did. -/
def fnExactHeldOfSpec : ChangeSpec := { name := "fnExactHeldOf", fn := fun _ => fun
  | [d] => { results := [.lit (.bool true)], args := [d] }
  | _ => none }
def fnExactHeldOfRow : OpenClaim := { program := "ytjgmdbhbnpafgaa", sum := "421017a8705809a61892a7dca66be92be4e4ece5ef6cbc89e9c84c128628190d", func := "loop.example/g00288/laws.FnExactHeldOf", spec := "fnExactHeldOf", apart := false }
def FnExactHeldOfSaid : Prop := fnExactHeldOfRow.holds Try.pinned (OpenSpec.ofChange fnExactHeldOfSpec)

/-- ITS FALSE NEIGHBOUR: 'it returns false'. Refute it at one input. -/
def fnExactHeldOfWrong : ChangeSpec := { name := "fnExactHeldOf", fn := fun _ => fun
  | [d] => { results := [.lit (.bool false)], args := [d] }
  | _ => none }
def FnExactHeldOfWrongFalsely : Prop := fnExactHeldOfRow.holds Try.pinned (OpenSpec.ofChange fnExactHeldOfWrong)

/-- 'laws.FnExactGetIns': WHATEVER THE INPUT: true; the input reads as it did. -/
def fnExactGetInsSpec : ChangeSpec := { name := "fnExactGetIns", fn := fun _ => fun
  | [d1, d2] => { results := [.lit (.bool true)], args := [d1, d2] }
  | _ => none }
def fnExactGetInsRow : OpenClaim := { program := "ytjgmdbhbnpafgaa", sum := "421017a8705809a61892a7dca66be92be4e4ece5ef6cbc89e9c84c128628190d", func := "loop.example/g00288/laws.FnExactGetIns", spec := "fnExactGetIns", apart := false }
def FnExactGetInsSaid : Prop := fnExactGetInsRow.holds Try.pinned (OpenSpec.ofChange fnExactGetInsSpec)

/-- ITS FALSE NEIGHBOUR: 'it returns false'. Refute it at one input. -/
def fnExactGetInsWrong : ChangeSpec := { name := "fnExactGetIns", fn := fun _ => fun
  | [d1, d2] => { results := [.lit (.bool false)], args := [d1, d2] }
  | _ => none }
def FnExactGetInsWrongFalsely : Prop := fnExactGetInsRow.holds Try.pinned (OpenSpec.ofChange fnExactGetInsWrong)

/-- 'laws.FnExactRecOf': WHATEVER THE INPUT: true; the input reads as it did. -/
def fnExactRecOfSpec : ChangeSpec := { name := "fnExactRecOf", fn := fun _ => fun
  | [d] => { results := [.lit (.bool true)], args := [d] }
  | _ => none }
def fnExactRecOfRow : OpenClaim := { program := "ytjgmdbhbnpafgaa", sum := "421017a8705809a61892a7dca66be92be4e4ece5ef6cbc89e9c84c128628190d", func := "loop.example/g00288/laws.FnExactRecOf", spec := "fnExactRecOf", unfollowed := true, recurses := true, apart := false }
def FnExactRecOfSaid : Prop := fnExactRecOfRow.holds Try.pinned (OpenSpec.ofChange fnExactRecOfSpec)

/-- ITS FALSE NEIGHBOUR: 'it returns false'. Refute it at one input. -/
def fnExactRecOfWrong : ChangeSpec := { name := "fnExactRecOf", fn := fun _ => fun
  | [d] => { results := [.lit (.bool false)], args := [d] }
  | _ => none }
def FnExactRecOfWrongFalsely : Prop := fnExactRecOfRow.holds Try.pinned (OpenSpec.ofChange fnExactRecOfWrong)

/-- 'laws.FnExactHeapOk': WHATEVER THE INPUT: true; the input reads as it did. -/
def fnExactHeapOkSpec : ChangeSpec := { name := "fnExactHeapOk", fn := fun _ => fun
  | [d] => { results := [.lit (.bool true)], args := [d] }
  | _ => none }
def fnExactHeapOkRow : OpenClaim := { program := "ytjgmdbhbnpafgaa", sum := "421017a8705809a61892a7dca66be92be4e4ece5ef6cbc89e9c84c128628190d", func := "loop.example/g00288/laws.FnExactHeapOk", spec := "fnExactHeapOk", apart := false }
def FnExactHeapOkSaid : Prop := fnExactHeapOkRow.holds Try.pinned (OpenSpec.ofChange fnExactHeapOkSpec)

/-- ITS FALSE NEIGHBOUR: 'it returns false'. Refute it at one input. -/
def fnExactHeapOkWrong : ChangeSpec := { name := "fnExactHeapOk", fn := fun _ => fun
  | [d] => { results := [.lit (.bool false)], args := [d] }
  | _ => none }
def FnExactHeapOkWrongFalsely : Prop := fnExactHeapOkRow.holds Try.pinned (OpenSpec.ofChange fnExactHeapOkWrong)

/-- 'laws.FnCells': WHATEVER THE INPUT: true; the input reads as it did. -/
def fnCellsSpec : ChangeSpec := { name := "fnCells", fn := fun _ => fun
  | [d] => { results := [.lit (.bool true)], args := [d] }
  | _ => none }
def fnCellsRow : OpenClaim := { program := "ytjgmdbhbnpafgaa", sum := "421017a8705809a61892a7dca66be92be4e4ece5ef6cbc89e9c84c128628190d", func := "loop.example/g00288/laws.FnCells", spec := "fnCells", unfollowed := true, recurses := true, apart := false }
def FnCellsSaid : Prop := fnCellsRow.holds Try.pinned (OpenSpec.ofChange fnCellsSpec)

/-- ITS FALSE NEIGHBOUR: 'it returns false'. Refute it at one input. -/
def fnCellsWrong : ChangeSpec := { name := "fnCells", fn := fun _ => fun
  | [d] => { results := [.lit (.bool false)], args := [d] }
  | _ => none }
def FnCellsWrongFalsely : Prop := fnCellsRow.holds Try.pinned (OpenSpec.ofChange fnCellsWrong)

/-- 'laws.FnExactHold': WHATEVER THE INPUT: true; the input reads as it did. -/
def fnExactHoldSpec : ChangeSpec := { name := "fnExactHold", fn := fun _ => fun
  | [d1, d2] => { results := [.lit (.bool true)], args := [d1, d2] }
  | _ => none }
def fnExactHoldRow : OpenClaim := { program := "ytjgmdbhbnpafgaa", sum := "421017a8705809a61892a7dca66be92be4e4ece5ef6cbc89e9c84c128628190d", func := "loop.example/g00288/laws.FnExactHold", spec := "fnExactHold", apart := false }
def FnExactHoldSaid : Prop := fnExactHoldRow.holds Try.pinned (OpenSpec.ofChange fnExactHoldSpec)

/-- ITS FALSE NEIGHBOUR: 'it returns false'. Refute it at one input. -/
def fnExactHoldWrong : ChangeSpec := { name := "fnExactHold", fn := fun _ => fun
  | [d1, d2] => { results := [.lit (.bool false)], args := [d1, d2] }
  | _ => none }
def FnExactHoldWrongFalsely : Prop := fnExactHoldRow.holds Try.pinned (OpenSpec.ofChange fnExactHoldWrong)

/-- 'laws.FnExactLet': WHATEVER THE INPUT: true; the input reads as it did. -/
def fnExactLetSpec : ChangeSpec := { name := "fnExactLet", fn := fun _ => fun
  | [d1, d2] => { results := [.lit (.bool true)], args := [d1, d2] }
  | _ => none }
def fnExactLetRow : OpenClaim := { program := "ytjgmdbhbnpafgaa", sum := "421017a8705809a61892a7dca66be92be4e4ece5ef6cbc89e9c84c128628190d", func := "loop.example/g00288/laws.FnExactLet", spec := "fnExactLet", apart := false }
def FnExactLetSaid : Prop := fnExactLetRow.holds Try.pinned (OpenSpec.ofChange fnExactLetSpec)

/-- ITS FALSE NEIGHBOUR: 'it returns false'. Refute it at one input. -/
def fnExactLetWrong : ChangeSpec := { name := "fnExactLet", fn := fun _ => fun
  | [d1, d2] => { results := [.lit (.bool false)], args := [d1, d2] }
  | _ => none }
def FnExactLetWrongFalsely : Prop := fnExactLetRow.holds Try.pinned (OpenSpec.ofChange fnExactLetWrong)

/- THE SECOND FORM. 'bulk': how many values and letters a reading holds, each counted each time it is reached (what is shared counts as often as it is met; a slice's spare places count too). A statement '..UptoSaid' is the law's where the arguments, and the package variables that the reading takes, are together of bulk at most 1048576: NARROWER than '..Said'. Prove '..Said' where nothing that the law and all that it calls make is longer than what came in: it says more and counts as full. Else prove '..UptoSaid'. A law counts once. -/
mutual
def uptoBulk {H : Type} : DataW H → Nat
  | .lit (.string bytes) => bytes.length + 1
  | .lit _ => 1
  | .nil => 1
  | .ptr d => uptoBulk d + 1
  | .slice elems spare => uptoBulkAll elems + uptoBulkAll spare + 1
  | .agg parts => uptoBulkAll parts + 1
  | .iface _ d => uptoBulk d + 1
  | .map entries => uptoBulkEntries entries + 1
  | .held _ => 1
def uptoBulkAll {H : Type} : List (DataW H) → Nat
  | [] => 0
  | d :: r => uptoBulk d + uptoBulkAll r
def uptoBulkEntries {H : Type} : List (Lit × DataW H) → Nat
  | [] => 0
  | x :: r => uptoBulkEntry x + uptoBulkEntries r
def uptoBulkEntry {H : Type} : Lit × DataW H → Nat
  | (.string bytes, d) => bytes.length + uptoBulk d + 1
  | (_, d) => uptoBulk d + 1
 end
def uptoSmall : (H : Type) → List (DataW H) → Bool := fun _ ds => decide (uptoBulkAll ds ≤ 1048576)
def OpenSpec.upto (s : _root_.Go.ChangeSpec) : _root_.Go.OpenSpec := { _root_.Go.OpenSpec.ofChange s with cond := some uptoSmall }

/-- 'laws.FnExactInsOk', WHERE WHAT IT READS IS OF BULK AT MOST 1048576: true; the input reads as it did. -/
def fnExactInsOkUptoRow : OpenClaim := { program := "ytjgmdbhbnpafgaa", sum := "421017a8705809a61892a7dca66be92be4e4ece5ef6cbc89e9c84c128628190d", func := "loop.example/g00288/laws.FnExactInsOk", spec := "fnExactInsOk", apart := false, narrowed := true }
def FnExactInsOkUptoSaid : Prop := fnExactInsOkUptoRow.holds Try.pinned (OpenSpec.upto fnExactInsOkSpec)

/-- 'laws.FnExactRecOk', WHERE WHAT IT READS IS OF BULK AT MOST 1048576: true; the input reads as it did. -/
def fnExactRecOkUptoRow : OpenClaim := { program := "ytjgmdbhbnpafgaa", sum := "421017a8705809a61892a7dca66be92be4e4ece5ef6cbc89e9c84c128628190d", func := "loop.example/g00288/laws.FnExactRecOk", spec := "fnExactRecOk", apart := false, narrowed := true }
def FnExactRecOkUptoSaid : Prop := fnExactRecOkUptoRow.holds Try.pinned (OpenSpec.upto fnExactRecOkSpec)

/-- 'laws.FnExactFieldOf', WHERE WHAT IT READS IS OF BULK AT MOST 1048576: true; the input reads as it did. -/
def fnExactFieldOfUptoRow : OpenClaim := { program := "ytjgmdbhbnpafgaa", sum := "421017a8705809a61892a7dca66be92be4e4ece5ef6cbc89e9c84c128628190d", func := "loop.example/g00288/laws.FnExactFieldOf", spec := "fnExactFieldOf", apart := false, narrowed := true }
def FnExactFieldOfUptoSaid : Prop := fnExactFieldOfUptoRow.holds Try.pinned (OpenSpec.upto fnExactFieldOfSpec)

/-- 'laws.FnExactPutIns', WHERE WHAT IT READS IS OF BULK AT MOST 1048576: true; the input reads as it did. -/
def fnExactPutInsUptoRow : OpenClaim := { program := "ytjgmdbhbnpafgaa", sum := "421017a8705809a61892a7dca66be92be4e4ece5ef6cbc89e9c84c128628190d", func := "loop.example/g00288/laws.FnExactPutIns", spec := "fnExactPutIns", apart := false, narrowed := true }
def FnExactPutInsUptoSaid : Prop := fnExactPutInsUptoRow.holds Try.pinned (OpenSpec.upto fnExactPutInsSpec)

/-- 'laws.FnExactValAt', WHERE WHAT IT READS IS OF BULK AT MOST 1048576: true; the input reads as it did. -/
def fnExactValAtUptoRow : OpenClaim := { program := "ytjgmdbhbnpafgaa", sum := "421017a8705809a61892a7dca66be92be4e4ece5ef6cbc89e9c84c128628190d", func := "loop.example/g00288/laws.FnExactValAt", spec := "fnExactValAt", apart := false, narrowed := true }
def FnExactValAtUptoSaid : Prop := fnExactValAtUptoRow.holds Try.pinned (OpenSpec.upto fnExactValAtSpec)

/-- 'laws.FnExactHeldOf', WHERE WHAT IT READS IS OF BULK AT MOST 1048576: true; the input reads as it did. -/
def fnExactHeldOfUptoRow : OpenClaim := { program := "ytjgmdbhbnpafgaa", sum := "421017a8705809a61892a7dca66be92be4e4ece5ef6cbc89e9c84c128628190d", func := "loop.example/g00288/laws.FnExactHeldOf", spec := "fnExactHeldOf", apart := false, narrowed := true }
def FnExactHeldOfUptoSaid : Prop := fnExactHeldOfUptoRow.holds Try.pinned (OpenSpec.upto fnExactHeldOfSpec)

/-- 'laws.FnExactGetIns', WHERE WHAT IT READS IS OF BULK AT MOST 1048576: true; the input reads as it did. -/
def fnExactGetInsUptoRow : OpenClaim := { program := "ytjgmdbhbnpafgaa", sum := "421017a8705809a61892a7dca66be92be4e4ece5ef6cbc89e9c84c128628190d", func := "loop.example/g00288/laws.FnExactGetIns", spec := "fnExactGetIns", apart := false, narrowed := true }
def FnExactGetInsUptoSaid : Prop := fnExactGetInsUptoRow.holds Try.pinned (OpenSpec.upto fnExactGetInsSpec)

/-- 'laws.FnExactRecOf', WHERE WHAT IT READS IS OF BULK AT MOST 1048576: true; the input reads as it did. -/
def fnExactRecOfUptoRow : OpenClaim := { program := "ytjgmdbhbnpafgaa", sum := "421017a8705809a61892a7dca66be92be4e4ece5ef6cbc89e9c84c128628190d", func := "loop.example/g00288/laws.FnExactRecOf", spec := "fnExactRecOf", unfollowed := true, recurses := true, apart := false, narrowed := true }
def FnExactRecOfUptoSaid : Prop := fnExactRecOfUptoRow.holds Try.pinned (OpenSpec.upto fnExactRecOfSpec)

/-- 'laws.FnExactHeapOk', WHERE WHAT IT READS IS OF BULK AT MOST 1048576: true; the input reads as it did. -/
def fnExactHeapOkUptoRow : OpenClaim := { program := "ytjgmdbhbnpafgaa", sum := "421017a8705809a61892a7dca66be92be4e4ece5ef6cbc89e9c84c128628190d", func := "loop.example/g00288/laws.FnExactHeapOk", spec := "fnExactHeapOk", apart := false, narrowed := true }
def FnExactHeapOkUptoSaid : Prop := fnExactHeapOkUptoRow.holds Try.pinned (OpenSpec.upto fnExactHeapOkSpec)

/-- 'laws.FnCells', WHERE WHAT IT READS IS OF BULK AT MOST 1048576: true; the input reads as it did. -/
def fnCellsUptoRow : OpenClaim := { program := "ytjgmdbhbnpafgaa", sum := "421017a8705809a61892a7dca66be92be4e4ece5ef6cbc89e9c84c128628190d", func := "loop.example/g00288/laws.FnCells", spec := "fnCells", unfollowed := true, recurses := true, apart := false, narrowed := true }
def FnCellsUptoSaid : Prop := fnCellsUptoRow.holds Try.pinned (OpenSpec.upto fnCellsSpec)

/-- 'laws.FnExactHold', WHERE WHAT IT READS IS OF BULK AT MOST 1048576: true; the input reads as it did. -/
def fnExactHoldUptoRow : OpenClaim := { program := "ytjgmdbhbnpafgaa", sum := "421017a8705809a61892a7dca66be92be4e4ece5ef6cbc89e9c84c128628190d", func := "loop.example/g00288/laws.FnExactHold", spec := "fnExactHold", apart := false, narrowed := true }
def FnExactHoldUptoSaid : Prop := fnExactHoldUptoRow.holds Try.pinned (OpenSpec.upto fnExactHoldSpec)

/-- 'laws.FnExactLet', WHERE WHAT IT READS IS OF BULK AT MOST 1048576: true; the input reads as it did. -/
def fnExactLetUptoRow : OpenClaim := { program := "ytjgmdbhbnpafgaa", sum := "421017a8705809a61892a7dca66be92be4e4ece5ef6cbc89e9c84c128628190d", func := "loop.example/g00288/laws.FnExactLet", spec := "fnExactLet", apart := false, narrowed := true }
def FnExactLetUptoSaid : Prop := fnExactLetUptoRow.holds Try.pinned (OpenSpec.upto fnExactLetSpec)

end Rows
end Go.Proofs.Ytjgmdbhbnpafgaa
