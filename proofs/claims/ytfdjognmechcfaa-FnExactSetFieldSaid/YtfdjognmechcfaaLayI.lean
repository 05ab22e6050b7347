/- Contracts of the library, laid at this program by the shelf's own tools. -/
import Derived.Test.YtfdjognmechcfaaAH
import Derived.Shelf.Lays
namespace Go.Proofs.Ytfdjognmechcfaa
open Go.RowKit Go.Shelf
set_option maxRecDepth 100000
def lays137_ren : Go.Shelf.Ren := ⟨fun | 137 => 115 | 217 => 121 | 266 => 122 | n => n, fun | 9 => 9 | 5 => 5 | 3 => 3 | n => n, fun | n => n⟩
theorem lays137 : Go.Proofs.Lays.n137 Try.prog lays137_ren := {
  mixed := by kernel_rfl
  f137 := Try.func115.trans (congrArg some (by kernel_rfl))
  f217 := Try.func121.trans (congrArg some (by kernel_rfl))
  f266 := Try.func122.trans (congrArg some (by kernel_rfl))
  t3 := Try.underlying3
  a3 := Try.isAgg3
  z3 := Try.sizeOf3
  v3 := Try.zeroValue3
  t5 := Try.underlying5
  a5 := Try.isAgg5
  z5 := Try.sizeOf5
  v5 := Try.zeroValue5
  t9 := Try.underlying9
  a9 := Try.isAgg9
  z9 := Try.sizeOf9
  v9 := Try.zeroValue9 }
end Go.Proofs.Ytfdjognmechcfaa
