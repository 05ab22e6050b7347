/- The machine: blocks given over to those that stand; the conversion of a literal's row of bytes, by which it stands from then on. -/
import Derived.Test.YtnlgmojciplnoaaDoorFlxPI
namespace Go.Proofs.YtnlgmojciplnoaaDoor
open Go.RowKit
set_option maxRecDepth 100000
section
variable {C : Ctx} {φ : Nat → Lc} {F : Nat → List Nat} {St : Nat → Prop} {σ : AS} {a : Act} {w w' : World}
end
section
variable {P : Program} {ops : Array Oper} {Q : Exit → Act → World → Prop} {C : Ctx} {i : Nat} {r : List Nat} {o : Oper}
variable {tm : Nat → AV} {hp : Nat → Option Row} {gn L : Nat} {us : List Nat} {x : AV}
end
end Go.Proofs.YtnlgmojciplnoaaDoor
