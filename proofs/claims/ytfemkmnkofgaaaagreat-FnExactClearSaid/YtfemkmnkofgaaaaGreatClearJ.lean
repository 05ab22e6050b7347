/- The machine: blocks given over to those that stand; the conversion of a literal's row of bytes, by which it stands from then on. -/
import Derived.StillTailTactics
import Derived.Test.YtfemkmnkofgaaaaGreatClearI
namespace Go.Proofs.YtfemkmnkofgaaaaGreat
open Go.RowKit
set_option maxRecDepth 100000
section
variable {C:Ctx}{φ:Nat→Lc}{F:Nat→List Nat}{St:Nat→Prop}{σ:AS}{a:Act}{w w':World}
end
section
variable {P:Program}{ops:Array Oper}{Q:Exit→Act→World→Prop}{C:Ctx}{i:Nat}{r:List Nat}{o:Oper}
variable {tm:Nat→AV}{hp:Nat→Option Row}{gn L:Nat}{us:List Nat}{x:AV}
end
section
variable {ops:Array Oper}{Q:Exit→Act→World→Prop}{C:Ctx}{H:List (Nat×Oper×Inf)}{i:Nat}{r:List Nat}{dr:Bool}
variable {tm:Nat→AV}{hp:Nat→Option Row}{gn L:Nat}{us:List Nat}
end
def Byt (l:List E):Prop:=∀e∈l,∃x:Nat,x<256∧e=.int .u8 (x:Int)
theorem Byt.enc {l:List E}(h:Byt l):∀e∈l,e.enc.length=1:=fun e he=>by obtain⟨x,-,rfl⟩:=h e he;rfl
section
variable {ops:Array Oper}{Q:Exit→Act→World→Prop}{C:Ctx}{i:Nat}{r:List Nat}
variable {tm:Nat→AV}{hp:Nat→Option Row}{gn L:Nat}{us:List Nat}
end
set_option maxRecDepth 100000
end Go.Proofs.YtfemkmnkofgaaaaGreat
namespace Go.Proofs.YtfemkmnkofgaaaaGreat
open Go.RowKit
end Go.Proofs.YtfemkmnkofgaaaaGreat
namespace Go.Proofs.YtfemkmnkofgaaaaGreat
open Go.RowKit
structure GVal where
 k:Int
 n:Int
 s:ByteArray
structure GCell where
 refs:Int
 v:GVal
end Go.Proofs.YtfemkmnkofgaaaaGreat
namespace Go.Proofs.YtfemkmnkofgaaaaGreat
open Go.RowKit
end Go.Proofs.YtfemkmnkofgaaaaGreat
namespace Go.Proofs.YtfemkmnkofgaaaaGreat
open Go.RowKit
end Go.Proofs.YtfemkmnkofgaaaaGreat
namespace Go.Proofs.YtfemkmnkofgaaaaGreat
open Go.RowKit
end Go.Proofs.YtfemkmnkofgaaaaGreat
namespace Go.Proofs.YtfemkmnkofgaaaaGreat
open Go.RowKit
set_option maxRecDepth 100000
set_option maxRecDepth 100000
end Go.Proofs.YtfemkmnkofgaaaaGreat
