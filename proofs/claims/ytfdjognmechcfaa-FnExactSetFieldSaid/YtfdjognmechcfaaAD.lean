/- The abstract machine, fourth part: what came later still. -/
import Derived.Test.YtfdjognmechcfaaAC
namespace Go.Proofs.Ytfdjognmechcfaa
open Go.RowKit
theorem cvC_sl' {hp : Nat → Option Row} {D : List Nat} {i n k : Nat} {rw : Row} {l : List AC} (hr : hp i = some rw) (hb : rw.box = false) (hn : rw.n = n) (hk : rw.k = k) (hc : cloL rw.cs = true) (hl : toRoL rw.cs = l) : cvC hp D (.sl i n) = .ro n k l := by
  subst hk
  exact cvC_sl hr hb hn hc hl
end Go.Proofs.Ytfdjognmechcfaa
