/- The abstract machine: returns; rows opened and closed, their parts told one by one (so that they do not nest). -/
import Derived.Test.YtfdjognmechcfaaAX
namespace Go.Proofs.Ytfdjognmechcfaa
open Go.RowKit
theorem clV_v {hp : Nat → Option Row} {v : Value} : clV hp (.c (.v v)) = some (.c (.v v), hp) := rfl
section
variable {tm : Nat → AV} {hp : Nat → Option Row} {gn L : Nat} {us : List Nat}
theorem g_abs {i j n : Nat} {T T' : TypeId} {k k' m : Nat} {b : Bool} {cs cs' : List AC} {pre post : List AC} (hij : Nat.beq i j = false) (hr : hp i = some ⟨T, k, m, b, cs⟩) (hs : hp j = some ⟨T', k', n, false, cs'⟩) (hcs : cs = pre ++ .sl j n :: post) :
    Gh ⟨tm, hp, gn, us, L⟩ ⟨tm, upd (upd hp j none) i (some ⟨T, k, m, b, pre ++ .ow T' n k' cs' :: post⟩), gn, us, L⟩ := g_absorb hij hr hs rfl rfl hcs
theorem g_rev (id : Nat) {i n k : Nat} {T : TypeId} {l : List AC} {T' : TypeId} {k' m : Nat} {b : Bool} {cs : List AC} {pre post : List AC} (hr : hp i = some ⟨T', k', m, b, cs⟩) (hf : (Nat.ble gn id && !us.contains id) = true) (hcs : cs = pre ++ .ow T n k l :: post) :
    Gh ⟨tm, hp, gn, us, L⟩ ⟨tm, upd (upd hp id (some ⟨T, k, n, false, l⟩)) i (some ⟨T', k', m, b, pre ++ .sl id n :: post⟩), gn, id :: us, L⟩ := g_reveal id hr hf hcs
end
section
variable {P : Program} {fn : Func} {Post : AV → List (List AC) → Prop} {σ : AS} {hp' : Nat → Option Row}
/-- A return where one row was lent. -/
theorem retL {l : List AV} {x : AV} {p cs : List AC} {T : TypeId} {k m : Nat} {b : Bool} (h1 : resL P σ.hp σ.tm fn.results.toList = some l) (h2 : clV σ.hp (joinAV l) = some (x, hp')) (hr : hp' 0 = some ⟨T, k, m, b, cs⟩) (hc : cloL cs = true) (hl : cs.length = p.length) (h3 : Post x [cs]) : retQ P fn [p] Post σ :=
  ret1 h1 h2 hr hc hl h3
end
/-- One box lent. -/
theorem lend1 {hp : Nat → Option Row} {i k m : Nat} {T : TypeId} {cs : List AC} (hr : hp i = some ⟨T, k, m, true, cs⟩) (hc : cloL cs = true) : lend hp [i] = some [cs] := by
  simp only [lend, hr]
  rw [if_pos ⟨.inl trivial, hc, List.not_mem_nil⟩]
end Go.Proofs.Ytfdjognmechcfaa
