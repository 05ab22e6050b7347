/- The abstract machine, third part: what came later. -/
import Derived.Test.YtfnnbjkjfoiboaaAB
namespace Go.Proofs.Ytfnnbjkjfoiboaa
open Go.RowKit
section
variable {P : Program} {tm : Nat → AV} {hp : Nat → Option Row} {gn L : Nat} {us : List Nat}
/-- A slice that is nothing, in a slot, as a row. -/
theorem g_nilT (id : Nat) {t : Nat} (T : TypeId) (k : Nat) (ht : tm t = .c (.v (.slice none 0 0))) (hf : (Nat.ble gn id && !us.contains id) = true) :
    Gh ⟨tm, hp, gn, us, L⟩ ⟨upd tm t (.c (.sl id 0)), upd hp id (some ⟨T, k, 0, false, []⟩), gn, id :: us, L⟩ := by
  simp only [Bool.and_eq_true, Nat.ble_eq, Bool.not_eq_true'] at hf
  rintro C a w ⟨φ, F, St, h⟩
  obtain ⟨φ', F', St', h', hv⟩ := h.newSlice (id := id) hf.1 (fun hm => by have := hf.2; simp at this; exact this hm) (Stp.refl none w) (fun b hb => by cases hb) (CRL.nil) (fun b hb => absurd hb List.not_mem_nil) (World.ownsRow_nil w 0 T k) (by simp [obl, Value.ownBlock]) (fun b hb => by simp [obl, Value.ownBlock] at hb)
  refine ⟨φ', F', St', h'.dfr, h'.len, fun t' => ?_, h'.row, h'.nod, h'.dis, h'.bxF, h'.bxd, h'.stF, h'.stB, h'.frm, h'.own, h'.par, h'.new, h'.gnN, h'.stS⟩
  show VR w St' φ' _ (upd tm t _ t') _
  by_cases e : t' = t
  · subst e
    rw [upd_same]
    have := h.tms t'
    change VR w St φ _ (tm t') _ at this
    rw [ht] at this
    simp only [VR, CR] at this
    rw [this.1]; exact hv
  · rw [upd_ne _ _ e]; exact h'.tms t'
end
section
variable {P : Program} {ops : Array Oper} {Q : Exit → Act → World → Prop} {C : Ctx} {H H' : List (Nat × Oper × Inf)} {i : Nat} {r : List Nat} {o : Oper} {dr : Bool}
variable {tm : Nat → AV} {hp : Nat → Option Row} {gn L : Nat} {us : List Nat} {x : AV}
/-- An operation whose result is written in other words. -/
theorem w_eq {t : Nat} {y : AV} (hop : ops[i]? = some o) (hd : o.dst = some t) (ht : Nat.blt t L = true) (hg : gw ops tm o = some true) (he : EffD P o (AS.ev ⟨tm, hp, gn, us, L⟩) hp 0 = some (x, .nop)) (hy : x = y)
    (hc : chk dr ops i o ⟨fpO (AS.ev ⟨tm, hp, gn, us, L⟩) o, [], [], y⟩ H = true) (h : Walk P ops Q C dr (keepH dr (i, o, ⟨fpO (AS.ev ⟨tm, hp, gn, us, L⟩) o, [], [], y⟩) H) r ⟨upd tm t y, hp, gn, us, L⟩) : Walk P ops Q C dr H (i :: r) ⟨tm, hp, gn, us, L⟩ := by
  subst hy
  exact w_nop 0 hop hd ht hg he hc h
/-- An operation that gives a truth value: both ways. -/
theorem w_bool {t : Nat} {b : Bool} (hop : ops[i]? = some o) (hd : o.dst = some t) (ht : Nat.blt t L = true) (hg : gw ops tm o = some true) (he : EffD P o (AS.ev ⟨tm, hp, gn, us, L⟩) hp 0 = some (.c (.v (.bool b)), .nop))
    (hc1 : chk dr ops i o ⟨fpO (AS.ev ⟨tm, hp, gn, us, L⟩) o, [], [], .c (.v (.bool true))⟩ H = true) (hc2 : chk dr ops i o ⟨fpO (AS.ev ⟨tm, hp, gn, us, L⟩) o, [], [], .c (.v (.bool false))⟩ H = true)
    (h1 : b = true → Walk P ops Q C dr (keepH dr (i, o, ⟨fpO (AS.ev ⟨tm, hp, gn, us, L⟩) o, [], [], .c (.v (.bool true))⟩) H) r ⟨upd tm t (.c (.v (.bool true))), hp, gn, us, L⟩)
    (h2 : b = false → Walk P ops Q C dr (keepH dr (i, o, ⟨fpO (AS.ev ⟨tm, hp, gn, us, L⟩) o, [], [], .c (.v (.bool false))⟩) H) r ⟨upd tm t (.c (.v (.bool false))), hp, gn, us, L⟩) : Walk P ops Q C dr H (i :: r) ⟨tm, hp, gn, us, L⟩ := by
  cases b with
  | true => exact w_nop 0 hop hd ht hg he hc1 (h1 rfl)
  | false => exact w_nop 0 hop hd ht hg he hc2 (h2 rfl)
/-- The next operation writes slot t. -/
def dstB (ops : Array Oper) (i t : Nat) : Bool := match ops[i]? with | some o => (match o.dst with | some d => Nat.beq d t | none => false) | none => false
theorem walk_dst (t : Nat) {σ : AS} (_ : dstB ops i t = true) (h : Walk P ops Q C dr H (i :: r) σ) : Walk P ops Q C dr H (i :: r) σ := h
end
end Go.Proofs.Ytfnnbjkjfoiboaa
