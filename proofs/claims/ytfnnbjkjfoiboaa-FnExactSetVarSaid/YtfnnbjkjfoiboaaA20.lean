/- The abstract machine, twenty: rules for walks over states written out. -/
import Derived.Test.YtfnnbjkjfoiboaaA19
namespace Go.Proofs.Ytfnnbjkjfoiboaa
open Go.RowKit

section
variable {P : Program} {ops : Array Oper} {Q : Exit → Act → World → Prop} {C : Ctx} {H H' : List (Nat × Oper × Inf)} {i : Nat} {r : List Nat} {o : Oper} {dr : Bool}
variable {tm : Nat → AV} {hp : Nat → Option Row} {gn L : Nat} {us : List Nat} {x : AV}
theorem walkF_H : ∀ {r : List Nat} {H H' : List (Nat × Oper × Inf)} {σ : AS}, Walk P ops Q C false H r σ → Walk P ops Q C false H' r σ
  | [], _, _, _, h => h
  | _ :: _, _, _, _, ⟨o, I, h0, h1, h2, h3, h4⟩ => ⟨o, I, h0, h1, h2, (fun h => by cases h), walkF_H h4⟩
theorem blt_to {a b : Nat} (h : Nat.blt a b = true) : a < b := by simpa [Nat.blt_eq] using h
theorem put_at {σ : AS} {t : Nat} (ht : t < σ.L) : σ.put (some t) x = { σ with tm := upd σ.tm t x } := by unfold AS.put; exact if_pos ht
/-- The check of a region that draws. -/
def chk (dr : Bool) (ops : Array Oper) (i : Nat) (o : Oper) (I : Inf) (H : List (Nat × Oper × Inf)) : Bool := !dr || H.all fun h => wt .any ops ops.size i h.1 || inp ops o I h.2.1 h.2.2
theorem chk_to {I : Inf} (h : chk dr ops i o I H = true) : dr = true → (H.all fun h => wt .any ops ops.size i h.1 || inp ops o I h.2.1 h.2.2) = true := by
  rintro rfl; simpa [chk] using h
/-- What is kept of an operation: nothing where the text's order is the order. -/
def keepH (dr : Bool) (e : Nat × Oper × Inf) (H : List (Nat × Oper × Inf)) : List (Nat × Oper × Inf) := if dr then e :: H else []
theorem keepH_to {e : Nat × Oper × Inf} {σ : AS} (h : Walk P ops Q C dr (keepH dr e H) r σ) : Walk P ops Q C dr (e :: H) r σ := by
  cases dr with
  | true => exact h
  | false => exact walkF_H h
theorem w_nop {t : Nat} (id : Nat) (hop : ops[i]? = some o) (hd : o.dst = some t) (ht : Nat.blt t L = true) (hg : gw ops tm o = some true) (he : EffD P o (AS.ev ⟨tm, hp, gn, us, L⟩) hp id = some (x, .nop))
    (hc : chk dr ops i o ⟨fpO (AS.ev ⟨tm, hp, gn, us, L⟩) o, [], [], x⟩ H = true) (h : Walk P ops Q C dr (keepH dr (i, o, ⟨fpO (AS.ev ⟨tm, hp, gn, us, L⟩) o, [], [], x⟩) H) r ⟨upd tm t x, hp, gn, us, L⟩) : Walk P ops Q C dr H (i :: r) ⟨tm, hp, gn, us, L⟩ :=
  walk_eff id hop hg he (fun n hn => absurd hn List.not_mem_nil) (chk_to hc) (keepH_to (by rw [hd, put_at (by simpa [Dl.ap] using blt_to ht)]; exact h))
theorem w_gr {t : Nat} (id : Nat) {rw : Row} (hop : ops[i]? = some o) (hd : o.dst = some t) (ht : Nat.blt t L = true) (hg : gw ops tm o = some true) (hf : (Nat.ble gn id && !us.contains id) = true) (he : EffD P o (AS.ev ⟨tm, hp, gn, us, L⟩) hp id = some (x, .gr id rw))
    (hc : chk dr ops i o ⟨fpO (AS.ev ⟨tm, hp, gn, us, L⟩) o, [(id, some rw)], [id], x⟩ H = true) (h : Walk P ops Q C dr (keepH dr (i, o, ⟨fpO (AS.ev ⟨tm, hp, gn, us, L⟩) o, [(id, some rw)], [id], x⟩) H) r ⟨upd tm t x, upd hp id (some rw), gn, id :: us, L⟩) : Walk P ops Q C dr H (i :: r) ⟨tm, hp, gn, us, L⟩ := by
  simp only [Bool.and_eq_true, Nat.ble_eq, Bool.not_eq_true'] at hf
  refine walk_eff id hop hg he (fun n hn => ?_) (chk_to hc) (keepH_to (by rw [hd, put_at (by simpa [Dl.ap, AS.grow] using blt_to ht)]; exact h))
  obtain rfl : n = id := by simpa [Dl.N] using hn
  exact ⟨hf.1, fun hm => by have := hf.2; simp at this; exact this hm⟩
theorem w_mv {t : Nat} (id : Nat) {j : Nat} {rw : Row} (hop : ops[i]? = some o) (hd : o.dst = some t) (ht : Nat.blt t L = true) (hg : gw ops tm o = some true) (hf : (Nat.ble gn id && !us.contains id) = true) (he : EffD P o (AS.ev ⟨tm, hp, gn, us, L⟩) hp id = some (x, .mv j id rw))
    (hc : chk dr ops i o ⟨fpO (AS.ev ⟨tm, hp, gn, us, L⟩) o, [(j, none), (id, some rw)], [id], x⟩ H = true) (h : Walk P ops Q C dr (keepH dr (i, o, ⟨fpO (AS.ev ⟨tm, hp, gn, us, L⟩) o, [(j, none), (id, some rw)], [id], x⟩) H) r ⟨upd tm t x, upd (upd hp j none) id (some rw), gn, id :: us, L⟩) : Walk P ops Q C dr H (i :: r) ⟨tm, hp, gn, us, L⟩ := by
  simp only [Bool.and_eq_true, Nat.ble_eq, Bool.not_eq_true'] at hf
  refine walk_eff id hop hg he (fun n hn => ?_) (chk_to hc) (keepH_to (by rw [hd, put_at (by simpa [Dl.ap, AS.grow, AS.set] using blt_to ht)]; exact h))
  obtain rfl : n = id := by simpa [Dl.N] using hn
  exact ⟨hf.1, fun hm => by have := hf.2; simp at this; exact this hm⟩
theorem w_st {j : Nat} {rw : Row} (hop : ops[i]? = some o) (hd : o.dst = none) (hg : gw ops tm o = some true) (he : EffD P o (AS.ev ⟨tm, hp, gn, us, L⟩) hp 0 = some (x, .st j rw))
    (hc : chk dr ops i o ⟨fpO (AS.ev ⟨tm, hp, gn, us, L⟩) o, [(j, some rw)], [], x⟩ H = true) (h : Walk P ops Q C dr (keepH dr (i, o, ⟨fpO (AS.ev ⟨tm, hp, gn, us, L⟩) o, [(j, some rw)], [], x⟩) H) r ⟨tm, upd hp j (some rw), gn, us, L⟩) : Walk P ops Q C dr H (i :: r) ⟨tm, hp, gn, us, L⟩ :=
  walk_eff 0 hop hg he (fun n hn => absurd hn List.not_mem_nil) (chk_to hc) (keepH_to (by rw [hd]; exact h))
theorem w_nop0 (hop : ops[i]? = some o) (hd : o.dst = none) (hg : gw ops tm o = some true) (he : EffD P o (AS.ev ⟨tm, hp, gn, us, L⟩) hp 0 = some (x, .nop))
    (hc : chk dr ops i o ⟨fpO (AS.ev ⟨tm, hp, gn, us, L⟩) o, [], [], x⟩ H = true) (h : Walk P ops Q C dr (keepH dr (i, o, ⟨fpO (AS.ev ⟨tm, hp, gn, us, L⟩) o, [], [], x⟩) H) r ⟨tm, hp, gn, us, L⟩) : Walk P ops Q C dr H (i :: r) ⟨tm, hp, gn, us, L⟩ :=
  walk_eff 0 hop hg he (fun n hn => absurd hn List.not_mem_nil) (chk_to hc) (keepH_to (by rw [hd]; exact h))
theorem w_skip {t : Nat} (hop : ops[i]? = some o) (hd : o.dst = some t) (ht : Nat.blt t L = true) (hg : gw ops tm o = some false) (hc : chk dr ops i o infSkip H = true) (h : Walk P ops Q C dr (keepH dr (i, o, infSkip) H) r ⟨upd tm t (.tu []), hp, gn, us, L⟩) : Walk P ops Q C dr H (i :: r) ⟨tm, hp, gn, us, L⟩ :=
  walk_skip hop hg (chk_to hc) (keepH_to (by rw [hd, put_at (by simpa using blt_to ht)]; exact h))
theorem w_skip0 (hop : ops[i]? = some o) (hd : o.dst = none) (hg : gw ops tm o = some false) (hc : chk dr ops i o infSkip H = true) (h : Walk P ops Q C dr (keepH dr (i, o, infSkip) H) r ⟨tm, hp, gn, us, L⟩) : Walk P ops Q C dr H (i :: r) ⟨tm, hp, gn, us, L⟩ :=
  walk_skip hop hg (chk_to hc) (keepH_to (by rw [hd]; exact h))
end
end Go.Proofs.Ytfnnbjkjfoiboaa
