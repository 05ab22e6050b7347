/- The abstract machine, third part: what came later. -/
import Derived.Test.YtfdjognmechcfaaAB
namespace Go.Proofs.Ytfdjognmechcfaa
open Go.RowKit
section
variable {P : Program} {tm : Nat → AV} {hp : Nat → Option Row} {gn L : Nat} {us : List Nat}
/-- A slice that is nothing, in a slot, as a row. -/
theorem g_nilT (id : Nat) {t : Nat} (T : TypeId) (k : Nat) (ht : tm t = .c (.v (.slice none 0 0))) (hf : (Nat.ble gn id && !us.contains id) = true) :
    Gh ⟨tm, hp, gn, us, L⟩ ⟨upd tm t (.c (.sl id 0)), upd hp id (some ⟨T, k, 0, false, []⟩), gn, id :: us, L⟩ := by
  simp only [Bool.and_eq_true, Nat.ble_eq, Bool.not_eq_true'] at hf
  rintro C a w ⟨φ, F, St, h⟩
  obtain ⟨φ', F', St', h', hv⟩ := h.newSlice (id := id) hf.1 (fun hm => by have := hf.2; simp at this; exact this hm) (Stp.refl none w) (fun b hb => by cases hb) (CRL.nil) (fun b hb => absurd hb List.not_mem_nil) (World.ownsRow_nil w 0 T k) (by simp [obl, Value.ownBlock]) (fun b hb => by simp [obl, Value.ownBlock] at hb)
  refine ⟨φ', F', St', h'.dfr, h'.len, fun t' => ?_, h'.row, h'.nod, h'.dis, h'.bxF, h'.bxd, h'.stF, h'.stB, h'.frm, h'.own, h'.par, h'.new, h'.gnN, h'.stS⟩
  show VR w St' φ' _ (upd tm t _ t') _
  by_cases e : t' = t
  · subst e
    rw [upd_same]
    have := h.tms t'
    change VR w St φ _ (tm t') _ at this
    rw [ht] at this
    simp only [VR, CR] at this
    rw [this.1]; exact hv
  · rw [upd_ne _ _ e]; exact h'.tms t'
end
section
variable {P : Program} {ops : Array Oper} {Q : Exit → Act → World → Prop} {C : Ctx} {H H' : List (Nat × Oper × Inf)} {i : Nat} {r : List Nat} {o : Oper} {dr : Bool}
variable {tm : Nat → AV} {hp : Nat → Option Row} {gn L : Nat} {us : List Nat} {x : AV}
theorem chk_nd {I : Inf} : chk false ops i o I H = true := rfl
/-- An operation whose result is written in other words. -/
theorem w_eq {t : Nat} {y : AV} (hop : ops[i]? = some o) (hd : o.dst = some t) (ht : Nat.blt t L = true) (hg : gw ops tm o = some true) (he : EffD P o (AS.ev ⟨tm, hp, gn, us, L⟩) hp 0 = some (x, .nop)) (hy : x = y)
    (hc : chk dr ops i o ⟨fpO (AS.ev ⟨tm, hp, gn, us, L⟩) o, [], [], y⟩ H = true) (h : Walk P ops Q C dr (keepH dr (i, o, ⟨fpO (AS.ev ⟨tm, hp, gn, us, L⟩) o, [], [], y⟩) H) r ⟨upd tm t y, hp, gn, us, L⟩) : Walk P ops Q C dr H (i :: r) ⟨tm, hp, gn, us, L⟩ := by
  subst hy
  exact w_nop 0 hop hd ht hg he hc h
/-- An operation that gives a truth value: both ways. -/
theorem w_bool {t : Nat} {b : Bool} (hop : ops[i]? = some o) (hd : o.dst = some t) (ht : Nat.blt t L = true) (hg : gw ops tm o = some true) (he : EffD P o (AS.ev ⟨tm, hp, gn, us, L⟩) hp 0 = some (.c (.v (.bool b)), .nop))
    (hc1 : chk dr ops i o ⟨fpO (AS.ev ⟨tm, hp, gn, us, L⟩) o, [], [], .c (.v (.bool true))⟩ H = true) (hc2 : chk dr ops i o ⟨fpO (AS.ev ⟨tm, hp, gn, us, L⟩) o, [], [], .c (.v (.bool false))⟩ H = true)
    (h1 : b = true → Walk P ops Q C dr (keepH dr (i, o, ⟨fpO (AS.ev ⟨tm, hp, gn, us, L⟩) o, [], [], .c (.v (.bool true))⟩) H) r ⟨upd tm t (.c (.v (.bool true))), hp, gn, us, L⟩)
    (h2 : b = false → Walk P ops Q C dr (keepH dr (i, o, ⟨fpO (AS.ev ⟨tm, hp, gn, us, L⟩) o, [], [], .c (.v (.bool false))⟩) H) r ⟨upd tm t (.c (.v (.bool false))), hp, gn, us, L⟩) : Walk P ops Q C dr H (i :: r) ⟨tm, hp, gn, us, L⟩ := by
  cases b with
  | true => exact w_nop 0 hop hd ht hg he hc1 (h1 rfl)
  | false => exact w_nop 0 hop hd ht hg he hc2 (h2 rfl)
/-- The next operation writes slot t. -/
def dstB (ops : Array Oper) (i t : Nat) : Bool := match ops[i]? with | some o => (match o.dst with | some d => Nat.beq d t | none => false) | none => false
theorem walk_dst (t : Nat) {σ : AS} (_ : dstB ops i t = true) (h : Walk P ops Q C dr H (i :: r) σ) : Walk P ops Q C dr H (i :: r) σ := h
end
/-- A contract of the older kind (scalars in, a scalar out) as a contract of the machine. -/
theorem ctr_of_calls {P : Program} {f : FuncId} {ins : List AV} {us : List Value} {v : Value} (he : entB P f = true) (hv : scal v = true) (hin : ∀ (w : World) (St : Nat → Prop) (φ : Nat → Lc) (K : Nat → Prop) (us' : List Value), VRL w St φ K ins us' → us' = us)
    (hc : ∀ w, Calls P f us.toArray w fun e w' => e = .returned v ∧ Below w.heap.size w w') : Ctr P f ins [] (.c (.v v)) [] := by
  refine ⟨he, fun w St φ F us' hent => ?_⟩
  obtain rfl := hin _ _ _ _ _ hent.args
  refine (hc w).mono ?_
  rintro e w' ⟨rfl, hb⟩
  refine ⟨_, _, v, fun _ => False, fun _ => [], [], ⟨rfl, rfl⟩, rfl, ⟨⟨hb.os, hb.tape, hb.output, hb.size, fun b hlt _ => .inl (hb.block b hlt)⟩, ?_, by simp, rfl, fun i cs hi => by simp at hi, fun i hi => by simp at hi, fun i hi => by simp at hi, fun i j hi => by simp at hi, fun i b lo hi => by simp at hi, fun b hb => by simp at hb, fun b hb => hb.elim⟩⟩
  simp only [VRF, CR]
  exact ⟨trivial, hv, trivial⟩
/-- A row of data, opened at one of them. -/
theorem owL_split {l : List E} {k : Nat} {x : E} (h : l[k]? = some x) : owL l = owL (l.take k) ++ (owE x ++ owL (l.drop (k + 1))) := by
  obtain ⟨hk, hx⟩ := List.getElem?_eq_some_iff.1 h
  have : l = l.take k ++ x :: l.drop (k + 1) := by rw [← hx, List.getElem_cons_drop, List.take_append_drop]
  conv => lhs; rw [this]
  rw [owL_app]; rfl
theorem owL_set {l : List E} {k : Nat} {x : E} (h : k < l.length) : owL (l.set k x) = owL (l.take k) ++ (owE x ++ owL (l.drop (k + 1))) := by
  rw [owL_split (l := l.set k x) (k := k) (x := x) (by simp [h])]
  rw [List.take_set_of_le (Nat.le_refl k), List.drop_set_of_lt (by omega)]
theorem owL_take_len {l : List E} {k n : Nat} (h : ∀ e ∈ l, e.enc.length = n) (hk : k ≤ l.length) : (owL (l.take k)).length = k * n := by
  rw [owL_len, E.encL_len (k := n) (fun e he => h e (List.mem_of_mem_take he)), List.length_take, Nat.min_eq_left hk]
theorem subL_two {p q : List AC} {a b : AC} {o : Nat} (h : p.length = o) : subL ((p ++ [a]) ++ b :: q) o 2 = [a, b] := by
  subst h
  unfold subL
  simp
theorem subL_snd {p q : List AC} {a b : AC} {o : Nat} (h : p.length = o) : subL ((p ++ [a]) ++ b :: q) (o + 1) 1 = [b] := by
  subst h
  unfold subL
  rw [List.drop_append_of_le_length (by simp)]
  simp
theorem spl_snd {p q : List AC} {a b c : AC} {o : Nat} (h : p.length = o) : spl ((p ++ [a]) ++ b :: q) (o + 1) [c] = (p ++ [a]) ++ c :: q := by
  subst h
  rw [spl_one (by simp)]
  rw [List.set_append_right _ _ (by simp)]
  simp
end Go.Proofs.Ytfdjognmechcfaa
