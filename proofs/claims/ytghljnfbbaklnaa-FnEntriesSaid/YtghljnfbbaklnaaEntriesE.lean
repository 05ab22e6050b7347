/- The abstract machine, third part: what came later. -/
import Derived.Laws.StructEq
import Derived.Test.YtghljnfbbaklnaaEntriesD
namespace Go.Proofs.Ytghljnfbbaklnaa
open Go.RowKit
section
variable {P : Program} {tm : Nat → AV} {hp : Nat → Option Row} {gn L : Nat} {us : List Nat}
theorem zc19 (id : Nat) {t : Nat} (T : TypeId) (k : Nat) (ht : tm t = .c (.v (.slice none 0 0))) (hf : (Nat.ble gn id && !us.contains id) = true) :
    Gh ⟨tm, hp, gn, us, L⟩ ⟨upd tm t (.c (.sl id 0)), upd hp id (some ⟨T, k, 0, false, []⟩), gn, id :: us, L⟩ := by
  simp only [Bool.and_eq_true, Nat.ble_eq, Bool.not_eq_true'] at hf
  rintro C a w ⟨φ, F, St, h⟩
  obtain ⟨φ', F', St', h', hv⟩ := h.newSlice (id := id) hf.1 (fun hm => by have := hf.2; simp at this; exact this hm) (Stp.refl none w) (fun b hb => by cases hb) (CRL.nil) (fun b hb => absurd hb List.not_mem_nil) (World.ownsRow_nil w 0 T k) (by simp [obl, Value.ownBlock]) (fun b hb => by simp [obl, Value.ownBlock] at hb)
  refine ⟨φ', F', St', h'.dfr, h'.len, fun t' => ?_, h'.row, h'.nod, h'.dis, h'.bxF, h'.bxd, h'.stF, h'.stB, h'.frm, h'.own, h'.par, h'.new, h'.gnN, h'.stS⟩
  show VR w St' φ' _ (upd tm t _ t') _
  by_cases e : t' = t
  · subst e
    rw [zw]
    have := h.tms t'
    change VR w St φ _ (tm t') _ at this
    rw [ht] at this
    simp only [VR, CR] at this
    rw [this.1]; exact hv
  · rw [zk1 _ _ e]; exact h'.tms t'
end
section
variable {P : Program} {ops : Array Oper} {Q : Exit → Act → World → Prop} {C : Ctx} {H H' : List (Nat × Oper × Inf)} {i : Nat} {r : List Nat} {o : Oper} {dr : Bool}
variable {tm : Nat → AV} {hp : Nat → Option Row} {gn L : Nat} {us : List Nat} {x : AV}
theorem zr1 {I : Inf} : chk false ops i o I H = true := rfl
theorem w_eq {t : Nat} {y : AV} (hop : ops[i]? = some o) (hd : o.dst = some t) (ht : Nat.blt t L = true) (hg : gw ops tm o = some true) (he : EffD P o (AS.ev ⟨tm, hp, gn, us, L⟩) hp 0 = some (x, .nop)) (hy : x = y)
    (hc : chk dr ops i o ⟨fpO (AS.ev ⟨tm, hp, gn, us, L⟩) o, [], [], y⟩ H = true) (h : Walk P ops Q C dr (keepH dr (i, o, ⟨fpO (AS.ev ⟨tm, hp, gn, us, L⟩) o, [], [], y⟩) H) r ⟨upd tm t y, hp, gn, us, L⟩) : Walk P ops Q C dr H (i :: r) ⟨tm, hp, gn, us, L⟩ := by
  subst hy
  exact zj13 0 hop hd ht hg he hc h
theorem zi21 {t : Nat} {b : Bool} (hop : ops[i]? = some o) (hd : o.dst = some t) (ht : Nat.blt t L = true) (hg : gw ops tm o = some true) (he : EffD P o (AS.ev ⟨tm, hp, gn, us, L⟩) hp 0 = some (.c (.v (.bool b)), .nop))
    (hc1 : chk dr ops i o ⟨fpO (AS.ev ⟨tm, hp, gn, us, L⟩) o, [], [], .c (.v (.bool true))⟩ H = true) (hc2 : chk dr ops i o ⟨fpO (AS.ev ⟨tm, hp, gn, us, L⟩) o, [], [], .c (.v (.bool false))⟩ H = true)
    (h1 : b = true → Walk P ops Q C dr (keepH dr (i, o, ⟨fpO (AS.ev ⟨tm, hp, gn, us, L⟩) o, [], [], .c (.v (.bool true))⟩) H) r ⟨upd tm t (.c (.v (.bool true))), hp, gn, us, L⟩)
    (h2 : b = false → Walk P ops Q C dr (keepH dr (i, o, ⟨fpO (AS.ev ⟨tm, hp, gn, us, L⟩) o, [], [], .c (.v (.bool false))⟩) H) r ⟨upd tm t (.c (.v (.bool false))), hp, gn, us, L⟩) : Walk P ops Q C dr H (i :: r) ⟨tm, hp, gn, us, L⟩ := by
  cases b with
  | true => exact zj13 0 hop hd ht hg he hc1 (h1 rfl)
  | false => exact zj13 0 hop hd ht hg he hc2 (h2 rfl)
end
theorem zl10 {P : Program} {f : FuncId} {ins : List AV} {us : List Value} {v : Value} (he : entB P f = true) (hv : scal v = true) (hin : ∀ (w : World) (St : Nat → Prop) (φ : Nat → Lc) (K : Nat → Prop) (us' : List Value), VRL w St φ K ins us' → us' = us)
    (hc : ∀ w, Calls P f us.toArray w fun e w' => e = .returned v ∧ Below w.heap.size w w') : Ctr P f ins [] (.c (.v v)) [] := by
  refine ⟨he, fun w St φ F us' hent => ?_⟩
  obtain rfl := hin _ _ _ _ _ hent.args
  refine (hc w).mono ?_
  rintro e w' ⟨rfl, hb⟩
  refine ⟨_, _, v, fun _ => False, fun _ => [], [], ⟨rfl, rfl⟩, rfl, ⟨⟨hb.os, hb.tape, hb.output, hb.size, fun b hlt _ => .inl (hb.block b hlt)⟩, ?_, by simp, rfl, fun i cs hi => by simp at hi, fun i hi => by simp at hi, fun i hi => by simp at hi, fun i j hi => by simp at hi, fun i b lo hi => by simp at hi, fun b hb => by simp at hb, fun b hb => hb.elim⟩⟩
  simp only [VRF, CR]
  exact ⟨trivial, hv, trivial⟩
theorem zm10 {l : List E} {k : Nat} {x : E} (h : l[k]? = some x) : owL l = owL (l.take k) ++ (owE x ++ owL (l.drop (k + 1))) := by
  obtain ⟨hk, hx⟩ := List.getElem?_eq_some_iff.1 h
  have : l = l.take k ++ x :: l.drop (k + 1) := by rw [← hx, List.getElem_cons_drop, List.take_append_drop]
  conv => lhs; rw [this]
  rw [zc6]; rfl
theorem zw19 {l : List E} {k : Nat} {x : E} (h : k < l.length) : owL (l.set k x) = owL (l.take k) ++ (owE x ++ owL (l.drop (k + 1))) := by
  rw [zm10 (l := l.set k x) (k := k) (x := x) (by simp [h])]
  rw [List.take_set_of_le (Nat.le_refl k), List.drop_set_of_lt (by omega)]
theorem zk4 {l : List E} {k n : Nat} (h : ∀ e ∈ l, e.enc.length = n) (hk : k ≤ l.length) : (owL (l.take k)).length = k * n := by
  rw [zf8, E.encL_len (k := n) (fun e he => h e (List.mem_of_mem_take he)), List.length_take, Nat.min_eq_left hk]
theorem zo9 {p q : List AC} {a b : AC} {o : Nat} (h : p.length = o) : subL ((p ++ [a]) ++ b :: q) o 2 = [a, b] := by
  subst h
  unfold subL
  simp
theorem zc5 {p q : List AC} {a b : AC} {o : Nat} (h : p.length = o) : subL ((p ++ [a]) ++ b :: q) (o + 1) 1 = [b] := by
  subst h
  unfold subL
  rw [List.drop_append_of_le_length (by simp)]
  simp
theorem zk11 {p q : List AC} {a b c : AC} {o : Nat} (h : p.length = o) : spl ((p ++ [a]) ++ b :: q) (o + 1) [c] = (p ++ [a]) ++ c :: q := by
  subst h
  rw [zk19 (by simp)]
  rw [List.set_append_right _ _ (by simp)]
  simp
theorem cvC_sl' {hp : Nat → Option Row} {D : List Nat} {i n k : Nat} {rw : Row} {l : List AC} (hr : hp i = some rw) (hb : rw.box = false) (hn : rw.n = n) (hk : rw.k = k) (hc : cloL rw.cs = true) (hl : toRoL rw.cs = l) : cvC hp D (.sl i n) = .ro n k l := by
  subst hk
  exact zh21 hr hb hn hc hl
set_option maxRecDepth 100000
section
variable {ops : Array Oper} {Q : Exit → Act → World → Prop} {C : Ctx} {H H' : List (Nat × Oper × Inf)} {i : Nat} {r : List Nat} {o : Oper} {dr : Bool}
variable {tm : Nat → AV} {hp : Nat → Option Row} {gn L : Nat} {us : List Nat} {x : AV}
theorem zf1 {t : Nat}  (h : Walk Try.prog ops Q C dr (keepH dr (i, o, ⟨fpO (AS.ev ⟨tm, hp, gn, us, L⟩) o, [], [], x⟩) H) r ⟨upd tm t x, hp, gn, us, L⟩) (hop : ops[i]? = some o := by exact rfl) (hd : o.dst = some t := by exact rfl) (ht : Nat.blt t L = true := by exact rfl) (hg : gw ops tm o = some true := by exact rfl) (he : EffD Try.prog o (AS.ev ⟨tm, hp, gn, us, L⟩) hp 0 = some (x, .nop) := by rfl) (hc : chk dr ops i o ⟨fpO (AS.ev ⟨tm, hp, gn, us, L⟩) o, [], [], x⟩ H = true := by first | (with_reducible exact zr1) | kernel_rfl) : Walk Try.prog ops Q C dr H (i :: r) ⟨tm, hp, gn, us, L⟩ :=
  zj13 0 hop hd ht hg he hc h
theorem x_bs {t n k : Nat} {T e : TypeId} {parts : Array (Nat × Operand)} {zs : List AC}  (h : Walk Try.prog ops Q C dr (keepH dr (i, o, ⟨fpO (AS.ev ⟨tm, hp, gn, us, L⟩) o, [(t, some ⟨e, k, n, false, zs⟩)], [t], .c (.sl t n)⟩) H) r ⟨upd tm t (.c (.sl t n)), upd hp t (some ⟨e, k, n, false, zs⟩), gn, t :: us, L⟩) (hop : ops[i]? = some o := by exact rfl) (ho : o.op = .buildSlice T n parts := by exact rfl) (hd : o.dst = some t := by exact rfl) (ht : Nat.blt t L = true := by exact rfl) (hg : gw ops tm o = some true := by exact rfl) (hf : (Nat.ble gn t && !us.contains t) = true := by exact rfl) (hT : sliT Try.prog T = some (e, k) := by first | exact (rfl : _ = some ((5 : Nat), (1 : Nat))) | exact (rfl : _ = some ((34 : Nat), (4 : Nat))) | exact (rfl : _ = some ((80 : Nat), (2 : Nat))) | exact (rfl : _ = some ((46 : Nat), (4 : Nat))) | exact (rfl : _ = some ((9 : Nat), (1 : Nat))) | exact (rfl : _ = some ((29 : Nat), (3 : Nat))) | exact (rfl : _ = some ((103 : Nat), (2 : Nat))) | exact (rfl : _ = some ((82 : Nat), (4 : Nat))) | exact (rfl : _ = some ((111 : Nat), (2 : Nat))) | exact (rfl : _ = some ((3 : Nat), (1 : Nat))) | exact (rfl : _ = some ((141 : Nat), (3 : Nat)))) (hz : catP k 0 (parts.toList.map fun p => (p.1, AS.ev ⟨tm, hp, gn, us, L⟩ p.2)) = some zs := by rfl) (hn : n = parts.toList.length := by rfl) (hb : (Nat.ble (n * k) 16777216 && Nat.ble n 16777216) = true := by rfl) (hc : chk dr ops i o ⟨fpO (AS.ev ⟨tm, hp, gn, us, L⟩) o, [(t, some ⟨e, k, n, false, zs⟩)], [t], .c (.sl t n)⟩ H = true := by first | (with_reducible exact zr1) | kernel_rfl) : Walk Try.prog ops Q C dr H (i :: r) ⟨tm, hp, gn, us, L⟩ :=
  v_bs hop ho hd ht hg hf hT hz hn hb hc h
theorem x_gr {t : Nat} {rw : Row}  (h : Walk Try.prog ops Q C dr (keepH dr (i, o, ⟨fpO (AS.ev ⟨tm, hp, gn, us, L⟩) o, [(t, some rw)], [t], x⟩) H) r ⟨upd tm t x, upd hp t (some rw), gn, t :: us, L⟩) (hop : ops[i]? = some o := by exact rfl) (hd : o.dst = some t := by exact rfl) (ht : Nat.blt t L = true := by exact rfl) (hg : gw ops tm o = some true := by exact rfl) (hf : (Nat.ble gn t && !us.contains t) = true := by exact rfl) (he : EffD Try.prog o (AS.ev ⟨tm, hp, gn, us, L⟩) hp t = some (x, .gr t rw) := by rfl) (hc : chk dr ops i o ⟨fpO (AS.ev ⟨tm, hp, gn, us, L⟩) o, [(t, some rw)], [t], x⟩ H = true := by first | (with_reducible exact zr1) | kernel_rfl) : Walk Try.prog ops Q C dr H (i :: r) ⟨tm, hp, gn, us, L⟩ :=
  v_gr hop hd ht hg hf he hc h
theorem x_st {j : Nat} {rw : Row}  (h : Walk Try.prog ops Q C dr (keepH dr (i, o, ⟨fpO (AS.ev ⟨tm, hp, gn, us, L⟩) o, [(j, some rw)], [], x⟩) H) r ⟨tm, upd hp j (some rw), gn, us, L⟩) (hop : ops[i]? = some o := by exact rfl) (hd : o.dst = none := by exact rfl) (hg : gw ops tm o = some true := by exact rfl) (he : EffD Try.prog o (AS.ev ⟨tm, hp, gn, us, L⟩) hp 0 = some (x, .st j rw) := by rfl) (hc : chk dr ops i o ⟨fpO (AS.ev ⟨tm, hp, gn, us, L⟩) o, [(j, some rw)], [], x⟩ H = true := by first | (with_reducible exact zr1) | kernel_rfl) : Walk Try.prog ops Q C dr H (i :: r) ⟨tm, hp, gn, us, L⟩ :=
  w_st hop hd hg he hc h
theorem x_mv {t : Nat} {j : Nat} {rw : Row}  (h : Walk Try.prog ops Q C dr (keepH dr (i, o, ⟨fpO (AS.ev ⟨tm, hp, gn, us, L⟩) o, [(j, none), (t, some rw)], [t], x⟩) H) r ⟨upd tm t x, upd (upd hp j none) t (some rw), gn, t :: us, L⟩) (hop : ops[i]? = some o := by exact rfl) (hd : o.dst = some t := by exact rfl) (ht : Nat.blt t L = true := by exact rfl) (hg : gw ops tm o = some true := by exact rfl) (hf : (Nat.ble gn t && !us.contains t) = true := by exact rfl) (he : EffD Try.prog o (AS.ev ⟨tm, hp, gn, us, L⟩) hp t = some (x, .mv j t rw) := by rfl) (hc : chk dr ops i o ⟨fpO (AS.ev ⟨tm, hp, gn, us, L⟩) o, [(j, none), (t, some rw)], [t], x⟩ H = true := by first | (with_reducible exact zr1) | kernel_rfl) : Walk Try.prog ops Q C dr H (i :: r) ⟨tm, hp, gn, us, L⟩ :=
  v_mv hop hd ht hg hf he hc h
theorem x_sk {t : Nat}  (h : Walk Try.prog ops Q C dr (keepH dr (i, o, infSkip) H) r ⟨upd tm t (.tu []), hp, gn, us, L⟩) (hop : ops[i]? = some o := by exact rfl) (hd : o.dst = some t := by exact rfl) (ht : Nat.blt t L = true := by exact rfl) (hg : gw ops tm o = some false := by exact rfl) (hc : chk dr ops i o infSkip H = true := by first | (with_reducible exact zr1) | kernel_rfl) : Walk Try.prog ops Q C dr H (i :: r) ⟨tm, hp, gn, us, L⟩ :=
  zy20 hop hd ht hg hc h
theorem zh1   (h : Walk Try.prog ops Q C dr (keepH dr (i, o, infSkip) H) r ⟨tm, hp, gn, us, L⟩) (hop : ops[i]? = some o := by exact rfl) (hd : o.dst = none := by exact rfl) (hg : gw ops tm o = some false := by exact rfl) (hc : chk dr ops i o infSkip H = true := by first | (with_reducible exact zr1) | kernel_rfl) : Walk Try.prog ops Q C dr H (i :: r) ⟨tm, hp, gn, us, L⟩ :=
  zs19 hop hd hg hc h
theorem x_ix {t n k j : Nat} {l : List E} {e : E} {kd : IntKind} {z : Int} {T : TypeId} {xo io : Operand}  (h : Walk Try.prog ops Q C dr (keepH dr (i, o, ⟨fpO (AS.ev ⟨tm, hp, gn, us, L⟩) o, [], [], .c (.rp (acE e) 0)⟩) H) r ⟨upd tm t (.c (.rp (acE e) 0)), hp, gn, us, L⟩) (hop : ops[i]? = some o := by exact rfl) (ho : o.op = .indexAddr T xo io := by exact rfl) (hd : o.dst = some t := by exact rfl) (ht : Nat.blt t L = true := by exact rfl) (hg : gw ops tm o = some true := by exact rfl) (hx : AS.ev ⟨tm, hp, gn, us, L⟩ xo = .c (.ro n k (acL l)) := by exact rfl) (hi : AS.ev ⟨tm, hp, gn, us, L⟩ io = .c (.v (.int kd z)) := by exact rfl) (hT : eltB Try.prog T k = true := by exact rfl) (hz : z = (j : Int) := by first | rfl | omega | assumption) (hn : n = l.length := by exact rfl) (hk : ∀ e ∈ l, e.enc.length = k := by assumption) (he : l[j]? = some e := by assumption) (hc : chk dr ops i o ⟨fpO (AS.ev ⟨tm, hp, gn, us, L⟩) o, [], [], .c (.rp (acE e) 0)⟩ H = true := by first | (with_reducible exact zr1) | kernel_rfl) : Walk Try.prog ops Q C dr H (i :: r) ⟨tm, hp, gn, us, L⟩ :=
  zc22 hop ho hd ht hg hx hi hT hz hn hk he hc h
theorem zi1 {t n k j s : Nat} {rw : Row} {kd : IntKind} {z : Int} {T : TypeId} {xo io : Operand}  (h : Walk Try.prog ops Q C dr (keepH dr (i, o, ⟨fpO (AS.ev ⟨tm, hp, gn, us, L⟩) o, [], [], .c (.pt s (j * k))⟩) H) r ⟨upd tm t (.c (.pt s (j * k))), hp, gn, us, L⟩) (hop : ops[i]? = some o := by exact rfl) (ho : o.op = .indexAddr T xo io := by exact rfl) (hd : o.dst = some t := by exact rfl) (ht : Nat.blt t L = true := by exact rfl) (hg : gw ops tm o = some true := by exact rfl) (hx : AS.ev ⟨tm, hp, gn, us, L⟩ xo = .c (.sl s n) := by exact rfl) (hi : AS.ev ⟨tm, hp, gn, us, L⟩ io = .c (.v (.int kd z)) := by exact rfl) (hr : hp s = some rw := by exact rfl) (hb : rw.box = false := by exact rfl) (hn : rw.n = n := by exact rfl) (hk : rw.k = k := by exact rfl) (hT : eltB Try.prog T k = true := by rfl) (hz : z = (j : Int) := by first | rfl | omega | assumption) (hj : j < n := by first | assumption | omega) (hc : chk dr ops i o ⟨fpO (AS.ev ⟨tm, hp, gn, us, L⟩) o, [], [], .c (.pt s (j * k))⟩ H = true := by first | (with_reducible exact zr1) | kernel_rfl) : Walk Try.prog ops Q C dr H (i :: r) ⟨tm, hp, gn, us, L⟩ :=
  zb21 hop ho hd ht hg hx hi hr hb hn hk hT hz hj hc h
theorem zj1 {s off : Nat} {RT : TypeId} {Rk Rn : Nat} {Rb : Bool} {Rc : List AC} {T : TypeId} {p y : Operand} {cs : List AC}  (h : Walk Try.prog ops Q C dr (keepH dr (i, o, ⟨fpO (AS.ev ⟨tm, hp, gn, us, L⟩) o, [(s, some (⟨RT, Rk, Rn, Rb, spl Rc off cs⟩ : Row))], [], .c .un⟩) H) r ⟨tm, upd hp s (some (⟨RT, Rk, Rn, Rb, spl Rc off cs⟩ : Row)), gn, us, L⟩) (hop : ops[i]? = some o := by exact rfl) (ho : o.op = .store T p y := by exact rfl) (hd : o.dst = none := by exact rfl) (hg : gw ops tm o = some true := by exact rfl) (hx : AS.ev ⟨tm, hp, gn, us, L⟩ p = .c (.pt s off) := by exact rfl) (hr : hp s = some ⟨RT, Rk, Rn, Rb, Rc⟩ := by exact rfl) (hy : (AS.ev ⟨tm, hp, gn, us, L⟩ y).cells = some cs := by exact rfl) (hT : (Try.prog.info? T).map (·.size) = some cs.length := by exact rfl) (hnu : cs.all noUn = true := by exact rfl) (hle : off + cs.length ≤ Rc.length := by assumption) (hc : chk dr ops i o ⟨fpO (AS.ev ⟨tm, hp, gn, us, L⟩) o, [(s, some (⟨RT, Rk, Rn, Rb, spl Rc off cs⟩ : Row))], [], .c .un⟩ H = true := by first | (with_reducible exact zr1) | kernel_rfl) : Walk Try.prog ops Q C dr H (i :: r) ⟨tm, hp, gn, us, L⟩ :=
  zd22 hop ho hd hg hx hr hy hT hnu hle hc h
theorem zg1 {t j n m k nm : Nat} {rw : Row} {e T T2 : TypeId} {xo yo : Operand} {ys zs : List AC}  (h : Walk Try.prog ops Q C dr (keepH dr (i, o, ⟨fpO (AS.ev ⟨tm, hp, gn, us, L⟩) o, [(j, none), (t, some ⟨e, k, nm, false, zs⟩)], [t], .c (.sl t nm)⟩) H) r ⟨upd tm t (.c (.sl t nm)), upd (upd hp j none) t (some ⟨e, k, nm, false, zs⟩), gn, t :: us, L⟩) (hop : ops[i]? = some o := by exact rfl) (ho : o.op = .call ⟨.builtin .append, #[xo, yo], #[T, T2]⟩ := by exact rfl) (hd : o.dst = some t := by exact rfl) (ht : Nat.blt t L = true := by exact rfl) (hg : gw ops tm o = some true := by exact rfl) (hf : (Nat.ble gn t && !us.contains t) = true := by exact rfl) (hx : AS.ev ⟨tm, hp, gn, us, L⟩ xo = .c (.sl j n) := by exact rfl) (hr : hp j = some rw := by exact rfl) (hT : appB Try.prog T T2 = some (e, k) := by first | exact (rfl : _ = some ((5 : Nat), (1 : Nat))) | exact (rfl : _ = some ((34 : Nat), (4 : Nat))) | exact (rfl : _ = some ((80 : Nat), (2 : Nat))) | exact (rfl : _ = some ((46 : Nat), (4 : Nat))) | exact (rfl : _ = some ((9 : Nat), (1 : Nat))) | exact (rfl : _ = some ((29 : Nat), (3 : Nat))) | exact (rfl : _ = some ((103 : Nat), (2 : Nat))) | exact (rfl : _ = some ((82 : Nat), (4 : Nat))) | exact (rfl : _ = some ((111 : Nat), (2 : Nat))) | exact (rfl : _ = some ((3 : Nat), (1 : Nat))) | exact (rfl : _ = some ((141 : Nat), (3 : Nat)))) (hy : srcOf hp k (AS.ev ⟨tm, hp, gn, us, L⟩ yo) = some (m, ys) := by first | rfl | exact zx5 rfl rfl rfl rfl) (hnu : ys.all noUn = true := by first | rfl | exact zn5 _) (hr1 : rw.T = e := by exact rfl) (hr2 : rw.k = k := by exact rfl) (hr3 : rw.n = n := by exact rfl) (hr4 : rw.box = false := by exact rfl) (hsz : n + m ≤ 4294967296 := by omega) (hnm : n + m = nm := by first | exact Nat.zero_add _ | rfl) (hz : rw.cs ++ ys = zs := by first | exact List.nil_append _ | rfl) (hc : chk dr ops i o ⟨fpO (AS.ev ⟨tm, hp, gn, us, L⟩) o, [(j, none), (t, some ⟨e, k, nm, false, zs⟩)], [t], .c (.sl t nm)⟩ H = true := by first | (with_reducible exact zr1) | kernel_rfl) : Walk Try.prog ops Q C dr H (i :: r) ⟨tm, hp, gn, us, L⟩ :=
  zf22 hop ho hd ht hg hf hx hr hT hy hnu hr1 hr2 hr3 hr4 hsz hnm hz hc h
theorem zt {t m k : Nat} {e T T2 : TypeId} {xo yo : Operand} {ys : List AC}  (h : Walk Try.prog ops Q C dr (keepH dr (i, o, ⟨fpO (AS.ev ⟨tm, hp, gn, us, L⟩) o, [(t, some ⟨e, k, m, false, ys⟩)], [t], .c (.sl t m)⟩) H) r ⟨upd tm t (.c (.sl t m)), upd hp t (some ⟨e, k, m, false, ys⟩), gn, t :: us, L⟩) (hop : ops[i]? = some o := by exact rfl) (ho : o.op = .call ⟨.builtin .append, #[xo, yo], #[T, T2]⟩ := by exact rfl) (hd : o.dst = some t := by exact rfl) (ht : Nat.blt t L = true := by exact rfl) (hg : gw ops tm o = some true := by exact rfl) (hf : (Nat.ble gn t && !us.contains t) = true := by exact rfl) (hx : AS.ev ⟨tm, hp, gn, us, L⟩ xo = .c (.v (.slice none 0 0)) := by exact rfl) (hT : appB Try.prog T T2 = some (e, k) := by first | exact (rfl : _ = some ((5 : Nat), (1 : Nat))) | exact (rfl : _ = some ((34 : Nat), (4 : Nat))) | exact (rfl : _ = some ((80 : Nat), (2 : Nat))) | exact (rfl : _ = some ((46 : Nat), (4 : Nat))) | exact (rfl : _ = some ((9 : Nat), (1 : Nat))) | exact (rfl : _ = some ((29 : Nat), (3 : Nat))) | exact (rfl : _ = some ((103 : Nat), (2 : Nat))) | exact (rfl : _ = some ((82 : Nat), (4 : Nat))) | exact (rfl : _ = some ((111 : Nat), (2 : Nat))) | exact (rfl : _ = some ((3 : Nat), (1 : Nat))) | exact (rfl : _ = some ((141 : Nat), (3 : Nat)))) (hy : srcOf hp k (AS.ev ⟨tm, hp, gn, us, L⟩ yo) = some (m, ys) := by first | rfl | exact zx5 rfl rfl rfl rfl) (hnu : ys.all noUn = true := by first | rfl | exact zn5 _) (hsz : m ≤ 4294967296 := by omega) (hc : chk dr ops i o ⟨fpO (AS.ev ⟨tm, hp, gn, us, L⟩) o, [(t, some ⟨e, k, m, false, ys⟩)], [t], .c (.sl t m)⟩ H = true := by first | (with_reducible exact zr1) | kernel_rfl) : Walk Try.prog ops Q C dr H (i :: r) ⟨tm, hp, gn, us, L⟩ :=
  ze21 hop ho hd ht hg hf hx hT hy hnu hsz hc h
theorem x_ld {t s off : Nat} {rw : Row} {T : TypeId} {p : Operand} {cs : List AC}  (h : Walk Try.prog ops Q C dr (keepH dr (i, o, ⟨fpO (AS.ev ⟨tm, hp, gn, us, L⟩) o, [], [], x⟩) H) r ⟨upd tm t x, hp, gn, us, L⟩) (hop : ops[i]? = some o := by exact rfl) (ho : o.op = .load T p := by exact rfl) (hd : o.dst = some t := by exact rfl) (ht : Nat.blt t L = true := by exact rfl) (hg : gw ops tm o = some true := by rfl) (hx : AS.ev ⟨tm, hp, gn, us, L⟩ p = .c (.pt s off) := by exact rfl) (hr : hp s = some rw := by exact rfl) (hs : subL rw.cs off (Try.prog.cellsOf T) = cs := by assumption) (hm : mkAV Try.prog T cs = some x := by rfl) (hc : chk dr ops i o ⟨fpO (AS.ev ⟨tm, hp, gn, us, L⟩) o, [], [], x⟩ H = true := by first | (with_reducible exact zr1) | kernel_rfl) : Walk Try.prog ops Q C dr H (i :: r) ⟨tm, hp, gn, us, L⟩ :=
  w_ld hop ho hd ht hg hx hr hs hm hc h
theorem zb4 {t : Nat} {c : Call} {fv : Operand} {f : FuncId} {caps : List AC} {args ins : List AV} {res : AV} {nv : AV} {nr : List (Nat × Row)} (id : Nat) (hctr : Ctr Try.prog f ins [] res []) (h : Walk Try.prog ops Q C dr (keepH dr (i, o, ⟨args.flatMap snV ++ [], nr.map (fun p => (p.1, some p.2)), nr.map (·.1), nv⟩) H) r ⟨upd tm t nv, updL hp (nr.map (fun p => (p.1, some p.2))), gn, nr.map (·.1) ++ us, L⟩) (hop : ops[i]? = some o := by exact rfl) (hoc : o.op = .call c := by exact rfl) (hcal : c.callee = .value fv := by exact rfl) (hd : o.dst = some t := by exact rfl) (ht : Nat.blt t L = true := by exact rfl) (hg : gw ops tm o = some true := by exact rfl) (hfv : AS.ev ⟨tm, hp, gn, us, L⟩ fv = .c (.fn f caps) := by exact rfl) (hargs : callArgs ⟨tm, hp, gn, us, L⟩ c caps = args := by exact rfl) (hcv : args.map (cvV hp []) = ins := by (repeat' (first | rfl | exact zu4 | refine zm4 ?_ ?_ | refine ze7 ?_ | refine cv_c ?_ | refine zn4 ?_ ?_ | (refine zt5 ?_; (first | rfl | (simp [cloV, cloL, clo, zo, zn, zp, zl, zk]; done))) | (refine zu5 ?_; (first | rfl | (simp [cloV, cloL, clo, zo, zn, zp, zl, zk]; done))) | refine zv5 ?_ | (refine cvC_sl' (by rfl) (by rfl) (by rfl) (by rfl) ?_ ?_; (focus (first | rfl | (simp [cloV, cloL, clo, zo, zn, zp, zl, zk]; done))); (first | rfl | exact za4 _))))) (hm : rofrV res = true := by (first | rfl | exact zz1 _ | (simp [rofrV, rofrVL, rofrL, rofr, zz1, zq3, zi3]; done))) (hopn : opV id res = (nv, nr) := by exact rfl) (hf : (nr.all fun p => Nat.ble gn p.1 && !us.contains p.1) = true := by exact rfl) (hc : chk dr ops i o ⟨args.flatMap snV ++ [], nr.map (fun p => (p.1, some p.2)), nr.map (·.1), nv⟩ H = true := by first | (with_reducible exact zr1) | kernel_rfl) : Walk Try.prog ops Q C dr H (i :: r) ⟨tm, hp, gn, us, L⟩ :=
  zq15 id hctr hop hoc hcal hd ht hg hfv hargs hcv hm hopn hf hc h
theorem zg8 {t : Nat} {c : Call} {fv : Operand} {f : FuncId} {caps : List AC} {args ins : List AV} {pars rows : List (List AC)} {res : AV} {nv : AV} {nr : List (Nat × Row)} (id : Nat) (D : List Nat) (hctr : Ctr Try.prog f ins pars res rows) (h : Walk Try.prog ops Q C dr (keepH dr (i, o, callInf ⟨tm, hp, gn, us, L⟩ (args.flatMap snV) D [] id res rows) H) r ⟨upd tm t nv, updL hp (backU hp D rows ++ [] ++ nr.map (fun p => (p.1, some p.2))), gn, nr.map (·.1) ++ us, L⟩) (hop : ops[i]? = some o := by exact rfl) (hoc : o.op = .call c := by exact rfl) (hcal : c.callee = .value fv := by exact rfl) (hd : o.dst = some t := by exact rfl) (ht : Nat.blt t L = true := by exact rfl) (hg : gw ops tm o = some true := by exact rfl) (hfv : AS.ev ⟨tm, hp, gn, us, L⟩ fv = .c (.fn f caps) := by exact rfl) (hargs : callArgs ⟨tm, hp, gn, us, L⟩ c caps = args := by exact rfl) (hcv : args.map (cvV hp D) = ins := by (repeat' (first | rfl | exact zu4 | refine zm4 ?_ ?_ | refine ze7 ?_ | refine cv_c ?_ | refine zn4 ?_ ?_ | (refine zt5 ?_; (first | rfl | (simp [cloV, cloL, clo, zo, zn, zp, zl, zk]; done))) | (refine zu5 ?_; (first | rfl | (simp [cloV, cloL, clo, zo, zn, zp, zl, zk]; done))) | refine zv5 ?_ | (refine cvC_sl' (by rfl) (by rfl) (by rfl) (by rfl) ?_ ?_; (focus (first | rfl | (simp [cloV, cloL, clo, zo, zn, zp, zl, zk]; done))); (first | rfl | exact za4 _))))) (hl : lend hp D = some pars := by exact rfl) (hRD : ((args.flatMap snV).all fun z => !D.contains z) = true := by exact rfl) (hm : rofrV res = true := by (first | rfl | exact zz1 _ | (simp [rofrV, rofrVL, rofrL, rofr, zz1, zq3, zi3]; done))) (hm2 : ∀ c ∈ rows, rofrL c = true := by exact za7 (by (first | rfl | exact zz1 _ | (simp [rofrV, rofrVL, rofrL, rofr, zz1, zq3, zi3]; done)))) (hopn : opV id res = (nv, nr) := by exact rfl) (hf : (nr.all fun p => Nat.ble gn p.1 && !us.contains p.1) = true := by exact rfl) (hc : chk dr ops i o (callInf ⟨tm, hp, gn, us, L⟩ (args.flatMap snV) D [] id res rows) H = true := by first | (with_reducible exact zr1) | kernel_rfl) : Walk Try.prog ops Q C dr H (i :: r) ⟨tm, hp, gn, us, L⟩ :=
  zu19 id D hctr hop hoc hcal hd ht hg hfv hargs hcv hl hRD hm hm2 hopn hf hc h
end
theorem zj4 {hp : Nat → Option Row} {v : Value} : clV hp (.c (.v v)) = some (.c (.v v), hp) := rfl
section
variable {tm : Nat → AV} {hp : Nat → Option Row} {gn L : Nat} {us : List Nat}
theorem ze5 {i j n : Nat} {T T' : TypeId} {k k' m : Nat} {b : Bool} {cs cs' : List AC} {pre post : List AC} (hij : Nat.beq i j = false) (hr : hp i = some ⟨T, k, m, b, cs⟩) (hs : hp j = some ⟨T', k', n, false, cs'⟩) (hcs : cs = pre ++ .sl j n :: post) :
    Gh ⟨tm, hp, gn, us, L⟩ ⟨tm, upd (upd hp j none) i (some ⟨T, k, m, b, pre ++ .ow T' n k' cs' :: post⟩), gn, us, L⟩ := zn9 hij hr hs rfl rfl hcs
theorem zf5 (id : Nat) {i n k : Nat} {T : TypeId} {l : List AC} {T' : TypeId} {k' m : Nat} {b : Bool} {cs : List AC} {pre post : List AC} (hr : hp i = some ⟨T', k', m, b, cs⟩) (hf : (Nat.ble gn id && !us.contains id) = true) (hcs : cs = pre ++ .ow T n k l :: post) :
    Gh ⟨tm, hp, gn, us, L⟩ ⟨tm, upd (upd hp id (some ⟨T, k, n, false, l⟩)) i (some ⟨T', k', m, b, pre ++ .sl id n :: post⟩), gn, id :: us, L⟩ := zh12 id hr hf hcs
end
section
variable {P : Program} {fn : Func} {Post : AV → List (List AC) → Prop} {σ : AS} {hp' : Nat → Option Row}
theorem retL {l : List AV} {x : AV} {p cs : List AC} {T : TypeId} {k m : Nat} {b : Bool} (h1 : resL P σ.hp σ.tm fn.results.toList = some l) (h2 : clV σ.hp (joinAV l) = some (x, hp')) (hr : hp' 0 = some ⟨T, k, m, b, cs⟩) (hc : cloL cs = true) (hl : cs.length = p.length) (h3 : Post x [cs]) : retQ P fn [p] Post σ :=
  ret1 h1 h2 hr hc hl h3
end
theorem zw1 {hp : Nat → Option Row} {i k m : Nat} {T : TypeId} {cs : List AC} (hr : hp i = some ⟨T, k, m, true, cs⟩) (hc : cloL cs = true) : lend hp [i] = some [cs] := by
  simp only [lend, hr]
  rw [if_pos ⟨.inl trivial, hc, List.not_mem_nil⟩]
section
variable {P : Program} {ops : Array Oper} {Q : Exit → Act → World → Prop} {C : Ctx} {H : List (Nat × Oper × Inf)} {i : Nat} {r : List Nat} {o : Oper} {dr : Bool} {σ : AS}
variable {tm : Nat → AV} {hp : Nat → Option Row} {gn L : Nat} {us : List Nat} {x : AV}
theorem zl11 {y : Value} (hop : ops[i]? = some o) (hg : gw ops σ.tm o = some true) (hs1 : scal y = true) (hr : ∀ (ev : Operand → Value) (w : World), (∀ z ∈ o.op.operands, ∀ v, (σ.ev z).val? = some v → ev z = v) → (execOp ev o).run P w = .ok (.value y) w) : Snd P ops Q C i o σ ⟨fpO σ.ev o, [], [], .c (.v y)⟩ := by
  intro τ a w ha hs K hK
  obtain ⟨φ, F, St, hs⟩ := hs
  have h3 := hr a.eval w fun z hz v hv => zq18 (by rw [ha.ev z hz]; exact hv) (hs.ev z)
  unfold wpOp
  rw [hop]
  have hw := ze10 hs (b := true) (by rw [ha.gw]; exact hg)
  simp only [hw, if_true]
  refine .inl ?_
  unfold Oper.wp
  rw [h3]
  have h7 := hs.put o.dst (x := .c (.v y)) (u := y) (by simp only [VR, CR]; exact ⟨trivial, hs1, trivial⟩)
  exact hK _ _ ⟨φ, F, St, h7⟩
theorem zx19 {o : Oper} {op : BinOp} {T ty : TypeId} {xo yo : Operand} {xs ys : Array Value} {b q : Bool} (ho : o.op = .binOp op T xo yo ty) (hm : P.eqGuardType P.depth T = false) (hq : ∀ w, (Op.equalIn 10000 T (.agg xs) (.agg ys)).run P w = .ok b w) (ev : Operand → Value) (w : World) (hx : ev xo = .agg xs) (hy : ev yo = .agg ys) (hb : op = .eql ∧ q = b ∨ op = .neq ∧ q = !b) : (execOp ev o).run P w = .ok (.value (.bool q)) w := by
  unfold execOp
  rw [ho]
  simp only [hx, hy]
  rcases hb with ⟨rfl, rfl⟩ | ⟨rfl, rfl⟩
  · simp [Sem.run_bind, run_eqGuard_agg w _ _ _ _ _ _ hm, run_eql_struct, hq]
  · simp [Sem.run_bind, run_eqGuard_agg w _ _ _ _ _ _ hm, run_neq_struct, hq]
theorem zj21 {t : Nat} {op : BinOp} {T ty : TypeId} {xo yo : Operand} {xs ys : List Value} {b q : Bool} (hop : ops[i]? = some o) (ho : o.op = .binOp op T xo yo ty) (hd : o.dst = some t) (ht : Nat.blt t L = true) (hg : gw ops tm o = some true)
    (hm : P.eqGuardType P.depth T = false) (hx : (AS.ev ⟨tm, hp, gn, us, L⟩ xo).val? = some (.agg xs.toArray)) (hy : (AS.ev ⟨tm, hp, gn, us, L⟩ yo).val? = some (.agg ys.toArray)) (hq : ∀ w, (Op.equalIn 10000 T (.agg xs.toArray) (.agg ys.toArray)).run P w = .ok b w) (hb : op = .eql ∧ q = b ∨ op = .neq ∧ q = !b)
    (hc : chk dr ops i o ⟨fpO (AS.ev ⟨tm, hp, gn, us, L⟩) o, [], [], .c (.v (.bool q))⟩ H = true) (h : Walk P ops Q C dr (keepH dr (i, o, ⟨fpO (AS.ev ⟨tm, hp, gn, us, L⟩) o, [], [], .c (.v (.bool q))⟩) H) r ⟨upd tm t (.c (.v (.bool q))), hp, gn, us, L⟩) : Walk P ops Q C dr H (i :: r) ⟨tm, hp, gn, us, L⟩ := by
  refine ⟨o, _, hop, zl11 (y := .bool q) hop hg rfl fun ev w he => ?_, fun n hn => absurd hn List.not_mem_nil, zd5 hc, zg4 ?_⟩
  · have e : o.op.operands = #[xo, yo] := by rw [ho]; rfl
    exact zx19 ho hm hq ev w (he xo (by rw [e]; simp) _ hx) (he yo (by rw [e]; simp) _ hy) hb
  · show Walk P ops Q C dr _ r (AS.put _ o.dst _)
    rw [hd, zs5 (by exact zm5 ht)]; exact h
end
theorem zt15 (a0 b0 : Int) (a1 b1 : Int) (a2 b2 : ByteArray) (w : World) : (Op.equalIn 10000 29 (.agg #[.int .i64 a0, .int .i64 a1, .string a2]) (.agg #[.int .i64 b0, .int .i64 b1, .string b2])).run Try.prog w = .ok ((a0 == b0) && ((a1 == b1) && (a2.toList == b2.toList))) w := by
  rw [run_equalIn_agg w 9999 _ _ _ (by kernel_rfl) (by kernel_rfl)]
  simp only [Program.fieldsOf, Try.underlying29, Op.eqFields]
  simp [go_sem]
  by_cases h0 : a0 = b0 <;> by_cases h1 : a1 = b1 <;> by_cases h2 : a2.toList = b2.toList <;> simp [*]
end Go.Proofs.Ytghljnfbbaklnaa
