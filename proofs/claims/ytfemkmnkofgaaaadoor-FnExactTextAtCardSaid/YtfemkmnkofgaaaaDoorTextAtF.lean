/- What data say, handed to a function of data with places. -/
import Derived.Shelf.LaysM
import Derived.Shelf.Strconv.Itoa3
import Derived.Laws.StructEq
import Derived.Test.YtfemkmnkofgaaaaDoorTextAtE
namespace Go.Proofs.YtfemkmnkofgaaaaDoor
open Go.RowKit
noncomputable def liftS {α β : Type} (R : α → Prop) (f : α → β) (z : β) : β := open Classical in if h : ∃ a, R a then f h.choose else z
theorem zy14 {α β : Type} {R : α → Prop} {f : α → β} {z : β} {a : α} (h : R a) : ∃ a', R a' ∧ liftS R f z = f a' := by
  have h' : ∃ a, R a := ⟨a, h⟩
  refine ⟨h'.choose, h'.choose_spec, ?_⟩
  unfold liftS
  rw [dif_pos h']
theorem zh10 {P : Program} {e e' : E} {t : TypeId} (h : e.Ty P t) (h' : e'.Ty P t) (hd : e.d = e'.d) : avI e = avI e' := by
  have ha := zx14 e e' t h h' hd
  cases e <;> cases e' <;> simp_all [avI, E.d, acE]
section
variable {P : Program} {tm : Nat → AV} {hp : Nat → Option Row} {gn L : Nat} {us : List Nat}
end
section
variable {P : Program} {ops : Array Oper} {Q : Exit → Act → World → Prop} {C : Ctx} {H H' : List (Nat × Oper × Inf)} {i : Nat} {r : List Nat} {o : Oper} {dr : Bool}
variable {tm : Nat → AV} {hp : Nat → Option Row} {gn L : Nat} {us : List Nat} {x : AV}
theorem zp {I : Inf} : chk false ops i o I H = true := rfl
theorem w_eq {t : Nat} {y : AV} (hop : ops[i]? = some o) (hd : o.dst = some t) (ht : Nat.blt t L = true) (hg : gw ops tm o = some true) (he : EffD P o (AS.ev ⟨tm, hp, gn, us, L⟩) hp 0 = some (x, .nop)) (hy : x = y)
    (hc : chk dr ops i o ⟨fpO (AS.ev ⟨tm, hp, gn, us, L⟩) o, [], [], y⟩ H = true) (h : Walk P ops Q C dr (keepH dr (i, o, ⟨fpO (AS.ev ⟨tm, hp, gn, us, L⟩) o, [], [], y⟩) H) r ⟨upd tm t y, hp, gn, us, L⟩) : Walk P ops Q C dr H (i :: r) ⟨tm, hp, gn, us, L⟩ := by
  subst hy
  exact za11 0 hop hd ht hg he hc h
theorem zo17 {t : Nat} {b : Bool} (hop : ops[i]? = some o) (hd : o.dst = some t) (ht : Nat.blt t L = true) (hg : gw ops tm o = some true) (he : EffD P o (AS.ev ⟨tm, hp, gn, us, L⟩) hp 0 = some (.c (.v (.bool b)), .nop))
    (hc1 : chk dr ops i o ⟨fpO (AS.ev ⟨tm, hp, gn, us, L⟩) o, [], [], .c (.v (.bool true))⟩ H = true) (hc2 : chk dr ops i o ⟨fpO (AS.ev ⟨tm, hp, gn, us, L⟩) o, [], [], .c (.v (.bool false))⟩ H = true)
    (h1 : b = true → Walk P ops Q C dr (keepH dr (i, o, ⟨fpO (AS.ev ⟨tm, hp, gn, us, L⟩) o, [], [], .c (.v (.bool true))⟩) H) r ⟨upd tm t (.c (.v (.bool true))), hp, gn, us, L⟩)
    (h2 : b = false → Walk P ops Q C dr (keepH dr (i, o, ⟨fpO (AS.ev ⟨tm, hp, gn, us, L⟩) o, [], [], .c (.v (.bool false))⟩) H) r ⟨upd tm t (.c (.v (.bool false))), hp, gn, us, L⟩) : Walk P ops Q C dr H (i :: r) ⟨tm, hp, gn, us, L⟩ := by
  cases b with
  | true => exact za11 0 hop hd ht hg he hc1 (h1 rfl)
  | false => exact za11 0 hop hd ht hg he hc2 (h2 rfl)
end
theorem cvC_sl' {hp : Nat → Option Row} {D : List Nat} {i n k : Nat} {rw : Row} {l : List AC} (hr : hp i = some rw) (hb : rw.box = false) (hn : rw.n = n) (hk : rw.k = k) (hc : cloL rw.cs = true) (hl : toRoL rw.cs = l) : cvC hp D (.sl i n) = .ro n k l := by
  subst hk
  exact zn17 hr hb hn hc hl
set_option maxRecDepth 100000
section
variable {ops : Array Oper} {Q : Exit → Act → World → Prop} {C : Ctx} {H H' : List (Nat × Oper × Inf)} {i : Nat} {r : List Nat} {o : Oper} {dr : Bool}
variable {tm : Nat → AV} {hp : Nat → Option Row} {gn L : Nat} {us : List Nat} {x : AV}
theorem zg3 {t : Nat}  (h : Walk Tryd.prog ops Q C dr (keepH dr (i, o, ⟨fpO (AS.ev ⟨tm, hp, gn, us, L⟩) o, [], [], x⟩) H) r ⟨upd tm t x, hp, gn, us, L⟩) (hop : ops[i]? = some o := by exact rfl) (hd : o.dst = some t := by exact rfl) (ht : Nat.blt t L = true := by exact rfl) (hg : gw ops tm o = some true := by exact rfl) (he : EffD Tryd.prog o (AS.ev ⟨tm, hp, gn, us, L⟩) hp 0 = some (x, .nop) := by rfl) (hc : chk dr ops i o ⟨fpO (AS.ev ⟨tm, hp, gn, us, L⟩) o, [], [], x⟩ H = true := by first | (with_reducible exact zp) | kernel_rfl) : Walk Tryd.prog ops Q C dr H (i :: r) ⟨tm, hp, gn, us, L⟩ :=
  za11 0 hop hd ht hg he hc h
theorem x_bs {t n k : Nat} {T e : TypeId} {parts : Array (Nat × Operand)} {zs : List AC}  (h : Walk Tryd.prog ops Q C dr (keepH dr (i, o, ⟨fpO (AS.ev ⟨tm, hp, gn, us, L⟩) o, [(t, some ⟨e, k, n, false, zs⟩)], [t], .c (.sl t n)⟩) H) r ⟨upd tm t (.c (.sl t n)), upd hp t (some ⟨e, k, n, false, zs⟩), gn, t :: us, L⟩) (hop : ops[i]? = some o := by exact rfl) (ho : o.op = .buildSlice T n parts := by exact rfl) (hd : o.dst = some t := by exact rfl) (ht : Nat.blt t L = true := by exact rfl) (hg : gw ops tm o = some true := by exact rfl) (hf : (Nat.ble gn t && !us.contains t) = true := by exact rfl) (hT : sliT Tryd.prog T = some (e, k) := by first | exact (rfl : _ = some ((5 : Nat), (1 : Nat))) | exact (rfl : _ = some ((43 : Nat), (3 : Nat))) | exact (rfl : _ = some ((3 : Nat), (1 : Nat))) | exact (rfl : _ = some ((9 : Nat), (1 : Nat))) | exact (rfl : _ = some ((173 : Nat), (4 : Nat))) | exact (rfl : _ = some ((163 : Nat), (1 : Nat))) | exact (rfl : _ = some ((169 : Nat), (6 : Nat))) | exact (rfl : _ = some ((217 : Nat), (2 : Nat))) | exact (rfl : _ = some ((72 : Nat), (2 : Nat))) | exact (rfl : _ = some ((220 : Nat), (5 : Nat))) | exact (rfl : _ = some ((223 : Nat), (2 : Nat)))) (hz : catP k 0 (parts.toList.map fun p => (p.1, AS.ev ⟨tm, hp, gn, us, L⟩ p.2)) = some zs := by rfl) (hn : n = parts.toList.length := by rfl) (hb : (Nat.ble (n * k) 16777216 && Nat.ble n 16777216) = true := by rfl) (hc : chk dr ops i o ⟨fpO (AS.ev ⟨tm, hp, gn, us, L⟩) o, [(t, some ⟨e, k, n, false, zs⟩)], [t], .c (.sl t n)⟩ H = true := by first | (with_reducible exact zp) | kernel_rfl) : Walk Tryd.prog ops Q C dr H (i :: r) ⟨tm, hp, gn, us, L⟩ :=
  v_bs hop ho hd ht hg hf hT hz hn hb hc h
theorem x_gr {t : Nat} {rw : Row}  (h : Walk Tryd.prog ops Q C dr (keepH dr (i, o, ⟨fpO (AS.ev ⟨tm, hp, gn, us, L⟩) o, [(t, some rw)], [t], x⟩) H) r ⟨upd tm t x, upd hp t (some rw), gn, t :: us, L⟩) (hop : ops[i]? = some o := by exact rfl) (hd : o.dst = some t := by exact rfl) (ht : Nat.blt t L = true := by exact rfl) (hg : gw ops tm o = some true := by exact rfl) (hf : (Nat.ble gn t && !us.contains t) = true := by exact rfl) (he : EffD Tryd.prog o (AS.ev ⟨tm, hp, gn, us, L⟩) hp t = some (x, .gr t rw) := by rfl) (hc : chk dr ops i o ⟨fpO (AS.ev ⟨tm, hp, gn, us, L⟩) o, [(t, some rw)], [t], x⟩ H = true := by first | (with_reducible exact zp) | kernel_rfl) : Walk Tryd.prog ops Q C dr H (i :: r) ⟨tm, hp, gn, us, L⟩ :=
  v_gr hop hd ht hg hf he hc h
theorem x_st {j : Nat} {rw : Row}  (h : Walk Tryd.prog ops Q C dr (keepH dr (i, o, ⟨fpO (AS.ev ⟨tm, hp, gn, us, L⟩) o, [(j, some rw)], [], x⟩) H) r ⟨tm, upd hp j (some rw), gn, us, L⟩) (hop : ops[i]? = some o := by exact rfl) (hd : o.dst = none := by exact rfl) (hg : gw ops tm o = some true := by exact rfl) (he : EffD Tryd.prog o (AS.ev ⟨tm, hp, gn, us, L⟩) hp 0 = some (x, .st j rw) := by rfl) (hc : chk dr ops i o ⟨fpO (AS.ev ⟨tm, hp, gn, us, L⟩) o, [(j, some rw)], [], x⟩ H = true := by first | (with_reducible exact zp) | kernel_rfl) : Walk Tryd.prog ops Q C dr H (i :: r) ⟨tm, hp, gn, us, L⟩ :=
  w_st hop hd hg he hc h
theorem x_mv {t : Nat} {j : Nat} {rw : Row}  (h : Walk Tryd.prog ops Q C dr (keepH dr (i, o, ⟨fpO (AS.ev ⟨tm, hp, gn, us, L⟩) o, [(j, none), (t, some rw)], [t], x⟩) H) r ⟨upd tm t x, upd (upd hp j none) t (some rw), gn, t :: us, L⟩) (hop : ops[i]? = some o := by exact rfl) (hd : o.dst = some t := by exact rfl) (ht : Nat.blt t L = true := by exact rfl) (hg : gw ops tm o = some true := by exact rfl) (hf : (Nat.ble gn t && !us.contains t) = true := by exact rfl) (he : EffD Tryd.prog o (AS.ev ⟨tm, hp, gn, us, L⟩) hp t = some (x, .mv j t rw) := by rfl) (hc : chk dr ops i o ⟨fpO (AS.ev ⟨tm, hp, gn, us, L⟩) o, [(j, none), (t, some rw)], [t], x⟩ H = true := by first | (with_reducible exact zp) | kernel_rfl) : Walk Tryd.prog ops Q C dr H (i :: r) ⟨tm, hp, gn, us, L⟩ :=
  v_mv hop hd ht hg hf he hc h
theorem x_sk {t : Nat}  (h : Walk Tryd.prog ops Q C dr (keepH dr (i, o, infSkip) H) r ⟨upd tm t (.tu []), hp, gn, us, L⟩) (hop : ops[i]? = some o := by exact rfl) (hd : o.dst = some t := by exact rfl) (ht : Nat.blt t L = true := by exact rfl) (hg : gw ops tm o = some false := by exact rfl) (hc : chk dr ops i o infSkip H = true := by first | (with_reducible exact zp) | kernel_rfl) : Walk Tryd.prog ops Q C dr H (i :: r) ⟨tm, hp, gn, us, L⟩ :=
  zg17 hop hd ht hg hc h
theorem zb11   (h : Walk Tryd.prog ops Q C dr (keepH dr (i, o, infSkip) H) r ⟨tm, hp, gn, us, L⟩) (hop : ops[i]? = some o := by exact rfl) (hd : o.dst = none := by exact rfl) (hg : gw ops tm o = some false := by exact rfl) (hc : chk dr ops i o infSkip H = true := by first | (with_reducible exact zp) | kernel_rfl) : Walk Tryd.prog ops Q C dr H (i :: r) ⟨tm, hp, gn, us, L⟩ :=
  zu16 hop hd hg hc h
theorem x_ix {t n k j : Nat} {l : List E} {e : E} {kd : IntKind} {z : Int} {T : TypeId} {xo io : Operand}  (h : Walk Tryd.prog ops Q C dr (keepH dr (i, o, ⟨fpO (AS.ev ⟨tm, hp, gn, us, L⟩) o, [], [], .c (.rp (acE e) 0)⟩) H) r ⟨upd tm t (.c (.rp (acE e) 0)), hp, gn, us, L⟩) (hop : ops[i]? = some o := by exact rfl) (ho : o.op = .indexAddr T xo io := by exact rfl) (hd : o.dst = some t := by exact rfl) (ht : Nat.blt t L = true := by exact rfl) (hg : gw ops tm o = some true := by exact rfl) (hx : AS.ev ⟨tm, hp, gn, us, L⟩ xo = .c (.ro n k (acL l)) := by exact rfl) (hi : AS.ev ⟨tm, hp, gn, us, L⟩ io = .c (.v (.int kd z)) := by exact rfl) (hT : eltB Tryd.prog T k = true := by exact rfl) (hz : z = (j : Int) := by first | rfl | omega | assumption) (hn : n = l.length := by exact rfl) (hk : ∀ e ∈ l, e.enc.length = k := by assumption) (he : l[j]? = some e := by assumption) (hc : chk dr ops i o ⟨fpO (AS.ev ⟨tm, hp, gn, us, L⟩) o, [], [], .c (.rp (acE e) 0)⟩ H = true := by first | (with_reducible exact zp) | kernel_rfl) : Walk Tryd.prog ops Q C dr H (i :: r) ⟨tm, hp, gn, us, L⟩ :=
  za18 hop ho hd ht hg hx hi hT hz hn hk he hc h
theorem za9 {t n k j s : Nat} {rw : Row} {kd : IntKind} {z : Int} {T : TypeId} {xo io : Operand}  (h : Walk Tryd.prog ops Q C dr (keepH dr (i, o, ⟨fpO (AS.ev ⟨tm, hp, gn, us, L⟩) o, [], [], .c (.pt s (j * k))⟩) H) r ⟨upd tm t (.c (.pt s (j * k))), hp, gn, us, L⟩) (hop : ops[i]? = some o := by exact rfl) (ho : o.op = .indexAddr T xo io := by exact rfl) (hd : o.dst = some t := by exact rfl) (ht : Nat.blt t L = true := by exact rfl) (hg : gw ops tm o = some true := by exact rfl) (hx : AS.ev ⟨tm, hp, gn, us, L⟩ xo = .c (.sl s n) := by exact rfl) (hi : AS.ev ⟨tm, hp, gn, us, L⟩ io = .c (.v (.int kd z)) := by exact rfl) (hr : hp s = some rw := by exact rfl) (hb : rw.box = false := by exact rfl) (hn : rw.n = n := by exact rfl) (hk : rw.k = k := by exact rfl) (hT : eltB Tryd.prog T k = true := by rfl) (hz : z = (j : Int) := by first | rfl | omega | assumption) (hj : j < n := by first | assumption | omega) (hc : chk dr ops i o ⟨fpO (AS.ev ⟨tm, hp, gn, us, L⟩) o, [], [], .c (.pt s (j * k))⟩ H = true := by first | (with_reducible exact zp) | kernel_rfl) : Walk Tryd.prog ops Q C dr H (i :: r) ⟨tm, hp, gn, us, L⟩ :=
  zj17 hop ho hd ht hg hx hi hr hb hn hk hT hz hj hc h
theorem zb9 {s off : Nat} {RT : TypeId} {Rk Rn : Nat} {Rb : Bool} {Rc : List AC} {T : TypeId} {p y : Operand} {cs : List AC}  (h : Walk Tryd.prog ops Q C dr (keepH dr (i, o, ⟨fpO (AS.ev ⟨tm, hp, gn, us, L⟩) o, [(s, some (⟨RT, Rk, Rn, Rb, spl Rc off cs⟩ : Row))], [], .c .un⟩) H) r ⟨tm, upd hp s (some (⟨RT, Rk, Rn, Rb, spl Rc off cs⟩ : Row)), gn, us, L⟩) (hop : ops[i]? = some o := by exact rfl) (ho : o.op = .store T p y := by exact rfl) (hd : o.dst = none := by exact rfl) (hg : gw ops tm o = some true := by exact rfl) (hx : AS.ev ⟨tm, hp, gn, us, L⟩ p = .c (.pt s off) := by exact rfl) (hr : hp s = some ⟨RT, Rk, Rn, Rb, Rc⟩ := by exact rfl) (hy : (AS.ev ⟨tm, hp, gn, us, L⟩ y).cells = some cs := by exact rfl) (hT : (Tryd.prog.info? T).map (·.size) = some cs.length := by exact rfl) (hnu : cs.all noUn = true := by exact rfl) (hle : off + cs.length ≤ Rc.length := by assumption) (hc : chk dr ops i o ⟨fpO (AS.ev ⟨tm, hp, gn, us, L⟩) o, [(s, some (⟨RT, Rk, Rn, Rb, spl Rc off cs⟩ : Row))], [], .c .un⟩ H = true := by first | (with_reducible exact zp) | kernel_rfl) : Walk Tryd.prog ops Q C dr H (i :: r) ⟨tm, hp, gn, us, L⟩ :=
  zb18 hop ho hd hg hx hr hy hT hnu hle hc h
theorem zs5 {t j n m k nm : Nat} {rw : Row} {e T T2 : TypeId} {xo yo : Operand} {ys zs : List AC}  (h : Walk Tryd.prog ops Q C dr (keepH dr (i, o, ⟨fpO (AS.ev ⟨tm, hp, gn, us, L⟩) o, [(j, none), (t, some ⟨e, k, nm, false, zs⟩)], [t], .c (.sl t nm)⟩) H) r ⟨upd tm t (.c (.sl t nm)), upd (upd hp j none) t (some ⟨e, k, nm, false, zs⟩), gn, t :: us, L⟩) (hop : ops[i]? = some o := by exact rfl) (ho : o.op = .call ⟨.builtin .append, #[xo, yo], #[T, T2]⟩ := by exact rfl) (hd : o.dst = some t := by exact rfl) (ht : Nat.blt t L = true := by exact rfl) (hg : gw ops tm o = some true := by exact rfl) (hf : (Nat.ble gn t && !us.contains t) = true := by exact rfl) (hx : AS.ev ⟨tm, hp, gn, us, L⟩ xo = .c (.sl j n) := by exact rfl) (hr : hp j = some rw := by exact rfl) (hT : appB Tryd.prog T T2 = some (e, k) := by first | exact (rfl : _ = some ((5 : Nat), (1 : Nat))) | exact (rfl : _ = some ((43 : Nat), (3 : Nat))) | exact (rfl : _ = some ((3 : Nat), (1 : Nat))) | exact (rfl : _ = some ((9 : Nat), (1 : Nat))) | exact (rfl : _ = some ((173 : Nat), (4 : Nat))) | exact (rfl : _ = some ((163 : Nat), (1 : Nat))) | exact (rfl : _ = some ((169 : Nat), (6 : Nat))) | exact (rfl : _ = some ((217 : Nat), (2 : Nat))) | exact (rfl : _ = some ((72 : Nat), (2 : Nat))) | exact (rfl : _ = some ((220 : Nat), (5 : Nat))) | exact (rfl : _ = some ((223 : Nat), (2 : Nat)))) (hy : srcOf hp k (AS.ev ⟨tm, hp, gn, us, L⟩ yo) = some (m, ys) := by first | rfl | exact zh6 rfl rfl rfl rfl) (hnu : ys.all noUn = true := by first | rfl | exact zr4 _) (hr1 : rw.T = e := by exact rfl) (hr2 : rw.k = k := by exact rfl) (hr3 : rw.n = n := by exact rfl) (hr4 : rw.box = false := by exact rfl) (hsz : n + m ≤ 4294967296 := by omega) (hnm : n + m = nm := by first | exact Nat.zero_add _ | rfl) (hz : rw.cs ++ ys = zs := by first | exact List.nil_append _ | rfl) (hc : chk dr ops i o ⟨fpO (AS.ev ⟨tm, hp, gn, us, L⟩) o, [(j, none), (t, some ⟨e, k, nm, false, zs⟩)], [t], .c (.sl t nm)⟩ H = true := by first | (with_reducible exact zp) | kernel_rfl) : Walk Tryd.prog ops Q C dr H (i :: r) ⟨tm, hp, gn, us, L⟩ :=
  zd18 hop ho hd ht hg hf hx hr hT hy hnu hr1 hr2 hr3 hr4 hsz hnm hz hc h
theorem zp3 {t m k : Nat} {e T T2 : TypeId} {xo yo : Operand} {ys : List AC}  (h : Walk Tryd.prog ops Q C dr (keepH dr (i, o, ⟨fpO (AS.ev ⟨tm, hp, gn, us, L⟩) o, [(t, some ⟨e, k, m, false, ys⟩)], [t], .c (.sl t m)⟩) H) r ⟨upd tm t (.c (.sl t m)), upd hp t (some ⟨e, k, m, false, ys⟩), gn, t :: us, L⟩) (hop : ops[i]? = some o := by exact rfl) (ho : o.op = .call ⟨.builtin .append, #[xo, yo], #[T, T2]⟩ := by exact rfl) (hd : o.dst = some t := by exact rfl) (ht : Nat.blt t L = true := by exact rfl) (hg : gw ops tm o = some true := by exact rfl) (hf : (Nat.ble gn t && !us.contains t) = true := by exact rfl) (hx : AS.ev ⟨tm, hp, gn, us, L⟩ xo = .c (.v (.slice none 0 0)) := by exact rfl) (hT : appB Tryd.prog T T2 = some (e, k) := by first | exact (rfl : _ = some ((5 : Nat), (1 : Nat))) | exact (rfl : _ = some ((43 : Nat), (3 : Nat))) | exact (rfl : _ = some ((3 : Nat), (1 : Nat))) | exact (rfl : _ = some ((9 : Nat), (1 : Nat))) | exact (rfl : _ = some ((173 : Nat), (4 : Nat))) | exact (rfl : _ = some ((163 : Nat), (1 : Nat))) | exact (rfl : _ = some ((169 : Nat), (6 : Nat))) | exact (rfl : _ = some ((217 : Nat), (2 : Nat))) | exact (rfl : _ = some ((72 : Nat), (2 : Nat))) | exact (rfl : _ = some ((220 : Nat), (5 : Nat))) | exact (rfl : _ = some ((223 : Nat), (2 : Nat)))) (hy : srcOf hp k (AS.ev ⟨tm, hp, gn, us, L⟩ yo) = some (m, ys) := by first | rfl | exact zh6 rfl rfl rfl rfl) (hnu : ys.all noUn = true := by first | rfl | exact zr4 _) (hsz : m ≤ 4294967296 := by omega) (hc : chk dr ops i o ⟨fpO (AS.ev ⟨tm, hp, gn, us, L⟩) o, [(t, some ⟨e, k, m, false, ys⟩)], [t], .c (.sl t m)⟩ H = true := by first | (with_reducible exact zp) | kernel_rfl) : Walk Tryd.prog ops Q C dr H (i :: r) ⟨tm, hp, gn, us, L⟩ :=
  zl17 hop ho hd ht hg hf hx hT hy hnu hsz hc h
theorem x_ld {t s off : Nat} {rw : Row} {T : TypeId} {p : Operand} {cs : List AC}  (h : Walk Tryd.prog ops Q C dr (keepH dr (i, o, ⟨fpO (AS.ev ⟨tm, hp, gn, us, L⟩) o, [], [], x⟩) H) r ⟨upd tm t x, hp, gn, us, L⟩) (hop : ops[i]? = some o := by exact rfl) (ho : o.op = .load T p := by exact rfl) (hd : o.dst = some t := by exact rfl) (ht : Nat.blt t L = true := by exact rfl) (hg : gw ops tm o = some true := by rfl) (hx : AS.ev ⟨tm, hp, gn, us, L⟩ p = .c (.pt s off) := by exact rfl) (hr : hp s = some rw := by exact rfl) (hs : subL rw.cs off (Tryd.prog.cellsOf T) = cs := by assumption) (hm : mkAV Tryd.prog T cs = some x := by rfl) (hc : chk dr ops i o ⟨fpO (AS.ev ⟨tm, hp, gn, us, L⟩) o, [], [], x⟩ H = true := by first | (with_reducible exact zp) | kernel_rfl) : Walk Tryd.prog ops Q C dr H (i :: r) ⟨tm, hp, gn, us, L⟩ :=
  w_ld hop ho hd ht hg hx hr hs hm hc h
end
theorem zr3 {hp : Nat → Option Row} {v : Value} : clV hp (.c (.v v)) = some (.c (.v v), hp) := rfl
section
variable {tm : Nat → AV} {hp : Nat → Option Row} {gn L : Nat} {us : List Nat}
end
section
variable {P : Program} {fn : Func} {Post : AV → List (List AC) → Prop} {σ : AS} {hp' : Nat → Option Row}
end
theorem zx16 {hp : Nat → Option Row} {i k m : Nat} {T : TypeId} {cs : List AC} (hr : hp i = some ⟨T, k, m, true, cs⟩) (hc : cloL cs = true) : lend hp [i] = some [cs] := by
  simp only [lend, hr]
  rw [if_pos ⟨.inl trivial, hc, List.not_mem_nil⟩]
structure EntT (w : World) (St : Nat → Prop) (ins : List AV) (us : List Value) (p : Nat) (T : TypeId) (k n : Nat) (cs : List AC) (A : List Nat) : Prop where
  args : VRL w St φ0 K0 ins us
  row : ∃ u vs fs, us[p]? = some u ∧ CRL w St φ0 K0 cs vs fs ∧ w.ownsRow 0 T k u n vs ∧ A = obl u ++ fs
  nod : A.Nodup
  st : ∀ b ∈ A, ¬ St b
  gl : GlobOk w ∧ ∀ b, isG b → b ∉ A
structure ExtT (w w' : World) (us : List Value) (p : Nat) (T : TypeId) (k n : Nat) (A : List Nat) (res : AV) (back : Option (List AC)) (u : Value) (St' : Nat → Prop) (G B : List Nat) : Prop where
  frm : Fc (· ∈ A) (fun _ _ => False) w w'
  res : VRF w' St' φ0 K0 res u G
  bak : ∀ cs', back = some cs' → ∃ v vs fs, us[p]? = some v ∧ CRL w' St' φ0 K0 cs' vs fs ∧ w'.ownsRow 0 T k v n vs ∧ B = obl v ++ fs
  nod : (G ++ B).Nodup
  own : ∀ b ∈ G ++ B, b ∈ A ∨ w.heap.size ≤ b
section
variable {C : Ctx} {φ : Nat → Lc} {F : Nat → List Nat} {St : Nat → Prop} {σ : AS} {a : Act} {w w' : World}
end
section
variable {P : Program} {ops : Array Oper} {Q : Exit → Act → World → Prop} {C : Ctx} {σ : AS} {o : Oper} {i : Nat}
end
section
variable {P : Program} {ops : Array Oper} {Q : Exit → Act → World → Prop} {C : Ctx} {H : List (Nat × Oper × Inf)} {i : Nat} {r : List Nat} {o : Oper} {dr : Bool}
variable {tm : Nat → AV} {hp : Nat → Option Row} {gn L : Nat} {us : List Nat}
end
section
variable {ops : Array Oper} {Q : Exit → Act → World → Prop} {C : Ctx} {H : List (Nat × Oper × Inf)} {i : Nat} {r : List Nat} {o : Oper} {dr : Bool}
variable {tm : Nat → AV} {hp : Nat → Option Row} {gn L : Nat} {us : List Nat}
end
section
variable {P : Program} {ops : Array Oper} {Q : Exit → Act → World → Prop} {C : Ctx} {H : List (Nat × Oper × Inf)} {i : Nat} {r : List Nat} {o : Oper} {dr : Bool}
variable {tm : Nat → AV} {hp : Nat → Option Row} {gn L : Nat} {us : List Nat}
def gdL (i : Nat) : List Oper → Bool
  | [] => false
  | o :: r => match o.guard with | some (g, _) => Nat.beq g i || gdL i r | none => gdL i r
end
section
variable {ops : Array Oper} {Q : Exit → Act → World → Prop} {C : Ctx} {H H' : List (Nat × Oper × Inf)} {i : Nat} {r : List Nat} {o : Oper} {dr : Bool}
variable {tm : Nat → AV} {hp : Nat → Option Row} {gn L : Nat} {us : List Nat} {x : AV}
theorem x_gm {t : Nat} {b : Bool} (h1 : b = true → Walk Tryd.prog ops Q C dr (keepH dr (i, o, ⟨fpO (AS.ev ⟨tm, hp, gn, us, L⟩) o, [], [], .c (.v (.bool true))⟩) H) r ⟨upd tm t (.c (.v (.bool true))), hp, gn, us, L⟩)
    (h2 : b = false → Walk Tryd.prog ops Q C dr (keepH dr (i, o, ⟨fpO (AS.ev ⟨tm, hp, gn, us, L⟩) o, [], [], .c (.v (.bool false))⟩) H) r ⟨upd tm t (.c (.v (.bool false))), hp, gn, us, L⟩)
    (hop : ops[i]? = some o := by exact rfl) (hgd : gdL i ops.toList = true := by exact rfl) (hd : o.dst = some t := by exact rfl) (ht : Nat.blt t L = true := by exact rfl) (hg : gw ops tm o = some true := by exact rfl) (he : EffD Tryd.prog o (AS.ev ⟨tm, hp, gn, us, L⟩) hp 0 = some (.c (.v (.bool b)), .nop) := by rfl)
    (hc1 : chk dr ops i o ⟨fpO (AS.ev ⟨tm, hp, gn, us, L⟩) o, [], [], .c (.v (.bool true))⟩ H = true := by first | (with_reducible exact zp) | kernel_rfl) (hc2 : chk dr ops i o ⟨fpO (AS.ev ⟨tm, hp, gn, us, L⟩) o, [], [], .c (.v (.bool false))⟩ H = true := by first | (with_reducible exact zp) | kernel_rfl) : Walk Tryd.prog ops Q C dr H (i :: r) ⟨tm, hp, gn, us, L⟩ :=
  zo17 hop hd ht hg he hc1 hc2 h1 h2
theorem zc11 {t : Nat} {c : Call} {fv : Operand} {f : FuncId} {caps : List AC} {args ins : List AV} {res : AV} {nv : AV} {nr : List (Nat × Row)}
    (h : Walk Tryd.prog ops Q C dr (keepH dr (i, o, ⟨args.flatMap snV ++ [], nr.map (fun p => (p.1, some p.2)), nr.map (·.1), nv⟩) H) r ⟨upd tm t nv, updL hp (nr.map (fun p => (p.1, some p.2))), gn, nr.map (·.1) ++ us, L⟩) (hop : ops[i]? = some o := by exact rfl) (hoc : o.op = .call c := by exact rfl) (hcal : c.callee = .value fv := by exact rfl) (hd : o.dst = some t := by exact rfl) (ht : Nat.blt t L = true := by exact rfl) (hg : gw ops tm o = some true := by exact rfl) (hfv : AS.ev ⟨tm, hp, gn, us, L⟩ fv = .c (.fn f caps) := by exact rfl) (hctr : Ctr Tryd.prog f ins [] res [] := by assumption) (hargs : callArgs ⟨tm, hp, gn, us, L⟩ c caps = args := by exact rfl) (hcv : args.map (cvV hp []) = ins := by ((repeat' (first | rfl | exact zk3 | refine zw2 ?_ ?_ | refine zo7 ?_ | refine cv_c ?_ | refine zx2 ?_ ?_ | (refine zl4 ?_; (first | rfl | (simp [cloV, cloL, clo, za1, zt, zb1, zu, zo]; done))) | (refine zm4 ?_; (first | rfl | (simp [cloV, cloL, clo, za1, zt, zb1, zu, zo]; done))) | refine zn4 ?_ | (refine cvC_sl' (by rfl) (by rfl) (by rfl) (by rfl) ?_ ?_; (focus (first | rfl | (simp [cloV, cloL, clo, za1, zt, zb1, zu, zo]; done))); (first | rfl | exact zd2 _)))) <;> exact rfl)) (hm : rofrV res = true := by (first | rfl | exact zh1 _ | (simp [rofrV, rofrVL, rofrL, rofr, zh1, zw1, zu1]; done))) (hopn : opV (100 * (t + 1)) res = (nv, nr) := by exact rfl) (hf : (nr.all fun p => Nat.ble gn p.1 && !us.contains p.1) = true := by exact rfl) (hc : chk dr ops i o ⟨args.flatMap snV ++ [], nr.map (fun p => (p.1, some p.2)), nr.map (·.1), nv⟩ H = true := by first | (with_reducible exact zp) | kernel_rfl) : Walk Tryd.prog ops Q C dr H (i :: r) ⟨tm, hp, gn, us, L⟩ :=
  ze16 (100 * (t + 1)) hctr hop hoc hcal hd ht hg hfv hargs hcv hm hopn hf hc h
theorem ze18 {t : Nat} {c : Call} {fv : Operand} {f : FuncId} {caps : List AC} {args ins : List AV} {res : AV} {nv : AV} {nr : List (Nat × Row)} (hctr : Ctr Tryd.prog f ins [] res [])
    (h : Walk Tryd.prog ops Q C dr (keepH dr (i, o, ⟨args.flatMap snV ++ [], nr.map (fun p => (p.1, some p.2)), nr.map (·.1), nv⟩) H) r ⟨upd tm t nv, updL hp (nr.map (fun p => (p.1, some p.2))), gn, nr.map (·.1) ++ us, L⟩) (hop : ops[i]? = some o := by exact rfl) (hoc : o.op = .call c := by exact rfl) (hcal : c.callee = .value fv := by exact rfl) (hd : o.dst = some t := by exact rfl) (ht : Nat.blt t L = true := by exact rfl) (hg : gw ops tm o = some true := by exact rfl) (hfv : AS.ev ⟨tm, hp, gn, us, L⟩ fv = .c (.fn f caps) := by exact rfl) (hargs : callArgs ⟨tm, hp, gn, us, L⟩ c caps = args := by exact rfl) (hcv : args.map (cvV hp []) = ins := by ((repeat' (first | rfl | exact zk3 | refine zw2 ?_ ?_ | refine zo7 ?_ | refine cv_c ?_ | refine zx2 ?_ ?_ | (refine zl4 ?_; (first | rfl | (simp [cloV, cloL, clo, za1, zt, zb1, zu, zo]; done))) | (refine zm4 ?_; (first | rfl | (simp [cloV, cloL, clo, za1, zt, zb1, zu, zo]; done))) | refine zn4 ?_ | (refine cvC_sl' (by rfl) (by rfl) (by rfl) (by rfl) ?_ ?_; (focus (first | rfl | (simp [cloV, cloL, clo, za1, zt, zb1, zu, zo]; done))); (first | rfl | exact zd2 _)))) <;> exact rfl)) (hm : rofrV res = true := by (first | rfl | exact zh1 _ | (simp [rofrV, rofrVL, rofrL, rofr, zh1, zw1, zu1]; done))) (hopn : opV (100 * (t + 1)) res = (nv, nr) := by exact rfl) (hf : (nr.all fun p => Nat.ble gn p.1 && !us.contains p.1) = true := by exact rfl) (hc : chk dr ops i o ⟨args.flatMap snV ++ [], nr.map (fun p => (p.1, some p.2)), nr.map (·.1), nv⟩ H = true := by first | (with_reducible exact zp) | kernel_rfl) : Walk Tryd.prog ops Q C dr H (i :: r) ⟨tm, hp, gn, us, L⟩ :=
  ze16 (100 * (t + 1)) hctr hop hoc hcal hd ht hg hfv hargs hcv hm hopn hf hc h
end
end Go.Proofs.YtfemkmnkofgaaaaDoor
namespace Go.Proofs.YtfemkmnkofgaaaaDoor
open Go.RowKit Go.Shelf
set_option maxRecDepth 100000
def laysM171_ren : Go.Shelf.Ren := ⟨fun | 171 => 91 | 243 => 130 | 246 => 152 | 283 => 172 | 284 => 173 | 285 => 174 | 286 => 175 | 129 => 180 | 317 => 179 | 318 => 181 | 319 => 182 | 320 => 183 | 337 => 186 | 338 => 187 | n => n, fun | 3 => 3 | 9 => 9 | 2 => 2 | 4 => 4 | 171 => 230 | 0 => 0 | 53 => 231 | 37 => 22 | 5 => 5 | 173 => 234 | 212 => 243 | 51 => 244 | 20 => 20 | 213 => 245 | 46 => 125 | 232 => 252 | 233 => 253 | n => n, fun | 17 => 3 | 18 => 4 | 19 => 5 | n => n⟩
theorem zz14 : Go.Proofs.LaysM.n171 Tryd.prog laysM171_ren := {
  mixed := by kernel_rfl
  f129 := Tryd.func180.trans (congrArg some (by kernel_rfl))
  f171 := Tryd.func91.trans (congrArg some (by kernel_rfl))
  f243 := Tryd.func130.trans (congrArg some (by kernel_rfl))
  f246 := Tryd.func152.trans (congrArg some (by kernel_rfl))
  f283 := Tryd.func172.trans (congrArg some (by kernel_rfl))
  f284 := Tryd.func173.trans (congrArg some (by kernel_rfl))
  f285 := Tryd.func174.trans (congrArg some (by kernel_rfl))
  f286 := Tryd.func175.trans (congrArg some (by kernel_rfl))
  f317 := Tryd.func179.trans (congrArg some (by kernel_rfl))
  f318 := Tryd.func181.trans (congrArg some (by kernel_rfl))
  f319 := Tryd.func182.trans (congrArg some (by kernel_rfl))
  f320 := Tryd.func183.trans (congrArg some (by kernel_rfl))
  f337 := Tryd.func186.trans (congrArg some (by kernel_rfl))
  f338 := Tryd.func187.trans (congrArg some (by kernel_rfl))
  t0 := Tryd.underlying0
  a0 := Tryd.isAgg0
  z0 := Tryd.sizeOf0
  v0 := Tryd.zeroValue0
  t2 := Tryd.underlying2
  a2 := Tryd.isAgg2
  z2 := Tryd.sizeOf2
  v2 := Tryd.zeroValue2
  t3 := Tryd.underlying3
  a3 := Tryd.isAgg3
  z3 := Tryd.sizeOf3
  v3 := Tryd.zeroValue3
  t4 := Tryd.underlying4
  a4 := Tryd.isAgg4
  z4 := Tryd.sizeOf4
  v4 := Tryd.zeroValue4
  t5 := Tryd.underlying5
  a5 := Tryd.isAgg5
  z5 := Tryd.sizeOf5
  v5 := Tryd.zeroValue5
  t9 := Tryd.underlying9
  a9 := Tryd.isAgg9
  z9 := Tryd.sizeOf9
  v9 := Tryd.zeroValue9
  t20 := Tryd.underlying20
  a20 := Tryd.isAgg20
  z20 := Tryd.sizeOf20
  v20 := Tryd.zeroValue20
  t37 := Tryd.underlying22
  a37 := Tryd.isAgg22
  z37 := Tryd.sizeOf22
  v37 := Tryd.zeroValue22
  t46 := Tryd.underlying125
  a46 := Tryd.isAgg125
  z46 := Tryd.sizeOf125
  v46 := Tryd.zeroValue125
  t51 := Tryd.underlying244
  a51 := Tryd.isAgg244
  z51 := Tryd.sizeOf244
  v51 := Tryd.zeroValue244
  t53 := Tryd.underlying231
  a53 := Tryd.isAgg231
  z53 := Tryd.sizeOf231
  v53 := Tryd.zeroValue231
  t171 := Tryd.underlying230
  a171 := Tryd.isAgg230
  z171 := Tryd.sizeOf230
  v171 := Tryd.zeroValue230
  t173 := Tryd.underlying234
  a173 := Tryd.isAgg234
  z173 := Tryd.sizeOf234
  v173 := Tryd.zeroValue234
  t212 := Tryd.underlying243
  a212 := Tryd.isAgg243
  z212 := Tryd.sizeOf243
  v212 := Tryd.zeroValue243
  t213 := Tryd.underlying245
  a213 := Tryd.isAgg245
  z213 := Tryd.sizeOf245
  t232 := Tryd.underlying252
  a232 := Tryd.isAgg252
  z232 := Tryd.sizeOf252
  v232 := Tryd.zeroValue252
  t233 := Tryd.underlying253
  a233 := Tryd.isAgg253
  z233 := Tryd.sizeOf253
  v233 := Tryd.zeroValue253
  g17 := by kernel_rfl
  g18 := by kernel_rfl
  g19 := by kernel_rfl
  i0 := by kernel_rfl
  i2 := by kernel_rfl
  i3 := by kernel_rfl
  i4 := by kernel_rfl
  i5 := by kernel_rfl
  i9 := by kernel_rfl
  i20 := by kernel_rfl
  i37 := by kernel_rfl
  i46 := by kernel_rfl
  i51 := by kernel_rfl
  i53 := by kernel_rfl
  i171 := by kernel_rfl
  i173 := by kernel_rfl
  i212 := by kernel_rfl
  i232 := by kernel_rfl
  i233 := by kernel_rfl
  m17 := by kernel_rfl
  m18 := by kernel_rfl
  m19 := by kernel_rfl }
theorem zi5 {P : Program} {f : FuncId} {ins : List AV} {us : List Value} {v : Value} (he : entB P f = true) (hv : scal v = true) (hin : ∀ (w : World) (St : Nat → Prop) (φ : Nat → Lc) (K : Nat → Prop) (us' : List Value), VRL w St φ K ins us' → us' = us)
    (hc : ∀ w, Gl w → Calls P f us.toArray w fun e w' => e = .returned v ∧ Below w.heap.size w w') : Ctr P f ins [] (.c (.v v)) [] := by
  refine ⟨he, fun w St φ F us' hent => ?_⟩
  obtain rfl := hin _ _ _ _ _ hent.args
  refine (hc w hent.gl.1).mono ?_
  rintro e w' ⟨rfl, hb⟩
  refine ⟨_, _, v, fun _ => False, fun _ => [], [], ⟨rfl, rfl⟩, rfl, ⟨⟨hb.os, hb.tape, hb.output, hb.size, fun b hlt _ => .inl (hb.block b hlt)⟩, ?_, by simp, rfl, fun i cs hi => by simp at hi, fun i hi => by simp at hi, fun i hi => by simp at hi, fun i j hi => by simp at hi, fun i b lo hi => by simp at hi, fun b hb => by simp at hb, fun b hb => hb.elim⟩⟩
  simp only [VRF, CR]
  exact ⟨trivial, hv, trivial⟩
def numT (n : Int) : ByteArray := ⟨(Lib.itoa n).toArray⟩
theorem zl13 {n : Int} (h0 : -9223372036854775808 ≤ n) (h1 : n ≤ 9223372036854775807) : Ctr Tryd.prog 91 [.c (.v (.int .i64 n))] [] (.c (.v (.string (numT n)))) [] := by
  refine zi5 (us := [.int .i64 n]) (by kernel_rfl) rfl (fun w St φ K us' h => ?_) fun w gw => ?_
  · simp only [VRL, VR, CR] at h
    obtain ⟨u, us1, rfl, ⟨rfl, -⟩, rfl⟩ := h
    rfl
  · refine (Go.Proofs.Any.strconv_Itoa zz14 n h0 h1 w (zc12 gw)).mono ?_
    rintro e w' ⟨rfl, k, os, rfl⟩
    refine ⟨rfl, rfl, rfl, rfl, by simp [Sort.grow], fun j hj => ?_⟩
    simp only [Sort.grow, World.heap_drewN]
    rw [Array.getElem?_append_left hj]
theorem za15 {n : Int} (h0 : -9223372036854775808 ≤ n) (h1 : n ≤ 9223372036854775807) : Ctr Tryd.prog 47 [.c (.v (.int .i64 n))] [] (.c (.v (.string (numT n)))) [] := by
  have hc := zl13 h0 h1
  refine zm2 Tryd.func47 rfl rfl ?_
  repeat' (first | refine zm1 ?_ | refine zr ?_ | refine zf1 ?_ | refine zg1 ?_ | refine zn fun C => ?_ | refine zr1 (by kernel_rfl) (by kernel_rfl) fun C => ?_ | refine zy ?_ | (refine x_gm ?_ ?_ <;> intro hG <;> (try cases hG)) | refine zg3 ?_ | refine x_bs ?_ | refine x_gr ?_ | refine x_st ?_ | refine x_mv ?_ | refine x_sk ?_ | refine zb11 ?_ | refine x_ix ?_ | refine za9 ?_ | refine zb9 ?_ | refine zs5 ?_ | refine zp3 ?_ | refine x_ld ?_ | refine zc11 ?_ | (refine zp2 (by rfl) ?_ ?_ <;> intro hC <;> (try cases hC)))
  refine zq1 ?_
  exact ret0 rfl zr3 ⟨rfl, rfl⟩
end Go.Proofs.YtfemkmnkofgaaaaDoor
namespace Go.Proofs.YtfemkmnkofgaaaaDoor
open Go.RowKit
set_option maxRecDepth 100000
section
variable {P : Program} {ops : Array Oper} {Q : Exit → Act → World → Prop} {C : Ctx} {H : List (Nat × Oper × Inf)} {i : Nat} {r : List Nat} {o : Oper} {dr : Bool} {σ : AS}
variable {tm : Nat → AV} {hp : Nat → Option Row} {gn L : Nat} {us : List Nat} {x : AV}
theorem zy16 {y : Value} (hop : ops[i]? = some o) (hg : gw ops σ.tm o = some true) (hs1 : scal y = true) (hr : ∀ (ev : Operand → Value) (w : World), (∀ z ∈ o.op.operands, ∀ v, (σ.ev z).val? = some v → ev z = v) → (execOp ev o).run P w = .ok (.value y) w) : Snd P ops Q C i o σ ⟨fpO σ.ev o, [], [], .c (.v y)⟩ := by
  intro τ a w ha hs K hK
  obtain ⟨φ, F, St, hs⟩ := hs
  have h3 := hr a.eval w fun z hz v hv => zr15 (by rw [ha.ev z hz]; exact hv) (hs.ev z)
  unfold wpOp
  rw [hop]
  have hw := zq14 hs (b := true) (by rw [ha.gw]; exact hg)
  simp only [hw, if_true]
  refine .inl ?_
  unfold Oper.wp
  rw [h3]
  have h7 := hs.put o.dst (x := .c (.v y)) (u := y) (by simp only [VR, CR]; exact ⟨trivial, hs1, trivial⟩)
  exact hK _ _ ⟨φ, F, St, h7⟩
end
end Go.Proofs.YtfemkmnkofgaaaaDoor
