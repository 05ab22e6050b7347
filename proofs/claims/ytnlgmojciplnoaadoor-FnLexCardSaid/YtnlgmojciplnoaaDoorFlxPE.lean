/- The abstract machine, third part: what came later. -/
import Derived.Laws.StructEq
import Derived.Laws.Concat
import Derived.Test.YtnlgmojciplnoaaDoorFlxPD
namespace Go.Proofs.YtnlgmojciplnoaaDoor
open Go.RowKit
section
variable {P : Program} {tm : Nat → AV} {hp : Nat → Option Row} {gn L : Nat} {us : List Nat}
theorem ze11 (id : Nat) {t : Nat} (T : TypeId) (k : Nat) (ht : tm t = .c (.v (.slice none 0 0))) (hf : (Nat.ble gn id && !us.contains id) = true) :
    Gh ⟨tm, hp, gn, us, L⟩ ⟨upd tm t (.c (.sl id 0)), upd hp id (some ⟨T, k, 0, false, []⟩), gn, id :: us, L⟩ := by
  simp only [Bool.and_eq_true, Nat.ble_eq, Bool.not_eq_true'] at hf
  rintro C a w ⟨φ, F, St, h⟩
  obtain ⟨φ', F', St', h', hv⟩ := h.newSlice (id := id) hf.1 (fun hm => by have := hf.2; simp at this; exact this hm) (Stp.refl none w) (fun b hb => by cases hb) (CRL.nil) (fun b hb => absurd hb List.not_mem_nil) (World.ownsRow_nil w 0 T k) (by simp [obl, Value.ownBlock]) (fun b hb => by simp [obl, Value.ownBlock] at hb)
  refine ⟨φ', F', St', h'.dfr, h'.len, fun t' => ?_, h'.row, h'.nod, h'.dis, h'.bxF, h'.bxd, h'.stF, h'.stB, h'.frm, h'.own, h'.par, h'.new, h'.gnN, h'.stS⟩
  show VR w St' φ' _ (upd tm t _ t') _
  by_cases e : t' = t
  · subst e
    rw [zg2]
    have := h.tms t'
    change VR w St φ _ (tm t') _ at this
    rw [ht] at this
    simp only [VR, CR] at this
    rw [this.1]; exact hv
  · rw [za3 _ _ e]; exact h'.tms t'
end
section
variable {P : Program} {ops : Array Oper} {Q : Exit → Act → World → Prop} {C : Ctx} {H H' : List (Nat × Oper × Inf)} {i : Nat} {r : List Nat} {o : Oper} {dr : Bool}
variable {tm : Nat → AV} {hp : Nat → Option Row} {gn L : Nat} {us : List Nat} {x : AV}
theorem zf2 {I : Inf} : chk false ops i o I H = true := rfl
theorem w_eq {t : Nat} {y : AV} (hop : ops[i]? = some o) (hd : o.dst = some t) (ht : Nat.blt t L = true) (hg : gw ops tm o = some true) (he : EffD P o (AS.ev ⟨tm, hp, gn, us, L⟩) hp 0 = some (x, .nop)) (hy : x = y)
    (hc : chk dr ops i o ⟨fpO (AS.ev ⟨tm, hp, gn, us, L⟩) o, [], [], y⟩ H = true) (h : Walk P ops Q C dr (keepH dr (i, o, ⟨fpO (AS.ev ⟨tm, hp, gn, us, L⟩) o, [], [], y⟩) H) r ⟨upd tm t y, hp, gn, us, L⟩) : Walk P ops Q C dr H (i :: r) ⟨tm, hp, gn, us, L⟩ := by
  subst hy
  exact zn14 0 hop hd ht hg he hc h
theorem w_bool {t : Nat} {b : Bool} (hop : ops[i]? = some o) (hd : o.dst = some t) (ht : Nat.blt t L = true) (hg : gw ops tm o = some true) (he : EffD P o (AS.ev ⟨tm, hp, gn, us, L⟩) hp 0 = some (.c (.v (.bool b)), .nop))
    (hc1 : chk dr ops i o ⟨fpO (AS.ev ⟨tm, hp, gn, us, L⟩) o, [], [], .c (.v (.bool true))⟩ H = true) (hc2 : chk dr ops i o ⟨fpO (AS.ev ⟨tm, hp, gn, us, L⟩) o, [], [], .c (.v (.bool false))⟩ H = true)
    (h1 : b = true → Walk P ops Q C dr (keepH dr (i, o, ⟨fpO (AS.ev ⟨tm, hp, gn, us, L⟩) o, [], [], .c (.v (.bool true))⟩) H) r ⟨upd tm t (.c (.v (.bool true))), hp, gn, us, L⟩)
    (h2 : b = false → Walk P ops Q C dr (keepH dr (i, o, ⟨fpO (AS.ev ⟨tm, hp, gn, us, L⟩) o, [], [], .c (.v (.bool false))⟩) H) r ⟨upd tm t (.c (.v (.bool false))), hp, gn, us, L⟩) : Walk P ops Q C dr H (i :: r) ⟨tm, hp, gn, us, L⟩ := by
  cases b with
  | true => exact zn14 0 hop hd ht hg he hc1 (h1 rfl)
  | false => exact zn14 0 hop hd ht hg he hc2 (h2 rfl)
end
theorem cvC_sl' {hp : Nat → Option Row} {D : List Nat} {i n k : Nat} {rw : Row} {l : List AC} (hr : hp i = some rw) (hb : rw.box = false) (hn : rw.n = n) (hk : rw.k = k) (hc : cloL rw.cs = true) (hl : toRoL rw.cs = l) : cvC hp D (.sl i n) = .ro n k l := by
  subst hk
  exact cvC_sl hr hb hn hc hl
set_option maxRecDepth 100000
section
variable {ops : Array Oper} {Q : Exit → Act → World → Prop} {C : Ctx} {H H' : List (Nat × Oper × Inf)} {i : Nat} {r : List Nat} {o : Oper} {dr : Bool}
variable {tm : Nat → AV} {hp : Nat → Option Row} {gn L : Nat} {us : List Nat} {x : AV}
theorem zi5 {t : Nat}  (h : Walk Tryd.prog ops Q C dr (keepH dr (i, o, ⟨fpO (AS.ev ⟨tm, hp, gn, us, L⟩) o, [], [], x⟩) H) r ⟨upd tm t x, hp, gn, us, L⟩) (hop : ops[i]? = some o := by exact rfl) (hd : o.dst = some t := by exact rfl) (ht : Nat.blt t L = true := by exact rfl) (hg : gw ops tm o = some true := by exact rfl) (he : EffD Tryd.prog o (AS.ev ⟨tm, hp, gn, us, L⟩) hp 0 = some (x, .nop) := by rfl) (hc : chk dr ops i o ⟨fpO (AS.ev ⟨tm, hp, gn, us, L⟩) o, [], [], x⟩ H = true := by first | (with_reducible exact zf2) | kernel_rfl) : Walk Tryd.prog ops Q C dr H (i :: r) ⟨tm, hp, gn, us, L⟩ :=
  zn14 0 hop hd ht hg he hc h
theorem x_bs {t n k : Nat} {T e : TypeId} {parts : Array (Nat × Operand)} {zs : List AC}  (h : Walk Tryd.prog ops Q C dr (keepH dr (i, o, ⟨fpO (AS.ev ⟨tm, hp, gn, us, L⟩) o, [(t, some ⟨e, k, n, false, zs⟩)], [t], .c (.sl t n)⟩) H) r ⟨upd tm t (.c (.sl t n)), upd hp t (some ⟨e, k, n, false, zs⟩), gn, t :: us, L⟩) (hop : ops[i]? = some o := by exact rfl) (ho : o.op = .buildSlice T n parts := by exact rfl) (hd : o.dst = some t := by exact rfl) (ht : Nat.blt t L = true := by exact rfl) (hg : gw ops tm o = some true := by exact rfl) (hf : (Nat.ble gn t && !us.contains t) = true := by exact rfl) (hT : sliT Tryd.prog T = some (e, k) := by first | exact (rfl : _ = some ((5 : Nat), (1 : Nat))) | exact (rfl : _ = some ((31 : Nat), (3 : Nat))) | exact (rfl : _ = some ((9 : Nat), (1 : Nat))) | exact (rfl : _ = some ((3 : Nat), (1 : Nat)))) (hz : catP k 0 (parts.toList.map fun p => (p.1, AS.ev ⟨tm, hp, gn, us, L⟩ p.2)) = some zs := by rfl) (hn : n = parts.toList.length := by rfl) (hb : (Nat.ble (n * k) 16777216 && Nat.ble n 16777216) = true := by rfl) (hc : chk dr ops i o ⟨fpO (AS.ev ⟨tm, hp, gn, us, L⟩) o, [(t, some ⟨e, k, n, false, zs⟩)], [t], .c (.sl t n)⟩ H = true := by first | (with_reducible exact zf2) | kernel_rfl) : Walk Tryd.prog ops Q C dr H (i :: r) ⟨tm, hp, gn, us, L⟩ :=
  v_bs hop ho hd ht hg hf hT hz hn hb hc h
theorem x_gr {t : Nat} {rw : Row}  (h : Walk Tryd.prog ops Q C dr (keepH dr (i, o, ⟨fpO (AS.ev ⟨tm, hp, gn, us, L⟩) o, [(t, some rw)], [t], x⟩) H) r ⟨upd tm t x, upd hp t (some rw), gn, t :: us, L⟩) (hop : ops[i]? = some o := by exact rfl) (hd : o.dst = some t := by exact rfl) (ht : Nat.blt t L = true := by exact rfl) (hg : gw ops tm o = some true := by exact rfl) (hf : (Nat.ble gn t && !us.contains t) = true := by exact rfl) (he : EffD Tryd.prog o (AS.ev ⟨tm, hp, gn, us, L⟩) hp t = some (x, .gr t rw) := by rfl) (hc : chk dr ops i o ⟨fpO (AS.ev ⟨tm, hp, gn, us, L⟩) o, [(t, some rw)], [t], x⟩ H = true := by first | (with_reducible exact zf2) | kernel_rfl) : Walk Tryd.prog ops Q C dr H (i :: r) ⟨tm, hp, gn, us, L⟩ :=
  v_gr hop hd ht hg hf he hc h
theorem x_st {j : Nat} {rw : Row}  (h : Walk Tryd.prog ops Q C dr (keepH dr (i, o, ⟨fpO (AS.ev ⟨tm, hp, gn, us, L⟩) o, [(j, some rw)], [], x⟩) H) r ⟨tm, upd hp j (some rw), gn, us, L⟩) (hop : ops[i]? = some o := by exact rfl) (hd : o.dst = none := by exact rfl) (hg : gw ops tm o = some true := by exact rfl) (he : EffD Tryd.prog o (AS.ev ⟨tm, hp, gn, us, L⟩) hp 0 = some (x, .st j rw) := by rfl) (hc : chk dr ops i o ⟨fpO (AS.ev ⟨tm, hp, gn, us, L⟩) o, [(j, some rw)], [], x⟩ H = true := by first | (with_reducible exact zf2) | kernel_rfl) : Walk Tryd.prog ops Q C dr H (i :: r) ⟨tm, hp, gn, us, L⟩ :=
  w_st hop hd hg he hc h
theorem x_mv {t : Nat} {j : Nat} {rw : Row}  (h : Walk Tryd.prog ops Q C dr (keepH dr (i, o, ⟨fpO (AS.ev ⟨tm, hp, gn, us, L⟩) o, [(j, none), (t, some rw)], [t], x⟩) H) r ⟨upd tm t x, upd (upd hp j none) t (some rw), gn, t :: us, L⟩) (hop : ops[i]? = some o := by exact rfl) (hd : o.dst = some t := by exact rfl) (ht : Nat.blt t L = true := by exact rfl) (hg : gw ops tm o = some true := by exact rfl) (hf : (Nat.ble gn t && !us.contains t) = true := by exact rfl) (he : EffD Tryd.prog o (AS.ev ⟨tm, hp, gn, us, L⟩) hp t = some (x, .mv j t rw) := by rfl) (hc : chk dr ops i o ⟨fpO (AS.ev ⟨tm, hp, gn, us, L⟩) o, [(j, none), (t, some rw)], [t], x⟩ H = true := by first | (with_reducible exact zf2) | kernel_rfl) : Walk Tryd.prog ops Q C dr H (i :: r) ⟨tm, hp, gn, us, L⟩ :=
  v_mv hop hd ht hg hf he hc h
theorem x_sk {t : Nat}  (h : Walk Tryd.prog ops Q C dr (keepH dr (i, o, infSkip) H) r ⟨upd tm t (.tu []), hp, gn, us, L⟩) (hop : ops[i]? = some o := by exact rfl) (hd : o.dst = some t := by exact rfl) (ht : Nat.blt t L = true := by exact rfl) (hg : gw ops tm o = some false := by exact rfl) (hc : chk dr ops i o infSkip H = true := by first | (with_reducible exact zf2) | kernel_rfl) : Walk Tryd.prog ops Q C dr H (i :: r) ⟨tm, hp, gn, us, L⟩ :=
  zx22 hop hd ht hg hc h
theorem zu7   (h : Walk Tryd.prog ops Q C dr (keepH dr (i, o, infSkip) H) r ⟨tm, hp, gn, us, L⟩) (hop : ops[i]? = some o := by exact rfl) (hd : o.dst = none := by exact rfl) (hg : gw ops tm o = some false := by exact rfl) (hc : chk dr ops i o infSkip H = true := by first | (with_reducible exact zf2) | kernel_rfl) : Walk Tryd.prog ops Q C dr H (i :: r) ⟨tm, hp, gn, us, L⟩ :=
  zf21 hop hd hg hc h
theorem x_ix {t n k j : Nat} {l : List E} {e : E} {kd : IntKind} {z : Int} {T : TypeId} {xo io : Operand}  (h : Walk Tryd.prog ops Q C dr (keepH dr (i, o, ⟨fpO (AS.ev ⟨tm, hp, gn, us, L⟩) o, [], [], .c (.rp (acE e) 0)⟩) H) r ⟨upd tm t (.c (.rp (acE e) 0)), hp, gn, us, L⟩) (hop : ops[i]? = some o := by exact rfl) (ho : o.op = .indexAddr T xo io := by exact rfl) (hd : o.dst = some t := by exact rfl) (ht : Nat.blt t L = true := by exact rfl) (hg : gw ops tm o = some true := by exact rfl) (hx : AS.ev ⟨tm, hp, gn, us, L⟩ xo = .c (.ro n k (acL l)) := by exact rfl) (hi : AS.ev ⟨tm, hp, gn, us, L⟩ io = .c (.v (.int kd z)) := by exact rfl) (hT : eltB Tryd.prog T k = true := by exact rfl) (hz : z = (j : Int) := by first | rfl | omega | assumption) (hn : n = l.length := by exact rfl) (hk : ∀ e ∈ l, e.enc.length = k := by assumption) (he : l[j]? = some e := by assumption) (hc : chk dr ops i o ⟨fpO (AS.ev ⟨tm, hp, gn, us, L⟩) o, [], [], .c (.rp (acE e) 0)⟩ H = true := by first | (with_reducible exact zf2) | kernel_rfl) : Walk Tryd.prog ops Q C dr H (i :: r) ⟨tm, hp, gn, us, L⟩ :=
  w_idx hop ho hd ht hg hx hi hT hz hn hk he hc h
theorem zv7 {t n k j s : Nat} {rw : Row} {kd : IntKind} {z : Int} {T : TypeId} {xo io : Operand}  (h : Walk Tryd.prog ops Q C dr (keepH dr (i, o, ⟨fpO (AS.ev ⟨tm, hp, gn, us, L⟩) o, [], [], .c (.pt s (j * k))⟩) H) r ⟨upd tm t (.c (.pt s (j * k))), hp, gn, us, L⟩) (hop : ops[i]? = some o := by exact rfl) (ho : o.op = .indexAddr T xo io := by exact rfl) (hd : o.dst = some t := by exact rfl) (ht : Nat.blt t L = true := by exact rfl) (hg : gw ops tm o = some true := by exact rfl) (hx : AS.ev ⟨tm, hp, gn, us, L⟩ xo = .c (.sl s n) := by exact rfl) (hi : AS.ev ⟨tm, hp, gn, us, L⟩ io = .c (.v (.int kd z)) := by exact rfl) (hr : hp s = some rw := by exact rfl) (hb : rw.box = false := by exact rfl) (hn : rw.n = n := by exact rfl) (hk : rw.k = k := by exact rfl) (hT : eltB Tryd.prog T k = true := by rfl) (hz : z = (j : Int) := by first | rfl | omega | assumption) (hj : j < n := by first | assumption | omega) (hc : chk dr ops i o ⟨fpO (AS.ev ⟨tm, hp, gn, us, L⟩) o, [], [], .c (.pt s (j * k))⟩ H = true := by first | (with_reducible exact zf2) | kernel_rfl) : Walk Tryd.prog ops Q C dr H (i :: r) ⟨tm, hp, gn, us, L⟩ :=
  za23 hop ho hd ht hg hx hi hr hb hn hk hT hz hj hc h
theorem zw7 {s off : Nat} {RT : TypeId} {Rk Rn : Nat} {Rb : Bool} {Rc : List AC} {T : TypeId} {p y : Operand} {cs : List AC}  (h : Walk Tryd.prog ops Q C dr (keepH dr (i, o, ⟨fpO (AS.ev ⟨tm, hp, gn, us, L⟩) o, [(s, some (⟨RT, Rk, Rn, Rb, spl Rc off cs⟩ : Row))], [], .c .un⟩) H) r ⟨tm, upd hp s (some (⟨RT, Rk, Rn, Rb, spl Rc off cs⟩ : Row)), gn, us, L⟩) (hop : ops[i]? = some o := by exact rfl) (ho : o.op = .store T p y := by exact rfl) (hd : o.dst = none := by exact rfl) (hg : gw ops tm o = some true := by exact rfl) (hx : AS.ev ⟨tm, hp, gn, us, L⟩ p = .c (.pt s off) := by exact rfl) (hr : hp s = some ⟨RT, Rk, Rn, Rb, Rc⟩ := by exact rfl) (hy : (AS.ev ⟨tm, hp, gn, us, L⟩ y).cells = some cs := by exact rfl) (hT : (Tryd.prog.info? T).map (·.size) = some cs.length := by exact rfl) (hnu : cs.all noUn = true := by exact rfl) (hle : off + cs.length ≤ Rc.length := by assumption) (hc : chk dr ops i o ⟨fpO (AS.ev ⟨tm, hp, gn, us, L⟩) o, [(s, some (⟨RT, Rk, Rn, Rb, spl Rc off cs⟩ : Row))], [], .c .un⟩ H = true := by first | (with_reducible exact zf2) | kernel_rfl) : Walk Tryd.prog ops Q C dr H (i :: r) ⟨tm, hp, gn, us, L⟩ :=
  w_sto hop ho hd hg hx hr hy hT hnu hle hc h
theorem zy5 {t j n m k nm : Nat} {rw : Row} {e T T2 : TypeId} {xo yo : Operand} {ys zs : List AC}  (h : Walk Tryd.prog ops Q C dr (keepH dr (i, o, ⟨fpO (AS.ev ⟨tm, hp, gn, us, L⟩) o, [(j, none), (t, some ⟨e, k, nm, false, zs⟩)], [t], .c (.sl t nm)⟩) H) r ⟨upd tm t (.c (.sl t nm)), upd (upd hp j none) t (some ⟨e, k, nm, false, zs⟩), gn, t :: us, L⟩) (hop : ops[i]? = some o := by exact rfl) (ho : o.op = .call ⟨.builtin .append, #[xo, yo], #[T, T2]⟩ := by exact rfl) (hd : o.dst = some t := by exact rfl) (ht : Nat.blt t L = true := by exact rfl) (hg : gw ops tm o = some true := by exact rfl) (hf : (Nat.ble gn t && !us.contains t) = true := by exact rfl) (hx : AS.ev ⟨tm, hp, gn, us, L⟩ xo = .c (.sl j n) := by exact rfl) (hr : hp j = some rw := by exact rfl) (hT : appB Tryd.prog T T2 = some (e, k) := by first | exact (rfl : _ = some ((5 : Nat), (1 : Nat))) | exact (rfl : _ = some ((31 : Nat), (3 : Nat))) | exact (rfl : _ = some ((9 : Nat), (1 : Nat))) | exact (rfl : _ = some ((3 : Nat), (1 : Nat)))) (hy : srcOf hp k (AS.ev ⟨tm, hp, gn, us, L⟩ yo) = some (m, ys) := by first | rfl | exact zx5 rfl rfl rfl rfl) (hnu : ys.all noUn = true := by first | rfl | exact zn5 _) (hr1 : rw.T = e := by exact rfl) (hr2 : rw.k = k := by exact rfl) (hr3 : rw.n = n := by exact rfl) (hr4 : rw.box = false := by exact rfl) (hsz : n + m ≤ 4294967296 := by omega) (hnm : n + m = nm := by first | exact Nat.zero_add _ | rfl) (hz : rw.cs ++ ys = zs := by first | exact List.nil_append _ | rfl) (hc : chk dr ops i o ⟨fpO (AS.ev ⟨tm, hp, gn, us, L⟩) o, [(j, none), (t, some ⟨e, k, nm, false, zs⟩)], [t], .c (.sl t nm)⟩ H = true := by first | (with_reducible exact zf2) | kernel_rfl) : Walk Tryd.prog ops Q C dr H (i :: r) ⟨tm, hp, gn, us, L⟩ :=
  v_app hop ho hd ht hg hf hx hr hT hy hnu hr1 hr2 hr3 hr4 hsz hnm hz hc h
theorem zv4 {t m k : Nat} {e T T2 : TypeId} {xo yo : Operand} {ys : List AC}  (h : Walk Tryd.prog ops Q C dr (keepH dr (i, o, ⟨fpO (AS.ev ⟨tm, hp, gn, us, L⟩) o, [(t, some ⟨e, k, m, false, ys⟩)], [t], .c (.sl t m)⟩) H) r ⟨upd tm t (.c (.sl t m)), upd hp t (some ⟨e, k, m, false, ys⟩), gn, t :: us, L⟩) (hop : ops[i]? = some o := by exact rfl) (ho : o.op = .call ⟨.builtin .append, #[xo, yo], #[T, T2]⟩ := by exact rfl) (hd : o.dst = some t := by exact rfl) (ht : Nat.blt t L = true := by exact rfl) (hg : gw ops tm o = some true := by exact rfl) (hf : (Nat.ble gn t && !us.contains t) = true := by exact rfl) (hx : AS.ev ⟨tm, hp, gn, us, L⟩ xo = .c (.v (.slice none 0 0)) := by exact rfl) (hT : appB Tryd.prog T T2 = some (e, k) := by first | exact (rfl : _ = some ((5 : Nat), (1 : Nat))) | exact (rfl : _ = some ((31 : Nat), (3 : Nat))) | exact (rfl : _ = some ((9 : Nat), (1 : Nat))) | exact (rfl : _ = some ((3 : Nat), (1 : Nat)))) (hy : srcOf hp k (AS.ev ⟨tm, hp, gn, us, L⟩ yo) = some (m, ys) := by first | rfl | exact zx5 rfl rfl rfl rfl) (hnu : ys.all noUn = true := by first | rfl | exact zn5 _) (hsz : m ≤ 4294967296 := by omega) (hc : chk dr ops i o ⟨fpO (AS.ev ⟨tm, hp, gn, us, L⟩) o, [(t, some ⟨e, k, m, false, ys⟩)], [t], .c (.sl t m)⟩ H = true := by first | (with_reducible exact zf2) | kernel_rfl) : Walk Tryd.prog ops Q C dr H (i :: r) ⟨tm, hp, gn, us, L⟩ :=
  zc23 hop ho hd ht hg hf hx hT hy hnu hsz hc h
theorem x_ld {t s off : Nat} {rw : Row} {T : TypeId} {p : Operand} {cs : List AC}  (h : Walk Tryd.prog ops Q C dr (keepH dr (i, o, ⟨fpO (AS.ev ⟨tm, hp, gn, us, L⟩) o, [], [], x⟩) H) r ⟨upd tm t x, hp, gn, us, L⟩) (hop : ops[i]? = some o := by exact rfl) (ho : o.op = .load T p := by exact rfl) (hd : o.dst = some t := by exact rfl) (ht : Nat.blt t L = true := by exact rfl) (hg : gw ops tm o = some true := by rfl) (hx : AS.ev ⟨tm, hp, gn, us, L⟩ p = .c (.pt s off) := by exact rfl) (hr : hp s = some rw := by exact rfl) (hs : subL rw.cs off (Tryd.prog.cellsOf T) = cs := by assumption) (hm : mkAV Tryd.prog T cs = some x := by rfl) (hc : chk dr ops i o ⟨fpO (AS.ev ⟨tm, hp, gn, us, L⟩) o, [], [], x⟩ H = true := by first | (with_reducible exact zf2) | kernel_rfl) : Walk Tryd.prog ops Q C dr H (i :: r) ⟨tm, hp, gn, us, L⟩ :=
  w_ld hop ho hd ht hg hx hr hs hm hc h
end
theorem zu1 {hp : Nat → Option Row} {v : Value} : clV hp (.c (.v v)) = some (.c (.v v), hp) := rfl
section
variable {tm : Nat → AV} {hp : Nat → Option Row} {gn L : Nat} {us : List Nat}
end
section
variable {P : Program} {fn : Func} {Post : AV → List (List AC) → Prop} {σ : AS} {hp' : Nat → Option Row}
end
theorem zc3 {hp : Nat → Option Row} {i k m : Nat} {T : TypeId} {cs : List AC} (hr : hp i = some ⟨T, k, m, true, cs⟩) (hc : cloL cs = true) : lend hp [i] = some [cs] := by
  simp only [lend, hr]
  rw [if_pos ⟨.inl trivial, hc, List.not_mem_nil⟩]
section
variable {P : Program} {ops : Array Oper} {Q : Exit → Act → World → Prop} {C : Ctx} {H : List (Nat × Oper × Inf)} {i : Nat} {r : List Nat} {o : Oper} {dr : Bool} {σ : AS}
variable {tm : Nat → AV} {hp : Nat → Option Row} {gn L : Nat} {us : List Nat} {x : AV}
theorem zp6 {y : Value} (hop : ops[i]? = some o) (hg : gw ops σ.tm o = some true) (hs1 : scal y = true) (hr : ∀ (ev : Operand → Value) (w : World), (∀ z ∈ o.op.operands, ∀ v, (σ.ev z).val? = some v → ev z = v) → (execOp ev o).run P w = .ok (.value y) w) : Snd P ops Q C i o σ ⟨fpO σ.ev o, [], [], .c (.v y)⟩ := by
  intro τ a w ha hs K hK
  obtain ⟨φ, F, St, hs⟩ := hs
  have h3 := hr a.eval w fun z hz v hv => zs19 (by rw [ha.ev z hz]; exact hv) (hs.ev z)
  unfold wpOp
  rw [hop]
  have hw := zm14 hs (b := true) (by rw [ha.gw]; exact hg)
  simp only [hw, if_true]
  refine .inl ?_
  unfold Oper.wp
  rw [h3]
  have h7 := hs.put o.dst (x := .c (.v y)) (u := y) (by simp only [VR, CR]; exact ⟨trivial, hs1, trivial⟩)
  exact hK _ _ ⟨φ, F, St, h7⟩
theorem zi21 {o : Oper} {op : BinOp} {T ty : TypeId} {xo yo : Operand} {xs ys : Array Value} {b q : Bool} (ho : o.op = .binOp op T xo yo ty) (hm : P.eqGuardType P.depth T = false) (hq : ∀ w, (Op.equalIn 10000 T (.agg xs) (.agg ys)).run P w = .ok b w) (ev : Operand → Value) (w : World) (hx : ev xo = .agg xs) (hy : ev yo = .agg ys) (hb : op = .eql ∧ q = b ∨ op = .neq ∧ q = !b) : (execOp ev o).run P w = .ok (.value (.bool q)) w := by
  unfold execOp
  rw [ho]
  simp only [hx, hy]
  rcases hb with ⟨rfl, rfl⟩ | ⟨rfl, rfl⟩
  · simp [Sem.run_bind, run_eqGuard_agg w _ _ _ _ _ _ hm, run_eql_struct, hq]
  · simp [Sem.run_bind, run_eqGuard_agg w _ _ _ _ _ _ hm, run_neq_struct, hq]
theorem w_eqS {t : Nat} {op : BinOp} {T ty : TypeId} {xo yo : Operand} {xs ys : List Value} {b q : Bool} (hop : ops[i]? = some o) (ho : o.op = .binOp op T xo yo ty) (hd : o.dst = some t) (ht : Nat.blt t L = true) (hg : gw ops tm o = some true)
    (hm : P.eqGuardType P.depth T = false) (hx : (AS.ev ⟨tm, hp, gn, us, L⟩ xo).val? = some (.agg xs.toArray)) (hy : (AS.ev ⟨tm, hp, gn, us, L⟩ yo).val? = some (.agg ys.toArray)) (hq : ∀ w, (Op.equalIn 10000 T (.agg xs.toArray) (.agg ys.toArray)).run P w = .ok b w) (hb : op = .eql ∧ q = b ∨ op = .neq ∧ q = !b)
    (hc : chk dr ops i o ⟨fpO (AS.ev ⟨tm, hp, gn, us, L⟩) o, [], [], .c (.v (.bool q))⟩ H = true) (h : Walk P ops Q C dr (keepH dr (i, o, ⟨fpO (AS.ev ⟨tm, hp, gn, us, L⟩) o, [], [], .c (.v (.bool q))⟩) H) r ⟨upd tm t (.c (.v (.bool q))), hp, gn, us, L⟩) : Walk P ops Q C dr H (i :: r) ⟨tm, hp, gn, us, L⟩ := by
  refine ⟨o, _, hop, zp6 (y := .bool q) hop hg rfl fun ev w he => ?_, fun n hn => absurd hn List.not_mem_nil, zu4 hc, zw3 ?_⟩
  · have e : o.op.operands = #[xo, yo] := by rw [ho]; rfl
    exact zi21 ho hm hq ev w (he xo (by rw [e]; simp) _ hx) (he yo (by rw [e]; simp) _ hy) hb
  · show Walk P ops Q C dr _ r (AS.put _ o.dst _)
    rw [hd, zf5 (by exact zy4 ht)]; exact h
end
structure EntT (w : World) (St : Nat → Prop) (ins : List AV) (us : List Value) (p : Nat) (T : TypeId) (k n : Nat) (cs : List AC) (A : List Nat) : Prop where
  args : VRL w St φ0 K0 ins us
  row : ∃ u vs fs, us[p]? = some u ∧ CRL w St φ0 K0 cs vs fs ∧ w.ownsRow 0 T k u n vs ∧ A = obl u ++ fs
  nod : A.Nodup
  st : ∀ b ∈ A, ¬ St b
  gl : GlobOk w ∧ ∀ b, isG b → b ∉ A
structure ExtT (w w' : World) (us : List Value) (p : Nat) (T : TypeId) (k n : Nat) (A : List Nat) (res : AV) (back : Option (List AC)) (u : Value) (St' : Nat → Prop) (G B : List Nat) : Prop where
  frm : Fc (· ∈ A) (fun _ _ => False) w w'
  res : VRF w' St' φ0 K0 res u G
  bak : ∀ cs', back = some cs' → ∃ v vs fs, us[p]? = some v ∧ CRL w' St' φ0 K0 cs' vs fs ∧ w'.ownsRow 0 T k v n vs ∧ B = obl v ++ fs
  nod : (G ++ B).Nodup
  own : ∀ b ∈ G ++ B, b ∈ A ∨ w.heap.size ≤ b
section
variable {C : Ctx} {φ : Nat → Lc} {F : Nat → List Nat} {St : Nat → Prop} {σ : AS} {a : Act} {w w' : World}
end
section
variable {P : Program} {ops : Array Oper} {Q : Exit → Act → World → Prop} {C : Ctx} {σ : AS} {o : Oper} {i : Nat}
end
section
variable {P : Program} {ops : Array Oper} {Q : Exit → Act → World → Prop} {C : Ctx} {H : List (Nat × Oper × Inf)} {i : Nat} {r : List Nat} {o : Oper} {dr : Bool}
variable {tm : Nat → AV} {hp : Nat → Option Row} {gn L : Nat} {us : List Nat}
end
section
variable {ops : Array Oper} {Q : Exit → Act → World → Prop} {C : Ctx} {H : List (Nat × Oper × Inf)} {i : Nat} {r : List Nat} {o : Oper} {dr : Bool}
variable {tm : Nat → AV} {hp : Nat → Option Row} {gn L : Nat} {us : List Nat}
end
theorem zk16 {ρ : Nat → Option Nat} : ∀ {P Q P' Q' : List AC}, rnL ρ P = some P' → rnL ρ Q = some Q' → rnL ρ (P ++ Q) = some (P' ++ Q')
  | [], Q, P', Q', h, k => by simp only [rnL, Option.some.injEq] at h; subst h; exact k
  | c :: P, Q, P', Q', h, k => by
    simp only [rnL] at h
    split at h
    · rename_i c' r' h1 h2
      injection h with h; subst h
      simp only [List.cons_append, rnL, h1, zk16 h2 k]
    · cases h
theorem zl2 {ρ : Nat → Option Nat} {y : Option Row} {T : TypeId} {k m : Nat} {b : Bool} {P Q : List AC} {i j n : Nat} (h : y = some ⟨T, k, m, b, P ++ .sl i n :: Q⟩) (hρ : ρ i = some j) (hP : cloL P = true) (hQ : cloL Q = true) :
    ∃ r', y = some r' ∧ ((cloL r'.cs = true ∧ (⟨T, k, m, b, P ++ .sl j n :: Q⟩ : Row) = r') ∨ ∃ cs', rnL ρ r'.cs = some cs' ∧ (⟨T, k, m, b, P ++ .sl j n :: Q⟩ : Row) = { r' with cs := cs' }) := by
  refine ⟨_, h, .inr ⟨P ++ .sl j n :: Q, ?_, rfl⟩⟩
  refine zk16 (zd11 P hP) ?_
  simp [rnL, rnC, hρ, zd11 Q hQ]
section
variable {P : Program} {ops : Array Oper} {Q : Exit → Act → World → Prop} {C : Ctx} {H : List (Nat × Oper × Inf)} {i : Nat} {r : List Nat} {o : Oper} {dr : Bool}
variable {tm : Nat → AV} {hp : Nat → Option Row} {gn L : Nat} {us : List Nat}
def gdL (i : Nat) : List Oper → Bool
  | [] => false
  | o :: r => match o.guard with | some (g, _) => Nat.beq g i || gdL i r | none => gdL i r
end
section
variable {ops : Array Oper} {Q : Exit → Act → World → Prop} {C : Ctx} {H H' : List (Nat × Oper × Inf)} {i : Nat} {r : List Nat} {o : Oper} {dr : Bool}
variable {tm : Nat → AV} {hp : Nat → Option Row} {gn L : Nat} {us : List Nat} {x : AV}
theorem x_gm {t : Nat} {b : Bool} (h1 : b = true → Walk Tryd.prog ops Q C dr (keepH dr (i, o, ⟨fpO (AS.ev ⟨tm, hp, gn, us, L⟩) o, [], [], .c (.v (.bool true))⟩) H) r ⟨upd tm t (.c (.v (.bool true))), hp, gn, us, L⟩)
    (h2 : b = false → Walk Tryd.prog ops Q C dr (keepH dr (i, o, ⟨fpO (AS.ev ⟨tm, hp, gn, us, L⟩) o, [], [], .c (.v (.bool false))⟩) H) r ⟨upd tm t (.c (.v (.bool false))), hp, gn, us, L⟩)
    (hop : ops[i]? = some o := by exact rfl) (hgd : gdL i ops.toList = true := by exact rfl) (hd : o.dst = some t := by exact rfl) (ht : Nat.blt t L = true := by exact rfl) (hg : gw ops tm o = some true := by exact rfl) (he : EffD Tryd.prog o (AS.ev ⟨tm, hp, gn, us, L⟩) hp 0 = some (.c (.v (.bool b)), .nop) := by rfl)
    (hc1 : chk dr ops i o ⟨fpO (AS.ev ⟨tm, hp, gn, us, L⟩) o, [], [], .c (.v (.bool true))⟩ H = true := by first | (with_reducible exact zf2) | kernel_rfl) (hc2 : chk dr ops i o ⟨fpO (AS.ev ⟨tm, hp, gn, us, L⟩) o, [], [], .c (.v (.bool false))⟩ H = true := by first | (with_reducible exact zf2) | kernel_rfl) : Walk Tryd.prog ops Q C dr H (i :: r) ⟨tm, hp, gn, us, L⟩ :=
  w_bool hop hd ht hg he hc1 hc2 h1 h2
theorem zc10 {t : Nat} {c : Call} {fv : Operand} {f : FuncId} {caps : List AC} {args ins : List AV} {res : AV} {nv : AV} {nr : List (Nat × Row)}
    (h : Walk Tryd.prog ops Q C dr (keepH dr (i, o, ⟨args.flatMap snV ++ [], nr.map (fun p => (p.1, some p.2)), nr.map (·.1), nv⟩) H) r ⟨upd tm t nv, updL hp (nr.map (fun p => (p.1, some p.2))), gn, nr.map (·.1) ++ us, L⟩) (hop : ops[i]? = some o := by exact rfl) (hoc : o.op = .call c := by exact rfl) (hcal : c.callee = .value fv := by exact rfl) (hd : o.dst = some t := by exact rfl) (ht : Nat.blt t L = true := by exact rfl) (hg : gw ops tm o = some true := by exact rfl) (hfv : AS.ev ⟨tm, hp, gn, us, L⟩ fv = .c (.fn f caps) := by exact rfl) (hctr : Ctr Tryd.prog f ins [] res [] := by assumption) (hargs : callArgs ⟨tm, hp, gn, us, L⟩ c caps = args := by exact rfl) (hcv : args.map (cvV hp []) = ins := by ((repeat' (first | rfl | exact zh5 | refine zn4 ?_ ?_ | refine zv8 ?_ | refine cv_c ?_ | refine zo4 ?_ ?_ | (refine zc6 ?_; (first | rfl | (simp [cloV, cloL, clo, zn, zm, zo, zk, zi]; done))) | (refine zd6 ?_; (first | rfl | (simp [cloV, cloL, clo, zn, zm, zo, zk, zi]; done))) | refine ze6 ?_ | (refine cvC_sl' (by rfl) (by rfl) (by rfl) (by rfl) ?_ ?_; (focus (first | rfl | (simp [cloV, cloL, clo, zn, zm, zo, zk, zi]; done))); (first | rfl | exact zd4 _)))) <;> exact rfl)) (hm : rofrV res = true := by (first | rfl | exact zs3 _ | (simp [rofrV, rofrVL, rofrL, rofr, zs3, zj4, zh4]; done))) (hopn : opV (100 * (t + 1)) res = (nv, nr) := by exact rfl) (hf : (nr.all fun p => Nat.ble gn p.1 && !us.contains p.1) = true := by exact rfl) (hc : chk dr ops i o ⟨args.flatMap snV ++ [], nr.map (fun p => (p.1, some p.2)), nr.map (·.1), nv⟩ H = true := by first | (with_reducible exact zf2) | kernel_rfl) : Walk Tryd.prog ops Q C dr H (i :: r) ⟨tm, hp, gn, us, L⟩ :=
  zg20 (100 * (t + 1)) hctr hop hoc hcal hd ht hg hfv hargs hcv hm hopn hf hc h
theorem zj21 {t : Nat} {c : Call} {fv : Operand} {f : FuncId} {caps : List AC} {args ins : List AV} {res : AV} {nv : AV} {nr : List (Nat × Row)} (hctr : Ctr Tryd.prog f ins [] res [])
    (h : Walk Tryd.prog ops Q C dr (keepH dr (i, o, ⟨args.flatMap snV ++ [], nr.map (fun p => (p.1, some p.2)), nr.map (·.1), nv⟩) H) r ⟨upd tm t nv, updL hp (nr.map (fun p => (p.1, some p.2))), gn, nr.map (·.1) ++ us, L⟩) (hop : ops[i]? = some o := by exact rfl) (hoc : o.op = .call c := by exact rfl) (hcal : c.callee = .value fv := by exact rfl) (hd : o.dst = some t := by exact rfl) (ht : Nat.blt t L = true := by exact rfl) (hg : gw ops tm o = some true := by exact rfl) (hfv : AS.ev ⟨tm, hp, gn, us, L⟩ fv = .c (.fn f caps) := by exact rfl) (hargs : callArgs ⟨tm, hp, gn, us, L⟩ c caps = args := by exact rfl) (hcv : args.map (cvV hp []) = ins := by ((repeat' (first | rfl | exact zh5 | refine zn4 ?_ ?_ | refine zv8 ?_ | refine cv_c ?_ | refine zo4 ?_ ?_ | (refine zc6 ?_; (first | rfl | (simp [cloV, cloL, clo, zn, zm, zo, zk, zi]; done))) | (refine zd6 ?_; (first | rfl | (simp [cloV, cloL, clo, zn, zm, zo, zk, zi]; done))) | refine ze6 ?_ | (refine cvC_sl' (by rfl) (by rfl) (by rfl) (by rfl) ?_ ?_; (focus (first | rfl | (simp [cloV, cloL, clo, zn, zm, zo, zk, zi]; done))); (first | rfl | exact zd4 _)))) <;> exact rfl)) (hm : rofrV res = true := by (first | rfl | exact zs3 _ | (simp [rofrV, rofrVL, rofrL, rofr, zs3, zj4, zh4]; done))) (hopn : opV (100 * (t + 1)) res = (nv, nr) := by exact rfl) (hf : (nr.all fun p => Nat.ble gn p.1 && !us.contains p.1) = true := by exact rfl) (hc : chk dr ops i o ⟨args.flatMap snV ++ [], nr.map (fun p => (p.1, some p.2)), nr.map (·.1), nv⟩ H = true := by first | (with_reducible exact zf2) | kernel_rfl) : Walk Tryd.prog ops Q C dr H (i :: r) ⟨tm, hp, gn, us, L⟩ :=
  zg20 (100 * (t + 1)) hctr hop hoc hcal hd ht hg hfv hargs hcv hm hopn hf hc h
end
section
variable {ops : Array Oper} {Q : Exit → Act → World → Prop} {C : Ctx} {H H' : List (Nat × Oper × Inf)} {i : Nat} {r : List Nat} {o : Oper} {dr : Bool}
variable {tm : Nat → AV} {hp : Nat → Option Row} {gn L : Nat} {us : List Nat}
theorem zk21 {P : Program} {T ty : TypeId} {xo yo : Operand} {a b : ByteArray} (ho : o.op = .binOp .add T xo yo ty) (hT : P.underlying T = some .string) (hs : a.size + b.size ≤ 9223372036854775807) (ev : Operand → Value) (w : World) (hx : ev xo = .string a) (hy : ev yo = .string b) : (execOp ev o).run P w = .ok (.value (.string (a ++ b))) w := by
  unfold execOp
  rw [ho]
  simp only [hx, hy]
  simp [Sem.run_bind, binOp, eqGuard, run_underlying hT, run_string_add_sum w a b hs]
theorem zh12 {t : Nat} {T ty : TypeId} {xo yo : Operand} {a b : ByteArray} (h : Walk Tryd.prog ops Q C dr (keepH dr (i, o, ⟨fpO (AS.ev ⟨tm, hp, gn, us, L⟩) o, [], [], .c (.v (.string (a ++ b)))⟩) H) r ⟨upd tm t (.c (.v (.string (a ++ b)))), hp, gn, us, L⟩)
    (hop : ops[i]? = some o := by exact rfl) (ho : o.op = .binOp .add T xo yo ty := by exact rfl) (hT : (Tryd.prog).underlying T = some .string := by exact Tryd.underlying9) (hd : o.dst = some t := by exact rfl) (ht : Nat.blt t L = true := by exact rfl) (hg : gw ops tm o = some true := by exact rfl)
    (hx : AS.ev ⟨tm, hp, gn, us, L⟩ xo = .c (.v (.string a)) := by exact rfl) (hy : AS.ev ⟨tm, hp, gn, us, L⟩ yo = .c (.v (.string b)) := by exact rfl) (hs : a.size + b.size ≤ 9223372036854775807 := by first | omega | (simp only [ByteArray.size_append', ByteArray.size_mk', List.size_toArray, List.length_cons, List.length_nil]; omega))
    (hc : chk dr ops i o ⟨fpO (AS.ev ⟨tm, hp, gn, us, L⟩) o, [], [], .c (.v (.string (a ++ b)))⟩ H = true := by first | (with_reducible exact zf2) | kernel_rfl) : Walk Tryd.prog ops Q C dr H (i :: r) ⟨tm, hp, gn, us, L⟩ := by
  refine ⟨o, _, hop, zp6 (y := .string (a ++ b)) hop hg rfl fun ev w he => ?_, fun n hn => absurd hn List.not_mem_nil, zu4 hc, zw3 ?_⟩
  · have e : o.op.operands = #[xo, yo] := by rw [ho]; rfl
    exact zk21 ho hT hs ev w (he xo (by rw [e]; simp) _ (by rw [hx]; rfl)) (he yo (by rw [e]; simp) _ (by rw [hy]; rfl))
  · show Walk Tryd.prog ops Q C dr _ r (AS.put _ o.dst _)
    rw [hd, zf5 (by exact zy4 ht)]; exact h
def bytC (bs : List UInt8) : List AC := bs.map fun b => .v (.int .u8 b.toNat)
theorem zl (bs : List UInt8) : (bs.map fun b => AC.v (.int .u8 b.toNat)).all noUn = true := by
  rw [List.all_eq_true]
  intro c hc
  obtain ⟨b, _, rfl⟩ := List.mem_map.1 hc
  rfl
theorem zw8 : ∀ bs : List UInt8, bytesL ((bytC bs).map ld) = some bs
  | [] => rfl
  | b :: r => by
    have := zw8 r
    unfold bytC at this ⊢
    simp only [List.map_cons, ld, bytesL, this, Option.map_some, Int.toNat_natCast, UInt8.ofNat_toNat]
def convB (P : Program) (s d : TypeId) : Bool := match P.underlying s, P.underlying d with
  | some (.slice e), some .string => (match P.underlying e with | some (.int .u8) => true | _ => false)
  | _, _ => false
theorem zr18 {P : Program} {s d : TypeId} {hp : Nat → Option Row} {j n : Nat} {rw : Row} {bs : List UInt8} (hr : hp j = some rw) (h1 : rw.k = 1) (h2 : rw.n = n) (h3 : rw.box = false) (hcs : rw.cs = bytC bs) (hT : convB P s d = true) :
    aStr P hp s d (.c (.sl j n)) = some (.c (.v (.string ⟨bs.toArray⟩))) := by
  unfold convB at hT
  unfold aStr
  split at hT
  · rename_i e e1 e2
    rw [e1, e2]
    split at hT
    · rename_i e3
      simp only [e3, zx5 hr h1 h2 h3, hcs, zw8, Option.map_some]
    · cases hT
  · cases hT
theorem zi12 {t j n : Nat} {s d : TypeId} {xo : Operand} {rw : Row} {bs : List UInt8} (h : Walk Tryd.prog ops Q C dr (keepH dr (i, o, ⟨fpO (AS.ev ⟨tm, hp, gn, us, L⟩) o, [], [], .c (.v (.string ⟨bs.toArray⟩))⟩) H) r ⟨upd tm t (.c (.v (.string ⟨bs.toArray⟩))), hp, gn, us, L⟩)
    (hop : ops[i]? = some o := by exact rfl) (ho : o.op = .convert s d xo := by exact rfl) (hd : o.dst = some t := by exact rfl) (ht : Nat.blt t L = true := by exact rfl) (hg : gw ops tm o = some true := by exact rfl)
    (hx : AS.ev ⟨tm, hp, gn, us, L⟩ xo = .c (.sl j n) := by exact rfl) (hr : hp j = some rw := by exact rfl) (h1 : rw.k = 1 := by exact rfl) (h2 : rw.n = n := by exact rfl) (h3 : rw.box = false := by exact rfl) (hcs : rw.cs = bytC bs := by exact rfl) (hT : convB Tryd.prog s d = true := by kernel_rfl)
    (hc : chk dr ops i o ⟨fpO (AS.ev ⟨tm, hp, gn, us, L⟩) o, [], [], .c (.v (.string ⟨bs.toArray⟩))⟩ H = true := by first | (with_reducible exact zf2) | kernel_rfl) : Walk Tryd.prog ops Q C dr H (i :: r) ⟨tm, hp, gn, us, L⟩ := by
  refine zi5 h hop hd ht hg ?_ hc
  unfold EffD
  rw [ho]
  simp only [hx, zr18 hr h1 h2 h3 hcs hT, AV.val?, isStr]
  rw [if_neg (by simp)]
  rfl
def bytE (l : List E) : List UInt8 := l.map fun e => match e with | .int _ z => UInt8.ofNat z.toNat | _ => 0
theorem zo9 : ∀ {l : List E}, (∀ e ∈ l, ∃ z, e = .int .u8 z) → bytesL (acL l) = some (bytE l)
  | [], _ => rfl
  | e :: r, h => by
    obtain ⟨z, rfl⟩ := h e List.mem_cons_self
    have := zo9 (l := r) fun e he => h e (List.mem_cons_of_mem _ he)
    show bytesL (.v (.int .u8 z) :: acL r) = _
    simp only [bytesL, this, Option.map_some]
    rfl
theorem zs18 {P : Program} {s d : TypeId} {hp : Nat → Option Row} {n : Nat} {l : List E} (hl : ∀ e ∈ l, ∃ z, e = .int .u8 z) (hT : convB P s d = true) :
    aStr P hp s d (.c (.ro n 1 (acL l))) = some (.c (.v (.string ⟨(bytE l).toArray⟩))) := by
  unfold convB at hT
  unfold aStr
  split at hT
  · rename_i e e1 e2
    rw [e1, e2]
    split at hT
    · rename_i e3
      simp only [e3, srcOf, if_pos, zo9 hl, Option.map_some]
    · cases hT
  · cases hT
theorem zj12 {t n : Nat} {s d : TypeId} {xo : Operand} {l : List E} (h : Walk Tryd.prog ops Q C dr (keepH dr (i, o, ⟨fpO (AS.ev ⟨tm, hp, gn, us, L⟩) o, [], [], .c (.v (.string ⟨(bytE l).toArray⟩))⟩) H) r ⟨upd tm t (.c (.v (.string ⟨(bytE l).toArray⟩))), hp, gn, us, L⟩)
    (hop : ops[i]? = some o := by exact rfl) (ho : o.op = .convert s d xo := by exact rfl) (hd : o.dst = some t := by exact rfl) (ht : Nat.blt t L = true := by exact rfl) (hg : gw ops tm o = some true := by exact rfl)
    (hx : AS.ev ⟨tm, hp, gn, us, L⟩ xo = .c (.ro n 1 (acL l)) := by exact rfl) (hl : ∀ e ∈ l, ∃ z, e = .int .u8 z := by assumption) (hT : convB Tryd.prog s d = true := by kernel_rfl)
    (hc : chk dr ops i o ⟨fpO (AS.ev ⟨tm, hp, gn, us, L⟩) o, [], [], .c (.v (.string ⟨(bytE l).toArray⟩))⟩ H = true := by first | (with_reducible exact zf2) | kernel_rfl) : Walk Tryd.prog ops Q C dr H (i :: r) ⟨tm, hp, gn, us, L⟩ := by
  refine zi5 h hop hd ht hg ?_ hc
  unfold EffD
  rw [ho]
  simp only [hx, zs18 hl hT, AV.val?, isStr]
  rw [if_neg (by simp)]
  rfl
end
end Go.Proofs.YtnlgmojciplnoaaDoor
