/- The abstract machine: rows with one open slice in them, tidied; guards split. -/
import Derived.Laws.Concat
import Derived.Laws.Strings3
import Derived.Laws.DeepStrings4
import Derived.Test.YtghljnfbbaklnaaVarsE
namespace Go.Proofs.Ytghljnfbbaklnaa
open Go.RowKit
theorem zn14 {ρ : Nat → Option Nat} : ∀ {P Q P' Q' : List AC}, rnL ρ P = some P' → rnL ρ Q = some Q' → rnL ρ (P ++ Q) = some (P' ++ Q')
  | [], Q, P', Q', h, k => by simp only [rnL, Option.some.injEq] at h; subst h; exact k
  | c :: P, Q, P', Q', h, k => by
    simp only [rnL] at h
    split at h
    · rename_i c' r' h1 h2
      injection h with h; subst h
      simp only [List.cons_append, rnL, h1, zn14 h2 k]
    · cases h
theorem ze4 {ρ : Nat → Option Nat} {y : Option Row} {T : TypeId} {k m : Nat} {b : Bool} {P Q : List AC} {i j n : Nat} (h : y = some ⟨T, k, m, b, P ++ .sl i n :: Q⟩) (hρ : ρ i = some j) (hP : cloL P = true) (hQ : cloL Q = true) :
    ∃ r', y = some r' ∧ ((cloL r'.cs = true ∧ (⟨T, k, m, b, P ++ .sl j n :: Q⟩ : Row) = r') ∨ ∃ cs', rnL ρ r'.cs = some cs' ∧ (⟨T, k, m, b, P ++ .sl j n :: Q⟩ : Row) = { r' with cs := cs' }) := by
  refine ⟨_, h, .inr ⟨P ++ .sl j n :: Q, ?_, rfl⟩⟩
  refine zn14 (zj9 P hP) ?_
  simp [rnL, rnC, hρ, zj9 Q hQ]
section
variable {P : Program} {ops : Array Oper} {Q : Exit → Act → World → Prop} {C : Ctx} {H : List (Nat × Oper × Inf)} {i : Nat} {r : List Nat} {o : Oper} {dr : Bool}
variable {tm : Nat → AV} {hp : Nat → Option Row} {gn L : Nat} {us : List Nat}
def gdL (i : Nat) : List Oper → Bool
  | [] => false
  | o :: r => match o.guard with | some (g, _) => Nat.beq g i || gdL i r | none => gdL i r
end
section
variable {ops : Array Oper} {Q : Exit → Act → World → Prop} {C : Ctx} {H H' : List (Nat × Oper × Inf)} {i : Nat} {r : List Nat} {o : Oper} {dr : Bool}
variable {tm : Nat → AV} {hp : Nat → Option Row} {gn L : Nat} {us : List Nat} {x : AV}
theorem x_gm {t : Nat} {b : Bool} (h1 : b = true → Walk Try.prog ops Q C dr (keepH dr (i, o, ⟨fpO (AS.ev ⟨tm, hp, gn, us, L⟩) o, [], [], .c (.v (.bool true))⟩) H) r ⟨upd tm t (.c (.v (.bool true))), hp, gn, us, L⟩)
    (h2 : b = false → Walk Try.prog ops Q C dr (keepH dr (i, o, ⟨fpO (AS.ev ⟨tm, hp, gn, us, L⟩) o, [], [], .c (.v (.bool false))⟩) H) r ⟨upd tm t (.c (.v (.bool false))), hp, gn, us, L⟩)
    (hop : ops[i]? = some o := by exact rfl) (hgd : gdL i ops.toList = true := by exact rfl) (hd : o.dst = some t := by exact rfl) (ht : Nat.blt t L = true := by exact rfl) (hg : gw ops tm o = some true := by exact rfl) (he : EffD Try.prog o (AS.ev ⟨tm, hp, gn, us, L⟩) hp 0 = some (.c (.v (.bool b)), .nop) := by rfl)
    (hc1 : chk dr ops i o ⟨fpO (AS.ev ⟨tm, hp, gn, us, L⟩) o, [], [], .c (.v (.bool true))⟩ H = true := by first | (with_reducible exact zk1) | kernel_rfl) (hc2 : chk dr ops i o ⟨fpO (AS.ev ⟨tm, hp, gn, us, L⟩) o, [], [], .c (.v (.bool false))⟩ H = true := by first | (with_reducible exact zk1) | kernel_rfl) : Walk Try.prog ops Q C dr H (i :: r) ⟨tm, hp, gn, us, L⟩ :=
  zw19 hop hd ht hg he hc1 hc2 h1 h2
theorem zg16 {t : Nat} {c : Call} {fv : Operand} {f : FuncId} {caps : List AC} {args ins : List AV} {res : AV} {nv : AV} {nr : List (Nat × Row)}
    (h : Walk Try.prog ops Q C dr (keepH dr (i, o, ⟨args.flatMap snV ++ [], nr.map (fun p => (p.1, some p.2)), nr.map (·.1), nv⟩) H) r ⟨upd tm t nv, updL hp (nr.map (fun p => (p.1, some p.2))), gn, nr.map (·.1) ++ us, L⟩) (hop : ops[i]? = some o := by exact rfl) (hoc : o.op = .call c := by exact rfl) (hcal : c.callee = .value fv := by exact rfl) (hd : o.dst = some t := by exact rfl) (ht : Nat.blt t L = true := by exact rfl) (hg : gw ops tm o = some true := by exact rfl) (hfv : AS.ev ⟨tm, hp, gn, us, L⟩ fv = .c (.fn f caps) := by exact rfl) (hctr : Ctr Try.prog f ins [] res [] := by assumption) (hargs : callArgs ⟨tm, hp, gn, us, L⟩ c caps = args := by exact rfl) (hcv : args.map (cvV hp []) = ins := by ((repeat' (first | rfl | exact zw4 | refine zg4 ?_ ?_ | refine zv6 ?_ | refine cv_c ?_ | refine zh4 ?_ ?_ | (refine zo5 ?_; (first | rfl | (simp [cloV, cloL, clo, zo, zn, zp, zm, zk]; done))) | (refine zp5 ?_; (first | rfl | (simp [cloV, cloL, clo, zo, zn, zp, zm, zk]; done))) | refine zq5 ?_ | (refine cvC_sl' (by rfl) (by rfl) (by rfl) (by rfl) ?_ ?_; (focus (first | rfl | (simp [cloV, cloL, clo, zo, zn, zp, zm, zk]; done))); (first | rfl | exact zu3 _)))) <;> exact rfl)) (hm : rofrV res = true := by (first | rfl | exact zf2 _ | (simp [rofrV, rofrVL, rofrL, rofr, zf2, zq3, zm3]; done))) (hopn : opV (100 * (t + 1)) res = (nv, nr) := by exact rfl) (hf : (nr.all fun p => Nat.ble gn p.1 && !us.contains p.1) = true := by exact rfl) (hc : chk dr ops i o ⟨args.flatMap snV ++ [], nr.map (fun p => (p.1, some p.2)), nr.map (·.1), nv⟩ H = true := by first | (with_reducible exact zk1) | kernel_rfl) : Walk Try.prog ops Q C dr H (i :: r) ⟨tm, hp, gn, us, L⟩ :=
  zl14 (100 * (t + 1)) hctr hop hoc hcal hd ht hg hfv hargs hcv hm hopn hf hc h
theorem zt20 {t : Nat} {c : Call} {fv : Operand} {f : FuncId} {caps : List AC} {args ins : List AV} {res : AV} {nv : AV} {nr : List (Nat × Row)} (hctr : Ctr Try.prog f ins [] res [])
    (h : Walk Try.prog ops Q C dr (keepH dr (i, o, ⟨args.flatMap snV ++ [], nr.map (fun p => (p.1, some p.2)), nr.map (·.1), nv⟩) H) r ⟨upd tm t nv, updL hp (nr.map (fun p => (p.1, some p.2))), gn, nr.map (·.1) ++ us, L⟩) (hop : ops[i]? = some o := by exact rfl) (hoc : o.op = .call c := by exact rfl) (hcal : c.callee = .value fv := by exact rfl) (hd : o.dst = some t := by exact rfl) (ht : Nat.blt t L = true := by exact rfl) (hg : gw ops tm o = some true := by exact rfl) (hfv : AS.ev ⟨tm, hp, gn, us, L⟩ fv = .c (.fn f caps) := by exact rfl) (hargs : callArgs ⟨tm, hp, gn, us, L⟩ c caps = args := by exact rfl) (hcv : args.map (cvV hp []) = ins := by ((repeat' (first | rfl | exact zw4 | refine zg4 ?_ ?_ | refine zv6 ?_ | refine cv_c ?_ | refine zh4 ?_ ?_ | (refine zo5 ?_; (first | rfl | (simp [cloV, cloL, clo, zo, zn, zp, zm, zk]; done))) | (refine zp5 ?_; (first | rfl | (simp [cloV, cloL, clo, zo, zn, zp, zm, zk]; done))) | refine zq5 ?_ | (refine cvC_sl' (by rfl) (by rfl) (by rfl) (by rfl) ?_ ?_; (focus (first | rfl | (simp [cloV, cloL, clo, zo, zn, zp, zm, zk]; done))); (first | rfl | exact zu3 _)))) <;> exact rfl)) (hm : rofrV res = true := by (first | rfl | exact zf2 _ | (simp [rofrV, rofrVL, rofrL, rofr, zf2, zq3, zm3]; done))) (hopn : opV (100 * (t + 1)) res = (nv, nr) := by exact rfl) (hf : (nr.all fun p => Nat.ble gn p.1 && !us.contains p.1) = true := by exact rfl) (hc : chk dr ops i o ⟨args.flatMap snV ++ [], nr.map (fun p => (p.1, some p.2)), nr.map (·.1), nv⟩ H = true := by first | (with_reducible exact zk1) | kernel_rfl) : Walk Try.prog ops Q C dr H (i :: r) ⟨tm, hp, gn, us, L⟩ :=
  zl14 (100 * (t + 1)) hctr hop hoc hcal hd ht hg hfv hargs hcv hm hopn hf hc h
end
set_option maxRecDepth 100000
section
variable {ops : Array Oper} {Q : Exit → Act → World → Prop} {C : Ctx} {H H' : List (Nat × Oper × Inf)} {i : Nat} {r : List Nat} {o : Oper} {dr : Bool}
variable {tm : Nat → AV} {hp : Nat → Option Row} {gn L : Nat} {us : List Nat}
theorem zr18 {P : Program} {T ty : TypeId} {xo yo : Operand} {a b : ByteArray} (ho : o.op = .binOp .add T xo yo ty) (hT : P.underlying T = some .string) (hs : a.size + b.size ≤ 9223372036854775807) (ev : Operand → Value) (w : World) (hx : ev xo = .string a) (hy : ev yo = .string b) : (execOp ev o).run P w = .ok (.value (.string (a ++ b))) w := by
  unfold execOp
  rw [ho]
  simp only [hx, hy]
  simp [Sem.run_bind, binOp, eqGuard, run_underlying hT, run_string_add_sum w a b hs]
theorem zo14 {t : Nat} {T ty : TypeId} {xo yo : Operand} {a b : ByteArray} (h : Walk Try.prog ops Q C dr (keepH dr (i, o, ⟨fpO (AS.ev ⟨tm, hp, gn, us, L⟩) o, [], [], .c (.v (.string (a ++ b)))⟩) H) r ⟨upd tm t (.c (.v (.string (a ++ b)))), hp, gn, us, L⟩)
    (hop : ops[i]? = some o := by exact rfl) (ho : o.op = .binOp .add T xo yo ty := by exact rfl) (hT : (Try.prog).underlying T = some .string := by exact Try.underlying9) (hd : o.dst = some t := by exact rfl) (ht : Nat.blt t L = true := by exact rfl) (hg : gw ops tm o = some true := by exact rfl)
    (hx : AS.ev ⟨tm, hp, gn, us, L⟩ xo = .c (.v (.string a)) := by exact rfl) (hy : AS.ev ⟨tm, hp, gn, us, L⟩ yo = .c (.v (.string b)) := by exact rfl) (hs : a.size + b.size ≤ 9223372036854775807 := by first | omega | (simp only [ByteArray.size_append', ByteArray.size_mk', List.size_toArray, List.length_cons, List.length_nil]; omega))
    (hc : chk dr ops i o ⟨fpO (AS.ev ⟨tm, hp, gn, us, L⟩) o, [], [], .c (.v (.string (a ++ b)))⟩ H = true := by first | (with_reducible exact zk1) | kernel_rfl) : Walk Try.prog ops Q C dr H (i :: r) ⟨tm, hp, gn, us, L⟩ := by
  refine ⟨o, _, hop, zs10 (y := .string (a ++ b)) hop hg rfl fun ev w he => ?_, fun n hn => absurd hn List.not_mem_nil, zf5 hc, zb4 ?_⟩
  · have e : o.op.operands = #[xo, yo] := by rw [ho]; rfl
    exact zr18 ho hT hs ev w (he xo (by rw [e]; simp) _ (by rw [hx]; rfl)) (he yo (by rw [e]; simp) _ (by rw [hy]; rfl))
  · show Walk Try.prog ops Q C dr _ r (AS.put _ o.dst _)
    rw [hd, zn5 (by exact zk5 ht)]; exact h
def bytC (bs : List UInt8) : List AC := bs.map fun b => .v (.int .u8 b.toNat)
theorem zg (bs : List UInt8) : (bs.map fun b => AC.v (.int .u8 b.toNat)).all noUn = true := by
  rw [List.all_eq_true]
  intro c hc
  obtain ⟨b, _, rfl⟩ := List.mem_map.1 hc
  rfl
theorem zp7 : ∀ bs : List UInt8, bytesL ((bytC bs).map ld) = some bs
  | [] => rfl
  | b :: r => by
    have := zp7 r
    unfold bytC at this ⊢
    simp only [List.map_cons, ld, bytesL, this, Option.map_some, Int.toNat_natCast, UInt8.ofNat_toNat]
def convB (P : Program) (s d : TypeId) : Bool := match P.underlying s, P.underlying d with
  | some (.slice e), some .string => (match P.underlying e with | some (.int .u8) => true | _ => false)
  | _, _ => false
theorem zh16 {P : Program} {s d : TypeId} {hp : Nat → Option Row} {j n : Nat} {rw : Row} {bs : List UInt8} (hr : hp j = some rw) (h1 : rw.k = 1) (h2 : rw.n = n) (h3 : rw.box = false) (hcs : rw.cs = bytC bs) (hT : convB P s d = true) :
    aStr P hp s d (.c (.sl j n)) = some (.c (.v (.string ⟨bs.toArray⟩))) := by
  unfold convB at hT
  unfold aStr
  split at hT
  · rename_i e e1 e2
    rw [e1, e2]
    split at hT
    · rename_i e3
      simp only [e3, zm5 hr h1 h2 h3, hcs, zp7, Option.map_some]
    · cases hT
  · cases hT
theorem zp14 {t j n : Nat} {s d : TypeId} {xo : Operand} {rw : Row} {bs : List UInt8} (h : Walk Try.prog ops Q C dr (keepH dr (i, o, ⟨fpO (AS.ev ⟨tm, hp, gn, us, L⟩) o, [], [], .c (.v (.string ⟨bs.toArray⟩))⟩) H) r ⟨upd tm t (.c (.v (.string ⟨bs.toArray⟩))), hp, gn, us, L⟩)
    (hop : ops[i]? = some o := by exact rfl) (ho : o.op = .convert s d xo := by exact rfl) (hd : o.dst = some t := by exact rfl) (ht : Nat.blt t L = true := by exact rfl) (hg : gw ops tm o = some true := by exact rfl)
    (hx : AS.ev ⟨tm, hp, gn, us, L⟩ xo = .c (.sl j n) := by exact rfl) (hr : hp j = some rw := by exact rfl) (h1 : rw.k = 1 := by exact rfl) (h2 : rw.n = n := by exact rfl) (h3 : rw.box = false := by exact rfl) (hcs : rw.cs = bytC bs := by exact rfl) (hT : convB Try.prog s d = true := by kernel_rfl)
    (hc : chk dr ops i o ⟨fpO (AS.ev ⟨tm, hp, gn, us, L⟩) o, [], [], .c (.v (.string ⟨bs.toArray⟩))⟩ H = true := by first | (with_reducible exact zk1) | kernel_rfl) : Walk Try.prog ops Q C dr H (i :: r) ⟨tm, hp, gn, us, L⟩ := by
  refine zp1 h hop hd ht hg ?_ hc
  unfold EffD
  rw [ho]
  simp only [hx, zh16 hr h1 h2 h3 hcs hT, AV.val?, isStr]
  rw [if_neg (by simp)]
  rfl
def bytE (l : List E) : List UInt8 := l.map fun e => match e with | .int _ z => UInt8.ofNat z.toNat | _ => 0
theorem zb8 : ∀ {l : List E}, (∀ e ∈ l, ∃ z, e = .int .u8 z) → bytesL (acL l) = some (bytE l)
  | [], _ => rfl
  | e :: r, h => by
    obtain ⟨z, rfl⟩ := h e List.mem_cons_self
    have := zb8 (l := r) fun e he => h e (List.mem_cons_of_mem _ he)
    show bytesL (.v (.int .u8 z) :: acL r) = _
    simp only [bytesL, this, Option.map_some]
    rfl
theorem zi16 {P : Program} {s d : TypeId} {hp : Nat → Option Row} {n : Nat} {l : List E} (hl : ∀ e ∈ l, ∃ z, e = .int .u8 z) (hT : convB P s d = true) :
    aStr P hp s d (.c (.ro n 1 (acL l))) = some (.c (.v (.string ⟨(bytE l).toArray⟩))) := by
  unfold convB at hT
  unfold aStr
  split at hT
  · rename_i e e1 e2
    rw [e1, e2]
    split at hT
    · rename_i e3
      simp only [e3, srcOf, if_pos, zb8 hl, Option.map_some]
    · cases hT
  · cases hT
theorem zq14 {t n : Nat} {s d : TypeId} {xo : Operand} {l : List E} (h : Walk Try.prog ops Q C dr (keepH dr (i, o, ⟨fpO (AS.ev ⟨tm, hp, gn, us, L⟩) o, [], [], .c (.v (.string ⟨(bytE l).toArray⟩))⟩) H) r ⟨upd tm t (.c (.v (.string ⟨(bytE l).toArray⟩))), hp, gn, us, L⟩)
    (hop : ops[i]? = some o := by exact rfl) (ho : o.op = .convert s d xo := by exact rfl) (hd : o.dst = some t := by exact rfl) (ht : Nat.blt t L = true := by exact rfl) (hg : gw ops tm o = some true := by exact rfl)
    (hx : AS.ev ⟨tm, hp, gn, us, L⟩ xo = .c (.ro n 1 (acL l)) := by exact rfl) (hl : ∀ e ∈ l, ∃ z, e = .int .u8 z := by assumption) (hT : convB Try.prog s d = true := by kernel_rfl)
    (hc : chk dr ops i o ⟨fpO (AS.ev ⟨tm, hp, gn, us, L⟩) o, [], [], .c (.v (.string ⟨(bytE l).toArray⟩))⟩ H = true := by first | (with_reducible exact zk1) | kernel_rfl) : Walk Try.prog ops Q C dr H (i :: r) ⟨tm, hp, gn, us, L⟩ := by
  refine zp1 h hop hd ht hg ?_ hc
  unfold EffD
  rw [ho]
  simp only [hx, zi16 hl hT, AV.val?, isStr]
  rw [if_neg (by simp)]
  rfl
end
section
variable {ops : Array Oper} {Q : Exit → Act → World → Prop} {C : Ctx} {H H' : List (Nat × Oper × Inf)} {i : Nat} {r : List Nat} {o : Oper} {dr : Bool}
variable {tm : Nat → AV} {hp : Nat → Option Row} {gn L : Nat} {us : List Nat}
def ariB : Op → Bool
  | .binOp .add .. => true
  | .binOp .sub .. => true
  | .binOp .mul .. => true
  | .convert .. => true
  | _ => false
theorem zj16 {t : Nat} {z : Int} (h : Walk Try.prog ops Q C dr (keepH dr (i, o, ⟨fpO (AS.ev ⟨tm, hp, gn, us, L⟩) o, [], [], .c (.v (.int .i64 z))⟩) H) r ⟨upd tm t (.c (.v (.int .i64 z))), hp, gn, us, L⟩)
    (hop : ops[i]? = some o := by exact rfl) (hb : ariB o.op = true := by exact rfl) (hd : o.dst = some t := by exact rfl) (ht : Nat.blt t L = true := by exact rfl) (hg : gw ops tm o = some true := by exact rfl)
    (he : EffD Try.prog o (AS.ev ⟨tm, hp, gn, us, L⟩) hp 0 = some (.c (.v (.int .i64 (IntKind.i64.wrap z))), .nop) := by rfl) (hz : -9223372036854775808 ≤ z ∧ z ≤ 9223372036854775807 := by omega)
    (hc : chk dr ops i o ⟨fpO (AS.ev ⟨tm, hp, gn, us, L⟩) o, [], [], .c (.v (.int .i64 z))⟩ H = true := by first | (with_reducible exact zk1) | kernel_rfl) : Walk Try.prog ops Q C dr H (i :: r) ⟨tm, hp, gn, us, L⟩ :=
  w_eq hop hd ht hg he (by rw [show IntKind.i64.wrap z = z by rw [IntKind.wrap_i64]; omega]) hc h
theorem zk16 {P : Program} {s d : TypeId} {xo : Operand} {k : IntKind} {c : Nat} (ho : o.op = .convert s d xo) (hs : P.underlying s = some (.int k)) (hd : P.underlying d = some .string) (hc : c < 128) (ev : Operand → Value) (w : World) (hx : ev xo = .int k (c : Int)) : (execOp ev o).run P w = .ok (.value (.string ⟨#[UInt8.ofNat c]⟩)) w := by
  unfold execOp
  rw [ho]
  have hv : Utf8.valid (c : Int) = true := by
    unfold Utf8.valid
    simp
    omega
  simp [Sem.run_bind, hx, convert, run_underlying hs, run_underlying hd, Conv.intToString, Utf8.encode, hv, show c < 128 from hc]
theorem zx19 {t c : Nat} {s d : TypeId} {xo : Operand} {k : IntKind} (h : Walk Try.prog ops Q C dr (keepH dr (i, o, ⟨fpO (AS.ev ⟨tm, hp, gn, us, L⟩) o, [], [], .c (.v (.string ⟨#[UInt8.ofNat c]⟩))⟩) H) r ⟨upd tm t (.c (.v (.string ⟨#[UInt8.ofNat c]⟩))), hp, gn, us, L⟩)
    (hop : ops[i]? = some o := by exact rfl) (ho : o.op = .convert s d xo := by exact rfl) (hd : o.dst = some t := by exact rfl) (ht : Nat.blt t L = true := by exact rfl) (hg : gw ops tm o = some true := by exact rfl)
    (hx : AS.ev ⟨tm, hp, gn, us, L⟩ xo = .c (.v (.int k (c : Int))) := by exact rfl) (hs : (Try.prog).underlying s = some (.int k) := by kernel_rfl) (hdd : (Try.prog).underlying d = some .string := by kernel_rfl) (hcl : c < 128 := by first | assumption | omega)
    (hc : chk dr ops i o ⟨fpO (AS.ev ⟨tm, hp, gn, us, L⟩) o, [], [], .c (.v (.string ⟨#[UInt8.ofNat c]⟩))⟩ H = true := by first | (with_reducible exact zk1) | kernel_rfl) : Walk Try.prog ops Q C dr H (i :: r) ⟨tm, hp, gn, us, L⟩ := by
  refine ⟨o, _, hop, zs10 (y := .string ⟨#[UInt8.ofNat c]⟩) hop hg rfl fun ev w he => ?_, fun n hn => absurd hn List.not_mem_nil, zf5 hc, zb4 ?_⟩
  · have e : o.op.operands = #[xo] := by rw [ho]; rfl
    exact zk16 ho hs hdd hcl ev w (he xo (by rw [e]; simp) _ (by rw [hx]; rfl))
  · show Walk Try.prog ops Q C dr _ r (AS.put _ o.dst _)
    rw [hd, zn5 (by exact zk5 ht)]; exact h
theorem zu20 {t : Nat} {c : Call} {fv : Operand} {f : FuncId} {caps : List AC} {args ins : List AV} {par : List AC} {rows : List (List AC)} {res : AV} {nv : AV} {nr : List (Nat × Row)} (lr : Nat) (hctr : Ctr Try.prog f ins [par] res rows) (h : Walk Try.prog ops Q C dr (keepH dr (i, o, callInf ⟨tm, hp, gn, us, L⟩ (args.flatMap snV) [lr] [] (100 * (t + 1)) res rows) H) r ⟨upd tm t nv, updL hp (backU hp [lr] rows ++ [] ++ nr.map (fun p => (p.1, some p.2))), gn, nr.map (·.1) ++ us, L⟩) (hop : ops[i]? = some o := by exact rfl) (hoc : o.op = .call c := by exact rfl) (hcal : c.callee = .value fv := by exact rfl) (hd : o.dst = some t := by exact rfl) (ht : Nat.blt t L = true := by exact rfl) (hg : gw ops tm o = some true := by exact rfl) (hfv : AS.ev ⟨tm, hp, gn, us, L⟩ fv = .c (.fn f caps) := by exact rfl) (hargs : callArgs ⟨tm, hp, gn, us, L⟩ c caps = args := by exact rfl) (hcv : args.map (cvV hp [lr]) = ins := by ((repeat' (first | rfl | exact zw4 | refine zg4 ?_ ?_ | refine zv6 ?_ | refine cv_c ?_ | refine zh4 ?_ ?_ | (refine zo5 ?_; (first | rfl | (simp [cloV, cloL, clo, zo, zn, zp, zm, zk]; done))) | (refine zp5 ?_; (first | rfl | (simp [cloV, cloL, clo, zo, zn, zp, zm, zk]; done))) | refine zq5 ?_ | (refine cvC_sl' (by rfl) (by rfl) (by rfl) (by rfl) ?_ ?_; (focus (first | rfl | (simp [cloV, cloL, clo, zo, zn, zp, zm, zk]; done))); (first | rfl | exact zu3 _)))) <;> exact rfl)) (hl : lend hp [lr] = some [par] := by exact zo1 (by rfl) (by first | rfl | (simp [cloV, cloL, clo, zo, zn, zp, zm, zk]; done))) (hRD : ((args.flatMap snV).all fun z => ![lr].contains z) = true := by exact rfl) (hmm : (rofrV res = true ∧ ∀ c ∈ rows, rofrL c = true) ∨ ((args.flatMap snV).all fun z => ([] : List Nat).contains z) = true := by first | exact .inr rfl | exact .inl ⟨by (first | rfl | exact zf2 _ | (simp [rofrV, rofrVL, rofrL, rofr, zf2, zq3, zm3]; done)), za7 (by (first | rfl | exact zf2 _ | (simp [rofrV, rofrVL, rofrL, rofr, zf2, zq3, zm3]; done)))⟩) (hopn : opV (100 * (t + 1)) res = (nv, nr) := by exact rfl) (hf : (nr.all fun p => Nat.ble gn p.1 && !us.contains p.1) = true := by exact rfl) (hc : chk dr ops i o (callInf ⟨tm, hp, gn, us, L⟩ (args.flatMap snV) [lr] [] (100 * (t + 1)) res rows) H = true := by first | (with_reducible exact zk1) | kernel_rfl) : Walk Try.prog ops Q C dr H (i :: r) ⟨tm, hp, gn, us, L⟩ :=
  zk11 (100 * (t + 1)) [lr] [] hop hoc hcal hd ht hg hfv hargs hl (by rw [hcv]; exact hctr) hRD rfl hmm hopn hf hc h
end
section
variable {P : Program} {Q : Exit → AS → Prop} {σ : AS}
theorem zp11 {tm : Nat → AV} {t : Nat} {x : AV} (h : tm t = x) : upd tm t x = tm := by
  funext j
  by_cases e : j = t
  · subst e; rw [zd1, h]
  · rw [zq1 _ _ e]
theorem zc2 {tm : Nat → AV} {hp : Nat → Option Row} {gn L : Nat} {us : List Nat} {x y : Code} {t : Nat} {b : Bool} (hc : tm t = .c (.v (.bool b))) (h1 : b = true → AWp P x Q ⟨upd tm t (.c (.v (.bool true))), hp, gn, us, L⟩) (h2 : b = false → AWp P y Q ⟨upd tm t (.c (.v (.bool false))), hp, gn, us, L⟩) : AWp P (.cond (.tmp t) x y) Q ⟨tm, hp, gn, us, L⟩ := by
  refine zd2 (t := b) hc (fun hb => ?_) fun hb => ?_
  · have := h1 hb
    rwa [zp11 (by rw [hc, hb])] at this
  · have := h2 hb
    rwa [zp11 (by rw [hc, hb])] at this
end
end Go.Proofs.Ytghljnfbbaklnaa
