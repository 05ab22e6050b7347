/- The abstract machine: strings put together. -/
import Derived.Laws.Concat
import Derived.Laws.Strings3
import Derived.Laws.DeepStrings4
import Derived.Test.YtghljnfbbaklnaaDoorMachOutcomeF
namespace Go.Proofs.YtghljnfbbaklnaaDoor
open Go.RowKit
set_option maxRecDepth 100000
section
variable {ops : Array Oper} {Q : Exit → Act → World → Prop} {C : Ctx} {H H' : List (Nat × Oper × Inf)} {i : Nat} {r : List Nat} {o : Oper} {dr : Bool}
variable {tm : Nat → AV} {hp : Nat → Option Row} {gn L : Nat} {us : List Nat}
theorem zl14 {P : Program} {T ty : TypeId} {xo yo : Operand} {a b : ByteArray} (ho : o.op = .binOp .add T xo yo ty) (hT : P.underlying T = some .string) (hs : a.size + b.size ≤ 9223372036854775807) (ev : Operand → Value) (w : World) (hx : ev xo = .string a) (hy : ev yo = .string b) : (execOp ev o).run P w = .ok (.value (.string (a ++ b))) w := by
  unfold execOp
  rw [ho]
  simp only [hx, hy]
  simp [Sem.run_bind, binOp, eqGuard, run_underlying hT, run_string_add_sum w a b hs]
theorem zt6 {t : Nat} {T ty : TypeId} {xo yo : Operand} {a b : ByteArray} (h : Walk Tryd.prog ops Q C dr (keepH dr (i, o, ⟨fpO (AS.ev ⟨tm, hp, gn, us, L⟩) o, [], [], .c (.v (.string (a ++ b)))⟩) H) r ⟨upd tm t (.c (.v (.string (a ++ b)))), hp, gn, us, L⟩)
    (hop : ops[i]? = some o := by exact rfl) (ho : o.op = .binOp .add T xo yo ty := by exact rfl) (hT : (Tryd.prog).underlying T = some .string := by exact Tryd.underlying9) (hd : o.dst = some t := by exact rfl) (ht : Nat.blt t L = true := by exact rfl) (hg : gw ops tm o = some true := by exact rfl)
    (hx : AS.ev ⟨tm, hp, gn, us, L⟩ xo = .c (.v (.string a)) := by exact rfl) (hy : AS.ev ⟨tm, hp, gn, us, L⟩ yo = .c (.v (.string b)) := by exact rfl) (hs : a.size + b.size ≤ 9223372036854775807 := by first | omega | (simp only [ByteArray.size_append', ByteArray.size_mk', List.size_toArray, List.length_cons, List.length_nil]; omega))
    (hc : chk dr ops i o ⟨fpO (AS.ev ⟨tm, hp, gn, us, L⟩) o, [], [], .c (.v (.string (a ++ b)))⟩ H = true := by first | (with_reducible exact zl1) | kernel_rfl) : Walk Tryd.prog ops Q C dr H (i :: r) ⟨tm, hp, gn, us, L⟩ := by
  refine ⟨o, _, hop, zk14 (y := .string (a ++ b)) hop hg rfl fun ev w he => ?_, fun n hn => absurd hn List.not_mem_nil, zc3 hc, za2 ?_⟩
  · have e : o.op.operands = #[xo, yo] := by rw [ho]; rfl
    exact zl14 ho hT hs ev w (he xo (by rw [e]; simp) _ (by rw [hx]; rfl)) (he yo (by rw [e]; simp) _ (by rw [hy]; rfl))
  · show Walk Tryd.prog ops Q C dr _ r (AS.put _ o.dst _)
    rw [hd, zp4 (by exact zx3 ht)]; exact h
def bytC (bs : List UInt8) : List AC := bs.map fun b => .v (.int .u8 b.toNat)
theorem zq (bs : List UInt8) : (bs.map fun b => AC.v (.int .u8 b.toNat)).all noUn = true := by
  rw [List.all_eq_true]
  intro c hc
  obtain ⟨b, _, rfl⟩ := List.mem_map.1 hc
  rfl
theorem zt4 : ∀ bs : List UInt8, bytesL ((bytC bs).map ld) = some bs
  | [] => rfl
  | b :: r => by
    have := zt4 r
    unfold bytC at this ⊢
    simp only [List.map_cons, ld, bytesL, this, Option.map_some, Int.toNat_natCast, UInt8.ofNat_toNat]
def convB (P : Program) (s d : TypeId) : Bool := match P.underlying s, P.underlying d with
  | some (.slice e), some .string => (match P.underlying e with | some (.int .u8) => true | _ => false)
  | _, _ => false
theorem zz12 {P : Program} {s d : TypeId} {hp : Nat → Option Row} {j n : Nat} {rw : Row} {bs : List UInt8} (hr : hp j = some rw) (h1 : rw.k = 1) (h2 : rw.n = n) (h3 : rw.box = false) (hcs : rw.cs = bytC bs) (hT : convB P s d = true) :
    aStr P hp s d (.c (.sl j n)) = some (.c (.v (.string ⟨bs.toArray⟩))) := by
  unfold convB at hT
  unfold aStr
  split at hT
  · rename_i e e1 e2
    rw [e1, e2]
    split at hT
    · rename_i e3
      simp only [e3, zr5 hr h1 h2 h3, hcs, zt4, Option.map_some]
    · cases hT
  · cases hT
theorem zu6 {t j n : Nat} {s d : TypeId} {xo : Operand} {rw : Row} {bs : List UInt8} (h : Walk Tryd.prog ops Q C dr (keepH dr (i, o, ⟨fpO (AS.ev ⟨tm, hp, gn, us, L⟩) o, [], [], .c (.v (.string ⟨bs.toArray⟩))⟩) H) r ⟨upd tm t (.c (.v (.string ⟨bs.toArray⟩))), hp, gn, us, L⟩)
    (hop : ops[i]? = some o := by exact rfl) (ho : o.op = .convert s d xo := by exact rfl) (hd : o.dst = some t := by exact rfl) (ht : Nat.blt t L = true := by exact rfl) (hg : gw ops tm o = some true := by exact rfl)
    (hx : AS.ev ⟨tm, hp, gn, us, L⟩ xo = .c (.sl j n) := by exact rfl) (hr : hp j = some rw := by exact rfl) (h1 : rw.k = 1 := by exact rfl) (h2 : rw.n = n := by exact rfl) (h3 : rw.box = false := by exact rfl) (hcs : rw.cs = bytC bs := by exact rfl) (hT : convB Tryd.prog s d = true := by kernel_rfl)
    (hc : chk dr ops i o ⟨fpO (AS.ev ⟨tm, hp, gn, us, L⟩) o, [], [], .c (.v (.string ⟨bs.toArray⟩))⟩ H = true := by first | (with_reducible exact zl1) | kernel_rfl) : Walk Tryd.prog ops Q C dr H (i :: r) ⟨tm, hp, gn, us, L⟩ := by
  refine zr4 h hop hd ht hg ?_ hc
  unfold EffD
  rw [ho]
  simp only [hx, zz12 hr h1 h2 h3 hcs hT, AV.val?, isStr]
  rw [if_neg (by simp)]
  rfl
def bytE (l : List E) : List UInt8 := l.map fun e => match e with | .int _ z => UInt8.ofNat z.toNat | _ => 0
theorem zh5 : ∀ {l : List E}, (∀ e ∈ l, ∃ z, e = .int .u8 z) → bytesL (acL l) = some (bytE l)
  | [], _ => rfl
  | e :: r, h => by
    obtain ⟨z, rfl⟩ := h e List.mem_cons_self
    have := zh5 (l := r) fun e he => h e (List.mem_cons_of_mem _ he)
    show bytesL (.v (.int .u8 z) :: acL r) = _
    simp only [bytesL, this, Option.map_some]
    rfl
theorem za13 {P : Program} {s d : TypeId} {hp : Nat → Option Row} {n : Nat} {l : List E} (hl : ∀ e ∈ l, ∃ z, e = .int .u8 z) (hT : convB P s d = true) :
    aStr P hp s d (.c (.ro n 1 (acL l))) = some (.c (.v (.string ⟨(bytE l).toArray⟩))) := by
  unfold convB at hT
  unfold aStr
  split at hT
  · rename_i e e1 e2
    rw [e1, e2]
    split at hT
    · rename_i e3
      simp only [e3, srcOf, if_pos, zh5 hl, Option.map_some]
    · cases hT
  · cases hT
theorem zv6 {t n : Nat} {s d : TypeId} {xo : Operand} {l : List E} (h : Walk Tryd.prog ops Q C dr (keepH dr (i, o, ⟨fpO (AS.ev ⟨tm, hp, gn, us, L⟩) o, [], [], .c (.v (.string ⟨(bytE l).toArray⟩))⟩) H) r ⟨upd tm t (.c (.v (.string ⟨(bytE l).toArray⟩))), hp, gn, us, L⟩)
    (hop : ops[i]? = some o := by exact rfl) (ho : o.op = .convert s d xo := by exact rfl) (hd : o.dst = some t := by exact rfl) (ht : Nat.blt t L = true := by exact rfl) (hg : gw ops tm o = some true := by exact rfl)
    (hx : AS.ev ⟨tm, hp, gn, us, L⟩ xo = .c (.ro n 1 (acL l)) := by exact rfl) (hl : ∀ e ∈ l, ∃ z, e = .int .u8 z := by assumption) (hT : convB Tryd.prog s d = true := by kernel_rfl)
    (hc : chk dr ops i o ⟨fpO (AS.ev ⟨tm, hp, gn, us, L⟩) o, [], [], .c (.v (.string ⟨(bytE l).toArray⟩))⟩ H = true := by first | (with_reducible exact zl1) | kernel_rfl) : Walk Tryd.prog ops Q C dr H (i :: r) ⟨tm, hp, gn, us, L⟩ := by
  refine zr4 h hop hd ht hg ?_ hc
  unfold EffD
  rw [ho]
  simp only [hx, za13 hl hT, AV.val?, isStr]
  rw [if_neg (by simp)]
  rfl
end
section
variable {ops : Array Oper} {Q : Exit → Act → World → Prop} {C : Ctx} {H H' : List (Nat × Oper × Inf)} {i : Nat} {r : List Nat} {o : Oper} {dr : Bool}
variable {tm : Nat → AV} {hp : Nat → Option Row} {gn L : Nat} {us : List Nat}
end
section
variable {P : Program} {Q : Exit → AS → Prop} {σ : AS}
end
structure WalkO (P : Program) (ops : Array Oper) (Q : Exit → Act → World → Prop) (C : Ctx) (dr : Bool) (H : List (Nat × Oper × Inf)) (i : Nat) (o : Oper) (r : List Nat) (σ : AS) : Prop where
  h : ops[i]? = some o → Walk P ops Q C dr H (i :: r) σ
section
variable {ops : Array Oper} {Q : Exit → Act → World → Prop} {C : Ctx} {H H' : List (Nat × Oper × Inf)} {i : Nat} {r : List Nat} {dr : Bool}
variable {tm : Nat → AV} {hp : Nat → Option Row} {gn L : Nat} {us : List Nat}
end
section
variable {P : Program} {S T : TypeId} {f off n : Nat}
def fldB (P : Program) (S : TypeId) (f off : Nat) : Bool := match fldOf P S f with | some fl => (P.info? fl.type).isSome && !(Nat.beq (P.cellsOf fl.type) 0) && Nat.beq fl.offset off | none => false
class FldI (P : Program) (S : TypeId) (f : Nat) (off : outParam Nat) : Prop where
  h : fldB P S f off = true
def oneTB (P : Program) (T : TypeId) : Bool := match P.underlying T, P.info? T with | some d, some i => Nat.beq i.size 1 && !(aggD d) && Nat.beq (P.cellsOf T) 1 | _, _ => false
class OneI (P : Program) (T : TypeId) : Prop where
  h : oneTB P T = true
def aggTB (P : Program) (T : TypeId) (n : Nat) : Bool := match P.underlying T, P.info? T with | some d, some i => Nat.beq i.size n && aggD d && Nat.beq (P.cellsOf T) n | _, _ => false
class AggI (P : Program) (T : TypeId) (n : outParam Nat) : Prop where
  h : aggTB P T n = true
class StrI (P : Program) (T : TypeId) : Prop where
  h : (match P.underlying T with | some .string => true | _ => false) = true
class SlcI (P : Program) (T : TypeId) : Prop where
  h : (match P.underlying T with | some (.slice _) => true | _ => false) = true
end
instance : OneI Tryd.prog 3 := ⟨by kernel_rfl⟩
instance : OneI Tryd.prog 4 := ⟨by kernel_rfl⟩
instance : OneI Tryd.prog 5 := ⟨by kernel_rfl⟩
instance : OneI Tryd.prog 9 := ⟨by kernel_rfl⟩
instance : StrI Tryd.prog 9 := ⟨by kernel_rfl⟩
instance : OneI Tryd.prog 15 := ⟨by kernel_rfl⟩
instance : OneI Tryd.prog 16 := ⟨by kernel_rfl⟩
instance : OneI Tryd.prog 17 := ⟨by kernel_rfl⟩
instance : OneI Tryd.prog 22 := ⟨by kernel_rfl⟩
instance : SlcI Tryd.prog 22 := ⟨by kernel_rfl⟩
instance : FldI Tryd.prog 24 0 0 := ⟨by kernel_rfl⟩
instance : AggI Tryd.prog 24 1 := ⟨by kernel_rfl⟩
instance : OneI Tryd.prog 25 := ⟨by kernel_rfl⟩
instance : SlcI Tryd.prog 25 := ⟨by kernel_rfl⟩
instance : OneI Tryd.prog 26 := ⟨by kernel_rfl⟩
instance : SlcI Tryd.prog 26 := ⟨by kernel_rfl⟩
instance : OneI Tryd.prog 27 := ⟨by kernel_rfl⟩
instance : SlcI Tryd.prog 27 := ⟨by kernel_rfl⟩
instance : OneI Tryd.prog 28 := ⟨by kernel_rfl⟩
instance : SlcI Tryd.prog 28 := ⟨by kernel_rfl⟩
instance : FldI Tryd.prog 30 0 0 := ⟨by kernel_rfl⟩
instance : FldI Tryd.prog 30 1 1 := ⟨by kernel_rfl⟩
instance : AggI Tryd.prog 30 2 := ⟨by kernel_rfl⟩
instance : OneI Tryd.prog 31 := ⟨by kernel_rfl⟩
instance : SlcI Tryd.prog 31 := ⟨by kernel_rfl⟩
instance : FldI Tryd.prog 33 0 0 := ⟨by kernel_rfl⟩
instance : FldI Tryd.prog 33 1 1 := ⟨by kernel_rfl⟩
instance : FldI Tryd.prog 33 2 2 := ⟨by kernel_rfl⟩
instance : FldI Tryd.prog 33 3 3 := ⟨by kernel_rfl⟩
instance : FldI Tryd.prog 33 4 4 := ⟨by kernel_rfl⟩
instance : FldI Tryd.prog 33 5 6 := ⟨by kernel_rfl⟩
instance : FldI Tryd.prog 33 6 7 := ⟨by kernel_rfl⟩
instance : FldI Tryd.prog 33 7 8 := ⟨by kernel_rfl⟩
instance : FldI Tryd.prog 33 8 9 := ⟨by kernel_rfl⟩
instance : FldI Tryd.prog 33 9 10 := ⟨by kernel_rfl⟩
instance : FldI Tryd.prog 33 10 11 := ⟨by kernel_rfl⟩
instance : FldI Tryd.prog 33 11 12 := ⟨by kernel_rfl⟩
instance : AggI Tryd.prog 33 13 := ⟨by kernel_rfl⟩
instance : OneI Tryd.prog 36 := ⟨by kernel_rfl⟩
instance : SlcI Tryd.prog 36 := ⟨by kernel_rfl⟩
instance : FldI Tryd.prog 38 0 0 := ⟨by kernel_rfl⟩
instance : AggI Tryd.prog 38 1 := ⟨by kernel_rfl⟩
instance : OneI Tryd.prog 39 := ⟨by kernel_rfl⟩
instance : SlcI Tryd.prog 39 := ⟨by kernel_rfl⟩
instance : OneI Tryd.prog 40 := ⟨by kernel_rfl⟩
instance : SlcI Tryd.prog 40 := ⟨by kernel_rfl⟩
instance : FldI Tryd.prog 41 0 0 := ⟨by kernel_rfl⟩
instance : FldI Tryd.prog 41 1 1 := ⟨by kernel_rfl⟩
instance : AggI Tryd.prog 41 2 := ⟨by kernel_rfl⟩
instance : FldI Tryd.prog 43 0 0 := ⟨by kernel_rfl⟩
instance : FldI Tryd.prog 43 1 1 := ⟨by kernel_rfl⟩
instance : FldI Tryd.prog 43 2 2 := ⟨by kernel_rfl⟩
instance : FldI Tryd.prog 43 3 3 := ⟨by kernel_rfl⟩
instance : FldI Tryd.prog 43 4 4 := ⟨by kernel_rfl⟩
instance : FldI Tryd.prog 43 5 6 := ⟨by kernel_rfl⟩
instance : FldI Tryd.prog 43 6 7 := ⟨by kernel_rfl⟩
instance : FldI Tryd.prog 43 7 8 := ⟨by kernel_rfl⟩
instance : FldI Tryd.prog 43 8 9 := ⟨by kernel_rfl⟩
instance : FldI Tryd.prog 43 9 10 := ⟨by kernel_rfl⟩
instance : FldI Tryd.prog 43 10 11 := ⟨by kernel_rfl⟩
instance : FldI Tryd.prog 43 11 12 := ⟨by kernel_rfl⟩
instance : AggI Tryd.prog 43 13 := ⟨by kernel_rfl⟩
instance : OneI Tryd.prog 54 := ⟨by kernel_rfl⟩
instance : SlcI Tryd.prog 54 := ⟨by kernel_rfl⟩
instance : OneI Tryd.prog 55 := ⟨by kernel_rfl⟩
instance : SlcI Tryd.prog 55 := ⟨by kernel_rfl⟩
instance : FldI Tryd.prog 57 0 0 := ⟨by kernel_rfl⟩
instance : FldI Tryd.prog 57 1 1 := ⟨by kernel_rfl⟩
instance : AggI Tryd.prog 57 2 := ⟨by kernel_rfl⟩
instance : FldI Tryd.prog 59 0 0 := ⟨by kernel_rfl⟩
instance : FldI Tryd.prog 59 1 2 := ⟨by kernel_rfl⟩
instance : FldI Tryd.prog 59 2 4 := ⟨by kernel_rfl⟩
instance : FldI Tryd.prog 59 3 5 := ⟨by kernel_rfl⟩
instance : FldI Tryd.prog 59 4 6 := ⟨by kernel_rfl⟩
instance : FldI Tryd.prog 59 5 7 := ⟨by kernel_rfl⟩
instance : FldI Tryd.prog 59 6 8 := ⟨by kernel_rfl⟩
instance : FldI Tryd.prog 59 7 9 := ⟨by kernel_rfl⟩
instance : FldI Tryd.prog 59 8 10 := ⟨by kernel_rfl⟩
instance : AggI Tryd.prog 59 11 := ⟨by kernel_rfl⟩
instance : OneI Tryd.prog 75 := ⟨by kernel_rfl⟩
instance : SlcI Tryd.prog 75 := ⟨by kernel_rfl⟩
instance : FldI Tryd.prog 77 0 0 := ⟨by kernel_rfl⟩
instance : AggI Tryd.prog 77 1 := ⟨by kernel_rfl⟩
instance : OneI Tryd.prog 79 := ⟨by kernel_rfl⟩
instance : SlcI Tryd.prog 79 := ⟨by kernel_rfl⟩
instance : OneI Tryd.prog 80 := ⟨by kernel_rfl⟩
instance : SlcI Tryd.prog 80 := ⟨by kernel_rfl⟩
instance : OneI Tryd.prog 81 := ⟨by kernel_rfl⟩
instance : SlcI Tryd.prog 81 := ⟨by kernel_rfl⟩
instance : FldI Tryd.prog 83 0 0 := ⟨by kernel_rfl⟩
instance : FldI Tryd.prog 83 1 1 := ⟨by kernel_rfl⟩
instance : FldI Tryd.prog 83 2 2 := ⟨by kernel_rfl⟩
instance : FldI Tryd.prog 83 3 3 := ⟨by kernel_rfl⟩
instance : FldI Tryd.prog 83 4 4 := ⟨by kernel_rfl⟩
instance : FldI Tryd.prog 83 5 5 := ⟨by kernel_rfl⟩
instance : AggI Tryd.prog 83 6 := ⟨by kernel_rfl⟩
instance : OneI Tryd.prog 87 := ⟨by kernel_rfl⟩
instance : SlcI Tryd.prog 87 := ⟨by kernel_rfl⟩
instance : FldI Tryd.prog 89 0 0 := ⟨by kernel_rfl⟩
instance : AggI Tryd.prog 89 1 := ⟨by kernel_rfl⟩
instance : OneI Tryd.prog 91 := ⟨by kernel_rfl⟩
instance : SlcI Tryd.prog 91 := ⟨by kernel_rfl⟩
instance : OneI Tryd.prog 92 := ⟨by kernel_rfl⟩
instance : SlcI Tryd.prog 92 := ⟨by kernel_rfl⟩
instance : OneI Tryd.prog 93 := ⟨by kernel_rfl⟩
instance : SlcI Tryd.prog 93 := ⟨by kernel_rfl⟩
instance : FldI Tryd.prog 95 0 0 := ⟨by kernel_rfl⟩
instance : FldI Tryd.prog 95 1 1 := ⟨by kernel_rfl⟩
instance : FldI Tryd.prog 95 2 2 := ⟨by kernel_rfl⟩
instance : FldI Tryd.prog 95 3 3 := ⟨by kernel_rfl⟩
instance : FldI Tryd.prog 95 4 4 := ⟨by kernel_rfl⟩
instance : FldI Tryd.prog 95 5 5 := ⟨by kernel_rfl⟩
instance : AggI Tryd.prog 95 6 := ⟨by kernel_rfl⟩
instance : FldI Tryd.prog 104 0 0 := ⟨by kernel_rfl⟩
instance : FldI Tryd.prog 104 1 1 := ⟨by kernel_rfl⟩
instance : FldI Tryd.prog 104 2 2 := ⟨by kernel_rfl⟩
instance : AggI Tryd.prog 104 3 := ⟨by kernel_rfl⟩
instance : FldI Tryd.prog 106 0 0 := ⟨by kernel_rfl⟩
instance : FldI Tryd.prog 106 1 1 := ⟨by kernel_rfl⟩
instance : AggI Tryd.prog 106 4 := ⟨by kernel_rfl⟩
instance : FldI Tryd.prog 111 0 0 := ⟨by kernel_rfl⟩
instance : FldI Tryd.prog 111 1 1 := ⟨by kernel_rfl⟩
instance : FldI Tryd.prog 111 2 2 := ⟨by kernel_rfl⟩
instance : AggI Tryd.prog 111 3 := ⟨by kernel_rfl⟩
instance : FldI Tryd.prog 113 0 0 := ⟨by kernel_rfl⟩
instance : FldI Tryd.prog 113 1 1 := ⟨by kernel_rfl⟩
instance : AggI Tryd.prog 113 4 := ⟨by kernel_rfl⟩
instance : FldI Tryd.prog 127 0 0 := ⟨by kernel_rfl⟩
instance : FldI Tryd.prog 127 1 1 := ⟨by kernel_rfl⟩
instance : AggI Tryd.prog 127 2 := ⟨by kernel_rfl⟩
instance : FldI Tryd.prog 130 0 0 := ⟨by kernel_rfl⟩
instance : FldI Tryd.prog 130 1 1 := ⟨by kernel_rfl⟩
instance : AggI Tryd.prog 130 2 := ⟨by kernel_rfl⟩
instance : FldI Tryd.prog 132 0 0 := ⟨by kernel_rfl⟩
instance : FldI Tryd.prog 132 1 1 := ⟨by kernel_rfl⟩
instance : AggI Tryd.prog 132 2 := ⟨by kernel_rfl⟩
instance : FldI Tryd.prog 135 0 0 := ⟨by kernel_rfl⟩
instance : FldI Tryd.prog 135 1 1 := ⟨by kernel_rfl⟩
instance : AggI Tryd.prog 135 2 := ⟨by kernel_rfl⟩
instance : FldI Tryd.prog 137 0 0 := ⟨by kernel_rfl⟩
instance : FldI Tryd.prog 137 1 1 := ⟨by kernel_rfl⟩
instance : AggI Tryd.prog 137 2 := ⟨by kernel_rfl⟩
instance : FldI Tryd.prog 139 0 0 := ⟨by kernel_rfl⟩
instance : FldI Tryd.prog 139 1 1 := ⟨by kernel_rfl⟩
instance : FldI Tryd.prog 139 2 2 := ⟨by kernel_rfl⟩
instance : FldI Tryd.prog 139 3 3 := ⟨by kernel_rfl⟩
instance : FldI Tryd.prog 139 4 4 := ⟨by kernel_rfl⟩
instance : AggI Tryd.prog 139 5 := ⟨by kernel_rfl⟩
instance : FldI Tryd.prog 141 0 0 := ⟨by kernel_rfl⟩
instance : FldI Tryd.prog 141 1 1 := ⟨by kernel_rfl⟩
instance : FldI Tryd.prog 141 2 2 := ⟨by kernel_rfl⟩
instance : FldI Tryd.prog 141 3 3 := ⟨by kernel_rfl⟩
instance : FldI Tryd.prog 141 4 4 := ⟨by kernel_rfl⟩
instance : AggI Tryd.prog 141 5 := ⟨by kernel_rfl⟩
instance : FldI Tryd.prog 142 0 0 := ⟨by kernel_rfl⟩
instance : FldI Tryd.prog 142 1 1 := ⟨by kernel_rfl⟩
instance : AggI Tryd.prog 142 2 := ⟨by kernel_rfl⟩
instance : OneI Tryd.prog 177 := ⟨by kernel_rfl⟩
instance : FldI Tryd.prog 183 0 0 := ⟨by kernel_rfl⟩
instance : FldI Tryd.prog 183 1 1 := ⟨by kernel_rfl⟩
instance : AggI Tryd.prog 183 4 := ⟨by kernel_rfl⟩
instance : OneI Tryd.prog 184 := ⟨by kernel_rfl⟩
instance : SlcI Tryd.prog 184 := ⟨by kernel_rfl⟩
instance : FldI Tryd.prog 186 0 0 := ⟨by kernel_rfl⟩
instance : FldI Tryd.prog 186 1 1 := ⟨by kernel_rfl⟩
instance : AggI Tryd.prog 186 2 := ⟨by kernel_rfl⟩
instance : FldI Tryd.prog 189 0 0 := ⟨by kernel_rfl⟩
instance : FldI Tryd.prog 189 1 1 := ⟨by kernel_rfl⟩
instance : AggI Tryd.prog 189 4 := ⟨by kernel_rfl⟩
section
variable {ops : Array Oper} {Q : Exit → Act → World → Prop} {C : Ctx} {H H' : List (Nat × Oper × Inf)} {i : Nat} {r : List Nat} {dr : Bool}
variable {tm : Nat → AV} {hp : Nat → Option Row} {gn L : Nat} {us : List Nat}
end
section
variable {P : Program} {ops : Array Oper} {Q : Exit → Act → World → Prop} {C : Ctx} {H : List (Nat × Oper × Inf)} {i : Nat} {r : List Nat} {dr : Bool} {σ : AS} {ty : TypeId} {ps : String} {af : Array Edge}
end
theorem zb4 {z : Int} (h0 : -9223372036854775808 ≤ z) (h : z ≤ 9223372036854775807) : IntKind.i64.wrap z = z := by
  rw [IntKind.wrap_i64]; omega
theorem zb13 (k : Nat) : (-(k : Int)).tdiv 10 = -((k / 10 : Nat) : Int) := by rw [Int.neg_tdiv]; rfl
theorem zc13 (k : Nat) : (-(k : Int)).tmod 10 = -((k % 10 : Nat) : Int) := by rw [Int.neg_tmod]; rfl
theorem zd9 {k : Nat} (h : 0 < k) : numT (-(k : Int)) = ⟨(45 :: Lib.decDigits k).toArray⟩ := by
  unfold numT Lib.itoa
  rw [if_pos (by omega)]
  simp
theorem zc4 (k : Nat) : numT (k : Int) = ⟨(Lib.decDigits k).toArray⟩ := by
  unfold numT Lib.itoa
  rw [if_neg (by omega)]
  simp
theorem zx7 {k : Nat} (h : ¬ k < 10) : Lib.decDigits k = Lib.decDigits (k / 10) ++ [UInt8.ofNat (48 + k % 10)] := by
  rw [Lib.decDigits, dif_neg h]
theorem zh3 {k : Nat} (h : k < 10) : Lib.decDigits k = [UInt8.ofNat (48 + k)] := by
  rw [Lib.decDigits, dif_pos h]
theorem zl3 {n : Int} (h0 : -9223372036854775808 ≤ n) (h1 : n ≤ 9223372036854775807) : (numT n).size ≤ 20 := by
  have key : ∀ (f k : Nat), k < 10 ^ (f + 1) → (Lib.decDigits k).length ≤ f + 1 := by
    intro f
    induction f with
    | zero => intro k hk; rw [zh3 (by simpa using hk)]; simp
    | succ f ih =>
      intro k hk
      by_cases h : k < 10
      · rw [zh3 h]; simp
      · rw [zx7 h, List.length_append]
        have := ih (k / 10) (by rw [Nat.pow_succ] at hk; omega)
        simp only [List.length_cons, List.length_nil]; omega
  unfold numT Lib.itoa
  show (List.toArray _).size ≤ 20
  rw [List.size_toArray]
  split
  · have := key 18 n.natAbs (by omega)
    rw [List.length_cons]; omega
  · have := key 18 n.toNat (by omega)
    omega
theorem u8of {z : Int} {d : Nat} (e : z = ((48 + d : Nat) : Int)) (h : d < 10) : UInt8.ofNat (IntKind.u8.wrap (IntKind.i64.wrap z)).toNat = UInt8.ofNat (48 + d) := by
  subst e
  rw [zb4 (by omega) (by omega), IntKind.wrap_u8]
  have : (((48 + d : Nat) : Int) % 256).toNat = 48 + d := by omega
  rw [this]
theorem zi15 (x : List UInt8) (b : UInt8) : (ByteArray.mk #[45]) ++ ⟨x.toArray⟩ ++ ⟨[b].toArray⟩ = ⟨(45 :: (x ++ [b])).toArray⟩ := by
  rw [show (ByteArray.mk #[45]) = ⟨[45].toArray⟩ from rfl, ByteArray.mk_append_mk, ByteArray.mk_append_mk]; rfl
theorem zt11 (m : Nat) : ∀ n : Int, n.natAbs ≤ m → -9223372036854775808 ≤ n → n ≤ 9223372036854775807 → Ctr Tryd.prog 33 [.c (.v (.int .i64 n))] [] (.c (.v (.string (numT n)))) [] := by
  induction m using Nat.strongRecOn with
  | _ m ih =>
  intro n hm h0 h1
  rcases Int.lt_or_le n (-9) with h | h
  · obtain ⟨k, rfl⟩ : ∃ k : Nat, n = -(k : Int) := ⟨n.natAbs, by omega⟩
    have hc := ih (k / 10) (by omega) ((k / 10 : Nat) : Int) (by omega) (by omega) (by omega)
    clear ih
    have e1 : IntKind.i64.wrap (0 - IntKind.i64.wrap ((-(k : Int)).tdiv 10)) = ((k / 10 : Nat) : Int) := by
      rw [zb13, zb4 (z := -((k / 10 : Nat) : Int)) (by omega) (by omega), zb4 (by omega) (by omega)]; omega
    have hc' : Ctr Tryd.prog 33 [.c (.v (.int .i64 (IntKind.i64.wrap (0 - IntKind.i64.wrap ((-(k : Int)).tdiv 10)))))] [] (.c (.v (.string (numT ((k / 10 : Nat) : Int))))) [] := by rw [e1]; exact hc
    clear hc
    refine zg3 Tryd.func33 rfl rfl ?_
    have hz := zl3 (n := ((k / 10 : Nat) : Int)) (by omega) (by omega)
    repeat' (first | refine zq2 ?_ | refine zm1 ?_ | refine zw1 ?_ | refine zx1 ?_ | refine zw fun C => ?_ | refine zy (by kernel_rfl) (by kernel_rfl) fun C => ?_ | refine zz1 ?_ | (refine x_gm ?_ ?_ <;> intro hG <;> (try cases hG)) | refine zr4 ?_ | refine zu6 ?_ | refine zv6 ?_ | refine x_bs ?_ | refine x_gr ?_ | refine x_st ?_ | refine x_mv ?_ | refine x_sk ?_ | refine zs5 ?_ | refine x_ix ?_ | refine zt5 ?_ | refine zu5 ?_ | refine zv2 ?_ | refine zv2 (hnu := zq _) ?_ | refine zu1 ?_ | refine zu1 (hnu := zq _) ?_ | refine x_ld ?_ | refine zt6 ?_ | refine zr11 ?_ | (refine zy1 (by rfl) ?_ ?_ <;> intro hC <;> (try cases hC)))
    all_goals first
      | (exfalso; clear hc' e1; simp at *; omega)
      | skip
    refine zp2 ?_
    refine ret0 rfl zv5 ⟨?_, rfl⟩
    refine congrArg (fun s => AV.c (AC.v (Value.string s))) ?_
    rw [u8of (d := k % 10) (by rw [zc13]; omega) (by omega), zc4, zi15, zd9 (by omega), zx7 (k := k) (by omega)]
  · rcases Int.lt_or_le n 0 with h2 | h2
    · obtain ⟨k, rfl⟩ : ∃ k : Nat, n = -(k : Int) := ⟨n.natAbs, by omega⟩
      clear ih
      refine zg3 Tryd.func33 rfl rfl ?_
      repeat' (first | refine zq2 ?_ | refine zm1 ?_ | refine zw1 ?_ | refine zx1 ?_ | refine zw fun C => ?_ | refine zy (by kernel_rfl) (by kernel_rfl) fun C => ?_ | refine zz1 ?_ | (refine x_gm ?_ ?_ <;> intro hG <;> (try cases hG)) | refine zr4 ?_ | refine zu6 ?_ | refine zv6 ?_ | refine x_bs ?_ | refine x_gr ?_ | refine x_st ?_ | refine x_mv ?_ | refine x_sk ?_ | refine zs5 ?_ | refine x_ix ?_ | refine zt5 ?_ | refine zu5 ?_ | refine zv2 ?_ | refine zv2 (hnu := zq _) ?_ | refine zu1 ?_ | refine zu1 (hnu := zq _) ?_ | refine x_ld ?_ | refine zt6 ?_ | refine zr11 ?_ | (refine zy1 (by rfl) ?_ ?_ <;> intro hC <;> (try cases hC)))
      all_goals first
        | (exfalso; simp at *; omega)
        | skip
      refine zp2 ?_
      refine ret0 rfl zv5 ⟨?_, rfl⟩
      refine congrArg (fun s => AV.c (AC.v (Value.string s))) ?_
      rw [u8of (d := k) (by omega) (by omega), zd9 (by omega), zh3 (k := k) (by omega)]; rfl
    · obtain ⟨k, rfl⟩ : ∃ k : Nat, n = (k : Int) := ⟨n.natAbs, by omega⟩
      rcases Nat.lt_or_ge k 10 with h3 | h3
      · clear ih
        refine zg3 Tryd.func33 rfl rfl ?_
        repeat' (first | refine zq2 ?_ | refine zm1 ?_ | refine zw1 ?_ | refine zx1 ?_ | refine zw fun C => ?_ | refine zy (by kernel_rfl) (by kernel_rfl) fun C => ?_ | refine zz1 ?_ | (refine x_gm ?_ ?_ <;> intro hG <;> (try cases hG)) | refine zr4 ?_ | refine zu6 ?_ | refine zv6 ?_ | refine x_bs ?_ | refine x_gr ?_ | refine x_st ?_ | refine x_mv ?_ | refine x_sk ?_ | refine zs5 ?_ | refine x_ix ?_ | refine zt5 ?_ | refine zu5 ?_ | refine zv2 ?_ | refine zv2 (hnu := zq _) ?_ | refine zu1 ?_ | refine zu1 (hnu := zq _) ?_ | refine x_ld ?_ | refine zt6 ?_ | refine zr11 ?_ | (refine zy1 (by rfl) ?_ ?_ <;> intro hC <;> (try cases hC)))
        all_goals first
          | (exfalso; simp at *; omega)
          | skip
        refine zp2 ?_
        refine ret0 rfl zv5 ⟨?_, rfl⟩
        refine congrArg (fun s => AV.c (AC.v (Value.string s))) ?_
        rw [u8of (d := k) (by omega) (by omega), zc4, zh3 (k := k) (by omega)]
      · have hc := ih (k / 10) (by omega) ((k / 10 : Nat) : Int) (by omega) (by omega) (by omega)
        clear ih
        have e1 : IntKind.i64.wrap ((k : Int).tdiv 10) = ((k / 10 : Nat) : Int) := by
          rw [show ((k : Int).tdiv 10) = ((k / 10 : Nat) : Int) from rfl, zb4 (by omega) (by omega)]
        have hc' : Ctr Tryd.prog 33 [.c (.v (.int .i64 (IntKind.i64.wrap ((k : Int).tdiv 10))))] [] (.c (.v (.string (numT ((k / 10 : Nat) : Int))))) [] := by rw [e1]; exact hc
        clear hc
        refine zg3 Tryd.func33 rfl rfl ?_
        have hz := zl3 (n := ((k / 10 : Nat) : Int)) (by omega) (by omega)
        repeat' (first | refine zq2 ?_ | refine zm1 ?_ | refine zw1 ?_ | refine zx1 ?_ | refine zw fun C => ?_ | refine zy (by kernel_rfl) (by kernel_rfl) fun C => ?_ | refine zz1 ?_ | (refine x_gm ?_ ?_ <;> intro hG <;> (try cases hG)) | refine zr4 ?_ | refine zu6 ?_ | refine zv6 ?_ | refine x_bs ?_ | refine x_gr ?_ | refine x_st ?_ | refine x_mv ?_ | refine x_sk ?_ | refine zs5 ?_ | refine x_ix ?_ | refine zt5 ?_ | refine zu5 ?_ | refine zv2 ?_ | refine zv2 (hnu := zq _) ?_ | refine zu1 ?_ | refine zu1 (hnu := zq _) ?_ | refine x_ld ?_ | refine zt6 ?_ | refine zr11 ?_ | (refine zy1 (by rfl) ?_ ?_ <;> intro hC <;> (try cases hC)))
        all_goals first
          | (exfalso; clear hc' e1; simp at *; omega)
          | skip
        refine zp2 ?_
        refine ret0 rfl zv5 ⟨?_, rfl⟩
        refine congrArg (fun s => AV.c (AC.v (Value.string s))) ?_
        rw [u8of (d := k % 10) (by rw [show ((k : Int).tmod 10) = ((k % 10 : Nat) : Int) from rfl]; omega) (by omega), zc4, zc4, zx7 (k := k) (by omega)]
        exact ByteArray.mk_append_mk _ _
end Go.Proofs.YtghljnfbbaklnaaDoor
