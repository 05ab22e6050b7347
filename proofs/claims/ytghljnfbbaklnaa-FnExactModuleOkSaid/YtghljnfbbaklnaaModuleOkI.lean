/- The machine's rules for fields, loads and lengths, over facts of the types that are worked out once. -/
import Derived.Shelf.Lays
import Derived.Shelf.Strings.BuilderX
import Derived.Shelf.Small.Strs
import Derived.Shelf.Strings.OnBuilder
import Derived.Test.YtghljnfbbaklnaaModuleOkH
namespace Go.Proofs.Ytghljnfbbaklnaa
open Go.RowKit
set_option maxRecDepth 100000
section
variable {P : Program} {S T : TypeId} {f off n : Nat}
def fldB (P : Program) (S : TypeId) (f off : Nat) : Bool := match fldOf P S f with | some fl => (P.info? fl.type).isSome && !(Nat.beq (P.cellsOf fl.type) 0) && Nat.beq fl.offset off | none => false
class FldI (P : Program) (S : TypeId) (f : Nat) (off : outParam Nat) : Prop where
  h : fldB P S f off = true
def oneTB (P : Program) (T : TypeId) : Bool := match P.underlying T, P.info? T with | some d, some i => Nat.beq i.size 1 && !(aggD d) && Nat.beq (P.cellsOf T) 1 | _, _ => false
class OneI (P : Program) (T : TypeId) : Prop where
  h : oneTB P T = true
def aggTB (P : Program) (T : TypeId) (n : Nat) : Bool := match P.underlying T, P.info? T with | some d, some i => Nat.beq i.size n && aggD d && Nat.beq (P.cellsOf T) n | _, _ => false
class AggI (P : Program) (T : TypeId) (n : outParam Nat) : Prop where
  h : aggTB P T n = true
class StrI (P : Program) (T : TypeId) : Prop where
  h : (match P.underlying T with | some .string => true | _ => false) = true
class SlcI (P : Program) (T : TypeId) : Prop where
  h : (match P.underlying T with | some (.slice _) => true | _ => false) = true
theorem fld_to (h : fldB P S f off = true) : ∃ fl, fldOf P S f = some fl ∧ ((P.info? fl.type).isSome = true ∧ P.cellsOf fl.type ≠ 0) ∧ fl.offset = off := by
  unfold fldB at h
  split at h
  · rename_i fl e
    simp only [Bool.and_eq_true, Bool.not_eq_true'] at h
    refine ⟨fl, e, ⟨h.1.1, fun h0 => ?_⟩, Nat.eq_of_beq_eq_true h.2⟩
    rw [h0] at h; cases h.1.2
  · cases h
theorem zl12 (h : fldB P S f off = true) {i o : Nat} : aFieldAddr P S f (.c (.pt i o)) = some (.c (.pt i (o + off))) := by
  obtain ⟨fl, h1, h2, rfl⟩ := fld_to h
  unfold aFieldAddr
  rw [h1]
  simp only [if_pos h2]
theorem zm12 (h : fldB P S f off = true) {l : List AC} {o : Nat} : aFieldAddr P S f (.c (.rp l o)) = some (.c (.rp l (o + off))) := by
  obtain ⟨fl, h1, h2, rfl⟩ := fld_to h
  unfold aFieldAddr
  rw [h1]
  simp only [if_pos h2]
theorem one_to (h : oneTB P T = true) : P.cellsOf T = 1 ∧ ∀ c, mkAV P T [c] = some (.c (ld c)) := by
  unfold oneTB at h
  split at h
  · rename_i d i e1 e2
    simp only [Bool.and_eq_true, Bool.not_eq_true'] at h
    refine ⟨Nat.eq_of_beq_eq_true h.2, fun c => ?_⟩
    unfold mkAV
    rw [e1, e2]
    simp only [h.1.2, List.length_cons, List.length_nil, Nat.eq_of_beq_eq_true h.1.1, if_true, Bool.false_eq_true, if_false]
  · cases h
theorem agg_to (h : aggTB P T n = true) : P.cellsOf T = n ∧ ∀ cs : List AC, cs.length = n → mkAV P T cs = some (.ag (cs.map ld)) := by
  unfold aggTB at h
  split at h
  · rename_i d i e1 e2
    simp only [Bool.and_eq_true] at h
    refine ⟨Nat.eq_of_beq_eq_true h.2, fun cs hl => ?_⟩
    unfold mkAV
    rw [e1, e2]
    simp only [h.1.2, hl, Nat.eq_of_beq_eq_true h.1.1, if_true]
  · cases h
theorem zp16 {l : List AC} {o : Nat} {c : AC} (h : l[o]? = some c) : subL l o 1 = [c] := by
  unfold subL
  obtain ⟨ho, rfl⟩ := List.getElem?_eq_some_iff.1 h
  rw [List.drop_eq_getElem_cons ho]
  rfl
theorem zq16 {l : List AC} {n : Nat} (h : l.length = n) : subL l 0 n = l := by
  unfold subL
  rw [List.drop_zero, List.take_of_length_le (by omega)]
theorem zs20 {hp : Nat → Option Row} (h : oneTB P T = true) {i o : Nat} {rw_ : Row} {c : AC} (hr : hp i = some rw_) (hc : rw_.cs[o]? = some c) : aLoad P T hp (.c (.pt i o)) = some (.c (ld c)) := by
  obtain ⟨h1, h2⟩ := one_to h
  unfold aLoad
  simp only [hr, Option.bind_some, h1, zp16 hc, h2]
theorem zp17 {hp : Nat → Option Row} (h : oneTB P T = true) {l : List AC} {o : Nat} {c : AC} (hc : l[o]? = some c) : aLoad P T hp (.c (.rp l o)) = some (.c (ld c)) := by
  obtain ⟨h1, h2⟩ := one_to h
  unfold aLoad
  simp only [h1, zp16 hc, h2]
theorem zt20 {hp : Nat → Option Row} (h : aggTB P T n = true) {i : Nat} {rT : TypeId} {rk rn : Nat} {rb : Bool} {cs : List AC} (hr : hp i = some ⟨rT, rk, rn, rb, cs⟩) (hn : cs.length = n) : aLoad P T hp (.c (.pt i 0)) = some (.ag (cs.map ld)) := by
  obtain ⟨h1, h2⟩ := agg_to h
  unfold aLoad
  simp only [hr, Option.bind_some, h1, zq16 hn, h2 _ hn]
theorem zq17 {hp : Nat → Option Row} (h : aggTB P T n = true) {cs : List AC} (hn : cs.length = n) : aLoad P T hp (.c (.rp cs 0)) = some (.ag (cs.map ld)) := by
  obtain ⟨h1, h2⟩ := agg_to h
  unfold aLoad
  simp only [h1, zq16 hn, h2 _ hn]
theorem effLen_s {o : Oper} {ev : Operand → AV} {hp : Nat → Option Row} {id : Nat} {y : Operand} {s : ByteArray} (h : (match P.underlying T with | some .string => true | _ => false) = true) (hx : ev y = .c (.v (.string s))) : EffCallD P o ev hp id ⟨.builtin .len, #[y], #[T]⟩ = some (.c (.v (.int .i64 s.size)), .nop) := by
  show (if lenOk P T (ev y) = true then nop? (aLen (ev y)) else none) = _
  have : lenOk P T (ev y) = true := by
    unfold lenOk
    rw [hx]
    split at h
    · rename_i e; rw [e]; rfl
    · cases h
  rw [if_pos this, hx]
  rfl
theorem zr16 {o : Oper} {ev : Operand → AV} {hp : Nat → Option Row} {id : Nat} {y : Operand} {n : Nat} (h : (match P.underlying T with | some (.slice _) => true | _ => false) = true) (hx : isStr (ev y) = false) (hl : aLen (ev y) = some (.c (.v (.int .i64 n)))) : EffCallD P o ev hp id ⟨.builtin .len, #[y], #[T]⟩ = some (.c (.v (.int .i64 n)), .nop) := by
  show (if lenOk P T (ev y) = true then nop? (aLen (ev y)) else none) = _
  have : lenOk P T (ev y) = true := by
    unfold lenOk
    rw [hx]
    split at h
    · rename_i e; rw [e]; rfl
    · cases h
  rw [if_pos this, hl]
  rfl
end
instance : OneI Try.prog 3 := ⟨by kernel_rfl⟩
instance : OneI Try.prog 4 := ⟨by kernel_rfl⟩
instance : OneI Try.prog 5 := ⟨by kernel_rfl⟩
instance : OneI Try.prog 9 := ⟨by kernel_rfl⟩
instance : StrI Try.prog 9 := ⟨by kernel_rfl⟩
instance : OneI Try.prog 15 := ⟨by kernel_rfl⟩
instance : OneI Try.prog 16 := ⟨by kernel_rfl⟩
instance : OneI Try.prog 17 := ⟨by kernel_rfl⟩
instance : OneI Try.prog 22 := ⟨by kernel_rfl⟩
instance : SlcI Try.prog 22 := ⟨by kernel_rfl⟩
instance : OneI Try.prog 24 := ⟨by kernel_rfl⟩
instance : SlcI Try.prog 24 := ⟨by kernel_rfl⟩
instance : OneI Try.prog 25 := ⟨by kernel_rfl⟩
instance : SlcI Try.prog 25 := ⟨by kernel_rfl⟩
instance : FldI Try.prog 27 0 0 := ⟨by kernel_rfl⟩
instance : FldI Try.prog 27 1 1 := ⟨by kernel_rfl⟩
instance : AggI Try.prog 27 2 := ⟨by kernel_rfl⟩
instance : FldI Try.prog 29 0 0 := ⟨by kernel_rfl⟩
instance : FldI Try.prog 29 1 1 := ⟨by kernel_rfl⟩
instance : FldI Try.prog 29 2 2 := ⟨by kernel_rfl⟩
instance : AggI Try.prog 29 3 := ⟨by kernel_rfl⟩
instance : FldI Try.prog 34 0 0 := ⟨by kernel_rfl⟩
instance : FldI Try.prog 34 1 1 := ⟨by kernel_rfl⟩
instance : AggI Try.prog 34 4 := ⟨by kernel_rfl⟩
instance : OneI Try.prog 37 := ⟨by kernel_rfl⟩
instance : SlcI Try.prog 37 := ⟨by kernel_rfl⟩
instance : FldI Try.prog 39 0 0 := ⟨by kernel_rfl⟩
instance : AggI Try.prog 39 1 := ⟨by kernel_rfl⟩
instance : FldI Try.prog 46 0 0 := ⟨by kernel_rfl⟩
instance : FldI Try.prog 46 1 1 := ⟨by kernel_rfl⟩
instance : AggI Try.prog 46 4 := ⟨by kernel_rfl⟩
instance : OneI Try.prog 55 := ⟨by kernel_rfl⟩
instance : SlcI Try.prog 55 := ⟨by kernel_rfl⟩
instance : OneI Try.prog 58 := ⟨by kernel_rfl⟩
instance : SlcI Try.prog 58 := ⟨by kernel_rfl⟩
instance : OneI Try.prog 59 := ⟨by kernel_rfl⟩
instance : SlcI Try.prog 59 := ⟨by kernel_rfl⟩
instance : FldI Try.prog 61 0 0 := ⟨by kernel_rfl⟩
instance : FldI Try.prog 61 1 1 := ⟨by kernel_rfl⟩
instance : FldI Try.prog 61 2 2 := ⟨by kernel_rfl⟩
instance : FldI Try.prog 61 3 3 := ⟨by kernel_rfl⟩
instance : FldI Try.prog 61 4 4 := ⟨by kernel_rfl⟩
instance : AggI Try.prog 61 5 := ⟨by kernel_rfl⟩
instance : OneI Try.prog 64 := ⟨by kernel_rfl⟩
instance : SlcI Try.prog 64 := ⟨by kernel_rfl⟩
instance : OneI Try.prog 65 := ⟨by kernel_rfl⟩
instance : SlcI Try.prog 65 := ⟨by kernel_rfl⟩
instance : FldI Try.prog 67 0 0 := ⟨by kernel_rfl⟩
instance : FldI Try.prog 67 1 1 := ⟨by kernel_rfl⟩
instance : FldI Try.prog 67 2 2 := ⟨by kernel_rfl⟩
instance : FldI Try.prog 67 3 3 := ⟨by kernel_rfl⟩
instance : FldI Try.prog 67 4 4 := ⟨by kernel_rfl⟩
instance : AggI Try.prog 67 5 := ⟨by kernel_rfl⟩
instance : OneI Try.prog 71 := ⟨by kernel_rfl⟩
instance : OneI Try.prog 78 := ⟨by kernel_rfl⟩
instance : SlcI Try.prog 78 := ⟨by kernel_rfl⟩
instance : FldI Try.prog 80 0 0 := ⟨by kernel_rfl⟩
instance : FldI Try.prog 80 1 1 := ⟨by kernel_rfl⟩
instance : AggI Try.prog 80 2 := ⟨by kernel_rfl⟩
instance : FldI Try.prog 82 0 0 := ⟨by kernel_rfl⟩
instance : FldI Try.prog 82 1 1 := ⟨by kernel_rfl⟩
instance : AggI Try.prog 82 4 := ⟨by kernel_rfl⟩
instance : OneI Try.prog 87 := ⟨by kernel_rfl⟩
instance : OneI Try.prog 91 := ⟨by kernel_rfl⟩
instance : OneI Try.prog 94 := ⟨by kernel_rfl⟩
instance : OneI Try.prog 101 := ⟨by kernel_rfl⟩
instance : SlcI Try.prog 101 := ⟨by kernel_rfl⟩
instance : FldI Try.prog 103 0 0 := ⟨by kernel_rfl⟩
instance : FldI Try.prog 103 1 1 := ⟨by kernel_rfl⟩
instance : AggI Try.prog 103 2 := ⟨by kernel_rfl⟩
instance : FldI Try.prog 111 0 0 := ⟨by kernel_rfl⟩
instance : FldI Try.prog 111 1 1 := ⟨by kernel_rfl⟩
instance : AggI Try.prog 111 2 := ⟨by kernel_rfl⟩
instance : FldI Try.prog 117 0 0 := ⟨by kernel_rfl⟩
instance : FldI Try.prog 117 1 1 := ⟨by kernel_rfl⟩
instance : FldI Try.prog 117 2 2 := ⟨by kernel_rfl⟩
instance : AggI Try.prog 117 3 := ⟨by kernel_rfl⟩
instance : OneI Try.prog 124 := ⟨by kernel_rfl⟩
instance : SlcI Try.prog 124 := ⟨by kernel_rfl⟩
instance : FldI Try.prog 134 0 0 := ⟨by kernel_rfl⟩
instance : FldI Try.prog 134 1 1 := ⟨by kernel_rfl⟩
instance : FldI Try.prog 134 2 2 := ⟨by kernel_rfl⟩
instance : AggI Try.prog 134 3 := ⟨by kernel_rfl⟩
instance : OneI Try.prog 136 := ⟨by kernel_rfl⟩
instance : SlcI Try.prog 136 := ⟨by kernel_rfl⟩
instance : FldI Try.prog 138 0 0 := ⟨by kernel_rfl⟩
instance : FldI Try.prog 138 1 1 := ⟨by kernel_rfl⟩
instance : AggI Try.prog 138 2 := ⟨by kernel_rfl⟩
instance : OneI Try.prog 139 := ⟨by kernel_rfl⟩
instance : SlcI Try.prog 139 := ⟨by kernel_rfl⟩
instance : FldI Try.prog 141 0 0 := ⟨by kernel_rfl⟩
instance : FldI Try.prog 141 1 1 := ⟨by kernel_rfl⟩
instance : FldI Try.prog 141 2 2 := ⟨by kernel_rfl⟩
instance : AggI Try.prog 141 3 := ⟨by kernel_rfl⟩
instance : OneI Try.prog 156 := ⟨by kernel_rfl⟩
instance : FldI Try.prog 158 0 0 := ⟨by kernel_rfl⟩
instance : FldI Try.prog 158 1 1 := ⟨by kernel_rfl⟩
instance : FldI Try.prog 158 2 2 := ⟨by kernel_rfl⟩
instance : FldI Try.prog 158 3 3 := ⟨by kernel_rfl⟩
instance : AggI Try.prog 158 4 := ⟨by kernel_rfl⟩
instance : OneI Try.prog 162 := ⟨by kernel_rfl⟩
instance : FldI Try.prog 164 0 0 := ⟨by kernel_rfl⟩
instance : FldI Try.prog 164 1 1 := ⟨by kernel_rfl⟩
instance : FldI Try.prog 164 2 2 := ⟨by kernel_rfl⟩
instance : FldI Try.prog 164 3 3 := ⟨by kernel_rfl⟩
instance : AggI Try.prog 164 4 := ⟨by kernel_rfl⟩
instance : FldI Try.prog 171 0 0 := ⟨by kernel_rfl⟩
instance : FldI Try.prog 171 1 1 := ⟨by kernel_rfl⟩
instance : AggI Try.prog 171 2 := ⟨by kernel_rfl⟩
instance : OneI Try.prog 183 := ⟨by kernel_rfl⟩
instance : OneI Try.prog 193 := ⟨by kernel_rfl⟩
section
variable {ops : Array Oper} {Q : Exit → Act → World → Prop} {C : Ctx} {H H' : List (Nat × Oper × Inf)} {i : Nat} {r : List Nat} {dr : Bool}
variable {tm : Nat → AV} {hp : Nat → Option Row} {gn L : Nat} {us : List Nat}
theorem o_fa {t : Nat} {ty : TypeId} {gd : Option (Nat × Bool)} {ps : String} {af : Array Edge} {S : TypeId} {f : Nat} {p : Operand} {i0 o0 off : Nat} [hF : FldI Try.prog S f off] (h : Walk Try.prog ops Q C dr (keepH dr (i, (⟨some t, .fieldAddr S p f, ty, ps, af, gd⟩ : Oper), ⟨fpO (AS.ev ⟨tm, hp, gn, us, L⟩) (⟨some t, .fieldAddr S p f, ty, ps, af, gd⟩ : Oper), [], [], .c (.pt i0 (o0 + off))⟩) H) r ⟨upd tm t (.c (.pt i0 (o0 + off))), hp, gn, us, L⟩) (hx : AS.ev ⟨tm, hp, gn, us, L⟩ p = .c (.pt i0 o0) := by exact rfl) (ht : Nat.blt t L = true := by exact rfl) (hg : gw ops tm (⟨some t, .fieldAddr S p f, ty, ps, af, gd⟩ : Oper) = some true := by exact rfl) (hc : chk dr ops i (⟨some t, .fieldAddr S p f, ty, ps, af, gd⟩ : Oper) ⟨fpO (AS.ev ⟨tm, hp, gn, us, L⟩) (⟨some t, .fieldAddr S p f, ty, ps, af, gd⟩ : Oper), [], [], .c (.pt i0 (o0 + off))⟩ H = true := by first | (with_reducible exact zt2) | kernel_rfl) : WalkO Try.prog ops Q C dr H i (⟨some t, .fieldAddr S p f, ty, ps, af, gd⟩ : Oper) r ⟨tm, hp, gn, us, L⟩ := ⟨fun hop => zr3 h hop rfl ht hg (by show nop? (aFieldAddr _ S f (AS.ev ⟨tm, hp, gn, us, L⟩ p)) = _; rw [hx, zl12 hF.h]; rfl) hc⟩
theorem zb4 {t : Nat} {ty : TypeId} {gd : Option (Nat × Bool)} {ps : String} {af : Array Edge} {S : TypeId} {f : Nat} {p : Operand} {l : List AC} {o0 off : Nat} [hF : FldI Try.prog S f off] (h : Walk Try.prog ops Q C dr (keepH dr (i, (⟨some t, .fieldAddr S p f, ty, ps, af, gd⟩ : Oper), ⟨fpO (AS.ev ⟨tm, hp, gn, us, L⟩) (⟨some t, .fieldAddr S p f, ty, ps, af, gd⟩ : Oper), [], [], .c (.rp l (o0 + off))⟩) H) r ⟨upd tm t (.c (.rp l (o0 + off))), hp, gn, us, L⟩) (hx : AS.ev ⟨tm, hp, gn, us, L⟩ p = .c (.rp l o0) := by exact rfl) (ht : Nat.blt t L = true := by exact rfl) (hg : gw ops tm (⟨some t, .fieldAddr S p f, ty, ps, af, gd⟩ : Oper) = some true := by exact rfl) (hc : chk dr ops i (⟨some t, .fieldAddr S p f, ty, ps, af, gd⟩ : Oper) ⟨fpO (AS.ev ⟨tm, hp, gn, us, L⟩) (⟨some t, .fieldAddr S p f, ty, ps, af, gd⟩ : Oper), [], [], .c (.rp l (o0 + off))⟩ H = true := by first | (with_reducible exact zt2) | kernel_rfl) : WalkO Try.prog ops Q C dr H i (⟨some t, .fieldAddr S p f, ty, ps, af, gd⟩ : Oper) r ⟨tm, hp, gn, us, L⟩ := ⟨fun hop => zr3 h hop rfl ht hg (by show nop? (aFieldAddr _ S f (AS.ev ⟨tm, hp, gn, us, L⟩ p)) = _; rw [hx, zm12 hF.h]; rfl) hc⟩
theorem zc4 {t : Nat} {ty : TypeId} {gd : Option (Nat × Bool)} {ps : String} {af : Array Edge} {T : TypeId} {p : Operand} {i0 o0 : Nat} {rw : Row} {c : AC} [hF : OneI Try.prog T] (h : Walk Try.prog ops Q C dr (keepH dr (i, (⟨some t, .load T p, ty, ps, af, gd⟩ : Oper), ⟨fpO (AS.ev ⟨tm, hp, gn, us, L⟩) (⟨some t, .load T p, ty, ps, af, gd⟩ : Oper), [], [], .c c⟩) H) r ⟨upd tm t (.c c), hp, gn, us, L⟩) (hx : AS.ev ⟨tm, hp, gn, us, L⟩ p = .c (.pt i0 o0) := by exact rfl) (hr : hp i0 = some rw := by exact rfl) (hcs : rw.cs[o0]? = some c := by exact rfl) (hld : ld c = c := by exact rfl) (ht : Nat.blt t L = true := by exact rfl) (hg : gw ops tm (⟨some t, .load T p, ty, ps, af, gd⟩ : Oper) = some true := by exact rfl) (hc : chk dr ops i (⟨some t, .load T p, ty, ps, af, gd⟩ : Oper) ⟨fpO (AS.ev ⟨tm, hp, gn, us, L⟩) (⟨some t, .load T p, ty, ps, af, gd⟩ : Oper), [], [], .c c⟩ H = true := by first | (with_reducible exact zt2) | kernel_rfl) : WalkO Try.prog ops Q C dr H i (⟨some t, .load T p, ty, ps, af, gd⟩ : Oper) r ⟨tm, hp, gn, us, L⟩ := ⟨fun hop => zr3 h hop rfl ht hg (by show nop? (aLoad _ T hp (AS.ev ⟨tm, hp, gn, us, L⟩ p)) = _; rw [hx, zs20 hF.h hr hcs, hld]; rfl) hc⟩
theorem zz2 {t : Nat} {ty : TypeId} {gd : Option (Nat × Bool)} {ps : String} {af : Array Edge} {T : TypeId} {p : Operand} {l : List AC} {o0 : Nat} {c : AC} [hF : OneI Try.prog T] (h : Walk Try.prog ops Q C dr (keepH dr (i, (⟨some t, .load T p, ty, ps, af, gd⟩ : Oper), ⟨fpO (AS.ev ⟨tm, hp, gn, us, L⟩) (⟨some t, .load T p, ty, ps, af, gd⟩ : Oper), [], [], .c c⟩) H) r ⟨upd tm t (.c c), hp, gn, us, L⟩) (hx : AS.ev ⟨tm, hp, gn, us, L⟩ p = .c (.rp l o0) := by exact rfl) (hcs : l[o0]? = some c := by exact rfl) (hld : ld c = c := by exact rfl) (ht : Nat.blt t L = true := by exact rfl) (hg : gw ops tm (⟨some t, .load T p, ty, ps, af, gd⟩ : Oper) = some true := by exact rfl) (hc : chk dr ops i (⟨some t, .load T p, ty, ps, af, gd⟩ : Oper) ⟨fpO (AS.ev ⟨tm, hp, gn, us, L⟩) (⟨some t, .load T p, ty, ps, af, gd⟩ : Oper), [], [], .c c⟩ H = true := by first | (with_reducible exact zt2) | kernel_rfl) : WalkO Try.prog ops Q C dr H i (⟨some t, .load T p, ty, ps, af, gd⟩ : Oper) r ⟨tm, hp, gn, us, L⟩ := ⟨fun hop => zr3 h hop rfl ht hg (by show nop? (aLoad _ T hp (AS.ev ⟨tm, hp, gn, us, L⟩ p)) = _; rw [hx, zp17 hF.h hcs, hld]; rfl) hc⟩
theorem zd4 {t : Nat} {ty : TypeId} {gd : Option (Nat × Bool)} {ps : String} {af : Array Edge} {T : TypeId} {p : Operand} {i0 n : Nat} {cs : List AC} {rT : TypeId} {rk rn : Nat} {rb : Bool} [hF : AggI Try.prog T n] (h : Walk Try.prog ops Q C dr (keepH dr (i, (⟨some t, .load T p, ty, ps, af, gd⟩ : Oper), ⟨fpO (AS.ev ⟨tm, hp, gn, us, L⟩) (⟨some t, .load T p, ty, ps, af, gd⟩ : Oper), [], [], .ag cs⟩) H) r ⟨upd tm t (.ag cs), hp, gn, us, L⟩) (hx : AS.ev ⟨tm, hp, gn, us, L⟩ p = .c (.pt i0 0) := by exact rfl) (hr : hp i0 = some ⟨rT, rk, rn, rb, cs⟩ := by exact rfl) (hn : cs.length = n := by exact rfl) (hld : cs.map ld = cs := by exact rfl) (ht : Nat.blt t L = true := by exact rfl) (hg : gw ops tm (⟨some t, .load T p, ty, ps, af, gd⟩ : Oper) = some true := by exact rfl) (hc : chk dr ops i (⟨some t, .load T p, ty, ps, af, gd⟩ : Oper) ⟨fpO (AS.ev ⟨tm, hp, gn, us, L⟩) (⟨some t, .load T p, ty, ps, af, gd⟩ : Oper), [], [], .ag cs⟩ H = true := by first | (with_reducible exact zt2) | kernel_rfl) : WalkO Try.prog ops Q C dr H i (⟨some t, .load T p, ty, ps, af, gd⟩ : Oper) r ⟨tm, hp, gn, us, L⟩ := ⟨fun hop => zr3 h hop rfl ht hg (by show nop? (aLoad _ T hp (AS.ev ⟨tm, hp, gn, us, L⟩ p)) = _; rw [hx, zt20 hF.h hr hn, hld]; rfl) hc⟩
theorem za3 {t : Nat} {ty : TypeId} {gd : Option (Nat × Bool)} {ps : String} {af : Array Edge} {T : TypeId} {p : Operand} {n : Nat} {cs : List AC} [hF : AggI Try.prog T n] (h : Walk Try.prog ops Q C dr (keepH dr (i, (⟨some t, .load T p, ty, ps, af, gd⟩ : Oper), ⟨fpO (AS.ev ⟨tm, hp, gn, us, L⟩) (⟨some t, .load T p, ty, ps, af, gd⟩ : Oper), [], [], .ag cs⟩) H) r ⟨upd tm t (.ag cs), hp, gn, us, L⟩) (hx : AS.ev ⟨tm, hp, gn, us, L⟩ p = .c (.rp cs 0) := by exact rfl) (hn : cs.length = n := by exact rfl) (hld : cs.map ld = cs := by exact rfl) (ht : Nat.blt t L = true := by exact rfl) (hg : gw ops tm (⟨some t, .load T p, ty, ps, af, gd⟩ : Oper) = some true := by exact rfl) (hc : chk dr ops i (⟨some t, .load T p, ty, ps, af, gd⟩ : Oper) ⟨fpO (AS.ev ⟨tm, hp, gn, us, L⟩) (⟨some t, .load T p, ty, ps, af, gd⟩ : Oper), [], [], .ag cs⟩ H = true := by first | (with_reducible exact zt2) | kernel_rfl) : WalkO Try.prog ops Q C dr H i (⟨some t, .load T p, ty, ps, af, gd⟩ : Oper) r ⟨tm, hp, gn, us, L⟩ := ⟨fun hop => zr3 h hop rfl ht hg (by show nop? (aLoad _ T hp (AS.ev ⟨tm, hp, gn, us, L⟩ p)) = _; rw [hx, zq17 hF.h hn, hld]; rfl) hc⟩
theorem zm3 {t : Nat} {ty : TypeId} {gd : Option (Nat × Bool)} {ps : String} {af : Array Edge} {T : TypeId} {y : Operand} {s : ByteArray} [hF : StrI Try.prog T] (h : Walk Try.prog ops Q C dr (keepH dr (i, (⟨some t, .call ⟨.builtin .len, #[y], #[T]⟩, ty, ps, af, gd⟩ : Oper), ⟨fpO (AS.ev ⟨tm, hp, gn, us, L⟩) (⟨some t, .call ⟨.builtin .len, #[y], #[T]⟩, ty, ps, af, gd⟩ : Oper), [], [], .c (.v (.int .i64 s.size))⟩) H) r ⟨upd tm t (.c (.v (.int .i64 s.size))), hp, gn, us, L⟩) (hx : AS.ev ⟨tm, hp, gn, us, L⟩ y = .c (.v (.string s)) := by exact rfl) (ht : Nat.blt t L = true := by exact rfl) (hg : gw ops tm (⟨some t, .call ⟨.builtin .len, #[y], #[T]⟩, ty, ps, af, gd⟩ : Oper) = some true := by exact rfl) (hc : chk dr ops i (⟨some t, .call ⟨.builtin .len, #[y], #[T]⟩, ty, ps, af, gd⟩ : Oper) ⟨fpO (AS.ev ⟨tm, hp, gn, us, L⟩) (⟨some t, .call ⟨.builtin .len, #[y], #[T]⟩, ty, ps, af, gd⟩ : Oper), [], [], .c (.v (.int .i64 s.size))⟩ H = true := by first | (with_reducible exact zt2) | kernel_rfl) : WalkO Try.prog ops Q C dr H i (⟨some t, .call ⟨.builtin .len, #[y], #[T]⟩, ty, ps, af, gd⟩ : Oper) r ⟨tm, hp, gn, us, L⟩ := ⟨fun hop => zr3 h hop rfl ht hg (effLen_s (o := (⟨some t, .call ⟨.builtin .len, #[y], #[T]⟩, ty, ps, af, gd⟩ : Oper)) (hp := hp) (id := 0) hF.h hx) hc⟩
theorem zn3 {t : Nat} {ty : TypeId} {gd : Option (Nat × Bool)} {ps : String} {af : Array Edge} {T : TypeId} {y : Operand} {n k : Nat} {l : List AC} [hF : SlcI Try.prog T] (h : Walk Try.prog ops Q C dr (keepH dr (i, (⟨some t, .call ⟨.builtin .len, #[y], #[T]⟩, ty, ps, af, gd⟩ : Oper), ⟨fpO (AS.ev ⟨tm, hp, gn, us, L⟩) (⟨some t, .call ⟨.builtin .len, #[y], #[T]⟩, ty, ps, af, gd⟩ : Oper), [], [], .c (.v (.int .i64 n))⟩) H) r ⟨upd tm t (.c (.v (.int .i64 n))), hp, gn, us, L⟩) (hx : AS.ev ⟨tm, hp, gn, us, L⟩ y = .c (.ro n k l) := by exact rfl) (ht : Nat.blt t L = true := by exact rfl) (hg : gw ops tm (⟨some t, .call ⟨.builtin .len, #[y], #[T]⟩, ty, ps, af, gd⟩ : Oper) = some true := by exact rfl) (hc : chk dr ops i (⟨some t, .call ⟨.builtin .len, #[y], #[T]⟩, ty, ps, af, gd⟩ : Oper) ⟨fpO (AS.ev ⟨tm, hp, gn, us, L⟩) (⟨some t, .call ⟨.builtin .len, #[y], #[T]⟩, ty, ps, af, gd⟩ : Oper), [], [], .c (.v (.int .i64 n))⟩ H = true := by first | (with_reducible exact zt2) | kernel_rfl) : WalkO Try.prog ops Q C dr H i (⟨some t, .call ⟨.builtin .len, #[y], #[T]⟩, ty, ps, af, gd⟩ : Oper) r ⟨tm, hp, gn, us, L⟩ := ⟨fun hop => zr3 h hop rfl ht hg (zr16 (o := (⟨some t, .call ⟨.builtin .len, #[y], #[T]⟩, ty, ps, af, gd⟩ : Oper)) (hp := hp) (id := 0) hF.h (by rw [hx]; rfl) (by rw [hx]; rfl)) hc⟩
theorem zo3 {t : Nat} {ty : TypeId} {gd : Option (Nat × Bool)} {ps : String} {af : Array Edge} {T : TypeId} {y : Operand} {j n : Nat} [hF : SlcI Try.prog T] (h : Walk Try.prog ops Q C dr (keepH dr (i, (⟨some t, .call ⟨.builtin .len, #[y], #[T]⟩, ty, ps, af, gd⟩ : Oper), ⟨fpO (AS.ev ⟨tm, hp, gn, us, L⟩) (⟨some t, .call ⟨.builtin .len, #[y], #[T]⟩, ty, ps, af, gd⟩ : Oper), [], [], .c (.v (.int .i64 n))⟩) H) r ⟨upd tm t (.c (.v (.int .i64 n))), hp, gn, us, L⟩) (hx : AS.ev ⟨tm, hp, gn, us, L⟩ y = .c (.sl j n) := by exact rfl) (ht : Nat.blt t L = true := by exact rfl) (hg : gw ops tm (⟨some t, .call ⟨.builtin .len, #[y], #[T]⟩, ty, ps, af, gd⟩ : Oper) = some true := by exact rfl) (hc : chk dr ops i (⟨some t, .call ⟨.builtin .len, #[y], #[T]⟩, ty, ps, af, gd⟩ : Oper) ⟨fpO (AS.ev ⟨tm, hp, gn, us, L⟩) (⟨some t, .call ⟨.builtin .len, #[y], #[T]⟩, ty, ps, af, gd⟩ : Oper), [], [], .c (.v (.int .i64 n))⟩ H = true := by first | (with_reducible exact zt2) | kernel_rfl) : WalkO Try.prog ops Q C dr H i (⟨some t, .call ⟨.builtin .len, #[y], #[T]⟩, ty, ps, af, gd⟩ : Oper) r ⟨tm, hp, gn, us, L⟩ := ⟨fun hop => zr3 h hop rfl ht hg (zr16 (o := (⟨some t, .call ⟨.builtin .len, #[y], #[T]⟩, ty, ps, af, gd⟩ : Oper)) (hp := hp) (id := 0) hF.h (by rw [hx]; rfl) (by rw [hx]; rfl)) hc⟩
end
section
variable {P : Program} {ops : Array Oper} {Q : Exit → Act → World → Prop} {C : Ctx} {H : List (Nat × Oper × Inf)} {i : Nat} {r : List Nat} {dr : Bool} {σ : AS} {ty : TypeId} {ps : String} {af : Array Edge}
theorem d_gs {d : Option Tmp} {op : Op} {gb : Nat × Bool} (h : WalkO P ops Q C dr H i (⟨d, op, ty, ps, af, some gb⟩ : Oper) r σ) : WalkO P ops Q C dr H i (⟨d, op, ty, ps, af, some gb⟩ : Oper) r σ := h
theorem d_bo {t : Tmp} {op : Op} {gd : Option (Nat × Bool)} (h : WalkO P ops Q C dr H i (⟨some t, op, 4, ps, af, gd⟩ : Oper) r σ) : WalkO P ops Q C dr H i (⟨some t, op, 4, ps, af, gd⟩ : Oper) r σ := h
theorem d_ca {t : Tmp} {fv : Operand} {as_ : Array Operand} {ts : Array TypeId} {gd : Option (Nat × Bool)} (h : WalkO P ops Q C dr H i (⟨some t, .call ⟨.value fv, as_, ts⟩, ty, ps, af, gd⟩ : Oper) r σ) : WalkO P ops Q C dr H i (⟨some t, .call ⟨.value fv, as_, ts⟩, ty, ps, af, gd⟩ : Oper) r σ := h
theorem d_bi {t : Tmp} {b : Builtin} {as_ : Array Operand} {ts : Array TypeId} {gd : Option (Nat × Bool)} (h : WalkO P ops Q C dr H i (⟨some t, .call ⟨.builtin b, as_, ts⟩, ty, ps, af, gd⟩ : Oper) r σ) : WalkO P ops Q C dr H i (⟨some t, .call ⟨.builtin b, as_, ts⟩, ty, ps, af, gd⟩ : Oper) r σ := h
theorem d_fa {t : Tmp} {S : TypeId} {f : Nat} {p : Operand} {gd : Option (Nat × Bool)} (h : WalkO P ops Q C dr H i (⟨some t, .fieldAddr S p f, ty, ps, af, gd⟩ : Oper) r σ) : WalkO P ops Q C dr H i (⟨some t, .fieldAddr S p f, ty, ps, af, gd⟩ : Oper) r σ := h
theorem d_ld {t : Tmp} {T : TypeId} {p : Operand} {gd : Option (Nat × Bool)} (h : WalkO P ops Q C dr H i (⟨some t, .load T p, ty, ps, af, gd⟩ : Oper) r σ) : WalkO P ops Q C dr H i (⟨some t, .load T p, ty, ps, af, gd⟩ : Oper) r σ := h
theorem d_st {T : TypeId} {p y : Operand} {gd : Option (Nat × Bool)} (h : WalkO P ops Q C dr H i (⟨none, .store T p y, ty, ps, af, gd⟩ : Oper) r σ) : WalkO P ops Q C dr H i (⟨none, .store T p y, ty, ps, af, gd⟩ : Oper) r σ := h
theorem d_ia {t : Tmp} {T : TypeId} {x y : Operand} {gd : Option (Nat × Bool)} (h : WalkO P ops Q C dr H i (⟨some t, .indexAddr T x y, ty, ps, af, gd⟩ : Oper) r σ) : WalkO P ops Q C dr H i (⟨some t, .indexAddr T x y, ty, ps, af, gd⟩ : Oper) r σ := h
theorem d_bb {t : Tmp} {T U : TypeId} {b : BinOp} {x y : Operand} {gd : Option (Nat × Bool)} (h : WalkO P ops Q C dr H i (⟨some t, .binOp b T x y U, ty, ps, af, gd⟩ : Oper) r σ) : WalkO P ops Q C dr H i (⟨some t, .binOp b T x y U, ty, ps, af, gd⟩ : Oper) r σ := h
theorem d_cv {t : Tmp} {S D : TypeId} {x : Operand} {gd : Option (Nat × Bool)} (h : WalkO P ops Q C dr H i (⟨some t, .convert S D x, ty, ps, af, gd⟩ : Oper) r σ) : WalkO P ops Q C dr H i (⟨some t, .convert S D x, ty, ps, af, gd⟩ : Oper) r σ := h
theorem d_mv {t : Tmp} {x : Operand} {gd : Option (Nat × Bool)} (h : WalkO P ops Q C dr H i (⟨some t, .move x, ty, ps, af, gd⟩ : Oper) r σ) : WalkO P ops Q C dr H i (⟨some t, .move x, ty, ps, af, gd⟩ : Oper) r σ := h
theorem d_as {t : Tmp} {x : Operand} {gd : Option (Nat × Bool)} (h : WalkO P ops Q C dr H i (⟨some t, .assign x, ty, ps, af, gd⟩ : Oper) r σ) : WalkO P ops Q C dr H i (⟨some t, .assign x, ty, ps, af, gd⟩ : Oper) r σ := h
theorem d_wo {o : Oper} (h : WalkO P ops Q C dr H i o r σ) : WalkO P ops Q C dr H i o r σ := h
theorem d_w {l : List Nat} (h : Walk P ops Q C dr H l σ) : Walk P ops Q C dr H l σ := h
end
def inR (x a b : Int) : Bool := decide (a ≤ x) && decide (x ≤ b)
theorem zs5 (x a b : Int) : Ctr Try.prog 54 [.c (.v (.int .i64 x)), .c (.v (.int .i64 a)), .c (.v (.int .i64 b))] [] (.c (.v (.bool (inR x a b)))) [] := by
  refine zm2 Try.func54 rfl rfl ?_
  repeat' (first | refine zn ?_ | refine ze ?_ | refine zh ?_ | refine zi ?_ | refine zb fun C => ?_ | refine zp (by kernel_rfl) (by kernel_rfl) fun C => ?_ | refine zc ?_ | (refine x_gm ?_ ?_ <;> intro hG <;> (try cases hG)) | refine zr3 ?_ | refine x_bs ?_ | refine x_gr ?_ | refine x_st ?_ | refine x_mv ?_ | refine x_sk ?_ | refine ze4 ?_ | refine x_ix ?_ | refine zf4 ?_ | refine zg4 ?_ | refine zu3 ?_ | refine zv2 ?_ | refine x_ld ?_ | refine zf15 ?_ | (refine zt3 (by rfl) ?_ ?_ <;> intro hC <;> (try cases hC)))
  all_goals
    refine zu ?_
    refine ret0 rfl zn2 ⟨?_, rfl⟩
    refine congrArg (fun s => AV.c (AC.v (Value.bool s))) ?_
    simp at *
    simp [inR, *]
    try omega
theorem zk6 (x a b : Int) : Ctr Try.prog 66 [.c (.v (.int .i64 x)), .c (.v (.int .i64 a)), .c (.v (.int .i64 b))] [] (.c (.v (.bool (inR x a b)))) [] := by
  refine zm2 Try.func66 rfl rfl ?_
  repeat' (first | refine zn ?_ | refine ze ?_ | refine zh ?_ | refine zi ?_ | refine zb fun C => ?_ | refine zp (by kernel_rfl) (by kernel_rfl) fun C => ?_ | refine zc ?_ | (refine x_gm ?_ ?_ <;> intro hG <;> (try cases hG)) | refine zr3 ?_ | refine x_bs ?_ | refine x_gr ?_ | refine x_st ?_ | refine x_mv ?_ | refine x_sk ?_ | refine ze4 ?_ | refine x_ix ?_ | refine zf4 ?_ | refine zg4 ?_ | refine zu3 ?_ | refine zv2 ?_ | refine x_ld ?_ | refine zf15 ?_ | (refine zt3 (by rfl) ?_ ?_ <;> intro hC <;> (try cases hC)))
  all_goals
    refine zu ?_
    refine ret0 rfl zn2 ⟨?_, rfl⟩
    refine congrArg (fun s => AV.c (AC.v (Value.bool s))) ?_
    simp at *
    simp [inR, *]
    try omega
def digB (c : Nat) : Bool := decide (48 ≤ c) && decide (c ≤ 57)
theorem zu20 (c : Nat) : Ctr Try.prog 156 [.c (.v (.int .u8 (c : Int)))] [] (.c (.v (.bool (digB c)))) [] := by
  refine zm2 Try.func156 rfl rfl ?_
  repeat' (first | refine zn ?_ | refine ze ?_ | refine zh ?_ | refine zi ?_ | refine zb fun C => ?_ | refine zp (by kernel_rfl) (by kernel_rfl) fun C => ?_ | refine zc ?_ | (refine x_gm ?_ ?_ <;> intro hG <;> (try cases hG)) | refine zr3 ?_ | refine x_bs ?_ | refine x_gr ?_ | refine x_st ?_ | refine x_mv ?_ | refine x_sk ?_ | refine ze4 ?_ | refine x_ix ?_ | refine zf4 ?_ | refine zg4 ?_ | refine zu3 ?_ | refine zv2 ?_ | refine x_ld ?_ | refine zf15 ?_ | (refine zt3 (by rfl) ?_ ?_ <;> intro hC <;> (try cases hC)))
  all_goals
    (first | refine zu ?_ | skip); refine ret0 rfl zn2 ⟨?_, rfl⟩; refine congrArg (fun s => AV.c (AC.v (Value.bool s))) ?_
    unfold digB
    (rw [Bool.eq_iff_iff]; (try simp only [Bool.and_eq_true, Bool.or_eq_true, Bool.not_eq_true', decide_eq_true_iff, decide_eq_false_iff_not, beq_iff_eq, Bool.and_eq_false_iff, Bool.or_eq_false_iff, bne_iff_ne, ne_eq, Bool.true_eq_false, Bool.false_eq_true, true_iff, false_iff, iff_true, iff_false] at *); first | omega | (simp at *; omega))
theorem zv20 {c : Nat} (hc : c < 256) : Ctr Try.prog 165 [.c (.v (.int .u8 (c : Int)))] [] (.c (.v (.bool (digB c)))) [] := by
  refine zm2 Try.func165 rfl rfl ?_
  repeat' (first | refine zn ?_ | refine ze ?_ | refine zh ?_ | refine zi ?_ | refine zb fun C => ?_ | refine zp (by kernel_rfl) (by kernel_rfl) fun C => ?_ | refine zc ?_ | (refine x_gm ?_ ?_ <;> intro hG <;> (try cases hG)) | refine zt13 ?_ | refine zu13 ?_ | refine zv13 ?_ | refine zw13 ?_ | refine zd10 ?_ | refine zr3 ?_ | refine zx8 ?_ | refine zq13 ?_ | refine zr13 ?_ | refine x_bs ?_ | refine x_gr ?_ | refine x_st ?_ | refine x_mv ?_ | refine x_sk ?_ | refine ze4 ?_ | refine x_ix ?_ | refine zf4 ?_ | refine zg4 ?_ | refine zu3 ?_ | refine zu3 (hnu := zl _) ?_ | refine zv2 ?_ | refine zv2 (hnu := zl _) ?_ | refine x_ld ?_ | refine zp13 ?_ | refine zu6 (zk6 _ _ _) ?_ | (refine zt3 (by rfl) ?_ ?_ <;> intro hC <;> (try cases hC)))
  all_goals
    (first | refine zu ?_ | skip); refine ret0 rfl zn2 ⟨?_, rfl⟩; refine congrArg (fun s => AV.c (AC.v (Value.bool s))) ?_
    unfold digB inR
    (rw [Bool.eq_iff_iff]; (try simp only [Bool.and_eq_true, Bool.or_eq_true, Bool.not_eq_true', decide_eq_true_iff, decide_eq_false_iff_not, beq_iff_eq, Bool.and_eq_false_iff, Bool.or_eq_false_iff, bne_iff_ne, ne_eq, Bool.true_eq_false, Bool.false_eq_true, true_iff, false_iff, iff_true, iff_false] at *); first | omega | (simp at *; omega))
theorem zu7 (p : E → Bool) (l : List E) : decide (idxF p l ≥ 0) = l.any p := by
  cases h : l.any p with
  | true =>
    obtain ⟨x, hx, hp⟩ := List.any_eq_true.1 h
    rcases zi17 p l with h1 | ⟨k, h1, _⟩
    · have := za23 h1
      rw [List.findIdx?_eq_none_iff] at this
      rw [this x hx] at hp; cases hp
    · rw [h1]; simp
  | false =>
    have hn : ∀ x ∈ l, p x = false := fun x hx => by
      cases hp : p x with
      | false => rfl
      | true => rw [List.any_eq_true.2 ⟨x, hx, hp⟩] at h; cases h
    rw [zp6 fun j y _ hy => hn y (List.mem_of_getElem? hy)]
    rfl
end Go.Proofs.Ytghljnfbbaklnaa
namespace Go.Proofs.Ytghljnfbbaklnaa
open Go.RowKit Go.Shelf
set_option maxRecDepth 100000
def lays137_ren : Go.Shelf.Ren := ⟨fun | 137 => 157 | 217 => 166 | 266 => 169 | n => n, fun | 9 => 9 | 5 => 5 | 3 => 3 | n => n, fun | n => n⟩
theorem lays137 : Go.Proofs.Lays.n137 Try.prog lays137_ren := {
  mixed := by kernel_rfl
  f137 := Try.func157.trans (congrArg some (by kernel_rfl))
  f217 := Try.func166.trans (congrArg some (by kernel_rfl))
  f266 := Try.func169.trans (congrArg some (by kernel_rfl))
  t3 := Try.underlying3
  a3 := Try.isAgg3
  z3 := Try.sizeOf3
  v3 := Try.zeroValue3
  t5 := Try.underlying5
  a5 := Try.isAgg5
  z5 := Try.sizeOf5
  v5 := Try.zeroValue5
  t9 := Try.underlying9
  a9 := Try.isAgg9
  z9 := Try.sizeOf9
  v9 := Try.zeroValue9 }
end Go.Proofs.Ytghljnfbbaklnaa
namespace Go.Proofs.Ytghljnfbbaklnaa
open Go.RowKit Go.Shelf
set_option maxRecDepth 100000
def lays156_ren : Go.Shelf.Ren := ⟨fun | 156 => 149 | 165 => 159 | 166 => 160 | 169 => 161 | 240 => 167 | 241 => 168 | 276 => 170 | 277 => 171 | n => n, fun | 31 => 55 | 9 => 9 | 3 => 3 | 4 => 4 | 0 => 0 | 20 => 20 | 72 => 185 | 76 => 189 | 70 => 183 | 37 => 22 | 75 => 188 | 127 => 193 | 164 => 194 | 5 => 5 | 80 => 191 | n => n, fun | n => n⟩
theorem zw20 : Go.Proofs.Lays.n156 Try.prog lays156_ren := {
  mixed := by kernel_rfl
  f156 := Try.func149.trans (congrArg some (by kernel_rfl))
  f165 := Try.func159.trans (congrArg some (by kernel_rfl))
  f166 := Try.func160.trans (congrArg some (by kernel_rfl))
  f169 := Try.func161.trans (congrArg some (by kernel_rfl))
  f240 := Try.func167.trans (congrArg some (by kernel_rfl))
  f241 := Try.func168.trans (congrArg some (by kernel_rfl))
  f276 := Try.func170.trans (congrArg some (by kernel_rfl))
  f277 := Try.func171.trans (congrArg some (by kernel_rfl))
  t0 := Try.underlying0
  a0 := Try.isAgg0
  z0 := Try.sizeOf0
  v0 := Try.zeroValue0
  t3 := Try.underlying3
  a3 := Try.isAgg3
  z3 := Try.sizeOf3
  v3 := Try.zeroValue3
  t4 := Try.underlying4
  a4 := Try.isAgg4
  z4 := Try.sizeOf4
  v4 := Try.zeroValue4
  t9 := Try.underlying9
  a9 := Try.isAgg9
  z9 := Try.sizeOf9
  v9 := Try.zeroValue9
  t20 := Try.underlying20
  a20 := Try.isAgg20
  z20 := Try.sizeOf20
  v20 := Try.zeroValue20
  t31 := Try.underlying55
  a31 := Try.isAgg55
  z31 := Try.sizeOf55
  v31 := Try.zeroValue55
  t37 := Try.underlying22
  a37 := Try.isAgg22
  z37 := Try.sizeOf22
  v37 := Try.zeroValue22
  t70 := Try.underlying183
  a70 := Try.isAgg183
  z70 := Try.sizeOf183
  v70 := Try.zeroValue183
  t72 := Try.underlying185
  a72 := Try.isAgg185
  z72 := Try.sizeOf185
  v72 := Try.zeroValue185
  t75 := Try.underlying188
  a75 := Try.isAgg188
  z75 := Try.sizeOf188
  v75 := Try.zeroValue188
  t76 := Try.underlying189
  a76 := Try.isAgg189
  z76 := Try.sizeOf189
  v76 := Try.zeroValue189
  t127 := Try.underlying193
  a127 := Try.isAgg193
  z127 := Try.sizeOf193
  v127 := Try.zeroValue193
  t164 := Try.underlying194
  a164 := Try.isAgg194
  z164 := Try.sizeOf194
  v164 := Try.zeroValue194 }
theorem Builder_Extra_156 : Builder.Extra Try.prog lays156_ren := {
  sizeBuilder := by kernel_rfl
  liesBuilder := by kernel_rfl
  t5 := Try.underlying5
  a5 := Try.isAgg5
  z5 := Try.sizeOf5
  v5 := Try.zeroValue5
  infoByte := by kernel_rfl
  cellsByte := by kernel_rfl
  sizeByte := by kernel_rfl
  neB5 := by decide }
end Go.Proofs.Ytghljnfbbaklnaa
namespace Go.Proofs.Ytghljnfbbaklnaa
open Go.RowKit
set_option maxRecDepth 100000
theorem zv7 {P : Program} {f : FuncId} {ins : List AV} {v : Value} (he : entB P f = true) (hv : scal v = true)
    (hc : ∀ (w : World) (St : Nat → Prop) (φ : Nat → Lc) (K : Nat → Prop) (us : List Value), VRL w St φ K ins us → Calls P f us.toArray w fun e w' => e = .returned v ∧ Below w.heap.size w w') : Ctr P f ins [] (.c (.v v)) [] := by
  refine ⟨he, fun w St φ F us' hent => ?_⟩
  refine (hc w St φ _ us' hent.args).mono ?_
  rintro e w' ⟨rfl, hb⟩
  refine ⟨_, _, v, fun _ => False, fun _ => [], [], ⟨rfl, rfl⟩, rfl, ⟨⟨hb.os, hb.tape, hb.output, hb.size, fun b hlt _ => .inl (hb.block b hlt)⟩, ?_, by simp, rfl, fun i cs hi => by simp at hi, fun i hi => by simp at hi, fun i hi => by simp at hi, fun i j hi => by simp at hi, fun i b lo hi => by simp at hi, fun b hb => by simp at hb, fun b hb => hb.elim⟩⟩
  simp only [VRF, CR]
  exact ⟨trivial, hv, trivial⟩
theorem zk10 (s : ByteArray) {c : Nat} (_hc : c < 256) : Ctr Try.prog 157 [.c (.v (.string s)), .c (.v (.int .u8 (c : Int)))] [] (.c (.v (.int .i64 (Lib.indexByte s.data.toList (UInt8.ofNat c))))) [] := by
  refine zv7 (by kernel_rfl) rfl fun w St φ K us h => ?_
  simp only [VRL, VR, CR] at h
  obtain ⟨u, us1, rfl, ⟨rfl, -⟩, u2, us2, rfl, ⟨rfl, -⟩, rfl⟩ := h
  refine (Go.Proofs.Any.strings_IndexByte lays137 s (c : Int) w).mono ?_
  rintro e w' ⟨rfl, rfl⟩
  exact ⟨rfl, Below.refl _ _⟩
def strB : E → ByteArray
  | .str s => s
  | _ => ByteArray.empty
theorem zx20 {w : World} {St : Nat → Prop} {φ : Nat → Lc} {K : Nat → Prop} : ∀ {l : List E} {us : List Value} {fp : List Nat}, (∀ e ∈ l, ∃ s, e = .str s) → CRL w St φ K (acL l) us fp → us = l.map fun e => .string (strB e)
  | [], us, fp, _, h => by
    simp only [acL, CRL] at h
    exact h.1
  | e :: r, us, fp, he, h => by
    obtain ⟨s, rfl⟩ := he e List.mem_cons_self
    have h' : CRL w St φ K (.v (.string s) :: acL r) us fp := h
    simp only [CRL] at h'
    obtain ⟨u, us', f1, f2, rfl, rfl, h1, h2⟩ := h'
    simp only [CR] at h1
    obtain ⟨rfl, -⟩ := h1
    rw [zx20 (fun e he' => he e (List.mem_cons_of_mem _ he')) h2]
    rfl
def joinB (l : List E) (sep : ByteArray) : ByteArray := ⟨(Lib.join (l.map fun e => (strB e).data.toList) sep.data.toList).toArray⟩
theorem join_c {l : List E} (hl : ∀ e ∈ l, ∃ s, e = .str s) (sep : ByteArray) (hn : l.length ≤ 1073741824) (hsz : (joinB l sep).size ≤ 140737488355328) : Ctr Try.prog 149 [.c (.ro l.length 1 (acL l)), .c (.v (.string sep))] [] (.c (.v (.string (joinB l sep)))) [] := by
  refine zv7 (by kernel_rfl) rfl fun w St φ K us h => ?_
  simp only [VRL, VR, CR] at h
  obtain ⟨u, us1, rfl, ⟨-, A, c, rfl, ⟨h1, h2, h3⟩, h4, h5⟩, u2, us2, rfl, ⟨rfl, -⟩, rfl⟩ := h
  cases l with
  | nil => exact (Go.Proofs.Any.strings_Join_none zw20 Builder_Extra_156 A c sep w).mono fun e w' ⟨he, hw⟩ => ⟨he, hw ▸ Below.refl _ _⟩
  | cons x r =>
    obtain ⟨b, o, us, rfl, -, hb, hc, hcr⟩ := h5 (by simp)
    have hus := zx20 hl hcr
    have e1 : (x :: r).length = ((x :: r).map strB).length := by simp
    have e2 : joinB (x :: r) sep = ⟨(Lib.join (((x :: r).map strB).map (·.data.toList)) sep.data.toList).toArray⟩ := by unfold joinB; rw [List.map_map]; rfl
    rw [e2] at hsz ⊢
    rw [e1] at hn h1 ⊢
    refine Go.Proofs.Any.strings_Join zw20 Builder_Extra_156 b o c ((x :: r).map strB) sep w (fun j y hy => hc j _ ?_) hb (by omega) h1 ?_
    · rw [hus, List.getElem?_map]
      rw [List.getElem?_map] at hy
      cases hq : (x :: r)[j]? with
      | none => rw [hq] at hy; cases hy
      | some e => rw [hq] at hy; simp at hy; simp [hy]
    · have : (ByteArray.mk (Lib.join (((x :: r).map strB).map (·.data.toList)) sep.data.toList).toArray).size = (Lib.join (((x :: r).map strB).map (·.data.toList)) sep.data.toList).length := by show (List.toArray _).size = _; rw [List.size_toArray]
      rw [this] at hsz
      exact hsz
set_option maxRecDepth 100000 in
set_option maxHeartbeats 1000000 in
theorem szStringS_all' (A : Option Addr) (c : Nat) (l : List E) (ht : ∀ y ∈ l, y.Ty Try.prog 9) : Sz 62 (.lst 1 9 A c l) := by
  intro left w hr h0 h1
  have hs := hr.sl
  have hlen := hs.len_le
  have HSZ : Hid ((E.lst 1 9 A c l).sz = l.length + E.szL l) := rfl
  change Calls _ _ #[.slice A l.length c, .int .i64 left] w _
  by_cases hneg : left - l.length < 0
  · go_enter Try.func62, Try.ntmps62
    go_wp2
    go_ret
    exact ⟨-1, rfl, .inl (by omega), by omega, by exact (by repeat (first | (with_reducible refine Below.setCell ?_ (by first | omega | (· simp) | (· (simp; omega))) _) | (with_reducible refine Below.alloc ?_ (by first | omega | (· simp) | (· (simp; omega))) _) | (with_reducible refine Below.drew ?_) | (with_reducible refine zx2 ?_ _) | (with_reducible exact Below.refl _ _) | (with_reducible assumption) | (with_reducible refine Below.trans ?_ (Below.mono (by assumption) (by first | omega | (· simp) | (· (simp; omega))))) | (with_reducible refine Below.trans ?_ (Kp.below (by assumption) (by first | omega | (· simp) | (· (simp; omega))) (by first | omega | (· simp) | (· (simp; omega)))))))⟩
  go_enter Try.func62, Try.ntmps62
  go_wp2
  go_loopw [1, 5] (fun v i wr => ∃ (k : Nat) (cur : Int), k ≤ l.length ∧ i = .int .i64 k ∧ v = .int .i64 cur ∧ 0 ≤ cur ∧ cur ≤ left ∧ Hid (cur + E.szL (l.take k) + l.length = left) ∧ Below w.heap.size w wr) (fun _ i _ => l.length - (intOf i).toNat)
  case atStart => exact ⟨0, _, Nat.zero_le _, rfl, rfl, by omega, by omega, (by show _ = _; simp [E.szL]), Below.refl _ _⟩
  case round =>
    obtain ⟨k, cur, hk, rfl, rfl, hc0, hc1, HQ, hb⟩ := hrel
    have hzb := hb.size
    by_cases hlt : k < l.length
    · have hs' := hs.below hb (Nat.le_refl _)
      have HT := Lib.hid (E.szL_take l k hlt)
      obtain ⟨b, o, rfl, _, hc⟩ := hs'.at_ hlt
      obtain ⟨s, ex, gs⟩ := (ht _ (List.getElem_mem hlt)).str_ Try.underlying9
      rw [ex] at hc
      have c0 := hc 0 _ rfl
      rw [Nat.add_zero, Nat.mul_one] at c0
      clear hc
      have HEX := Lib.hid ex
      clear ex
      by_cases hn : cur - s.size < 0
      · go_wp2
        go_ret
        exact ⟨-1, rfl, .inl (by omega), by omega, by exact (by repeat (first | (with_reducible refine Below.setCell ?_ (by first | omega | (· simp) | (· (simp; omega))) _) | (with_reducible refine Below.alloc ?_ (by first | omega | (· simp) | (· (simp; omega))) _) | (with_reducible refine Below.drew ?_) | (with_reducible refine zx2 ?_ _) | (with_reducible exact Below.refl _ _) | (with_reducible assumption) | (with_reducible refine Below.trans ?_ (Below.mono (by assumption) (by first | omega | (· simp) | (· (simp; omega))))) | (with_reducible refine Below.trans ?_ (Kp.below (by assumption) (by first | omega | (· simp) | (· (simp; omega))) (by first | omega | (· simp) | (· (simp; omega)))))))⟩
      · go_wp2
        go_roundw
        case rel => exact ⟨k + 1, _, by omega, by go_num, rfl, by omega, by omega, (by show _ = _; have e1 := HQ.out; have e2 := HT.out; rw [HEX.out] at e2; simp only [E.sz] at e2; omega), by exact (by repeat (first | (with_reducible refine Below.setCell ?_ (by first | omega | (· simp) | (· (simp; omega))) _) | (with_reducible refine Below.alloc ?_ (by first | omega | (· simp) | (· (simp; omega))) _) | (with_reducible refine Below.drew ?_) | (with_reducible refine zx2 ?_ _) | (with_reducible exact Below.refl _ _) | (with_reducible assumption) | (with_reducible refine Below.trans ?_ (Below.mono (by assumption) (by first | omega | (· simp) | (· (simp; omega))))) | (with_reducible refine Below.trans ?_ (Kp.below (by assumption) (by first | omega | (· simp) | (· (simp; omega))) (by first | omega | (· simp) | (· (simp; omega)))))))⟩
        case measure => simp [intOf]; omega
    · have hk' : k = l.length := by omega
      subst hk'
      go_wp2
      go_ret
      refine ⟨_, rfl, .inr ?_, by omega, hb⟩
      show _ = _
      have e1 := HQ.out
      rw [List.take_length] at e1
      rw [HSZ.out]
      push_cast
      omega
theorem zn12 {e : E} (ht : e.Ty Try.prog 55) : Sz 62 e := by
  obtain ⟨A, c, l, rfl, h1, _⟩ := ht.lst_ Try.underlying55 (k := 1) (by kernel_rfl)
  exact szStringS_all' A c l h1
theorem zc14 : (Try.prog.info? 9).map (fun i => (i.zero, i.size, i.bytes)) = some (some (.string ByteArray.empty), 1, 16) := by kernel_rfl
set_option maxRecDepth 100000 in
set_option maxHeartbeats 1000000 in
theorem zo12 {e : E} (ht : e.Ty Try.prog 55) : To 68 55 e := by
  obtain ⟨A, c, l, rfl, h1, h2⟩ := ht.lst_ Try.underlying55 (k := 1) (by kernel_rfl)
  intro w hr hsz
  have hs := hr.sl
  have hn : l.length ≤ 1048576 := by have e : (E.lst 1 9 A c l).sz = l.length + E.szL l := rfl; omega
  have hmk := zi22 Try.underlying55 zc14 l.length (by omega) (by omega)
  have hF := Fill.new w 9 #[.string ByteArray.empty] l.length (E.encL l)
  have hxs := E.encL_len h2
  rw [Nat.mul_one] at hxs
  have HX := Lib.hid hxs
  have H1 := Lib.hid h1
  have H2 := Lib.hid h2
  clear hxs h1 h2
  change Calls _ _ #[.slice A l.length c] w _
  go_enter Try.func68, Try.ntmps68
  go_wp2
  go_loopw [4] (fun i wr => ∃ (k : Nat), k ≤ l.length ∧ i = .int .i64 k ∧ Fill wr w.heap.size 9 l.length k (E.encL l) ∧ Below w.heap.size w wr) (fun i _ => l.length - (intOf i).toNat)
  case atStart => exact ⟨0, Nat.zero_le _, rfl, hF, by exact (by repeat (first | (with_reducible refine Below.setCell ?_ (by first | omega | (· simp) | (· (simp; omega))) _) | (with_reducible refine Below.alloc ?_ (by first | omega | (· simp) | (· (simp; omega))) _) | (with_reducible refine Below.drew ?_) | (with_reducible refine zx2 ?_ _) | (with_reducible exact Below.refl _ _) | (with_reducible assumption) | (with_reducible refine Below.trans ?_ (Below.mono (by assumption) (by first | omega | (· simp) | (· (simp; omega))))) | (with_reducible refine Below.trans ?_ (Kp.below (by assumption) (by first | omega | (· simp) | (· (simp; omega))) (by first | omega | (· simp) | (· (simp; omega)))))))⟩
  case round =>
    obtain ⟨k, hk, rfl, hf, hb⟩ := hrel
    by_cases hlt : k < l.length
    · have hs' := hs.below hb (Nat.le_refl _)
      obtain ⟨b, o, rfl, _, hcell⟩ := hs'.at1 hlt
      have hx := E.encL_at H2.out k hlt 0 (by omega)
      obtain ⟨n, ex, gn⟩ := (H1.out _ (List.getElem_mem hlt)).str_ Try.underlying9
      have hcell := hcell _ (by rw [ex]; rfl)
      obtain ⟨u, hc2⟩ := hf.cell hlt
      have hf2 := hf.frozen k
      rw [Nat.mul_one, Nat.add_zero, ex] at hx
      have R := (hf.set hlt hx)
      clear hx hf ex
      go_wp2
      go_roundw
      case rel => exact ⟨k + 1, by omega, by go_num, R, hb.setCell (Nat.le_refl _) _⟩
      case measure => simp [intOf]; omega
    · have hk' : k = l.length := by omega
      subst hk'
      go_wp2
      go_ret
      have hfl : ∀ e ∈ l, e.fp = [] := fun e he => by
        obtain ⟨n, rfl, _⟩ := (H1.out e he).str_ Try.underlying9
        rfl
      refine ⟨.lst 1 9 (some ⟨w.heap.size, 0, none⟩) l.length l, rfl, zz12.2 rfl, E.Ty.mk_lst Try.underlying55 (by kernel_rfl) H1.out H2.out, E.Ho.mk (Ow.of_owns (hf.owns (Nat.le_refl _) (Nat.mul_one _).symm HX.out (by unfold maxLen; omega)) (Nat.le_refl _)) H2.out (fun e he => ?_), ?_, hb⟩
      · obtain ⟨n, rfl, _⟩ := (H1.out e he).str_ Try.underlying9
        trivial
      · simp only [E.fp, E.fpL_nil hfl]; simp
set_option maxRecDepth 100000 in
set_option maxHeartbeats 1000000 in
theorem eqStringS_all' (A B : Option Addr) (c c' : Nat) (l m : List E) (h1 : ∀ y ∈ l, y.Ty Try.prog 9) (h2 : ∀ y ∈ m, y.Ty Try.prog 9) : Eq 79 (.lst 1 9 A c l) (.lst 1 9 B c' m) := by
  intro hd w hr hr'
  rw [zz12] at hd
  have hs := hr.sl
  have hs' := hr'.sl
  have hml := zk22 hd
  have HD := Lib.hid hd
  clear hd
  have hlen := hs.len_le
  change Calls _ _ #[.slice A l.length c, .slice B m.length c'] w _
  obtain ⟨N, HN⟩ : ∃ N, Hid (m.length = N) := ⟨_, rfl⟩
  have hN : N = l.length := by have := HN.out; omega
  subst hN
  rw [HN.out]
  clear hml
  go_enter Try.func79, Try.ntmps79
  go_wp2
  go_loopw [5] (fun i wr => ∃ (k : Nat), k ≤ l.length ∧ i = .int .i64 k ∧ Below w.heap.size w wr) (fun i _ => l.length - (intOf i).toNat)
  case atStart => exact ⟨0, Nat.zero_le _, rfl, Below.refl _ _⟩
  case round =>
    obtain ⟨k, hk, rfl, hb⟩ := hrel
    by_cases hlt : k < l.length
    · have hltm : k < m.length := by have := HN.out; omega
      have hsb := hs.below hb (Nat.le_refl _)
      have hsb' := hs'.below hb (Nat.le_refl _)
      have hdk := d_at HD.out hlt hltm
      obtain ⟨b, o, rfl, _, hc⟩ := hsb.at_ hlt
      obtain ⟨b', o', rfl, _, hd⟩ := hsb'.at_ hltm
      obtain ⟨a, ea, ga⟩ := (h1 _ (List.getElem_mem hlt)).str_ Try.underlying9
      obtain ⟨a2, eb, gb⟩ := (h2 _ (List.getElem_mem hltm)).str_ Try.underlying9
      rw [ea, eb] at hdk
      simp only [E.d, E.int.injEq, E.str.injEq, true_and] at hdk
      subst hdk
      rw [ea] at hc
      rw [eb] at hd
      clear ea eb
      have c0 := hc 0 _ rfl
      have d0 := hd 0 _ rfl
      rw [Nat.add_zero, Nat.mul_one] at c0 d0
      clear hc hd
      go_wp2
      go_quiet (fail)
      go_wp2
      go_roundw
      case rel => exact ⟨k + 1, by omega, by go_num, by exact (by repeat (first | (with_reducible refine Below.setCell ?_ (by first | omega | (· simp) | (· (simp; omega))) _) | (with_reducible refine Below.alloc ?_ (by first | omega | (· simp) | (· (simp; omega))) _) | (with_reducible refine Below.drew ?_) | (with_reducible refine zx2 ?_ _) | (with_reducible exact Below.refl _ _) | (with_reducible assumption) | (with_reducible refine Below.trans ?_ (Below.mono (by assumption) (by first | omega | (· simp) | (· (simp; omega))))) | (with_reducible refine Below.trans ?_ (Kp.below (by assumption) (by first | omega | (· simp) | (· (simp; omega))) (by first | omega | (· simp) | (· (simp; omega)))))))⟩
      case measure => simp [intOf]; omega
    · go_wp2
      go_ret
      exact ⟨rfl, hb⟩
theorem zp12 {e e' : E} (ht : e.Ty Try.prog 55) (ht' : e'.Ty Try.prog 55) : Eq 79 e e' := by
  obtain ⟨A, c, l, rfl, h1, _⟩ := ht.lst_ Try.underlying55 (k := 1) (by kernel_rfl)
  obtain ⟨B, c', m, rfl, h2, _⟩ := ht'.lst_ Try.underlying55 (k := 1) (by kernel_rfl)
  exact eqStringS_all' A B c c' l m h1 h2
theorem zq1 {e : E} (h : e.Ty Try.prog 141) : ∃ (x0 : Int) (x1 : ByteArray) (x2A : Option Addr) (x2c : Nat) (x2l : List E), e = (E.agg [.int .i64 x0, .str x1, .lst 3 141 x2A x2c x2l]) ∧ ((Lit.int .i64 x0).wf = true) ∧ (x1.size ≤ 9223372036854775807) ∧ ((∀ y ∈ x2l, y.Ty Try.prog 141) ∧ (∀ y ∈ x2l, y.enc.length = 3)) ∧ True := by
  obtain ⟨fs, rfl, q0⟩ := h.agg_ Try.underlying141
  change E.TyF _ _ [3, 9, 139] at q0
  obtain ⟨e0, r0, rfl, h0, q1⟩ := q0.cons_
  obtain ⟨e1, r1, rfl, h1, q2⟩ := q1.cons_
  obtain ⟨e2, r2, rfl, h2, q3⟩ := q2.cons_
  obtain rfl := q3.nil_
  obtain ⟨x0, rfl, gx0⟩ := h0.int_ Try.underlying3
  obtain ⟨x1, rfl, gx1⟩ := h1.str_ Try.underlying9
  obtain ⟨x2A, x2c, x2l, rfl, gx2, gx2'⟩ := h2.lst_ Try.underlying139 (k := 3) (by kernel_rfl)
  exact ⟨x0, x1, x2A, x2c, x2l, rfl, gx0, gx1, ⟨gx2, gx2'⟩, trivial⟩
theorem zy20 {l : List E} (hl : ∀ e ∈ l, e.Ty Try.prog 141) (hk : ∀ e ∈ l, e.enc.length = 3) (hlen : l.length ≤ 1073741824) {b : List AC} (hb : cloL b = true) (p : E → Bool) (f : FuncId) (hc : ∀ x ∈ l, Ctr Try.prog f (.ag (acE x) :: [.c (.pt 0 0)]) [b] (.c (.v (.bool (p x)))) [b]) : Ctr Try.prog 158 [.c (.ro l.length 3 (acL l)), .c (.fn f [.pt 0 0])] [b] (.c (.v (.int .i64 (idxF p l)))) [b] := by
  refine zm2 Try.func158 rfl rfl ?_
  repeat (first | refine zn ?_ | refine ze ?_ | refine zh ?_ | refine zi ?_ | refine zu ?_ | refine zb fun C => ?_ | refine zp (by kernel_rfl) (by kernel_rfl) fun C => ?_ | refine zc ?_ | refine zr3 ?_ | refine x_bs ?_ | refine x_gr ?_ | refine x_st ?_ | refine x_mv ?_ | refine x_sk ?_ | refine ze4 ?_ | refine x_ix ?_ | refine zf4 ?_ | refine zg4 ?_ | refine zu3 ?_ | refine zv2 ?_ | refine x_ld ?_)
  refine zp3 (fun k : Nat => ⟨tmsF [(0, .c (.ro l.length 3 (acL l))), (1, .c (.fn f [.pt 0 0])), (7, .c (.v (.int .i64 l.length))), (8, .c (.v (.int .i64 k)))], hpsF [(0, 0, ⟨0, 0, 0, true, b⟩)], 1, [0], 19⟩)
    (fun N k => k + N = l.length ∧ ∀ j y, j < k → l[j]? = some y → p y = false) l.length 0 ⟨by omega, by omega⟩ ?_ ?_
  · refine zo2 _ _ rfl rfl ?_ ?_; (repeat' (first | exact TmOk.nil | exact RwOk.nil | refine TmOk.cons ?_ ?_ | refine RwOk.cons ?_ ?_ | rfl | (refine rnV_id' rfl ?_; (first | rfl | (simp [cloV, cloL, clo, zj, zf, zk, zg, zd]; done))) | (refine zd3 ?_; first | rfl | omega | (rw [zb2 (by omega) (by omega)]; omega)) | (refine zi2 rfl ?_; (first | rfl | (simp [cloV, cloL, clo, zj, zf, zk, zg, zd]; done))) | exact zj4 rfl rfl | (refine ze3 (by rfl) (by rfl) ?_ ?_ <;> (first | rfl | (simp [cloV, cloL, clo, zj, zf, zk, zg, zd]; done))) | (refine rw_rn' rfl rfl ?_; simp; done))); refine zi2 rfl hb
  rintro N k ⟨hN, hno⟩
  repeat (first | refine zn ?_ | refine ze ?_ | refine zh ?_ | refine zi ?_ | refine zu ?_ | refine zb fun C => ?_ | refine zp (by kernel_rfl) (by kernel_rfl) fun C => ?_ | refine zc ?_ | refine zr3 ?_ | refine x_bs ?_ | refine x_gr ?_ | refine x_st ?_ | refine x_mv ?_ | refine x_sk ?_ | refine ze4 ?_ | refine x_ix ?_ | refine zf4 ?_ | refine zg4 ?_ | refine zu3 ?_ | refine zv2 ?_ | refine x_ld ?_)
  refine zt3 (by rfl) (fun h1 => ?_) fun h1 => ?_
  · have hk' : k < l.length := by simpa using h1
    obtain ⟨x, hx⟩ : ∃ x, l[k]? = some x := ⟨_, List.getElem?_eq_getElem hk'⟩
    have hxt := hl x (List.mem_of_getElem? hx)
    have hcc := hc x (List.mem_of_getElem? hx)
    obtain ⟨y0, y1, y2A, y2c, y2l, rfl, gy0, gy1, gy2, -⟩ := zq1 hxt
    repeat (first | refine zn ?_ | refine ze ?_ | refine zh ?_ | refine zi ?_ | refine zu ?_ | refine zb fun C => ?_ | refine zp (by kernel_rfl) (by kernel_rfl) fun C => ?_ | refine zc ?_ | refine zr3 ?_ | refine x_bs ?_ | refine x_gr ?_ | refine x_st ?_ | refine x_mv ?_ | refine x_sk ?_ | refine ze4 ?_ | refine x_ix ?_ | refine zf4 ?_ | refine zg4 ?_ | refine zu3 ?_ | refine zv2 ?_ | refine x_ld ?_)
    refine x_cad 0 hcc ?_ (hl := zc20 (by rfl) hb)
    repeat (first | refine zn ?_ | refine ze ?_ | refine zh ?_ | refine zi ?_ | refine zu ?_ | refine zb fun C => ?_ | refine zp (by kernel_rfl) (by kernel_rfl) fun C => ?_ | refine zc ?_ | refine zr3 ?_ | refine x_bs ?_ | refine x_gr ?_ | refine x_st ?_ | refine x_mv ?_ | refine x_sk ?_ | refine ze4 ?_ | refine x_ix ?_ | refine zf4 ?_ | refine zg4 ?_ | refine zu3 ?_ | refine zv2 ?_ | refine x_ld ?_)
    refine zt3 (by rfl) (fun h2 => ?_) fun h2 => ?_
    · repeat (first | refine zn ?_ | refine ze ?_ | refine zh ?_ | refine zi ?_ | refine zu ?_ | refine zb fun C => ?_ | refine zp (by kernel_rfl) (by kernel_rfl) fun C => ?_ | refine zc ?_ | refine zr3 ?_ | refine x_bs ?_ | refine x_gr ?_ | refine x_st ?_ | refine x_mv ?_ | refine x_sk ?_ | refine ze4 ?_ | refine x_ix ?_ | refine zf4 ?_ | refine zg4 ?_ | refine zu3 ?_ | refine zv2 ?_ | refine x_ld ?_)
      refine ret1 (x := .c (.v (.int .i64 k))) (rw := ⟨0, 0, 0, true, b⟩) rfl rfl rfl hb rfl ⟨?_, rfl⟩
      rw [zb10 hno hx h2]
    · repeat (first | refine zn ?_ | refine ze ?_ | refine zh ?_ | refine zi ?_ | refine zu ?_ | refine zb fun C => ?_ | refine zp (by kernel_rfl) (by kernel_rfl) fun C => ?_ | refine zc ?_ | refine zr3 ?_ | refine x_bs ?_ | refine x_gr ?_ | refine x_st ?_ | refine x_mv ?_ | refine x_sk ?_ | refine ze4 ?_ | refine x_ix ?_ | refine zf4 ?_ | refine zg4 ?_ | refine zu3 ?_ | refine zv2 ?_ | refine x_ld ?_)
      refine ⟨N - 1, k + 1, by omega, ⟨by omega, fun j z hj hz => ?_⟩, ?_⟩
      · by_cases e : j = k
        · rw [e, hx] at hz; injection hz with hz; subst hz; exact h2
        · exact hno j z (by omega) hz
      · refine zo2 _ _ rfl rfl ?_ ?_; (repeat' (first | exact TmOk.nil | exact RwOk.nil | refine TmOk.cons ?_ ?_ | refine RwOk.cons ?_ ?_ | rfl | (refine rnV_id' rfl ?_; (first | rfl | (simp [cloV, cloL, clo, zj, zf, zk, zg, zd]; done))) | (refine zd3 ?_; first | rfl | omega | (rw [zb2 (by omega) (by omega)]; omega)) | (refine zi2 rfl ?_; (first | rfl | (simp [cloV, cloL, clo, zj, zf, zk, zg, zd]; done))) | exact zj4 rfl rfl | (refine ze3 (by rfl) (by rfl) ?_ ?_ <;> (first | rfl | (simp [cloV, cloL, clo, zj, zf, zk, zg, zd]; done))) | (refine rw_rn' rfl rfl ?_; simp; done))); refine zi2 rfl hb
  · have hk' : ¬ k < l.length := by simpa using h1
    repeat (first | refine zn ?_ | refine ze ?_ | refine zh ?_ | refine zi ?_ | refine zu ?_ | refine zb fun C => ?_ | refine zp (by kernel_rfl) (by kernel_rfl) fun C => ?_ | refine zc ?_ | refine zr3 ?_ | refine x_bs ?_ | refine x_gr ?_ | refine x_st ?_ | refine x_mv ?_ | refine x_sk ?_ | refine ze4 ?_ | refine x_ix ?_ | refine zf4 ?_ | refine zg4 ?_ | refine zu3 ?_ | refine zv2 ?_ | refine x_ld ?_)
    refine ret1 (x := .c (.v (.int .i64 (-1)))) (rw := ⟨0, 0, 0, true, b⟩) rfl rfl rfl hb rfl ⟨?_, rfl⟩
    rw [zp6 fun j y hj hy => hno j y (by omega) hy]
theorem zz20 {l : List E} (hl : ∀ e ∈ l, e.Ty Try.prog 141) (hk : ∀ e ∈ l, e.enc.length = 3) (hlen : l.length ≤ 1073741824) {b : List AC} (hb : cloL b = true) (p : E → Bool) (f : FuncId) (hc : ∀ x ∈ l, Ctr Try.prog f (.ag (acE x) :: [.c (.pt 0 0)]) [b] (.c (.v (.bool (p x)))) [b]) : Ctr Try.prog 146 [.c (.ro l.length 3 (acL l)), .c (.fn f [.pt 0 0])] [b] (.c (.v (.bool (l.any p)))) [b] := by
  refine zm2 Try.func146 rfl rfl ?_
  have hcc := zy20 hl hk hlen hb p f hc
  repeat (first | refine zn ?_ | refine ze ?_ | refine zh ?_ | refine zi ?_ | refine zu ?_ | refine zb fun C => ?_ | refine zp (by kernel_rfl) (by kernel_rfl) fun C => ?_ | refine zc ?_ | refine zr3 ?_ | refine x_bs ?_ | refine x_gr ?_ | refine x_st ?_ | refine x_mv ?_ | refine x_sk ?_ | refine ze4 ?_ | refine x_ix ?_ | refine zf4 ?_ | refine zg4 ?_ | refine zu3 ?_ | refine zv2 ?_ | refine x_ld ?_)
  refine x_cad 0 hcc ?_ (hl := zc20 (by rfl) hb)
  repeat (first | refine zn ?_ | refine ze ?_ | refine zh ?_ | refine zi ?_ | refine zu ?_ | refine zb fun C => ?_ | refine zp (by kernel_rfl) (by kernel_rfl) fun C => ?_ | refine zc ?_ | refine zr3 ?_ | refine x_bs ?_ | refine x_gr ?_ | refine x_st ?_ | refine x_mv ?_ | refine x_sk ?_ | refine ze4 ?_ | refine x_ix ?_ | refine zf4 ?_ | refine zg4 ?_ | refine zu3 ?_ | refine zv2 ?_ | refine x_ld ?_)
  refine ret1 (x := .c (.v (.bool (decide (idxF p l ≥ 0))))) (rw := ⟨0, 0, 0, true, b⟩) rfl rfl rfl hb rfl ⟨?_, rfl⟩
  rw [zu7]
end Go.Proofs.Ytghljnfbbaklnaa
