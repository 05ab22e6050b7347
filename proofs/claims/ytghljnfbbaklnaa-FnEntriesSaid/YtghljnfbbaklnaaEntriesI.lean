/- The machine's rules for fields, loads and lengths, over facts of the types that are worked out once. -/
import Derived.Test.YtghljnfbbaklnaaEntriesH
namespace Go.Proofs.Ytghljnfbbaklnaa
open Go.RowKit
set_option maxRecDepth 100000
section
variable {P : Program} {S T : TypeId} {f off n : Nat}
def fldB (P : Program) (S : TypeId) (f off : Nat) : Bool := match fldOf P S f with | some fl => (P.info? fl.type).isSome && !(Nat.beq (P.cellsOf fl.type) 0) && Nat.beq fl.offset off | none => false
class FldI (P : Program) (S : TypeId) (f : Nat) (off : outParam Nat) : Prop where
  h : fldB P S f off = true
def oneTB (P : Program) (T : TypeId) : Bool := match P.underlying T, P.info? T with | some d, some i => Nat.beq i.size 1 && !(aggD d) && Nat.beq (P.cellsOf T) 1 | _, _ => false
class OneI (P : Program) (T : TypeId) : Prop where
  h : oneTB P T = true
def aggTB (P : Program) (T : TypeId) (n : Nat) : Bool := match P.underlying T, P.info? T with | some d, some i => Nat.beq i.size n && aggD d && Nat.beq (P.cellsOf T) n | _, _ => false
class AggI (P : Program) (T : TypeId) (n : outParam Nat) : Prop where
  h : aggTB P T n = true
class StrI (P : Program) (T : TypeId) : Prop where
  h : (match P.underlying T with | some .string => true | _ => false) = true
class SlcI (P : Program) (T : TypeId) : Prop where
  h : (match P.underlying T with | some (.slice _) => true | _ => false) = true
theorem zd19 (h : fldB P S f off = true) : ∃ fl, fldOf P S f = some fl ∧ ((P.info? fl.type).isSome = true ∧ P.cellsOf fl.type ≠ 0) ∧ fl.offset = off := by
  unfold fldB at h
  split at h
  · rename_i fl e
    simp only [Bool.and_eq_true, Bool.not_eq_true'] at h
    refine ⟨fl, e, ⟨h.1.1, fun h0 => ?_⟩, Nat.eq_of_beq_eq_true h.2⟩
    rw [h0] at h; cases h.1.2
  · cases h
theorem zp9 (h : fldB P S f off = true) {i o : Nat} : aFieldAddr P S f (.c (.pt i o)) = some (.c (.pt i (o + off))) := by
  obtain ⟨fl, h1, h2, rfl⟩ := zd19 h
  unfold aFieldAddr
  rw [h1]
  simp only [if_pos h2]
theorem zq9 (h : fldB P S f off = true) {l : List AC} {o : Nat} : aFieldAddr P S f (.c (.rp l o)) = some (.c (.rp l (o + off))) := by
  obtain ⟨fl, h1, h2, rfl⟩ := zd19 h
  unfold aFieldAddr
  rw [h1]
  simp only [if_pos h2]
theorem ze19 (h : oneTB P T = true) : P.cellsOf T = 1 ∧ ∀ c, mkAV P T [c] = some (.c (ld c)) := by
  unfold oneTB at h
  split at h
  · rename_i d i e1 e2
    simp only [Bool.and_eq_true, Bool.not_eq_true'] at h
    refine ⟨Nat.eq_of_beq_eq_true h.2, fun c => ?_⟩
    unfold mkAV
    rw [e1, e2]
    simp only [h.1.2, List.length_cons, List.length_nil, Nat.eq_of_beq_eq_true h.1.1, if_true, Bool.false_eq_true, if_false]
  · cases h
theorem zf19 (h : aggTB P T n = true) : P.cellsOf T = n ∧ ∀ cs : List AC, cs.length = n → mkAV P T cs = some (.ag (cs.map ld)) := by
  unfold aggTB at h
  split at h
  · rename_i d i e1 e2
    simp only [Bool.and_eq_true] at h
    refine ⟨Nat.eq_of_beq_eq_true h.2, fun cs hl => ?_⟩
    unfold mkAV
    rw [e1, e2]
    simp only [h.1.2, hl, Nat.eq_of_beq_eq_true h.1.1, if_true]
  · cases h
theorem zk12 {l : List AC} {o : Nat} {c : AC} (h : l[o]? = some c) : subL l o 1 = [c] := by
  unfold subL
  obtain ⟨ho, rfl⟩ := List.getElem?_eq_some_iff.1 h
  rw [List.drop_eq_getElem_cons ho]
  rfl
theorem zl12 {l : List AC} {n : Nat} (h : l.length = n) : subL l 0 n = l := by
  unfold subL
  rw [List.drop_zero, List.take_of_length_le (by omega)]
theorem zz15 {hp : Nat → Option Row} (h : oneTB P T = true) {i o : Nat} {rw_ : Row} {c : AC} (hr : hp i = some rw_) (hc : rw_.cs[o]? = some c) : aLoad P T hp (.c (.pt i o)) = some (.c (ld c)) := by
  obtain ⟨h1, h2⟩ := ze19 h
  unfold aLoad
  simp only [hr, Option.bind_some, h1, zk12 hc, h2]
theorem zl13 {hp : Nat → Option Row} (h : oneTB P T = true) {l : List AC} {o : Nat} {c : AC} (hc : l[o]? = some c) : aLoad P T hp (.c (.rp l o)) = some (.c (ld c)) := by
  obtain ⟨h1, h2⟩ := ze19 h
  unfold aLoad
  simp only [h1, zk12 hc, h2]
theorem za16 {hp : Nat → Option Row} (h : aggTB P T n = true) {i : Nat} {rT : TypeId} {rk rn : Nat} {rb : Bool} {cs : List AC} (hr : hp i = some ⟨rT, rk, rn, rb, cs⟩) (hn : cs.length = n) : aLoad P T hp (.c (.pt i 0)) = some (.ag (cs.map ld)) := by
  obtain ⟨h1, h2⟩ := zf19 h
  unfold aLoad
  simp only [hr, Option.bind_some, h1, zl12 hn, h2 _ hn]
theorem zm13 {hp : Nat → Option Row} (h : aggTB P T n = true) {cs : List AC} (hn : cs.length = n) : aLoad P T hp (.c (.rp cs 0)) = some (.ag (cs.map ld)) := by
  obtain ⟨h1, h2⟩ := zf19 h
  unfold aLoad
  simp only [h1, zl12 hn, h2 _ hn]
theorem zu17 {o : Oper} {ev : Operand → AV} {hp : Nat → Option Row} {id : Nat} {y : Operand} {s : ByteArray} (h : (match P.underlying T with | some .string => true | _ => false) = true) (hx : ev y = .c (.v (.string s))) : EffCallD P o ev hp id ⟨.builtin .len, #[y], #[T]⟩ = some (.c (.v (.int .i64 s.size)), .nop) := by
  show (if lenOk P T (ev y) = true then nop? (aLen (ev y)) else none) = _
  have : lenOk P T (ev y) = true := by
    unfold lenOk
    rw [hx]
    split at h
    · rename_i e; rw [e]; rfl
    · cases h
  rw [if_pos this, hx]
  rfl
theorem zm12 {o : Oper} {ev : Operand → AV} {hp : Nat → Option Row} {id : Nat} {y : Operand} {n : Nat} (h : (match P.underlying T with | some (.slice _) => true | _ => false) = true) (hx : isStr (ev y) = false) (hl : aLen (ev y) = some (.c (.v (.int .i64 n)))) : EffCallD P o ev hp id ⟨.builtin .len, #[y], #[T]⟩ = some (.c (.v (.int .i64 n)), .nop) := by
  show (if lenOk P T (ev y) = true then nop? (aLen (ev y)) else none) = _
  have : lenOk P T (ev y) = true := by
    unfold lenOk
    rw [hx]
    split at h
    · rename_i e; rw [e]; rfl
    · cases h
  rw [if_pos this, hl]
  rfl
end
instance : OneI Try.prog 3 := ⟨by kernel_rfl⟩
instance : OneI Try.prog 4 := ⟨by kernel_rfl⟩
instance : OneI Try.prog 5 := ⟨by kernel_rfl⟩
instance : OneI Try.prog 9 := ⟨by kernel_rfl⟩
instance : StrI Try.prog 9 := ⟨by kernel_rfl⟩
instance : OneI Try.prog 15 := ⟨by kernel_rfl⟩
instance : OneI Try.prog 16 := ⟨by kernel_rfl⟩
instance : OneI Try.prog 17 := ⟨by kernel_rfl⟩
instance : OneI Try.prog 22 := ⟨by kernel_rfl⟩
instance : SlcI Try.prog 22 := ⟨by kernel_rfl⟩
instance : OneI Try.prog 24 := ⟨by kernel_rfl⟩
instance : SlcI Try.prog 24 := ⟨by kernel_rfl⟩
instance : OneI Try.prog 25 := ⟨by kernel_rfl⟩
instance : SlcI Try.prog 25 := ⟨by kernel_rfl⟩
instance : FldI Try.prog 27 0 0 := ⟨by kernel_rfl⟩
instance : FldI Try.prog 27 1 1 := ⟨by kernel_rfl⟩
instance : AggI Try.prog 27 2 := ⟨by kernel_rfl⟩
instance : FldI Try.prog 29 0 0 := ⟨by kernel_rfl⟩
instance : FldI Try.prog 29 1 1 := ⟨by kernel_rfl⟩
instance : FldI Try.prog 29 2 2 := ⟨by kernel_rfl⟩
instance : AggI Try.prog 29 3 := ⟨by kernel_rfl⟩
instance : FldI Try.prog 34 0 0 := ⟨by kernel_rfl⟩
instance : FldI Try.prog 34 1 1 := ⟨by kernel_rfl⟩
instance : AggI Try.prog 34 4 := ⟨by kernel_rfl⟩
instance : OneI Try.prog 37 := ⟨by kernel_rfl⟩
instance : SlcI Try.prog 37 := ⟨by kernel_rfl⟩
instance : FldI Try.prog 39 0 0 := ⟨by kernel_rfl⟩
instance : AggI Try.prog 39 1 := ⟨by kernel_rfl⟩
instance : FldI Try.prog 46 0 0 := ⟨by kernel_rfl⟩
instance : FldI Try.prog 46 1 1 := ⟨by kernel_rfl⟩
instance : AggI Try.prog 46 4 := ⟨by kernel_rfl⟩
instance : OneI Try.prog 55 := ⟨by kernel_rfl⟩
instance : SlcI Try.prog 55 := ⟨by kernel_rfl⟩
instance : OneI Try.prog 58 := ⟨by kernel_rfl⟩
instance : SlcI Try.prog 58 := ⟨by kernel_rfl⟩
instance : OneI Try.prog 59 := ⟨by kernel_rfl⟩
instance : SlcI Try.prog 59 := ⟨by kernel_rfl⟩
instance : FldI Try.prog 61 0 0 := ⟨by kernel_rfl⟩
instance : FldI Try.prog 61 1 1 := ⟨by kernel_rfl⟩
instance : FldI Try.prog 61 2 2 := ⟨by kernel_rfl⟩
instance : FldI Try.prog 61 3 3 := ⟨by kernel_rfl⟩
instance : FldI Try.prog 61 4 4 := ⟨by kernel_rfl⟩
instance : AggI Try.prog 61 5 := ⟨by kernel_rfl⟩
instance : OneI Try.prog 64 := ⟨by kernel_rfl⟩
instance : SlcI Try.prog 64 := ⟨by kernel_rfl⟩
instance : OneI Try.prog 65 := ⟨by kernel_rfl⟩
instance : SlcI Try.prog 65 := ⟨by kernel_rfl⟩
instance : FldI Try.prog 67 0 0 := ⟨by kernel_rfl⟩
instance : FldI Try.prog 67 1 1 := ⟨by kernel_rfl⟩
instance : FldI Try.prog 67 2 2 := ⟨by kernel_rfl⟩
instance : FldI Try.prog 67 3 3 := ⟨by kernel_rfl⟩
instance : FldI Try.prog 67 4 4 := ⟨by kernel_rfl⟩
instance : AggI Try.prog 67 5 := ⟨by kernel_rfl⟩
instance : OneI Try.prog 71 := ⟨by kernel_rfl⟩
instance : OneI Try.prog 78 := ⟨by kernel_rfl⟩
instance : SlcI Try.prog 78 := ⟨by kernel_rfl⟩
instance : FldI Try.prog 80 0 0 := ⟨by kernel_rfl⟩
instance : FldI Try.prog 80 1 1 := ⟨by kernel_rfl⟩
instance : AggI Try.prog 80 2 := ⟨by kernel_rfl⟩
instance : FldI Try.prog 82 0 0 := ⟨by kernel_rfl⟩
instance : FldI Try.prog 82 1 1 := ⟨by kernel_rfl⟩
instance : AggI Try.prog 82 4 := ⟨by kernel_rfl⟩
instance : OneI Try.prog 87 := ⟨by kernel_rfl⟩
instance : OneI Try.prog 91 := ⟨by kernel_rfl⟩
instance : OneI Try.prog 94 := ⟨by kernel_rfl⟩
instance : OneI Try.prog 101 := ⟨by kernel_rfl⟩
instance : SlcI Try.prog 101 := ⟨by kernel_rfl⟩
instance : FldI Try.prog 103 0 0 := ⟨by kernel_rfl⟩
instance : FldI Try.prog 103 1 1 := ⟨by kernel_rfl⟩
instance : AggI Try.prog 103 2 := ⟨by kernel_rfl⟩
instance : FldI Try.prog 111 0 0 := ⟨by kernel_rfl⟩
instance : FldI Try.prog 111 1 1 := ⟨by kernel_rfl⟩
instance : AggI Try.prog 111 2 := ⟨by kernel_rfl⟩
instance : FldI Try.prog 117 0 0 := ⟨by kernel_rfl⟩
instance : FldI Try.prog 117 1 1 := ⟨by kernel_rfl⟩
instance : FldI Try.prog 117 2 2 := ⟨by kernel_rfl⟩
instance : AggI Try.prog 117 3 := ⟨by kernel_rfl⟩
instance : OneI Try.prog 124 := ⟨by kernel_rfl⟩
instance : SlcI Try.prog 124 := ⟨by kernel_rfl⟩
instance : FldI Try.prog 134 0 0 := ⟨by kernel_rfl⟩
instance : FldI Try.prog 134 1 1 := ⟨by kernel_rfl⟩
instance : FldI Try.prog 134 2 2 := ⟨by kernel_rfl⟩
instance : AggI Try.prog 134 3 := ⟨by kernel_rfl⟩
instance : OneI Try.prog 136 := ⟨by kernel_rfl⟩
instance : SlcI Try.prog 136 := ⟨by kernel_rfl⟩
instance : FldI Try.prog 138 0 0 := ⟨by kernel_rfl⟩
instance : FldI Try.prog 138 1 1 := ⟨by kernel_rfl⟩
instance : AggI Try.prog 138 2 := ⟨by kernel_rfl⟩
instance : OneI Try.prog 139 := ⟨by kernel_rfl⟩
instance : SlcI Try.prog 139 := ⟨by kernel_rfl⟩
instance : FldI Try.prog 141 0 0 := ⟨by kernel_rfl⟩
instance : FldI Try.prog 141 1 1 := ⟨by kernel_rfl⟩
instance : FldI Try.prog 141 2 2 := ⟨by kernel_rfl⟩
instance : AggI Try.prog 141 3 := ⟨by kernel_rfl⟩
instance : OneI Try.prog 156 := ⟨by kernel_rfl⟩
instance : FldI Try.prog 158 0 0 := ⟨by kernel_rfl⟩
instance : FldI Try.prog 158 1 1 := ⟨by kernel_rfl⟩
instance : FldI Try.prog 158 2 2 := ⟨by kernel_rfl⟩
instance : FldI Try.prog 158 3 3 := ⟨by kernel_rfl⟩
instance : AggI Try.prog 158 4 := ⟨by kernel_rfl⟩
instance : OneI Try.prog 162 := ⟨by kernel_rfl⟩
instance : FldI Try.prog 164 0 0 := ⟨by kernel_rfl⟩
instance : FldI Try.prog 164 1 1 := ⟨by kernel_rfl⟩
instance : FldI Try.prog 164 2 2 := ⟨by kernel_rfl⟩
instance : FldI Try.prog 164 3 3 := ⟨by kernel_rfl⟩
instance : AggI Try.prog 164 4 := ⟨by kernel_rfl⟩
instance : FldI Try.prog 171 0 0 := ⟨by kernel_rfl⟩
instance : FldI Try.prog 171 1 1 := ⟨by kernel_rfl⟩
instance : AggI Try.prog 171 2 := ⟨by kernel_rfl⟩
instance : OneI Try.prog 183 := ⟨by kernel_rfl⟩
instance : OneI Try.prog 193 := ⟨by kernel_rfl⟩
section
variable {ops : Array Oper} {Q : Exit → Act → World → Prop} {C : Ctx} {H H' : List (Nat × Oper × Inf)} {i : Nat} {r : List Nat} {dr : Bool}
variable {tm : Nat → AV} {hp : Nat → Option Row} {gn L : Nat} {us : List Nat}
theorem o_fa {t : Nat} {ty : TypeId} {gd : Option (Nat × Bool)} {ps : String} {af : Array Edge} {S : TypeId} {f : Nat} {p : Operand} {i0 o0 off : Nat} [hF : FldI Try.prog S f off] (h : Walk Try.prog ops Q C dr (keepH dr (i, (⟨some t, .fieldAddr S p f, ty, ps, af, gd⟩ : Oper), ⟨fpO (AS.ev ⟨tm, hp, gn, us, L⟩) (⟨some t, .fieldAddr S p f, ty, ps, af, gd⟩ : Oper), [], [], .c (.pt i0 (o0 + off))⟩) H) r ⟨upd tm t (.c (.pt i0 (o0 + off))), hp, gn, us, L⟩) (hx : AS.ev ⟨tm, hp, gn, us, L⟩ p = .c (.pt i0 o0) := by exact rfl) (ht : Nat.blt t L = true := by exact rfl) (hg : gw ops tm (⟨some t, .fieldAddr S p f, ty, ps, af, gd⟩ : Oper) = some true := by exact rfl) (hc : chk dr ops i (⟨some t, .fieldAddr S p f, ty, ps, af, gd⟩ : Oper) ⟨fpO (AS.ev ⟨tm, hp, gn, us, L⟩) (⟨some t, .fieldAddr S p f, ty, ps, af, gd⟩ : Oper), [], [], .c (.pt i0 (o0 + off))⟩ H = true := by first | (with_reducible exact zr1) | kernel_rfl) : WalkO Try.prog ops Q C dr H i (⟨some t, .fieldAddr S p f, ty, ps, af, gd⟩ : Oper) r ⟨tm, hp, gn, us, L⟩ := ⟨fun hop => zf1 h hop rfl ht hg (by show nop? (aFieldAddr _ S f (AS.ev ⟨tm, hp, gn, us, L⟩ p)) = _; rw [hx, zp9 hF.h]; rfl) hc⟩
theorem zd4 {t : Nat} {ty : TypeId} {gd : Option (Nat × Bool)} {ps : String} {af : Array Edge} {S : TypeId} {f : Nat} {p : Operand} {l : List AC} {o0 off : Nat} [hF : FldI Try.prog S f off] (h : Walk Try.prog ops Q C dr (keepH dr (i, (⟨some t, .fieldAddr S p f, ty, ps, af, gd⟩ : Oper), ⟨fpO (AS.ev ⟨tm, hp, gn, us, L⟩) (⟨some t, .fieldAddr S p f, ty, ps, af, gd⟩ : Oper), [], [], .c (.rp l (o0 + off))⟩) H) r ⟨upd tm t (.c (.rp l (o0 + off))), hp, gn, us, L⟩) (hx : AS.ev ⟨tm, hp, gn, us, L⟩ p = .c (.rp l o0) := by exact rfl) (ht : Nat.blt t L = true := by exact rfl) (hg : gw ops tm (⟨some t, .fieldAddr S p f, ty, ps, af, gd⟩ : Oper) = some true := by exact rfl) (hc : chk dr ops i (⟨some t, .fieldAddr S p f, ty, ps, af, gd⟩ : Oper) ⟨fpO (AS.ev ⟨tm, hp, gn, us, L⟩) (⟨some t, .fieldAddr S p f, ty, ps, af, gd⟩ : Oper), [], [], .c (.rp l (o0 + off))⟩ H = true := by first | (with_reducible exact zr1) | kernel_rfl) : WalkO Try.prog ops Q C dr H i (⟨some t, .fieldAddr S p f, ty, ps, af, gd⟩ : Oper) r ⟨tm, hp, gn, us, L⟩ := ⟨fun hop => zf1 h hop rfl ht hg (by show nop? (aFieldAddr _ S f (AS.ev ⟨tm, hp, gn, us, L⟩ p)) = _; rw [hx, zq9 hF.h]; rfl) hc⟩
theorem zn3 {t : Nat} {ty : TypeId} {gd : Option (Nat × Bool)} {ps : String} {af : Array Edge} {T : TypeId} {p : Operand} {i0 o0 : Nat} {rw : Row} {c : AC} [hF : OneI Try.prog T] (h : Walk Try.prog ops Q C dr (keepH dr (i, (⟨some t, .load T p, ty, ps, af, gd⟩ : Oper), ⟨fpO (AS.ev ⟨tm, hp, gn, us, L⟩) (⟨some t, .load T p, ty, ps, af, gd⟩ : Oper), [], [], .c c⟩) H) r ⟨upd tm t (.c c), hp, gn, us, L⟩) (hx : AS.ev ⟨tm, hp, gn, us, L⟩ p = .c (.pt i0 o0) := by exact rfl) (hr : hp i0 = some rw := by exact rfl) (hcs : rw.cs[o0]? = some c := by exact rfl) (hld : ld c = c := by exact rfl) (ht : Nat.blt t L = true := by exact rfl) (hg : gw ops tm (⟨some t, .load T p, ty, ps, af, gd⟩ : Oper) = some true := by exact rfl) (hc : chk dr ops i (⟨some t, .load T p, ty, ps, af, gd⟩ : Oper) ⟨fpO (AS.ev ⟨tm, hp, gn, us, L⟩) (⟨some t, .load T p, ty, ps, af, gd⟩ : Oper), [], [], .c c⟩ H = true := by first | (with_reducible exact zr1) | kernel_rfl) : WalkO Try.prog ops Q C dr H i (⟨some t, .load T p, ty, ps, af, gd⟩ : Oper) r ⟨tm, hp, gn, us, L⟩ := ⟨fun hop => zf1 h hop rfl ht hg (by show nop? (aLoad _ T hp (AS.ev ⟨tm, hp, gn, us, L⟩ p)) = _; rw [hx, zz15 hF.h hr hcs, hld]; rfl) hc⟩
theorem zc2 {t : Nat} {ty : TypeId} {gd : Option (Nat × Bool)} {ps : String} {af : Array Edge} {T : TypeId} {p : Operand} {l : List AC} {o0 : Nat} {c : AC} [hF : OneI Try.prog T] (h : Walk Try.prog ops Q C dr (keepH dr (i, (⟨some t, .load T p, ty, ps, af, gd⟩ : Oper), ⟨fpO (AS.ev ⟨tm, hp, gn, us, L⟩) (⟨some t, .load T p, ty, ps, af, gd⟩ : Oper), [], [], .c c⟩) H) r ⟨upd tm t (.c c), hp, gn, us, L⟩) (hx : AS.ev ⟨tm, hp, gn, us, L⟩ p = .c (.rp l o0) := by exact rfl) (hcs : l[o0]? = some c := by exact rfl) (hld : ld c = c := by exact rfl) (ht : Nat.blt t L = true := by exact rfl) (hg : gw ops tm (⟨some t, .load T p, ty, ps, af, gd⟩ : Oper) = some true := by exact rfl) (hc : chk dr ops i (⟨some t, .load T p, ty, ps, af, gd⟩ : Oper) ⟨fpO (AS.ev ⟨tm, hp, gn, us, L⟩) (⟨some t, .load T p, ty, ps, af, gd⟩ : Oper), [], [], .c c⟩ H = true := by first | (with_reducible exact zr1) | kernel_rfl) : WalkO Try.prog ops Q C dr H i (⟨some t, .load T p, ty, ps, af, gd⟩ : Oper) r ⟨tm, hp, gn, us, L⟩ := ⟨fun hop => zf1 h hop rfl ht hg (by show nop? (aLoad _ T hp (AS.ev ⟨tm, hp, gn, us, L⟩ p)) = _; rw [hx, zl13 hF.h hcs, hld]; rfl) hc⟩
theorem zo3 {t : Nat} {ty : TypeId} {gd : Option (Nat × Bool)} {ps : String} {af : Array Edge} {T : TypeId} {p : Operand} {i0 n : Nat} {cs : List AC} {rT : TypeId} {rk rn : Nat} {rb : Bool} [hF : AggI Try.prog T n] (h : Walk Try.prog ops Q C dr (keepH dr (i, (⟨some t, .load T p, ty, ps, af, gd⟩ : Oper), ⟨fpO (AS.ev ⟨tm, hp, gn, us, L⟩) (⟨some t, .load T p, ty, ps, af, gd⟩ : Oper), [], [], .ag cs⟩) H) r ⟨upd tm t (.ag cs), hp, gn, us, L⟩) (hx : AS.ev ⟨tm, hp, gn, us, L⟩ p = .c (.pt i0 0) := by exact rfl) (hr : hp i0 = some ⟨rT, rk, rn, rb, cs⟩ := by exact rfl) (hn : cs.length = n := by exact rfl) (hld : cs.map ld = cs := by exact rfl) (ht : Nat.blt t L = true := by exact rfl) (hg : gw ops tm (⟨some t, .load T p, ty, ps, af, gd⟩ : Oper) = some true := by exact rfl) (hc : chk dr ops i (⟨some t, .load T p, ty, ps, af, gd⟩ : Oper) ⟨fpO (AS.ev ⟨tm, hp, gn, us, L⟩) (⟨some t, .load T p, ty, ps, af, gd⟩ : Oper), [], [], .ag cs⟩ H = true := by first | (with_reducible exact zr1) | kernel_rfl) : WalkO Try.prog ops Q C dr H i (⟨some t, .load T p, ty, ps, af, gd⟩ : Oper) r ⟨tm, hp, gn, us, L⟩ := ⟨fun hop => zf1 h hop rfl ht hg (by show nop? (aLoad _ T hp (AS.ev ⟨tm, hp, gn, us, L⟩ p)) = _; rw [hx, za16 hF.h hr hn, hld]; rfl) hc⟩
theorem zd2 {t : Nat} {ty : TypeId} {gd : Option (Nat × Bool)} {ps : String} {af : Array Edge} {T : TypeId} {p : Operand} {n : Nat} {cs : List AC} [hF : AggI Try.prog T n] (h : Walk Try.prog ops Q C dr (keepH dr (i, (⟨some t, .load T p, ty, ps, af, gd⟩ : Oper), ⟨fpO (AS.ev ⟨tm, hp, gn, us, L⟩) (⟨some t, .load T p, ty, ps, af, gd⟩ : Oper), [], [], .ag cs⟩) H) r ⟨upd tm t (.ag cs), hp, gn, us, L⟩) (hx : AS.ev ⟨tm, hp, gn, us, L⟩ p = .c (.rp cs 0) := by exact rfl) (hn : cs.length = n := by exact rfl) (hld : cs.map ld = cs := by exact rfl) (ht : Nat.blt t L = true := by exact rfl) (hg : gw ops tm (⟨some t, .load T p, ty, ps, af, gd⟩ : Oper) = some true := by exact rfl) (hc : chk dr ops i (⟨some t, .load T p, ty, ps, af, gd⟩ : Oper) ⟨fpO (AS.ev ⟨tm, hp, gn, us, L⟩) (⟨some t, .load T p, ty, ps, af, gd⟩ : Oper), [], [], .ag cs⟩ H = true := by first | (with_reducible exact zr1) | kernel_rfl) : WalkO Try.prog ops Q C dr H i (⟨some t, .load T p, ty, ps, af, gd⟩ : Oper) r ⟨tm, hp, gn, us, L⟩ := ⟨fun hop => zf1 h hop rfl ht hg (by show nop? (aLoad _ T hp (AS.ev ⟨tm, hp, gn, us, L⟩ p)) = _; rw [hx, zm13 hF.h hn, hld]; rfl) hc⟩
theorem ze2 {t : Nat} {ty : TypeId} {gd : Option (Nat × Bool)} {ps : String} {af : Array Edge} {T : TypeId} {y : Operand} {s : ByteArray} [hF : StrI Try.prog T] (h : Walk Try.prog ops Q C dr (keepH dr (i, (⟨some t, .call ⟨.builtin .len, #[y], #[T]⟩, ty, ps, af, gd⟩ : Oper), ⟨fpO (AS.ev ⟨tm, hp, gn, us, L⟩) (⟨some t, .call ⟨.builtin .len, #[y], #[T]⟩, ty, ps, af, gd⟩ : Oper), [], [], .c (.v (.int .i64 s.size))⟩) H) r ⟨upd tm t (.c (.v (.int .i64 s.size))), hp, gn, us, L⟩) (hx : AS.ev ⟨tm, hp, gn, us, L⟩ y = .c (.v (.string s)) := by exact rfl) (ht : Nat.blt t L = true := by exact rfl) (hg : gw ops tm (⟨some t, .call ⟨.builtin .len, #[y], #[T]⟩, ty, ps, af, gd⟩ : Oper) = some true := by exact rfl) (hc : chk dr ops i (⟨some t, .call ⟨.builtin .len, #[y], #[T]⟩, ty, ps, af, gd⟩ : Oper) ⟨fpO (AS.ev ⟨tm, hp, gn, us, L⟩) (⟨some t, .call ⟨.builtin .len, #[y], #[T]⟩, ty, ps, af, gd⟩ : Oper), [], [], .c (.v (.int .i64 s.size))⟩ H = true := by first | (with_reducible exact zr1) | kernel_rfl) : WalkO Try.prog ops Q C dr H i (⟨some t, .call ⟨.builtin .len, #[y], #[T]⟩, ty, ps, af, gd⟩ : Oper) r ⟨tm, hp, gn, us, L⟩ := ⟨fun hop => zf1 h hop rfl ht hg (zu17 (o := (⟨some t, .call ⟨.builtin .len, #[y], #[T]⟩, ty, ps, af, gd⟩ : Oper)) (hp := hp) (id := 0) hF.h hx) hc⟩
theorem zf2 {t : Nat} {ty : TypeId} {gd : Option (Nat × Bool)} {ps : String} {af : Array Edge} {T : TypeId} {y : Operand} {n k : Nat} {l : List AC} [hF : SlcI Try.prog T] (h : Walk Try.prog ops Q C dr (keepH dr (i, (⟨some t, .call ⟨.builtin .len, #[y], #[T]⟩, ty, ps, af, gd⟩ : Oper), ⟨fpO (AS.ev ⟨tm, hp, gn, us, L⟩) (⟨some t, .call ⟨.builtin .len, #[y], #[T]⟩, ty, ps, af, gd⟩ : Oper), [], [], .c (.v (.int .i64 n))⟩) H) r ⟨upd tm t (.c (.v (.int .i64 n))), hp, gn, us, L⟩) (hx : AS.ev ⟨tm, hp, gn, us, L⟩ y = .c (.ro n k l) := by exact rfl) (ht : Nat.blt t L = true := by exact rfl) (hg : gw ops tm (⟨some t, .call ⟨.builtin .len, #[y], #[T]⟩, ty, ps, af, gd⟩ : Oper) = some true := by exact rfl) (hc : chk dr ops i (⟨some t, .call ⟨.builtin .len, #[y], #[T]⟩, ty, ps, af, gd⟩ : Oper) ⟨fpO (AS.ev ⟨tm, hp, gn, us, L⟩) (⟨some t, .call ⟨.builtin .len, #[y], #[T]⟩, ty, ps, af, gd⟩ : Oper), [], [], .c (.v (.int .i64 n))⟩ H = true := by first | (with_reducible exact zr1) | kernel_rfl) : WalkO Try.prog ops Q C dr H i (⟨some t, .call ⟨.builtin .len, #[y], #[T]⟩, ty, ps, af, gd⟩ : Oper) r ⟨tm, hp, gn, us, L⟩ := ⟨fun hop => zf1 h hop rfl ht hg (zm12 (o := (⟨some t, .call ⟨.builtin .len, #[y], #[T]⟩, ty, ps, af, gd⟩ : Oper)) (hp := hp) (id := 0) hF.h (by rw [hx]; rfl) (by rw [hx]; rfl)) hc⟩
theorem zg2 {t : Nat} {ty : TypeId} {gd : Option (Nat × Bool)} {ps : String} {af : Array Edge} {T : TypeId} {y : Operand} {j n : Nat} [hF : SlcI Try.prog T] (h : Walk Try.prog ops Q C dr (keepH dr (i, (⟨some t, .call ⟨.builtin .len, #[y], #[T]⟩, ty, ps, af, gd⟩ : Oper), ⟨fpO (AS.ev ⟨tm, hp, gn, us, L⟩) (⟨some t, .call ⟨.builtin .len, #[y], #[T]⟩, ty, ps, af, gd⟩ : Oper), [], [], .c (.v (.int .i64 n))⟩) H) r ⟨upd tm t (.c (.v (.int .i64 n))), hp, gn, us, L⟩) (hx : AS.ev ⟨tm, hp, gn, us, L⟩ y = .c (.sl j n) := by exact rfl) (ht : Nat.blt t L = true := by exact rfl) (hg : gw ops tm (⟨some t, .call ⟨.builtin .len, #[y], #[T]⟩, ty, ps, af, gd⟩ : Oper) = some true := by exact rfl) (hc : chk dr ops i (⟨some t, .call ⟨.builtin .len, #[y], #[T]⟩, ty, ps, af, gd⟩ : Oper) ⟨fpO (AS.ev ⟨tm, hp, gn, us, L⟩) (⟨some t, .call ⟨.builtin .len, #[y], #[T]⟩, ty, ps, af, gd⟩ : Oper), [], [], .c (.v (.int .i64 n))⟩ H = true := by first | (with_reducible exact zr1) | kernel_rfl) : WalkO Try.prog ops Q C dr H i (⟨some t, .call ⟨.builtin .len, #[y], #[T]⟩, ty, ps, af, gd⟩ : Oper) r ⟨tm, hp, gn, us, L⟩ := ⟨fun hop => zf1 h hop rfl ht hg (zm12 (o := (⟨some t, .call ⟨.builtin .len, #[y], #[T]⟩, ty, ps, af, gd⟩ : Oper)) (hp := hp) (id := 0) hF.h (by rw [hx]; rfl) (by rw [hx]; rfl)) hc⟩
end
section
variable {P : Program} {ops : Array Oper} {Q : Exit → Act → World → Prop} {C : Ctx} {H : List (Nat × Oper × Inf)} {i : Nat} {r : List Nat} {dr : Bool} {σ : AS} {ty : TypeId} {ps : String} {af : Array Edge}
theorem d_gs {d : Option Tmp} {op : Op} {gb : Nat × Bool} (h : WalkO P ops Q C dr H i (⟨d, op, ty, ps, af, some gb⟩ : Oper) r σ) : WalkO P ops Q C dr H i (⟨d, op, ty, ps, af, some gb⟩ : Oper) r σ := h
theorem d_bo {t : Tmp} {op : Op} {gd : Option (Nat × Bool)} (h : WalkO P ops Q C dr H i (⟨some t, op, 4, ps, af, gd⟩ : Oper) r σ) : WalkO P ops Q C dr H i (⟨some t, op, 4, ps, af, gd⟩ : Oper) r σ := h
theorem d_ca {t : Tmp} {fv : Operand} {as_ : Array Operand} {ts : Array TypeId} {gd : Option (Nat × Bool)} (h : WalkO P ops Q C dr H i (⟨some t, .call ⟨.value fv, as_, ts⟩, ty, ps, af, gd⟩ : Oper) r σ) : WalkO P ops Q C dr H i (⟨some t, .call ⟨.value fv, as_, ts⟩, ty, ps, af, gd⟩ : Oper) r σ := h
theorem d_bi {t : Tmp} {b : Builtin} {as_ : Array Operand} {ts : Array TypeId} {gd : Option (Nat × Bool)} (h : WalkO P ops Q C dr H i (⟨some t, .call ⟨.builtin b, as_, ts⟩, ty, ps, af, gd⟩ : Oper) r σ) : WalkO P ops Q C dr H i (⟨some t, .call ⟨.builtin b, as_, ts⟩, ty, ps, af, gd⟩ : Oper) r σ := h
theorem d_fa {t : Tmp} {S : TypeId} {f : Nat} {p : Operand} {gd : Option (Nat × Bool)} (h : WalkO P ops Q C dr H i (⟨some t, .fieldAddr S p f, ty, ps, af, gd⟩ : Oper) r σ) : WalkO P ops Q C dr H i (⟨some t, .fieldAddr S p f, ty, ps, af, gd⟩ : Oper) r σ := h
theorem d_ld {t : Tmp} {T : TypeId} {p : Operand} {gd : Option (Nat × Bool)} (h : WalkO P ops Q C dr H i (⟨some t, .load T p, ty, ps, af, gd⟩ : Oper) r σ) : WalkO P ops Q C dr H i (⟨some t, .load T p, ty, ps, af, gd⟩ : Oper) r σ := h
theorem d_st {T : TypeId} {p y : Operand} {gd : Option (Nat × Bool)} (h : WalkO P ops Q C dr H i (⟨none, .store T p y, ty, ps, af, gd⟩ : Oper) r σ) : WalkO P ops Q C dr H i (⟨none, .store T p y, ty, ps, af, gd⟩ : Oper) r σ := h
theorem d_ia {t : Tmp} {T : TypeId} {x y : Operand} {gd : Option (Nat × Bool)} (h : WalkO P ops Q C dr H i (⟨some t, .indexAddr T x y, ty, ps, af, gd⟩ : Oper) r σ) : WalkO P ops Q C dr H i (⟨some t, .indexAddr T x y, ty, ps, af, gd⟩ : Oper) r σ := h
theorem d_bb {t : Tmp} {T U : TypeId} {b : BinOp} {x y : Operand} {gd : Option (Nat × Bool)} (h : WalkO P ops Q C dr H i (⟨some t, .binOp b T x y U, ty, ps, af, gd⟩ : Oper) r σ) : WalkO P ops Q C dr H i (⟨some t, .binOp b T x y U, ty, ps, af, gd⟩ : Oper) r σ := h
theorem d_cv {t : Tmp} {S D : TypeId} {x : Operand} {gd : Option (Nat × Bool)} (h : WalkO P ops Q C dr H i (⟨some t, .convert S D x, ty, ps, af, gd⟩ : Oper) r σ) : WalkO P ops Q C dr H i (⟨some t, .convert S D x, ty, ps, af, gd⟩ : Oper) r σ := h
theorem d_mv {t : Tmp} {x : Operand} {gd : Option (Nat × Bool)} (h : WalkO P ops Q C dr H i (⟨some t, .move x, ty, ps, af, gd⟩ : Oper) r σ) : WalkO P ops Q C dr H i (⟨some t, .move x, ty, ps, af, gd⟩ : Oper) r σ := h
theorem d_as {t : Tmp} {x : Operand} {gd : Option (Nat × Bool)} (h : WalkO P ops Q C dr H i (⟨some t, .assign x, ty, ps, af, gd⟩ : Oper) r σ) : WalkO P ops Q C dr H i (⟨some t, .assign x, ty, ps, af, gd⟩ : Oper) r σ := h
theorem d_wo {o : Oper} (h : WalkO P ops Q C dr H i o r σ) : WalkO P ops Q C dr H i o r σ := h
theorem d_w {l : List Nat} (h : Walk P ops Q C dr H l σ) : Walk P ops Q C dr H l σ := h
end
end Go.Proofs.Ytghljnfbbaklnaa
