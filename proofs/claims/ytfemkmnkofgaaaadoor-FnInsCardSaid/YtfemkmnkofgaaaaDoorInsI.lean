/- The machine's rules for fields, loads and lengths, over facts of the types that are worked out once. -/
import Derived.Test.YtfemkmnkofgaaaaDoorInsH
namespace Go.Proofs.YtfemkmnkofgaaaaDoor
open Go.RowKit
set_option maxRecDepth 100000
section
variable {P : Program} {S T : TypeId} {f off n : Nat}
def fldB (P : Program) (S : TypeId) (f off : Nat) : Bool := match fldOf P S f with | some fl => (P.info? fl.type).isSome && !(Nat.beq (P.cellsOf fl.type) 0) && Nat.beq fl.offset off | none => false
class FldI (P : Program) (S : TypeId) (f : Nat) (off : outParam Nat) : Prop where
  h : fldB P S f off = true
def oneTB (P : Program) (T : TypeId) : Bool := match P.underlying T, P.info? T with | some d, some i => Nat.beq i.size 1 && !(aggD d) && Nat.beq (P.cellsOf T) 1 | _, _ => false
class OneI (P : Program) (T : TypeId) : Prop where
  h : oneTB P T = true
def aggTB (P : Program) (T : TypeId) (n : Nat) : Bool := match P.underlying T, P.info? T with | some d, some i => Nat.beq i.size n && aggD d && Nat.beq (P.cellsOf T) n | _, _ => false
class AggI (P : Program) (T : TypeId) (n : outParam Nat) : Prop where
  h : aggTB P T n = true
class StrI (P : Program) (T : TypeId) : Prop where
  h : (match P.underlying T with | some .string => true | _ => false) = true
class SlcI (P : Program) (T : TypeId) : Prop where
  h : (match P.underlying T with | some (.slice _) => true | _ => false) = true
theorem zx18 (h : fldB P S f off = true) : ∃ fl, fldOf P S f = some fl ∧ ((P.info? fl.type).isSome = true ∧ P.cellsOf fl.type ≠ 0) ∧ fl.offset = off := by
  unfold fldB at h
  split at h
  · rename_i fl e
    simp only [Bool.and_eq_true, Bool.not_eq_true'] at h
    refine ⟨fl, e, ⟨h.1.1, fun h0 => ?_⟩, Nat.eq_of_beq_eq_true h.2⟩
    rw [h0] at h; cases h.1.2
  · cases h
theorem zz9 (h : fldB P S f off = true) {i o : Nat} : aFieldAddr P S f (.c (.pt i o)) = some (.c (.pt i (o + off))) := by
  obtain ⟨fl, h1, h2, rfl⟩ := zx18 h
  unfold aFieldAddr
  rw [h1]
  simp only [if_pos h2]
theorem za10 (h : fldB P S f off = true) {l : List AC} {o : Nat} : aFieldAddr P S f (.c (.rp l o)) = some (.c (.rp l (o + off))) := by
  obtain ⟨fl, h1, h2, rfl⟩ := zx18 h
  unfold aFieldAddr
  rw [h1]
  simp only [if_pos h2]
theorem zy18 (h : oneTB P T = true) : P.cellsOf T = 1 ∧ ∀ c, mkAV P T [c] = some (.c (ld c)) := by
  unfold oneTB at h
  split at h
  · rename_i d i e1 e2
    simp only [Bool.and_eq_true, Bool.not_eq_true'] at h
    refine ⟨Nat.eq_of_beq_eq_true h.2, fun c => ?_⟩
    unfold mkAV
    rw [e1, e2]
    simp only [h.1.2, List.length_cons, List.length_nil, Nat.eq_of_beq_eq_true h.1.1, if_true, Bool.false_eq_true, if_false]
  · cases h
theorem zz18 (h : aggTB P T n = true) : P.cellsOf T = n ∧ ∀ cs : List AC, cs.length = n → mkAV P T cs = some (.ag (cs.map ld)) := by
  unfold aggTB at h
  split at h
  · rename_i d i e1 e2
    simp only [Bool.and_eq_true] at h
    refine ⟨Nat.eq_of_beq_eq_true h.2, fun cs hl => ?_⟩
    unfold mkAV
    rw [e1, e2]
    simp only [h.1.2, hl, Nat.eq_of_beq_eq_true h.1.1, if_true]
  · cases h
theorem zq12 {l : List AC} {o : Nat} {c : AC} (h : l[o]? = some c) : subL l o 1 = [c] := by
  unfold subL
  obtain ⟨ho, rfl⟩ := List.getElem?_eq_some_iff.1 h
  rw [List.drop_eq_getElem_cons ho]
  rfl
theorem zr12 {l : List AC} {n : Nat} (h : l.length = n) : subL l 0 n = l := by
  unfold subL
  rw [List.drop_zero, List.take_of_length_le (by omega)]
theorem zt15 {hp : Nat → Option Row} (h : oneTB P T = true) {i o : Nat} {rw_ : Row} {c : AC} (hr : hp i = some rw_) (hc : rw_.cs[o]? = some c) : aLoad P T hp (.c (.pt i o)) = some (.c (ld c)) := by
  obtain ⟨h1, h2⟩ := zy18 h
  unfold aLoad
  simp only [hr, Option.bind_some, h1, zq12 hc, h2]
theorem zr13 {hp : Nat → Option Row} (h : oneTB P T = true) {l : List AC} {o : Nat} {c : AC} (hc : l[o]? = some c) : aLoad P T hp (.c (.rp l o)) = some (.c (ld c)) := by
  obtain ⟨h1, h2⟩ := zy18 h
  unfold aLoad
  simp only [h1, zq12 hc, h2]
theorem zu15 {hp : Nat → Option Row} (h : aggTB P T n = true) {i : Nat} {rT : TypeId} {rk rn : Nat} {rb : Bool} {cs : List AC} (hr : hp i = some ⟨rT, rk, rn, rb, cs⟩) (hn : cs.length = n) : aLoad P T hp (.c (.pt i 0)) = some (.ag (cs.map ld)) := by
  obtain ⟨h1, h2⟩ := zz18 h
  unfold aLoad
  simp only [hr, Option.bind_some, h1, zr12 hn, h2 _ hn]
theorem zs13 {hp : Nat → Option Row} (h : aggTB P T n = true) {cs : List AC} (hn : cs.length = n) : aLoad P T hp (.c (.rp cs 0)) = some (.ag (cs.map ld)) := by
  obtain ⟨h1, h2⟩ := zz18 h
  unfold aLoad
  simp only [h1, zr12 hn, h2 _ hn]
theorem zp17 {o : Oper} {ev : Operand → AV} {hp : Nat → Option Row} {id : Nat} {y : Operand} {s : ByteArray} (h : (match P.underlying T with | some .string => true | _ => false) = true) (hx : ev y = .c (.v (.string s))) : EffCallD P o ev hp id ⟨.builtin .len, #[y], #[T]⟩ = some (.c (.v (.int .i64 s.size)), .nop) := by
  show (if lenOk P T (ev y) = true then nop? (aLen (ev y)) else none) = _
  have : lenOk P T (ev y) = true := by
    unfold lenOk
    rw [hx]
    split at h
    · rename_i e; rw [e]; rfl
    · cases h
  rw [if_pos this, hx]
  rfl
theorem zs12 {o : Oper} {ev : Operand → AV} {hp : Nat → Option Row} {id : Nat} {y : Operand} {n : Nat} (h : (match P.underlying T with | some (.slice _) => true | _ => false) = true) (hx : isStr (ev y) = false) (hl : aLen (ev y) = some (.c (.v (.int .i64 n)))) : EffCallD P o ev hp id ⟨.builtin .len, #[y], #[T]⟩ = some (.c (.v (.int .i64 n)), .nop) := by
  show (if lenOk P T (ev y) = true then nop? (aLen (ev y)) else none) = _
  have : lenOk P T (ev y) = true := by
    unfold lenOk
    rw [hx]
    split at h
    · rename_i e; rw [e]; rfl
    · cases h
  rw [if_pos this, hl]
  rfl
end
instance : OneI Tryd.prog 3 := ⟨by kernel_rfl⟩
instance : OneI Tryd.prog 4 := ⟨by kernel_rfl⟩
instance : OneI Tryd.prog 5 := ⟨by kernel_rfl⟩
instance : OneI Tryd.prog 9 := ⟨by kernel_rfl⟩
instance : StrI Tryd.prog 9 := ⟨by kernel_rfl⟩
instance : OneI Tryd.prog 15 := ⟨by kernel_rfl⟩
instance : OneI Tryd.prog 16 := ⟨by kernel_rfl⟩
instance : OneI Tryd.prog 17 := ⟨by kernel_rfl⟩
instance : OneI Tryd.prog 22 := ⟨by kernel_rfl⟩
instance : SlcI Tryd.prog 22 := ⟨by kernel_rfl⟩
instance : FldI Tryd.prog 25 0 0 := ⟨by kernel_rfl⟩
instance : FldI Tryd.prog 25 1 1 := ⟨by kernel_rfl⟩
instance : AggI Tryd.prog 25 2 := ⟨by kernel_rfl⟩
instance : OneI Tryd.prog 36 := ⟨by kernel_rfl⟩
instance : SlcI Tryd.prog 36 := ⟨by kernel_rfl⟩
instance : FldI Tryd.prog 43 0 0 := ⟨by kernel_rfl⟩
instance : FldI Tryd.prog 43 1 1 := ⟨by kernel_rfl⟩
instance : FldI Tryd.prog 43 2 2 := ⟨by kernel_rfl⟩
instance : AggI Tryd.prog 43 3 := ⟨by kernel_rfl⟩
instance : OneI Tryd.prog 48 := ⟨by kernel_rfl⟩
instance : SlcI Tryd.prog 48 := ⟨by kernel_rfl⟩
instance : FldI Tryd.prog 50 0 0 := ⟨by kernel_rfl⟩
instance : AggI Tryd.prog 50 1 := ⟨by kernel_rfl⟩
instance : OneI Tryd.prog 51 := ⟨by kernel_rfl⟩
instance : SlcI Tryd.prog 51 := ⟨by kernel_rfl⟩
instance : OneI Tryd.prog 52 := ⟨by kernel_rfl⟩
instance : SlcI Tryd.prog 52 := ⟨by kernel_rfl⟩
instance : OneI Tryd.prog 53 := ⟨by kernel_rfl⟩
instance : SlcI Tryd.prog 53 := ⟨by kernel_rfl⟩
instance : OneI Tryd.prog 54 := ⟨by kernel_rfl⟩
instance : SlcI Tryd.prog 54 := ⟨by kernel_rfl⟩
instance : FldI Tryd.prog 56 0 0 := ⟨by kernel_rfl⟩
instance : FldI Tryd.prog 56 1 1 := ⟨by kernel_rfl⟩
instance : AggI Tryd.prog 56 2 := ⟨by kernel_rfl⟩
instance : FldI Tryd.prog 58 0 0 := ⟨by kernel_rfl⟩
instance : FldI Tryd.prog 58 1 1 := ⟨by kernel_rfl⟩
instance : FldI Tryd.prog 58 2 2 := ⟨by kernel_rfl⟩
instance : FldI Tryd.prog 58 3 3 := ⟨by kernel_rfl⟩
instance : FldI Tryd.prog 58 4 4 := ⟨by kernel_rfl⟩
instance : FldI Tryd.prog 58 5 6 := ⟨by kernel_rfl⟩
instance : FldI Tryd.prog 58 6 7 := ⟨by kernel_rfl⟩
instance : FldI Tryd.prog 58 7 8 := ⟨by kernel_rfl⟩
instance : FldI Tryd.prog 58 8 9 := ⟨by kernel_rfl⟩
instance : FldI Tryd.prog 58 9 10 := ⟨by kernel_rfl⟩
instance : FldI Tryd.prog 58 10 11 := ⟨by kernel_rfl⟩
instance : FldI Tryd.prog 58 11 12 := ⟨by kernel_rfl⟩
instance : AggI Tryd.prog 58 13 := ⟨by kernel_rfl⟩
instance : FldI Tryd.prog 60 0 0 := ⟨by kernel_rfl⟩
instance : FldI Tryd.prog 60 1 1 := ⟨by kernel_rfl⟩
instance : AggI Tryd.prog 60 2 := ⟨by kernel_rfl⟩
instance : OneI Tryd.prog 63 := ⟨by kernel_rfl⟩
instance : SlcI Tryd.prog 63 := ⟨by kernel_rfl⟩
instance : FldI Tryd.prog 65 0 0 := ⟨by kernel_rfl⟩
instance : AggI Tryd.prog 65 1 := ⟨by kernel_rfl⟩
instance : OneI Tryd.prog 66 := ⟨by kernel_rfl⟩
instance : SlcI Tryd.prog 66 := ⟨by kernel_rfl⟩
instance : OneI Tryd.prog 67 := ⟨by kernel_rfl⟩
instance : SlcI Tryd.prog 67 := ⟨by kernel_rfl⟩
instance : FldI Tryd.prog 68 0 0 := ⟨by kernel_rfl⟩
instance : FldI Tryd.prog 68 1 1 := ⟨by kernel_rfl⟩
instance : AggI Tryd.prog 68 2 := ⟨by kernel_rfl⟩
instance : FldI Tryd.prog 70 0 0 := ⟨by kernel_rfl⟩
instance : FldI Tryd.prog 70 1 1 := ⟨by kernel_rfl⟩
instance : FldI Tryd.prog 70 2 2 := ⟨by kernel_rfl⟩
instance : FldI Tryd.prog 70 3 3 := ⟨by kernel_rfl⟩
instance : FldI Tryd.prog 70 4 4 := ⟨by kernel_rfl⟩
instance : FldI Tryd.prog 70 5 6 := ⟨by kernel_rfl⟩
instance : FldI Tryd.prog 70 6 7 := ⟨by kernel_rfl⟩
instance : FldI Tryd.prog 70 7 8 := ⟨by kernel_rfl⟩
instance : FldI Tryd.prog 70 8 9 := ⟨by kernel_rfl⟩
instance : FldI Tryd.prog 70 9 10 := ⟨by kernel_rfl⟩
instance : FldI Tryd.prog 70 10 11 := ⟨by kernel_rfl⟩
instance : FldI Tryd.prog 70 11 12 := ⟨by kernel_rfl⟩
instance : AggI Tryd.prog 70 13 := ⟨by kernel_rfl⟩
instance : FldI Tryd.prog 72 0 0 := ⟨by kernel_rfl⟩
instance : FldI Tryd.prog 72 1 1 := ⟨by kernel_rfl⟩
instance : AggI Tryd.prog 72 2 := ⟨by kernel_rfl⟩
instance : OneI Tryd.prog 76 := ⟨by kernel_rfl⟩
instance : OneI Tryd.prog 105 := ⟨by kernel_rfl⟩
instance : FldI Tryd.prog 113 0 0 := ⟨by kernel_rfl⟩
instance : FldI Tryd.prog 113 1 1 := ⟨by kernel_rfl⟩
instance : FldI Tryd.prog 113 2 2 := ⟨by kernel_rfl⟩
instance : AggI Tryd.prog 113 3 := ⟨by kernel_rfl⟩
instance : FldI Tryd.prog 121 0 0 := ⟨by kernel_rfl⟩
instance : FldI Tryd.prog 121 1 1 := ⟨by kernel_rfl⟩
instance : FldI Tryd.prog 121 2 2 := ⟨by kernel_rfl⟩
instance : AggI Tryd.prog 121 3 := ⟨by kernel_rfl⟩
instance : OneI Tryd.prog 138 := ⟨by kernel_rfl⟩
instance : OneI Tryd.prog 150 := ⟨by kernel_rfl⟩
instance : SlcI Tryd.prog 150 := ⟨by kernel_rfl⟩
instance : FldI Tryd.prog 152 0 0 := ⟨by kernel_rfl⟩
instance : AggI Tryd.prog 152 1 := ⟨by kernel_rfl⟩
instance : OneI Tryd.prog 154 := ⟨by kernel_rfl⟩
instance : SlcI Tryd.prog 154 := ⟨by kernel_rfl⟩
instance : OneI Tryd.prog 155 := ⟨by kernel_rfl⟩
instance : SlcI Tryd.prog 155 := ⟨by kernel_rfl⟩
instance : OneI Tryd.prog 156 := ⟨by kernel_rfl⟩
instance : SlcI Tryd.prog 156 := ⟨by kernel_rfl⟩
instance : FldI Tryd.prog 158 0 0 := ⟨by kernel_rfl⟩
instance : FldI Tryd.prog 158 1 1 := ⟨by kernel_rfl⟩
instance : FldI Tryd.prog 158 2 2 := ⟨by kernel_rfl⟩
instance : FldI Tryd.prog 158 3 3 := ⟨by kernel_rfl⟩
instance : FldI Tryd.prog 158 4 4 := ⟨by kernel_rfl⟩
instance : FldI Tryd.prog 158 5 5 := ⟨by kernel_rfl⟩
instance : AggI Tryd.prog 158 6 := ⟨by kernel_rfl⟩
instance : OneI Tryd.prog 161 := ⟨by kernel_rfl⟩
instance : SlcI Tryd.prog 161 := ⟨by kernel_rfl⟩
instance : FldI Tryd.prog 163 0 0 := ⟨by kernel_rfl⟩
instance : AggI Tryd.prog 163 1 := ⟨by kernel_rfl⟩
instance : OneI Tryd.prog 165 := ⟨by kernel_rfl⟩
instance : SlcI Tryd.prog 165 := ⟨by kernel_rfl⟩
instance : OneI Tryd.prog 166 := ⟨by kernel_rfl⟩
instance : SlcI Tryd.prog 166 := ⟨by kernel_rfl⟩
instance : OneI Tryd.prog 167 := ⟨by kernel_rfl⟩
instance : SlcI Tryd.prog 167 := ⟨by kernel_rfl⟩
instance : FldI Tryd.prog 169 0 0 := ⟨by kernel_rfl⟩
instance : FldI Tryd.prog 169 1 1 := ⟨by kernel_rfl⟩
instance : FldI Tryd.prog 169 2 2 := ⟨by kernel_rfl⟩
instance : FldI Tryd.prog 169 3 3 := ⟨by kernel_rfl⟩
instance : FldI Tryd.prog 169 4 4 := ⟨by kernel_rfl⟩
instance : FldI Tryd.prog 169 5 5 := ⟨by kernel_rfl⟩
instance : AggI Tryd.prog 169 6 := ⟨by kernel_rfl⟩
instance : FldI Tryd.prog 173 0 0 := ⟨by kernel_rfl⟩
instance : FldI Tryd.prog 173 1 1 := ⟨by kernel_rfl⟩
instance : AggI Tryd.prog 173 4 := ⟨by kernel_rfl⟩
instance : OneI Tryd.prog 180 := ⟨by kernel_rfl⟩
instance : FldI Tryd.prog 182 0 0 := ⟨by kernel_rfl⟩
instance : FldI Tryd.prog 182 1 1 := ⟨by kernel_rfl⟩
instance : FldI Tryd.prog 182 2 2 := ⟨by kernel_rfl⟩
instance : AggI Tryd.prog 182 3 := ⟨by kernel_rfl⟩
instance : FldI Tryd.prog 184 0 0 := ⟨by kernel_rfl⟩
instance : FldI Tryd.prog 184 1 1 := ⟨by kernel_rfl⟩
instance : AggI Tryd.prog 184 4 := ⟨by kernel_rfl⟩
instance : OneI Tryd.prog 203 := ⟨by kernel_rfl⟩
instance : FldI Tryd.prog 212 0 0 := ⟨by kernel_rfl⟩
instance : FldI Tryd.prog 212 1 1 := ⟨by kernel_rfl⟩
instance : AggI Tryd.prog 212 2 := ⟨by kernel_rfl⟩
instance : FldI Tryd.prog 215 0 0 := ⟨by kernel_rfl⟩
instance : FldI Tryd.prog 215 1 1 := ⟨by kernel_rfl⟩
instance : AggI Tryd.prog 215 2 := ⟨by kernel_rfl⟩
instance : FldI Tryd.prog 217 0 0 := ⟨by kernel_rfl⟩
instance : FldI Tryd.prog 217 1 1 := ⟨by kernel_rfl⟩
instance : AggI Tryd.prog 217 2 := ⟨by kernel_rfl⟩
instance : FldI Tryd.prog 220 0 0 := ⟨by kernel_rfl⟩
instance : FldI Tryd.prog 220 1 1 := ⟨by kernel_rfl⟩
instance : FldI Tryd.prog 220 2 2 := ⟨by kernel_rfl⟩
instance : FldI Tryd.prog 220 3 3 := ⟨by kernel_rfl⟩
instance : FldI Tryd.prog 220 4 4 := ⟨by kernel_rfl⟩
instance : AggI Tryd.prog 220 5 := ⟨by kernel_rfl⟩
instance : FldI Tryd.prog 222 0 0 := ⟨by kernel_rfl⟩
instance : FldI Tryd.prog 222 1 1 := ⟨by kernel_rfl⟩
instance : FldI Tryd.prog 222 2 2 := ⟨by kernel_rfl⟩
instance : FldI Tryd.prog 222 3 3 := ⟨by kernel_rfl⟩
instance : FldI Tryd.prog 222 4 4 := ⟨by kernel_rfl⟩
instance : AggI Tryd.prog 222 5 := ⟨by kernel_rfl⟩
instance : FldI Tryd.prog 223 0 0 := ⟨by kernel_rfl⟩
instance : FldI Tryd.prog 223 1 1 := ⟨by kernel_rfl⟩
instance : AggI Tryd.prog 223 2 := ⟨by kernel_rfl⟩
instance : OneI Tryd.prog 248 := ⟨by kernel_rfl⟩
section
variable {ops : Array Oper} {Q : Exit → Act → World → Prop} {C : Ctx} {H H' : List (Nat × Oper × Inf)} {i : Nat} {r : List Nat} {dr : Bool}
variable {tm : Nat → AV} {hp : Nat → Option Row} {gn L : Nat} {us : List Nat}
theorem o_fa {t : Nat} {ty : TypeId} {gd : Option (Nat × Bool)} {ps : String} {af : Array Edge} {S : TypeId} {f : Nat} {p : Operand} {i0 o0 off : Nat} [hF : FldI Tryd.prog S f off] (h : Walk Tryd.prog ops Q C dr (keepH dr (i, (⟨some t, .fieldAddr S p f, ty, ps, af, gd⟩ : Oper), ⟨fpO (AS.ev ⟨tm, hp, gn, us, L⟩) (⟨some t, .fieldAddr S p f, ty, ps, af, gd⟩ : Oper), [], [], .c (.pt i0 (o0 + off))⟩) H) r ⟨upd tm t (.c (.pt i0 (o0 + off))), hp, gn, us, L⟩) (hx : AS.ev ⟨tm, hp, gn, us, L⟩ p = .c (.pt i0 o0) := by exact rfl) (ht : Nat.blt t L = true := by exact rfl) (hg : gw ops tm (⟨some t, .fieldAddr S p f, ty, ps, af, gd⟩ : Oper) = some true := by exact rfl) (hc : chk dr ops i (⟨some t, .fieldAddr S p f, ty, ps, af, gd⟩ : Oper) ⟨fpO (AS.ev ⟨tm, hp, gn, us, L⟩) (⟨some t, .fieldAddr S p f, ty, ps, af, gd⟩ : Oper), [], [], .c (.pt i0 (o0 + off))⟩ H = true := by first | (with_reducible exact zq) | kernel_rfl) : WalkO Tryd.prog ops Q C dr H i (⟨some t, .fieldAddr S p f, ty, ps, af, gd⟩ : Oper) r ⟨tm, hp, gn, us, L⟩ := ⟨fun hop => zr3 h hop rfl ht hg (by show nop? (aFieldAddr _ S f (AS.ev ⟨tm, hp, gn, us, L⟩ p)) = _; rw [hx, zz9 hF.h]; rfl) hc⟩
theorem zu8 {t : Nat} {ty : TypeId} {gd : Option (Nat × Bool)} {ps : String} {af : Array Edge} {S : TypeId} {f : Nat} {p : Operand} {l : List AC} {o0 off : Nat} [hF : FldI Tryd.prog S f off] (h : Walk Tryd.prog ops Q C dr (keepH dr (i, (⟨some t, .fieldAddr S p f, ty, ps, af, gd⟩ : Oper), ⟨fpO (AS.ev ⟨tm, hp, gn, us, L⟩) (⟨some t, .fieldAddr S p f, ty, ps, af, gd⟩ : Oper), [], [], .c (.rp l (o0 + off))⟩) H) r ⟨upd tm t (.c (.rp l (o0 + off))), hp, gn, us, L⟩) (hx : AS.ev ⟨tm, hp, gn, us, L⟩ p = .c (.rp l o0) := by exact rfl) (ht : Nat.blt t L = true := by exact rfl) (hg : gw ops tm (⟨some t, .fieldAddr S p f, ty, ps, af, gd⟩ : Oper) = some true := by exact rfl) (hc : chk dr ops i (⟨some t, .fieldAddr S p f, ty, ps, af, gd⟩ : Oper) ⟨fpO (AS.ev ⟨tm, hp, gn, us, L⟩) (⟨some t, .fieldAddr S p f, ty, ps, af, gd⟩ : Oper), [], [], .c (.rp l (o0 + off))⟩ H = true := by first | (with_reducible exact zq) | kernel_rfl) : WalkO Tryd.prog ops Q C dr H i (⟨some t, .fieldAddr S p f, ty, ps, af, gd⟩ : Oper) r ⟨tm, hp, gn, us, L⟩ := ⟨fun hop => zr3 h hop rfl ht hg (by show nop? (aFieldAddr _ S f (AS.ev ⟨tm, hp, gn, us, L⟩ p)) = _; rw [hx, za10 hF.h]; rfl) hc⟩
theorem zr4 {t : Nat} {ty : TypeId} {gd : Option (Nat × Bool)} {ps : String} {af : Array Edge} {T : TypeId} {p : Operand} {i0 o0 : Nat} {rw : Row} {c : AC} [hF : OneI Tryd.prog T] (h : Walk Tryd.prog ops Q C dr (keepH dr (i, (⟨some t, .load T p, ty, ps, af, gd⟩ : Oper), ⟨fpO (AS.ev ⟨tm, hp, gn, us, L⟩) (⟨some t, .load T p, ty, ps, af, gd⟩ : Oper), [], [], .c c⟩) H) r ⟨upd tm t (.c c), hp, gn, us, L⟩) (hx : AS.ev ⟨tm, hp, gn, us, L⟩ p = .c (.pt i0 o0) := by exact rfl) (hr : hp i0 = some rw := by exact rfl) (hcs : rw.cs[o0]? = some c := by exact rfl) (hld : ld c = c := by exact rfl) (ht : Nat.blt t L = true := by exact rfl) (hg : gw ops tm (⟨some t, .load T p, ty, ps, af, gd⟩ : Oper) = some true := by exact rfl) (hc : chk dr ops i (⟨some t, .load T p, ty, ps, af, gd⟩ : Oper) ⟨fpO (AS.ev ⟨tm, hp, gn, us, L⟩) (⟨some t, .load T p, ty, ps, af, gd⟩ : Oper), [], [], .c c⟩ H = true := by first | (with_reducible exact zq) | kernel_rfl) : WalkO Tryd.prog ops Q C dr H i (⟨some t, .load T p, ty, ps, af, gd⟩ : Oper) r ⟨tm, hp, gn, us, L⟩ := ⟨fun hop => zr3 h hop rfl ht hg (by show nop? (aLoad _ T hp (AS.ev ⟨tm, hp, gn, us, L⟩ p)) = _; rw [hx, zt15 hF.h hr hcs, hld]; rfl) hc⟩
theorem ze3 {t : Nat} {ty : TypeId} {gd : Option (Nat × Bool)} {ps : String} {af : Array Edge} {T : TypeId} {p : Operand} {l : List AC} {o0 : Nat} {c : AC} [hF : OneI Tryd.prog T] (h : Walk Tryd.prog ops Q C dr (keepH dr (i, (⟨some t, .load T p, ty, ps, af, gd⟩ : Oper), ⟨fpO (AS.ev ⟨tm, hp, gn, us, L⟩) (⟨some t, .load T p, ty, ps, af, gd⟩ : Oper), [], [], .c c⟩) H) r ⟨upd tm t (.c c), hp, gn, us, L⟩) (hx : AS.ev ⟨tm, hp, gn, us, L⟩ p = .c (.rp l o0) := by exact rfl) (hcs : l[o0]? = some c := by exact rfl) (hld : ld c = c := by exact rfl) (ht : Nat.blt t L = true := by exact rfl) (hg : gw ops tm (⟨some t, .load T p, ty, ps, af, gd⟩ : Oper) = some true := by exact rfl) (hc : chk dr ops i (⟨some t, .load T p, ty, ps, af, gd⟩ : Oper) ⟨fpO (AS.ev ⟨tm, hp, gn, us, L⟩) (⟨some t, .load T p, ty, ps, af, gd⟩ : Oper), [], [], .c c⟩ H = true := by first | (with_reducible exact zq) | kernel_rfl) : WalkO Tryd.prog ops Q C dr H i (⟨some t, .load T p, ty, ps, af, gd⟩ : Oper) r ⟨tm, hp, gn, us, L⟩ := ⟨fun hop => zr3 h hop rfl ht hg (by show nop? (aLoad _ T hp (AS.ev ⟨tm, hp, gn, us, L⟩ p)) = _; rw [hx, zr13 hF.h hcs, hld]; rfl) hc⟩
theorem zs4 {t : Nat} {ty : TypeId} {gd : Option (Nat × Bool)} {ps : String} {af : Array Edge} {T : TypeId} {p : Operand} {i0 n : Nat} {cs : List AC} {rT : TypeId} {rk rn : Nat} {rb : Bool} [hF : AggI Tryd.prog T n] (h : Walk Tryd.prog ops Q C dr (keepH dr (i, (⟨some t, .load T p, ty, ps, af, gd⟩ : Oper), ⟨fpO (AS.ev ⟨tm, hp, gn, us, L⟩) (⟨some t, .load T p, ty, ps, af, gd⟩ : Oper), [], [], .ag cs⟩) H) r ⟨upd tm t (.ag cs), hp, gn, us, L⟩) (hx : AS.ev ⟨tm, hp, gn, us, L⟩ p = .c (.pt i0 0) := by exact rfl) (hr : hp i0 = some ⟨rT, rk, rn, rb, cs⟩ := by exact rfl) (hn : cs.length = n := by exact rfl) (hld : cs.map ld = cs := by exact rfl) (ht : Nat.blt t L = true := by exact rfl) (hg : gw ops tm (⟨some t, .load T p, ty, ps, af, gd⟩ : Oper) = some true := by exact rfl) (hc : chk dr ops i (⟨some t, .load T p, ty, ps, af, gd⟩ : Oper) ⟨fpO (AS.ev ⟨tm, hp, gn, us, L⟩) (⟨some t, .load T p, ty, ps, af, gd⟩ : Oper), [], [], .ag cs⟩ H = true := by first | (with_reducible exact zq) | kernel_rfl) : WalkO Tryd.prog ops Q C dr H i (⟨some t, .load T p, ty, ps, af, gd⟩ : Oper) r ⟨tm, hp, gn, us, L⟩ := ⟨fun hop => zr3 h hop rfl ht hg (by show nop? (aLoad _ T hp (AS.ev ⟨tm, hp, gn, us, L⟩ p)) = _; rw [hx, zu15 hF.h hr hn, hld]; rfl) hc⟩
theorem zf3 {t : Nat} {ty : TypeId} {gd : Option (Nat × Bool)} {ps : String} {af : Array Edge} {T : TypeId} {p : Operand} {n : Nat} {cs : List AC} [hF : AggI Tryd.prog T n] (h : Walk Tryd.prog ops Q C dr (keepH dr (i, (⟨some t, .load T p, ty, ps, af, gd⟩ : Oper), ⟨fpO (AS.ev ⟨tm, hp, gn, us, L⟩) (⟨some t, .load T p, ty, ps, af, gd⟩ : Oper), [], [], .ag cs⟩) H) r ⟨upd tm t (.ag cs), hp, gn, us, L⟩) (hx : AS.ev ⟨tm, hp, gn, us, L⟩ p = .c (.rp cs 0) := by exact rfl) (hn : cs.length = n := by exact rfl) (hld : cs.map ld = cs := by exact rfl) (ht : Nat.blt t L = true := by exact rfl) (hg : gw ops tm (⟨some t, .load T p, ty, ps, af, gd⟩ : Oper) = some true := by exact rfl) (hc : chk dr ops i (⟨some t, .load T p, ty, ps, af, gd⟩ : Oper) ⟨fpO (AS.ev ⟨tm, hp, gn, us, L⟩) (⟨some t, .load T p, ty, ps, af, gd⟩ : Oper), [], [], .ag cs⟩ H = true := by first | (with_reducible exact zq) | kernel_rfl) : WalkO Tryd.prog ops Q C dr H i (⟨some t, .load T p, ty, ps, af, gd⟩ : Oper) r ⟨tm, hp, gn, us, L⟩ := ⟨fun hop => zr3 h hop rfl ht hg (by show nop? (aLoad _ T hp (AS.ev ⟨tm, hp, gn, us, L⟩ p)) = _; rw [hx, zs13 hF.h hn, hld]; rfl) hc⟩
theorem zg3 {t : Nat} {ty : TypeId} {gd : Option (Nat × Bool)} {ps : String} {af : Array Edge} {T : TypeId} {y : Operand} {s : ByteArray} [hF : StrI Tryd.prog T] (h : Walk Tryd.prog ops Q C dr (keepH dr (i, (⟨some t, .call ⟨.builtin .len, #[y], #[T]⟩, ty, ps, af, gd⟩ : Oper), ⟨fpO (AS.ev ⟨tm, hp, gn, us, L⟩) (⟨some t, .call ⟨.builtin .len, #[y], #[T]⟩, ty, ps, af, gd⟩ : Oper), [], [], .c (.v (.int .i64 s.size))⟩) H) r ⟨upd tm t (.c (.v (.int .i64 s.size))), hp, gn, us, L⟩) (hx : AS.ev ⟨tm, hp, gn, us, L⟩ y = .c (.v (.string s)) := by exact rfl) (ht : Nat.blt t L = true := by exact rfl) (hg : gw ops tm (⟨some t, .call ⟨.builtin .len, #[y], #[T]⟩, ty, ps, af, gd⟩ : Oper) = some true := by exact rfl) (hc : chk dr ops i (⟨some t, .call ⟨.builtin .len, #[y], #[T]⟩, ty, ps, af, gd⟩ : Oper) ⟨fpO (AS.ev ⟨tm, hp, gn, us, L⟩) (⟨some t, .call ⟨.builtin .len, #[y], #[T]⟩, ty, ps, af, gd⟩ : Oper), [], [], .c (.v (.int .i64 s.size))⟩ H = true := by first | (with_reducible exact zq) | kernel_rfl) : WalkO Tryd.prog ops Q C dr H i (⟨some t, .call ⟨.builtin .len, #[y], #[T]⟩, ty, ps, af, gd⟩ : Oper) r ⟨tm, hp, gn, us, L⟩ := ⟨fun hop => zr3 h hop rfl ht hg (zp17 (o := (⟨some t, .call ⟨.builtin .len, #[y], #[T]⟩, ty, ps, af, gd⟩ : Oper)) (hp := hp) (id := 0) hF.h hx) hc⟩
theorem zh3 {t : Nat} {ty : TypeId} {gd : Option (Nat × Bool)} {ps : String} {af : Array Edge} {T : TypeId} {y : Operand} {n k : Nat} {l : List AC} [hF : SlcI Tryd.prog T] (h : Walk Tryd.prog ops Q C dr (keepH dr (i, (⟨some t, .call ⟨.builtin .len, #[y], #[T]⟩, ty, ps, af, gd⟩ : Oper), ⟨fpO (AS.ev ⟨tm, hp, gn, us, L⟩) (⟨some t, .call ⟨.builtin .len, #[y], #[T]⟩, ty, ps, af, gd⟩ : Oper), [], [], .c (.v (.int .i64 n))⟩) H) r ⟨upd tm t (.c (.v (.int .i64 n))), hp, gn, us, L⟩) (hx : AS.ev ⟨tm, hp, gn, us, L⟩ y = .c (.ro n k l) := by exact rfl) (ht : Nat.blt t L = true := by exact rfl) (hg : gw ops tm (⟨some t, .call ⟨.builtin .len, #[y], #[T]⟩, ty, ps, af, gd⟩ : Oper) = some true := by exact rfl) (hc : chk dr ops i (⟨some t, .call ⟨.builtin .len, #[y], #[T]⟩, ty, ps, af, gd⟩ : Oper) ⟨fpO (AS.ev ⟨tm, hp, gn, us, L⟩) (⟨some t, .call ⟨.builtin .len, #[y], #[T]⟩, ty, ps, af, gd⟩ : Oper), [], [], .c (.v (.int .i64 n))⟩ H = true := by first | (with_reducible exact zq) | kernel_rfl) : WalkO Tryd.prog ops Q C dr H i (⟨some t, .call ⟨.builtin .len, #[y], #[T]⟩, ty, ps, af, gd⟩ : Oper) r ⟨tm, hp, gn, us, L⟩ := ⟨fun hop => zr3 h hop rfl ht hg (zs12 (o := (⟨some t, .call ⟨.builtin .len, #[y], #[T]⟩, ty, ps, af, gd⟩ : Oper)) (hp := hp) (id := 0) hF.h (by rw [hx]; rfl) (by rw [hx]; rfl)) hc⟩
theorem zi3 {t : Nat} {ty : TypeId} {gd : Option (Nat × Bool)} {ps : String} {af : Array Edge} {T : TypeId} {y : Operand} {j n : Nat} [hF : SlcI Tryd.prog T] (h : Walk Tryd.prog ops Q C dr (keepH dr (i, (⟨some t, .call ⟨.builtin .len, #[y], #[T]⟩, ty, ps, af, gd⟩ : Oper), ⟨fpO (AS.ev ⟨tm, hp, gn, us, L⟩) (⟨some t, .call ⟨.builtin .len, #[y], #[T]⟩, ty, ps, af, gd⟩ : Oper), [], [], .c (.v (.int .i64 n))⟩) H) r ⟨upd tm t (.c (.v (.int .i64 n))), hp, gn, us, L⟩) (hx : AS.ev ⟨tm, hp, gn, us, L⟩ y = .c (.sl j n) := by exact rfl) (ht : Nat.blt t L = true := by exact rfl) (hg : gw ops tm (⟨some t, .call ⟨.builtin .len, #[y], #[T]⟩, ty, ps, af, gd⟩ : Oper) = some true := by exact rfl) (hc : chk dr ops i (⟨some t, .call ⟨.builtin .len, #[y], #[T]⟩, ty, ps, af, gd⟩ : Oper) ⟨fpO (AS.ev ⟨tm, hp, gn, us, L⟩) (⟨some t, .call ⟨.builtin .len, #[y], #[T]⟩, ty, ps, af, gd⟩ : Oper), [], [], .c (.v (.int .i64 n))⟩ H = true := by first | (with_reducible exact zq) | kernel_rfl) : WalkO Tryd.prog ops Q C dr H i (⟨some t, .call ⟨.builtin .len, #[y], #[T]⟩, ty, ps, af, gd⟩ : Oper) r ⟨tm, hp, gn, us, L⟩ := ⟨fun hop => zr3 h hop rfl ht hg (zs12 (o := (⟨some t, .call ⟨.builtin .len, #[y], #[T]⟩, ty, ps, af, gd⟩ : Oper)) (hp := hp) (id := 0) hF.h (by rw [hx]; rfl) (by rw [hx]; rfl)) hc⟩
end
section
variable {P : Program} {ops : Array Oper} {Q : Exit → Act → World → Prop} {C : Ctx} {H : List (Nat × Oper × Inf)} {i : Nat} {r : List Nat} {dr : Bool} {σ : AS} {ty : TypeId} {ps : String} {af : Array Edge}
theorem d_gs {d : Option Tmp} {op : Op} {gb : Nat × Bool} (h : WalkO P ops Q C dr H i (⟨d, op, ty, ps, af, some gb⟩ : Oper) r σ) : WalkO P ops Q C dr H i (⟨d, op, ty, ps, af, some gb⟩ : Oper) r σ := h
theorem d_bo {t : Tmp} {op : Op} {gd : Option (Nat × Bool)} (h : WalkO P ops Q C dr H i (⟨some t, op, 4, ps, af, gd⟩ : Oper) r σ) : WalkO P ops Q C dr H i (⟨some t, op, 4, ps, af, gd⟩ : Oper) r σ := h
theorem d_ca {t : Tmp} {fv : Operand} {as_ : Array Operand} {ts : Array TypeId} {gd : Option (Nat × Bool)} (h : WalkO P ops Q C dr H i (⟨some t, .call ⟨.value fv, as_, ts⟩, ty, ps, af, gd⟩ : Oper) r σ) : WalkO P ops Q C dr H i (⟨some t, .call ⟨.value fv, as_, ts⟩, ty, ps, af, gd⟩ : Oper) r σ := h
theorem d_bi {t : Tmp} {b : Builtin} {as_ : Array Operand} {ts : Array TypeId} {gd : Option (Nat × Bool)} (h : WalkO P ops Q C dr H i (⟨some t, .call ⟨.builtin b, as_, ts⟩, ty, ps, af, gd⟩ : Oper) r σ) : WalkO P ops Q C dr H i (⟨some t, .call ⟨.builtin b, as_, ts⟩, ty, ps, af, gd⟩ : Oper) r σ := h
theorem d_fa {t : Tmp} {S : TypeId} {f : Nat} {p : Operand} {gd : Option (Nat × Bool)} (h : WalkO P ops Q C dr H i (⟨some t, .fieldAddr S p f, ty, ps, af, gd⟩ : Oper) r σ) : WalkO P ops Q C dr H i (⟨some t, .fieldAddr S p f, ty, ps, af, gd⟩ : Oper) r σ := h
theorem d_ld {t : Tmp} {T : TypeId} {p : Operand} {gd : Option (Nat × Bool)} (h : WalkO P ops Q C dr H i (⟨some t, .load T p, ty, ps, af, gd⟩ : Oper) r σ) : WalkO P ops Q C dr H i (⟨some t, .load T p, ty, ps, af, gd⟩ : Oper) r σ := h
theorem d_st {T : TypeId} {p y : Operand} {gd : Option (Nat × Bool)} (h : WalkO P ops Q C dr H i (⟨none, .store T p y, ty, ps, af, gd⟩ : Oper) r σ) : WalkO P ops Q C dr H i (⟨none, .store T p y, ty, ps, af, gd⟩ : Oper) r σ := h
theorem d_ia {t : Tmp} {T : TypeId} {x y : Operand} {gd : Option (Nat × Bool)} (h : WalkO P ops Q C dr H i (⟨some t, .indexAddr T x y, ty, ps, af, gd⟩ : Oper) r σ) : WalkO P ops Q C dr H i (⟨some t, .indexAddr T x y, ty, ps, af, gd⟩ : Oper) r σ := h
theorem d_bb {t : Tmp} {T U : TypeId} {b : BinOp} {x y : Operand} {gd : Option (Nat × Bool)} (h : WalkO P ops Q C dr H i (⟨some t, .binOp b T x y U, ty, ps, af, gd⟩ : Oper) r σ) : WalkO P ops Q C dr H i (⟨some t, .binOp b T x y U, ty, ps, af, gd⟩ : Oper) r σ := h
theorem d_cv {t : Tmp} {S D : TypeId} {x : Operand} {gd : Option (Nat × Bool)} (h : WalkO P ops Q C dr H i (⟨some t, .convert S D x, ty, ps, af, gd⟩ : Oper) r σ) : WalkO P ops Q C dr H i (⟨some t, .convert S D x, ty, ps, af, gd⟩ : Oper) r σ := h
theorem d_mv {t : Tmp} {x : Operand} {gd : Option (Nat × Bool)} (h : WalkO P ops Q C dr H i (⟨some t, .move x, ty, ps, af, gd⟩ : Oper) r σ) : WalkO P ops Q C dr H i (⟨some t, .move x, ty, ps, af, gd⟩ : Oper) r σ := h
theorem d_as {t : Tmp} {x : Operand} {gd : Option (Nat × Bool)} (h : WalkO P ops Q C dr H i (⟨some t, .assign x, ty, ps, af, gd⟩ : Oper) r σ) : WalkO P ops Q C dr H i (⟨some t, .assign x, ty, ps, af, gd⟩ : Oper) r σ := h
theorem d_wo {o : Oper} (h : WalkO P ops Q C dr H i o r σ) : WalkO P ops Q C dr H i o r σ := h
theorem d_w {l : List Nat} (h : Walk P ops Q C dr H l σ) : Walk P ops Q C dr H l σ := h
end
end Go.Proofs.YtfemkmnkofgaaaaDoor
