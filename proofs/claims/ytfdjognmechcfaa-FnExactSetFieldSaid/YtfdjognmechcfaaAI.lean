/- The abstract machine: strings put together. -/
import Derived.Test.YtfdjognmechcfaaAE
import Derived.Test.YtfdjognmechcfaaAH
import Derived.Laws.Concat
namespace Go.Proofs.Ytfdjognmechcfaa
open Go.RowKit
set_option maxRecDepth 100000
section
variable {ops : Array Oper} {Q : Exit → Act → World → Prop} {C : Ctx} {H H' : List (Nat × Oper × Inf)} {i : Nat} {r : List Nat} {o : Oper} {dr : Bool}
variable {tm : Nat → AV} {hp : Nat → Option Row} {gn L : Nat} {us : List Nat}
theorem run_cat {P : Program} {T ty : TypeId} {xo yo : Operand} {a b : ByteArray} (ho : o.op = .binOp .add T xo yo ty) (hT : P.underlying T = some .string) (hs : a.size + b.size ≤ 9223372036854775807) (ev : Operand → Value) (w : World) (hx : ev xo = .string a) (hy : ev yo = .string b) : (execOp ev o).run P w = .ok (.value (.string (a ++ b))) w := by
  unfold execOp
  rw [ho]
  simp only [hx, hy]
  simp [Sem.run_bind, binOp, eqGuard, run_underlying hT, run_string_add_sum w a b hs]
theorem x_cat {t : Nat} {T ty : TypeId} {xo yo : Operand} {a b : ByteArray} (h : Walk Try.prog ops Q C dr (keepH dr (i, o, ⟨fpO (AS.ev ⟨tm, hp, gn, us, L⟩) o, [], [], .c (.v (.string (a ++ b)))⟩) H) r ⟨upd tm t (.c (.v (.string (a ++ b)))), hp, gn, us, L⟩)
    (hop : ops[i]? = some o := by exact rfl) (ho : o.op = .binOp .add T xo yo ty := by exact rfl) (hT : (Try.prog).underlying T = some .string := by exact Try.underlying9) (hd : o.dst = some t := by exact rfl) (ht : Nat.blt t L = true := by exact rfl) (hg : gw ops tm o = some true := by exact rfl)
    (hx : AS.ev ⟨tm, hp, gn, us, L⟩ xo = .c (.v (.string a)) := by exact rfl) (hy : AS.ev ⟨tm, hp, gn, us, L⟩ yo = .c (.v (.string b)) := by exact rfl) (hs : a.size + b.size ≤ 9223372036854775807 := by first | omega | (simp only [ByteArray.size_append', ByteArray.size_mk', List.size_toArray, List.length_cons, List.length_nil]; omega))
    (hc : chk dr ops i o ⟨fpO (AS.ev ⟨tm, hp, gn, us, L⟩) o, [], [], .c (.v (.string (a ++ b)))⟩ H = true := by first | (with_reducible exact chk_nd) | kernel_rfl) : Walk Try.prog ops Q C dr H (i :: r) ⟨tm, hp, gn, us, L⟩ := by
  refine ⟨o, _, hop, snd_run (y := .string (a ++ b)) hop hg rfl fun ev w he => ?_, fun n hn => absurd hn List.not_mem_nil, chk_to hc, keepH_to ?_⟩
  · have e : o.op.operands = #[xo, yo] := by rw [ho]; rfl
    exact run_cat ho hT hs ev w (he xo (by rw [e]; simp) _ (by rw [hx]; rfl)) (he yo (by rw [e]; simp) _ (by rw [hy]; rfl))
  · show Walk Try.prog ops Q C dr _ r (AS.put _ o.dst _)
    rw [hd, put_at (by exact blt_to ht)]; exact h
/-- The cells of bytes. -/
def bytC (bs : List UInt8) : List AC := bs.map fun b => .v (.int .u8 b.toNat)
theorem bytC_noUn (bs : List UInt8) : (bs.map fun b => AC.v (.int .u8 b.toNat)).all noUn = true := by
  rw [List.all_eq_true]
  intro c hc
  obtain ⟨b, _, rfl⟩ := List.mem_map.1 hc
  rfl
theorem bytesL_bytC : ∀ bs : List UInt8, bytesL ((bytC bs).map ld) = some bs
  | [] => rfl
  | b :: r => by
    have := bytesL_bytC r
    unfold bytC at this ⊢
    simp only [List.map_cons, ld, bytesL, this, Option.map_some, Int.toNat_natCast, UInt8.ofNat_toNat]
def convB (P : Program) (s d : TypeId) : Bool := match P.underlying s, P.underlying d with
  | some (.slice e), some .string => (match P.underlying e with | some (.int .u8) => true | _ => false)
  | _, _ => false
theorem aStr_byt {P : Program} {s d : TypeId} {hp : Nat → Option Row} {j n : Nat} {rw : Row} {bs : List UInt8} (hr : hp j = some rw) (h1 : rw.k = 1) (h2 : rw.n = n) (h3 : rw.box = false) (hcs : rw.cs = bytC bs) (hT : convB P s d = true) :
    aStr P hp s d (.c (.sl j n)) = some (.c (.v (.string ⟨bs.toArray⟩))) := by
  unfold convB at hT
  unfold aStr
  split at hT
  · rename_i e e1 e2
    rw [e1, e2]
    split at hT
    · rename_i e3
      simp only [e3, srcOf_sl hr h1 h2 h3, hcs, bytesL_bytC, Option.map_some]
    · cases hT
  · cases hT
theorem x_cvs {t j n : Nat} {s d : TypeId} {xo : Operand} {rw : Row} {bs : List UInt8} (h : Walk Try.prog ops Q C dr (keepH dr (i, o, ⟨fpO (AS.ev ⟨tm, hp, gn, us, L⟩) o, [], [], .c (.v (.string ⟨bs.toArray⟩))⟩) H) r ⟨upd tm t (.c (.v (.string ⟨bs.toArray⟩))), hp, gn, us, L⟩)
    (hop : ops[i]? = some o := by exact rfl) (ho : o.op = .convert s d xo := by exact rfl) (hd : o.dst = some t := by exact rfl) (ht : Nat.blt t L = true := by exact rfl) (hg : gw ops tm o = some true := by exact rfl)
    (hx : AS.ev ⟨tm, hp, gn, us, L⟩ xo = .c (.sl j n) := by exact rfl) (hr : hp j = some rw := by exact rfl) (h1 : rw.k = 1 := by exact rfl) (h2 : rw.n = n := by exact rfl) (h3 : rw.box = false := by exact rfl) (hcs : rw.cs = bytC bs := by exact rfl) (hT : convB Try.prog s d = true := by kernel_rfl)
    (hc : chk dr ops i o ⟨fpO (AS.ev ⟨tm, hp, gn, us, L⟩) o, [], [], .c (.v (.string ⟨bs.toArray⟩))⟩ H = true := by first | (with_reducible exact chk_nd) | kernel_rfl) : Walk Try.prog ops Q C dr H (i :: r) ⟨tm, hp, gn, us, L⟩ := by
  refine x_nop h hop hd ht hg ?_ hc
  unfold EffD
  rw [ho]
  simp only [hx, aStr_byt hr h1 h2 h3 hcs hT, AV.val?, isStr]
  rw [if_neg (by simp)]
  rfl
/-- The bytes of a slice that is read. -/
def bytE (l : List E) : List UInt8 := l.map fun e => match e with | .int _ z => UInt8.ofNat z.toNat | _ => 0
theorem bytesL_acL : ∀ {l : List E}, (∀ e ∈ l, ∃ z, e = .int .u8 z) → bytesL (acL l) = some (bytE l)
  | [], _ => rfl
  | e :: r, h => by
    obtain ⟨z, rfl⟩ := h e List.mem_cons_self
    have := bytesL_acL (l := r) fun e he => h e (List.mem_cons_of_mem _ he)
    show bytesL (.v (.int .u8 z) :: acL r) = _
    simp only [bytesL, this, Option.map_some]
    rfl
theorem aStr_acL {P : Program} {s d : TypeId} {hp : Nat → Option Row} {n : Nat} {l : List E} (hl : ∀ e ∈ l, ∃ z, e = .int .u8 z) (hT : convB P s d = true) :
    aStr P hp s d (.c (.ro n 1 (acL l))) = some (.c (.v (.string ⟨(bytE l).toArray⟩))) := by
  unfold convB at hT
  unfold aStr
  split at hT
  · rename_i e e1 e2
    rw [e1, e2]
    split at hT
    · rename_i e3
      simp only [e3, srcOf, if_pos, bytesL_acL hl, Option.map_some]
    · cases hT
  · cases hT
theorem x_cvr {t n : Nat} {s d : TypeId} {xo : Operand} {l : List E} (h : Walk Try.prog ops Q C dr (keepH dr (i, o, ⟨fpO (AS.ev ⟨tm, hp, gn, us, L⟩) o, [], [], .c (.v (.string ⟨(bytE l).toArray⟩))⟩) H) r ⟨upd tm t (.c (.v (.string ⟨(bytE l).toArray⟩))), hp, gn, us, L⟩)
    (hop : ops[i]? = some o := by exact rfl) (ho : o.op = .convert s d xo := by exact rfl) (hd : o.dst = some t := by exact rfl) (ht : Nat.blt t L = true := by exact rfl) (hg : gw ops tm o = some true := by exact rfl)
    (hx : AS.ev ⟨tm, hp, gn, us, L⟩ xo = .c (.ro n 1 (acL l)) := by exact rfl) (hl : ∀ e ∈ l, ∃ z, e = .int .u8 z := by assumption) (hT : convB Try.prog s d = true := by kernel_rfl)
    (hc : chk dr ops i o ⟨fpO (AS.ev ⟨tm, hp, gn, us, L⟩) o, [], [], .c (.v (.string ⟨(bytE l).toArray⟩))⟩ H = true := by first | (with_reducible exact chk_nd) | kernel_rfl) : Walk Try.prog ops Q C dr H (i :: r) ⟨tm, hp, gn, us, L⟩ := by
  refine x_nop h hop hd ht hg ?_ hc
  unfold EffD
  rw [ho]
  simp only [hx, aStr_acL hl hT, AV.val?, isStr]
  rw [if_neg (by simp)]
  rfl
end
end Go.Proofs.Ytfdjognmechcfaa
