/- The abstract machine: strings put together. -/
import Derived.Test.YtkhioiehcaaejaaDoorAE
import Derived.Test.YtkhioiehcaaejaaDoorAH
import Derived.Laws.Concat
namespace Go.Proofs.YtkhioiehcaaejaaDoor
open Go.RowKit
set_option maxRecDepth 100000
section
variable {ops : Array Oper} {Q : Exit → Act → World → Prop} {C : Ctx} {H H' : List (Nat × Oper × Inf)} {i : Nat} {r : List Nat} {o : Oper} {dr : Bool}
variable {tm : Nat → AV} {hp : Nat → Option Row} {gn L : Nat} {us : List Nat}
theorem run_cat {P : Program} {T ty : TypeId} {xo yo : Operand} {a b : ByteArray} (ho : o.op = .binOp .add T xo yo ty) (hT : P.underlying T = some .string) (hs : a.size + b.size ≤ 9223372036854775807) (ev : Operand → Value) (w : World) (hx : ev xo = .string a) (hy : ev yo = .string b) : (execOp ev o).run P w = .ok (.value (.string (a ++ b))) w := by
  unfold execOp
  rw [ho]
  simp only [hx, hy]
  simp [Sem.run_bind, binOp, eqGuard, run_underlying hT, run_string_add_sum w a b hs]
theorem x_cat {t : Nat} {T ty : TypeId} {xo yo : Operand} {a b : ByteArray} (h : Walk Tryd.prog ops Q C dr (keepH dr (i, o, ⟨fpO (AS.ev ⟨tm, hp, gn, us, L⟩) o, [], [], .c (.v (.string (a ++ b)))⟩) H) r ⟨upd tm t (.c (.v (.string (a ++ b)))), hp, gn, us, L⟩)
    (hop : ops[i]? = some o := by exact rfl) (ho : o.op = .binOp .add T xo yo ty := by exact rfl) (hT : (Tryd.prog).underlying T = some .string := by exact Tryd.underlying9) (hd : o.dst = some t := by exact rfl) (ht : Nat.blt t L = true := by exact rfl) (hg : gw ops tm o = some true := by exact rfl)
    (hx : AS.ev ⟨tm, hp, gn, us, L⟩ xo = .c (.v (.string a)) := by exact rfl) (hy : AS.ev ⟨tm, hp, gn, us, L⟩ yo = .c (.v (.string b)) := by exact rfl) (hs : a.size + b.size ≤ 9223372036854775807 := by first | omega | (simp only [ByteArray.size_append', ByteArray.size_mk', List.size_toArray, List.length_cons, List.length_nil]; omega))
    (hc : chk dr ops i o ⟨fpO (AS.ev ⟨tm, hp, gn, us, L⟩) o, [], [], .c (.v (.string (a ++ b)))⟩ H = true := by first | (with_reducible exact chk_nd) | kernel_rfl) : Walk Tryd.prog ops Q C dr H (i :: r) ⟨tm, hp, gn, us, L⟩ := by
  refine ⟨o, _, hop, snd_run (y := .string (a ++ b)) hop hg rfl fun ev w he => ?_, fun n hn => absurd hn List.not_mem_nil, chk_to hc, keepH_to ?_⟩
  · have e : o.op.operands = #[xo, yo] := by rw [ho]; rfl
    exact run_cat ho hT hs ev w (he xo (by rw [e]; simp) _ (by rw [hx]; rfl)) (he yo (by rw [e]; simp) _ (by rw [hy]; rfl))
  · show Walk Tryd.prog ops Q C dr _ r (AS.put _ o.dst _)
    rw [hd, put_at (by exact blt_to ht)]; exact h
end
end Go.Proofs.YtkhioiehcaaejaaDoor
