/- The abstract machine: values and instructions compared as wholes. -/
import Derived.Test.YtfdjognmechcfaaAY
import Derived.Laws.StructEq
namespace Go.Proofs.Ytfdjognmechcfaa
open Go.RowKit
set_option maxRecDepth 100000
section
variable {P : Program} {ops : Array Oper} {Q : Exit → Act → World → Prop} {C : Ctx} {H : List (Nat × Oper × Inf)} {i : Nat} {r : List Nat} {o : Oper} {dr : Bool} {σ : AS}
variable {tm : Nat → AV} {hp : Nat → Option Row} {gn L : Nat} {us : List Nat} {x : AV}
/-- An operation whose value its operands tell, whatever the world. -/
theorem snd_run {y : Value} (hop : ops[i]? = some o) (hg : gw ops σ.tm o = some true) (hs1 : scal y = true) (hr : ∀ (ev : Operand → Value) (w : World), (∀ z ∈ o.op.operands, ∀ v, (σ.ev z).val? = some v → ev z = v) → (execOp ev o).run P w = .ok (.value y) w) : Snd P ops Q C i o σ ⟨fpO σ.ev o, [], [], .c (.v y)⟩ := by
  intro τ a w ha hs K hK
  obtain ⟨φ, F, St, hs⟩ := hs
  have h3 := hr a.eval w fun z hz v hv => val_eq (by rw [ha.ev z hz]; exact hv) (hs.ev z)
  unfold wpOp
  rw [hop]
  have hw := gw_to hs (b := true) (by rw [ha.gw]; exact hg)
  simp only [hw, if_true]
  refine .inl ?_
  unfold Oper.wp
  rw [h3]
  have h7 := hs.put o.dst (x := .c (.v y)) (u := y) (by simp only [VR, CR]; exact ⟨trivial, hs1, trivial⟩)
  exact hK _ _ ⟨φ, F, St, h7⟩
theorem run_eqS {o : Oper} {op : BinOp} {T ty : TypeId} {xo yo : Operand} {xs ys : Array Value} {b q : Bool} (ho : o.op = .binOp op T xo yo ty) (hm : P.eqGuardType P.depth T = false) (hq : ∀ w, (Op.equalIn 10000 T (.agg xs) (.agg ys)).run P w = .ok b w) (ev : Operand → Value) (w : World) (hx : ev xo = .agg xs) (hy : ev yo = .agg ys) (hb : op = .eql ∧ q = b ∨ op = .neq ∧ q = !b) : (execOp ev o).run P w = .ok (.value (.bool q)) w := by
  unfold execOp
  rw [ho]
  simp only [hx, hy]
  rcases hb with ⟨rfl, rfl⟩ | ⟨rfl, rfl⟩
  · simp [Sem.run_bind, run_eqGuard_agg w _ _ _ _ _ _ hm, run_eql_struct, hq]
  · simp [Sem.run_bind, run_eqGuard_agg w _ _ _ _ _ _ hm, run_neq_struct, hq]
theorem w_eqS {t : Nat} {op : BinOp} {T ty : TypeId} {xo yo : Operand} {xs ys : List Value} {b q : Bool} (hop : ops[i]? = some o) (ho : o.op = .binOp op T xo yo ty) (hd : o.dst = some t) (ht : Nat.blt t L = true) (hg : gw ops tm o = some true)
    (hm : P.eqGuardType P.depth T = false) (hx : (AS.ev ⟨tm, hp, gn, us, L⟩ xo).val? = some (.agg xs.toArray)) (hy : (AS.ev ⟨tm, hp, gn, us, L⟩ yo).val? = some (.agg ys.toArray)) (hq : ∀ w, (Op.equalIn 10000 T (.agg xs.toArray) (.agg ys.toArray)).run P w = .ok b w) (hb : op = .eql ∧ q = b ∨ op = .neq ∧ q = !b)
    (hc : chk dr ops i o ⟨fpO (AS.ev ⟨tm, hp, gn, us, L⟩) o, [], [], .c (.v (.bool q))⟩ H = true) (h : Walk P ops Q C dr (keepH dr (i, o, ⟨fpO (AS.ev ⟨tm, hp, gn, us, L⟩) o, [], [], .c (.v (.bool q))⟩) H) r ⟨upd tm t (.c (.v (.bool q))), hp, gn, us, L⟩) : Walk P ops Q C dr H (i :: r) ⟨tm, hp, gn, us, L⟩ := by
  refine ⟨o, _, hop, snd_run (y := .bool q) hop hg rfl fun ev w he => ?_, fun n hn => absurd hn List.not_mem_nil, chk_to hc, keepH_to ?_⟩
  · have e : o.op.operands = #[xo, yo] := by rw [ho]; rfl
    exact run_eqS ho hm hq ev w (he xo (by rw [e]; simp) _ hx) (he yo (by rw [e]; simp) _ hy) hb
  · show Walk P ops Q C dr _ r (AS.put _ o.dst _)
    rw [hd, put_at (by exact blt_to ht)]; exact h
end
theorem equal_Val (a0 b0 : Int) (a1 b1 : Int) (a2 b2 : ByteArray) (w : World) : (Op.equalIn 10000 58 (.agg #[.int .i64 a0, .int .i64 a1, .string a2]) (.agg #[.int .i64 b0, .int .i64 b1, .string b2])).run Try.prog w = .ok ((a0 == b0) && ((a1 == b1) && (a2.toList == b2.toList))) w := by
  rw [run_equalIn_agg w 9999 _ _ _ (by kernel_rfl) (by kernel_rfl)]
  simp only [Program.fieldsOf, Try.underlying58, Op.eqFields]
  simp [go_sem]
  by_cases h0 : a0 = b0 <;> by_cases h1 : a1 = b1 <;> by_cases h2 : a2.toList = b2.toList <;> simp [*]
theorem x_eqVal {ops : Array Oper} {Q : Exit → Act → World → Prop} {C : Ctx} {H : List (Nat × Oper × Inf)} {i : Nat} {r : List Nat} {o : Oper} {dr : Bool} {tm : Nat → AV} {hp : Nat → Option Row} {gn L : Nat} {us : List Nat} {t : Nat} {ty : TypeId} {xo yo : Operand} {a0 b0 : Int} {a1 b1 : Int} {a2 b2 : ByteArray}
    (h : Walk Try.prog ops Q C dr (keepH dr (i, o, ⟨fpO (AS.ev ⟨tm, hp, gn, us, L⟩) o, [], [], .c (.v (.bool ((a0 == b0) && ((a1 == b1) && (a2.toList == b2.toList)))))⟩) H) r ⟨upd tm t (.c (.v (.bool ((a0 == b0) && ((a1 == b1) && (a2.toList == b2.toList)))))), hp, gn, us, L⟩)
    (hop : ops[i]? = some o := by exact rfl) (ho : o.op = .binOp .eql 58 xo yo ty := by exact rfl) (hd : o.dst = some t := by exact rfl) (ht : Nat.blt t L = true := by exact rfl) (hg : gw ops tm o = some true := by exact rfl) (hx : AS.ev ⟨tm, hp, gn, us, L⟩ xo = .ag [.v (.int .i64 a0), .v (.int .i64 a1), .v (.string a2)] := by exact rfl) (hy : AS.ev ⟨tm, hp, gn, us, L⟩ yo = .ag [.v (.int .i64 b0), .v (.int .i64 b1), .v (.string b2)] := by exact rfl)
    (hc : chk dr ops i o ⟨fpO (AS.ev ⟨tm, hp, gn, us, L⟩) o, [], [], .c (.v (.bool ((a0 == b0) && ((a1 == b1) && (a2.toList == b2.toList)))))⟩ H = true := by first | (with_reducible exact chk_nd) | kernel_rfl) : Walk Try.prog ops Q C dr H (i :: r) ⟨tm, hp, gn, us, L⟩ :=
  w_eqS (xs := [.int .i64 a0, .int .i64 a1, .string a2]) (ys := [.int .i64 b0, .int .i64 b1, .string b2]) hop ho hd ht hg (by kernel_rfl) (by rw [hx]; rfl) (by rw [hy]; rfl) (equal_Val a0 b0 a1 b1 a2 b2) (.inl ⟨rfl, rfl⟩) hc h
theorem x_neVal {ops : Array Oper} {Q : Exit → Act → World → Prop} {C : Ctx} {H : List (Nat × Oper × Inf)} {i : Nat} {r : List Nat} {o : Oper} {dr : Bool} {tm : Nat → AV} {hp : Nat → Option Row} {gn L : Nat} {us : List Nat} {t : Nat} {ty : TypeId} {xo yo : Operand} {a0 b0 : Int} {a1 b1 : Int} {a2 b2 : ByteArray}
    (h : Walk Try.prog ops Q C dr (keepH dr (i, o, ⟨fpO (AS.ev ⟨tm, hp, gn, us, L⟩) o, [], [], .c (.v (.bool (!((a0 == b0) && ((a1 == b1) && (a2.toList == b2.toList))))))⟩) H) r ⟨upd tm t (.c (.v (.bool (!((a0 == b0) && ((a1 == b1) && (a2.toList == b2.toList))))))), hp, gn, us, L⟩)
    (hop : ops[i]? = some o := by exact rfl) (ho : o.op = .binOp .neq 58 xo yo ty := by exact rfl) (hd : o.dst = some t := by exact rfl) (ht : Nat.blt t L = true := by exact rfl) (hg : gw ops tm o = some true := by exact rfl) (hx : AS.ev ⟨tm, hp, gn, us, L⟩ xo = .ag [.v (.int .i64 a0), .v (.int .i64 a1), .v (.string a2)] := by exact rfl) (hy : AS.ev ⟨tm, hp, gn, us, L⟩ yo = .ag [.v (.int .i64 b0), .v (.int .i64 b1), .v (.string b2)] := by exact rfl)
    (hc : chk dr ops i o ⟨fpO (AS.ev ⟨tm, hp, gn, us, L⟩) o, [], [], .c (.v (.bool (!((a0 == b0) && ((a1 == b1) && (a2.toList == b2.toList))))))⟩ H = true := by first | (with_reducible exact chk_nd) | kernel_rfl) : Walk Try.prog ops Q C dr H (i :: r) ⟨tm, hp, gn, us, L⟩ :=
  w_eqS (xs := [.int .i64 a0, .int .i64 a1, .string a2]) (ys := [.int .i64 b0, .int .i64 b1, .string b2]) hop ho hd ht hg (by kernel_rfl) (by rw [hx]; rfl) (by rw [hy]; rfl) (equal_Val a0 b0 a1 b1 a2 b2) (.inr ⟨rfl, rfl⟩) hc h
theorem equal_Ins (a0 b0 : Int) (a1 b1 : Int) (w : World) : (Op.equalIn 10000 70 (.agg #[.int .i64 a0, .int .i64 a1]) (.agg #[.int .i64 b0, .int .i64 b1])).run Try.prog w = .ok ((a0 == b0) && (a1 == b1)) w := by
  rw [run_equalIn_agg w 9999 _ _ _ (by kernel_rfl) (by kernel_rfl)]
  simp only [Program.fieldsOf, Try.underlying70, Op.eqFields]
  simp [go_sem]
  by_cases h0 : a0 = b0 <;> by_cases h1 : a1 = b1 <;> simp [*]
theorem x_eqIns {ops : Array Oper} {Q : Exit → Act → World → Prop} {C : Ctx} {H : List (Nat × Oper × Inf)} {i : Nat} {r : List Nat} {o : Oper} {dr : Bool} {tm : Nat → AV} {hp : Nat → Option Row} {gn L : Nat} {us : List Nat} {t : Nat} {ty : TypeId} {xo yo : Operand} {a0 b0 : Int} {a1 b1 : Int}
    (h : Walk Try.prog ops Q C dr (keepH dr (i, o, ⟨fpO (AS.ev ⟨tm, hp, gn, us, L⟩) o, [], [], .c (.v (.bool ((a0 == b0) && (a1 == b1))))⟩) H) r ⟨upd tm t (.c (.v (.bool ((a0 == b0) && (a1 == b1))))), hp, gn, us, L⟩)
    (hop : ops[i]? = some o := by exact rfl) (ho : o.op = .binOp .eql 70 xo yo ty := by exact rfl) (hd : o.dst = some t := by exact rfl) (ht : Nat.blt t L = true := by exact rfl) (hg : gw ops tm o = some true := by exact rfl) (hx : AS.ev ⟨tm, hp, gn, us, L⟩ xo = .ag [.v (.int .i64 a0), .v (.int .i64 a1)] := by exact rfl) (hy : AS.ev ⟨tm, hp, gn, us, L⟩ yo = .ag [.v (.int .i64 b0), .v (.int .i64 b1)] := by exact rfl)
    (hc : chk dr ops i o ⟨fpO (AS.ev ⟨tm, hp, gn, us, L⟩) o, [], [], .c (.v (.bool ((a0 == b0) && (a1 == b1))))⟩ H = true := by first | (with_reducible exact chk_nd) | kernel_rfl) : Walk Try.prog ops Q C dr H (i :: r) ⟨tm, hp, gn, us, L⟩ :=
  w_eqS (xs := [.int .i64 a0, .int .i64 a1]) (ys := [.int .i64 b0, .int .i64 b1]) hop ho hd ht hg (by kernel_rfl) (by rw [hx]; rfl) (by rw [hy]; rfl) (equal_Ins a0 b0 a1 b1) (.inl ⟨rfl, rfl⟩) hc h
theorem x_neIns {ops : Array Oper} {Q : Exit → Act → World → Prop} {C : Ctx} {H : List (Nat × Oper × Inf)} {i : Nat} {r : List Nat} {o : Oper} {dr : Bool} {tm : Nat → AV} {hp : Nat → Option Row} {gn L : Nat} {us : List Nat} {t : Nat} {ty : TypeId} {xo yo : Operand} {a0 b0 : Int} {a1 b1 : Int}
    (h : Walk Try.prog ops Q C dr (keepH dr (i, o, ⟨fpO (AS.ev ⟨tm, hp, gn, us, L⟩) o, [], [], .c (.v (.bool (!((a0 == b0) && (a1 == b1)))))⟩) H) r ⟨upd tm t (.c (.v (.bool (!((a0 == b0) && (a1 == b1)))))), hp, gn, us, L⟩)
    (hop : ops[i]? = some o := by exact rfl) (ho : o.op = .binOp .neq 70 xo yo ty := by exact rfl) (hd : o.dst = some t := by exact rfl) (ht : Nat.blt t L = true := by exact rfl) (hg : gw ops tm o = some true := by exact rfl) (hx : AS.ev ⟨tm, hp, gn, us, L⟩ xo = .ag [.v (.int .i64 a0), .v (.int .i64 a1)] := by exact rfl) (hy : AS.ev ⟨tm, hp, gn, us, L⟩ yo = .ag [.v (.int .i64 b0), .v (.int .i64 b1)] := by exact rfl)
    (hc : chk dr ops i o ⟨fpO (AS.ev ⟨tm, hp, gn, us, L⟩) o, [], [], .c (.v (.bool (!((a0 == b0) && (a1 == b1)))))⟩ H = true := by first | (with_reducible exact chk_nd) | kernel_rfl) : Walk Try.prog ops Q C dr H (i :: r) ⟨tm, hp, gn, us, L⟩ :=
  w_eqS (xs := [.int .i64 a0, .int .i64 a1]) (ys := [.int .i64 b0, .int .i64 b1]) hop ho hd ht hg (by kernel_rfl) (by rw [hx]; rfl) (by rw [hy]; rfl) (equal_Ins a0 b0 a1 b1) (.inr ⟨rfl, rfl⟩) hc h
end Go.Proofs.Ytfdjognmechcfaa
