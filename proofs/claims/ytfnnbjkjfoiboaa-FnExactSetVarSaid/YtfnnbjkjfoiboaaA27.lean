/- The abstract machine, twenty-seven: calls made short; contracts used. -/
import Derived.Test.YtfnnbjkjfoiboaaA26
namespace Go.Proofs.Ytfnnbjkjfoiboaa
open Go.RowKit

section
variable {hp : Nat → Option Row} {D : List Nat}
theorem cvm_nil : List.map (cvV hp D) [] = [] := rfl
theorem cvm_cons {x y : AV} {r r' : List AV} (h : cvV hp D x = y) (k : List.map (cvV hp D) r = r') : List.map (cvV hp D) (x :: r) = y :: r' := by rw [List.map_cons, h, k]
theorem cv_c {c c' : AC} (h : cvC hp D c = c') : cvV hp D (.c c) = .c c' := by rw [cvV, h]
theorem cv_ag {l l' : List AC} (h : cvL hp D l = l') : cvV hp D (.ag l) = .ag l' := by rw [cvV, h]
theorem cvL_cons {c c' : AC} {r r' : List AC} (h : cvC hp D c = c') (k : cvL hp D r = r') : cvL hp D (c :: r) = c' :: r' := by rw [cvL, h, k]
theorem cvC_ro {n k : Nat} {l : List AC} (h : cloL l = true) : cvC hp D (.ro n k l) = .ro n k l := by rw [cvC, if_pos h]
theorem cvC_rp {o : Nat} {l : List AC} (h : cloL l = true) : cvC hp D (.rp l o) = .rp l o := by rw [cvC, if_pos h]
theorem cvC_fn {f : FuncId} {c c' : List AC} (h : cvL hp D c = c') : cvC hp D (.fn f c) = .fn f c' := by rw [cvC, h]
theorem cvC_sl {i n : Nat} {rw : Row} {l : List AC} (hr : hp i = some rw) (hb : rw.box = false) (hn : rw.n = n) (hc : cloL rw.cs = true) (hl : toRoL rw.cs = l) : cvC hp D (.sl i n) = .ro n rw.k l := by
  simp only [cvC, hr]
  rw [if_pos ⟨hb, hn, hc⟩, hl]
end
section
variable {P : Program} {ops : Array Oper} {Q : Exit → Act → World → Prop} {C : Ctx} {H : List (Nat × Oper × Inf)} {i : Nat} {r : List Nat} {o : Oper} {dr : Bool}
variable {tm : Nat → AV} {hp : Nat → Option Row} {gn L : Nat} {us : List Nat} {x : AV}
/-- A call that lends nothing. -/
theorem v_call (id : Nat) {t : Nat} {c : Call} {fv : Operand} {f : FuncId} {caps : List AC} {args ins : List AV} {res : AV} (hctr : Ctr P f ins [] res []) (hop : ops[i]? = some o) (hoc : o.op = .call c) (hcal : c.callee = .value fv) (hd : o.dst = some t) (ht : Nat.blt t L = true) (hg : gw ops tm o = some true)
    (hfv : AS.ev ⟨tm, hp, gn, us, L⟩ fv = .c (.fn f caps)) (hargs : callArgs ⟨tm, hp, gn, us, L⟩ c caps = args) (hcv : args.map (cvV hp []) = ins) (hm : rofrV res = true)
    {nv : AV} {nr : List (Nat × Row)} (hopn : opV id res = (nv, nr)) (hf : (nr.all fun p => Nat.ble gn p.1 && !us.contains p.1) = true)
    (hc : chk dr ops i o ⟨args.flatMap snV ++ [], nr.map (fun p => (p.1, some p.2)), nr.map (·.1), nv⟩ H = true)
    (h : Walk P ops Q C dr (keepH dr (i, o, ⟨args.flatMap snV ++ [], nr.map (fun p => (p.1, some p.2)), nr.map (·.1), nv⟩) H) r ⟨upd tm t nv, updL hp (nr.map (fun p => (p.1, some p.2))), gn, nr.map (·.1) ++ us, L⟩) : Walk P ops Q C dr H (i :: r) ⟨tm, hp, gn, us, L⟩ := by
  have e : callInf ⟨tm, hp, gn, us, L⟩ (args.flatMap snV) [] [] id res [] = ⟨args.flatMap snV ++ [], nr.map (fun p => (p.1, some p.2)), nr.map (·.1), nv⟩ := by
    unfold callInf; rw [hopn]; simp [backU]
  refine w_call id [] [] hop hoc hcal hd ht hg hfv hargs (pars := []) rfl (by rw [hcv]; exact hctr) (by simp) rfl (.inl ⟨hm, fun c hc => absurd hc List.not_mem_nil⟩) hopn hf (by rw [e]; exact hc) ?_
  rw [e]
  simpa [backU] using h
/-- A call that lends rows. -/
theorem v_callD (id : Nat) (D : List Nat) {t : Nat} {c : Call} {fv : Operand} {f : FuncId} {caps : List AC} {args ins : List AV} {pars rows : List (List AC)} {res : AV} (hctr : Ctr P f ins pars res rows) (hop : ops[i]? = some o) (hoc : o.op = .call c) (hcal : c.callee = .value fv) (hd : o.dst = some t) (ht : Nat.blt t L = true) (hg : gw ops tm o = some true)
    (hfv : AS.ev ⟨tm, hp, gn, us, L⟩ fv = .c (.fn f caps)) (hargs : callArgs ⟨tm, hp, gn, us, L⟩ c caps = args) (hcv : args.map (cvV hp D) = ins) (hl : lend hp D = some pars) (hRD : ((args.flatMap snV).all fun z => !D.contains z) = true) (hm : rofrV res = true) (hm2 : ∀ c ∈ rows, rofrL c = true)
    {nv : AV} {nr : List (Nat × Row)} (hopn : opV id res = (nv, nr)) (hf : (nr.all fun p => Nat.ble gn p.1 && !us.contains p.1) = true)
    (hc : chk dr ops i o (callInf ⟨tm, hp, gn, us, L⟩ (args.flatMap snV) D [] id res rows) H = true)
    (h : Walk P ops Q C dr (keepH dr (i, o, callInf ⟨tm, hp, gn, us, L⟩ (args.flatMap snV) D [] id res rows) H) r ⟨upd tm t nv, updL hp (backU hp D rows ++ [] ++ nr.map (fun p => (p.1, some p.2))), gn, nr.map (·.1) ++ us, L⟩) : Walk P ops Q C dr H (i :: r) ⟨tm, hp, gn, us, L⟩ :=
  w_call id D [] hop hoc hcal hd ht hg hfv hargs hl (by rw [hcv]; exact hctr) hRD rfl (.inl ⟨hm, hm2⟩) hopn hf hc h
end
theorem rofr_one {l : List AC} (h : rofrL l = true) : ∀ c ∈ [l], rofrL c = true := fun c hc => by rw [List.mem_singleton] at hc; subst hc; exact h
theorem spl_part {f : E → List AC} {g : List E → List AC} (g1 : ∀ e r, g (e :: r) = f e ++ g r) {k : Nat} : ∀ {l : List E} {i j : Nat} {x x' : E} {xs : List AC}, (∀ e ∈ l, (f e).length = k) → l[i]? = some x → j + xs.length ≤ k → f x' = spl (f x) j xs → spl (g l) (i * k + j) xs = g (l.set i x')
  | [], i, j, x, x', xs, _, hx, _, _ => by simp at hx
  | e :: r, 0, j, x, x', xs, hk, hx, hj, he => by
    simp only [List.getElem?_cons_zero, Option.some.injEq] at hx
    subst hx
    have hl := hk e List.mem_cons_self
    rw [List.set_cons_zero, g1, g1, he]
    unfold spl
    rw [Nat.zero_mul, Nat.zero_add, List.take_append_of_le_length (by omega), List.drop_append_of_le_length (by omega)]
    simp only [List.append_assoc]
  | e :: r, i + 1, j, x, x', xs, hk, hx, hj, he => by
    have hl := hk e List.mem_cons_self
    have := spl_part g1 (i := i) (fun y hy => hk y (List.mem_cons_of_mem _ hy)) (by simpa using hx) hj he
    rw [List.set_cons_succ, g1, g1, ← this]
    have e1 : (i + 1) * k + j = (f e).length + (i * k + j) := by rw [hl, Nat.add_mul]; omega
    unfold spl
    rw [e1, List.take_append, List.take_of_length_le (by omega), Nat.add_sub_cancel_left, Nat.add_assoc, List.drop_append, List.drop_eq_nil_of_le (by omega), List.nil_append, Nat.add_sub_cancel_left]
    simp only [List.append_assoc]
theorem owL_spl {k : Nat} {l : List E} {i j : Nat} {x x' : E} {xs : List AC} (h : ∀ e ∈ l, e.enc.length = k) (hx : l[i]? = some x) (hj : j + xs.length ≤ k) (he : owE x' = spl (owE x) j xs) : spl (owL l) (i * k + j) xs = owL (l.set i x') :=
  spl_part (f := owE) (g := owL) (fun _ _ => rfl) (fun e he => by rw [owE_len]; exact h e he) hx hj he
theorem owL_fit {k : Nat} {l : List E} {i j n : Nat} (h : ∀ e ∈ l, e.enc.length = k) (hi : i < l.length) (hj : j + n ≤ k) : i * k + j + n ≤ (owL l).length := by
  rw [owL_len, E.encL_len h]
  have := Nat.mul_le_mul_right k (show i + 1 ≤ l.length from hi)
  rw [Nat.add_mul] at this; omega
theorem rofr_ag {l : List AC} (h : rofrL l = true) : rofrV (.ag l) = true := h
theorem rofr_ow {T : TypeId} {n k : Nat} {l : List E} {r : List AC} (h : rofrL r = true) : rofrL (.ow T n k (owL l) :: r) = true := by simp only [rofrL, rofr, owL_rofr l, h]; rfl
end Go.Proofs.Ytfnnbjkjfoiboaa
