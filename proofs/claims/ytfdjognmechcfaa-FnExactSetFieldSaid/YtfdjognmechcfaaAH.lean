/- The abstract machine: rows with one open slice in them, tidied; guards split. -/
import Derived.Test.YtfdjognmechcfaaAG
namespace Go.Proofs.Ytfdjognmechcfaa
open Go.RowKit
theorem rnL_app {ρ : Nat → Option Nat} : ∀ {P Q P' Q' : List AC}, rnL ρ P = some P' → rnL ρ Q = some Q' → rnL ρ (P ++ Q) = some (P' ++ Q')
  | [], Q, P', Q', h, k => by simp only [rnL, Option.some.injEq] at h; subst h; exact k
  | c :: P, Q, P', Q', h, k => by
    simp only [rnL] at h
    split at h
    · rename_i c' r' h1 h2
      injection h with h; subst h
      simp only [List.cons_append, rnL, h1, rnL_app h2 k]
    · cases h
theorem rw_mid {ρ : Nat → Option Nat} {y : Option Row} {T : TypeId} {k m : Nat} {b : Bool} {P Q : List AC} {i j n : Nat} (h : y = some ⟨T, k, m, b, P ++ .sl i n :: Q⟩) (hρ : ρ i = some j) (hP : cloL P = true) (hQ : cloL Q = true) :
    ∃ r', y = some r' ∧ ((cloL r'.cs = true ∧ (⟨T, k, m, b, P ++ .sl j n :: Q⟩ : Row) = r') ∨ ∃ cs', rnL ρ r'.cs = some cs' ∧ (⟨T, k, m, b, P ++ .sl j n :: Q⟩ : Row) = { r' with cs := cs' }) := by
  refine ⟨_, h, .inr ⟨P ++ .sl j n :: Q, ?_, rfl⟩⟩
  refine rnL_app (rnL_id P hP) ?_
  simp [rnL, rnC, hρ, rnL_id Q hQ]
section
variable {P : Program} {ops : Array Oper} {Q : Exit → Act → World → Prop} {C : Ctx} {H : List (Nat × Oper × Inf)} {i : Nat} {r : List Nat} {o : Oper} {dr : Bool}
variable {tm : Nat → AV} {hp : Nat → Option Row} {gn L : Nat} {us : List Nat}
theorem walk_split {t : Nat} {b : Bool} (h : tm t = .c (.v (.bool b))) (h1 : b = true → Walk P ops Q C dr H (i :: r) ⟨upd tm t (.c (.v (.bool true))), hp, gn, us, L⟩) (h2 : b = false → Walk P ops Q C dr H (i :: r) ⟨upd tm t (.c (.v (.bool false))), hp, gn, us, L⟩) : Walk P ops Q C dr H (i :: r) ⟨tm, hp, gn, us, L⟩ := by
  have e : ∀ x, tm t = x → upd tm t x = tm := fun x hx => by
    funext j
    by_cases hj : j = t
    · subst hj; rw [upd_same, hx]
    · rw [upd_ne _ _ hj]
  cases b with
  | true => have := h1 rfl; rwa [e _ h] at this
  | false => have := h2 rfl; rwa [e _ h] at this
theorem walk_gh {σ σ' : AS} (hg : Gh σ σ') (h : Walk P ops Q C dr H [] σ') : Walk P ops Q C dr H [] σ := fun a w hs => h a w (hg C a w hs)
def gdL (i : Nat) : List Oper → Bool
  | [] => false
  | o :: r => match o.guard with | some (g, _) => Nat.beq g i || gdL i r | none => gdL i r
/-- An operation that later ones hang on: both ways. -/
theorem w_gm {t : Nat} {b : Bool} (h1 : b = true → Walk P ops Q C dr (keepH dr (i, o, ⟨fpO (AS.ev ⟨tm, hp, gn, us, L⟩) o, [], [], .c (.v (.bool true))⟩) H) r ⟨upd tm t (.c (.v (.bool true))), hp, gn, us, L⟩)
    (h2 : b = false → Walk P ops Q C dr (keepH dr (i, o, ⟨fpO (AS.ev ⟨tm, hp, gn, us, L⟩) o, [], [], .c (.v (.bool false))⟩) H) r ⟨upd tm t (.c (.v (.bool false))), hp, gn, us, L⟩)
    (hop : ops[i]? = some o) (_ : gdL i ops.toList = true) (hd : o.dst = some t) (ht : Nat.blt t L = true) (hg : gw ops tm o = some true) (he : EffD P o (AS.ev ⟨tm, hp, gn, us, L⟩) hp 0 = some (.c (.v (.bool b)), .nop))
    (hc1 : chk dr ops i o ⟨fpO (AS.ev ⟨tm, hp, gn, us, L⟩) o, [], [], .c (.v (.bool true))⟩ H = true) (hc2 : chk dr ops i o ⟨fpO (AS.ev ⟨tm, hp, gn, us, L⟩) o, [], [], .c (.v (.bool false))⟩ H = true) : Walk P ops Q C dr H (i :: r) ⟨tm, hp, gn, us, L⟩ :=
  w_bool hop hd ht hg he hc1 hc2 h1 h2
/-- The guard of the next operation is not decided: both ways. -/
theorem x_gd {gi t : Nat} {bb b : Bool} {og : Oper} (h1 : b = true → Walk P ops Q C dr H (i :: r) ⟨upd tm t (.c (.v (.bool true))), hp, gn, us, L⟩) (h2 : b = false → Walk P ops Q C dr H (i :: r) ⟨upd tm t (.c (.v (.bool false))), hp, gn, us, L⟩)
    (hop : ops[i]? = some o := by exact rfl) (hgd : o.guard = some (gi, bb) := by exact rfl) (hgo : ops[gi]? = some og := by exact rfl) (hgt : og.dst = some t := by exact rfl) (h : tm t = .c (.v (.bool b)) := by exact rfl) : Walk P ops Q C dr H (i :: r) ⟨tm, hp, gn, us, L⟩ := walk_split h h1 h2
/-- The guard is decided. -/
theorem x_gdT (h : Walk P ops Q C dr H (i :: r) ⟨tm, hp, gn, us, L⟩) (hop : ops[i]? = some o := by exact rfl) (hg : gw ops tm o = some true := by exact rfl) : Walk P ops Q C dr H (i :: r) ⟨tm, hp, gn, us, L⟩ := h
theorem x_gdF (h : Walk P ops Q C dr H (i :: r) ⟨tm, hp, gn, us, L⟩) (hop : ops[i]? = some o := by exact rfl) (hg : gw ops tm o = some false := by exact rfl) : Walk P ops Q C dr H (i :: r) ⟨tm, hp, gn, us, L⟩ := h
end
section
variable {ops : Array Oper} {Q : Exit → Act → World → Prop} {C : Ctx} {H H' : List (Nat × Oper × Inf)} {i : Nat} {r : List Nat} {o : Oper} {dr : Bool}
variable {tm : Nat → AV} {hp : Nat → Option Row} {gn L : Nat} {us : List Nat} {x : AV}
theorem x_gm {t : Nat} {b : Bool} (h1 : b = true → Walk Try.prog ops Q C dr (keepH dr (i, o, ⟨fpO (AS.ev ⟨tm, hp, gn, us, L⟩) o, [], [], .c (.v (.bool true))⟩) H) r ⟨upd tm t (.c (.v (.bool true))), hp, gn, us, L⟩)
    (h2 : b = false → Walk Try.prog ops Q C dr (keepH dr (i, o, ⟨fpO (AS.ev ⟨tm, hp, gn, us, L⟩) o, [], [], .c (.v (.bool false))⟩) H) r ⟨upd tm t (.c (.v (.bool false))), hp, gn, us, L⟩)
    (hop : ops[i]? = some o := by exact rfl) (hgd : gdL i ops.toList = true := by exact rfl) (hd : o.dst = some t := by exact rfl) (ht : Nat.blt t L = true := by exact rfl) (hg : gw ops tm o = some true := by exact rfl) (he : EffD Try.prog o (AS.ev ⟨tm, hp, gn, us, L⟩) hp 0 = some (.c (.v (.bool b)), .nop) := by rfl)
    (hc1 : chk dr ops i o ⟨fpO (AS.ev ⟨tm, hp, gn, us, L⟩) o, [], [], .c (.v (.bool true))⟩ H = true := by first | (with_reducible exact chk_nd) | kernel_rfl) (hc2 : chk dr ops i o ⟨fpO (AS.ev ⟨tm, hp, gn, us, L⟩) o, [], [], .c (.v (.bool false))⟩ H = true := by first | (with_reducible exact chk_nd) | kernel_rfl) : Walk Try.prog ops Q C dr H (i :: r) ⟨tm, hp, gn, us, L⟩ :=
  w_bool hop hd ht hg he hc1 hc2 h1 h2
/-- A call by a contract at hand; its rows' numbers by its slot. -/
theorem x_cal {t : Nat} {c : Call} {fv : Operand} {f : FuncId} {caps : List AC} {args ins : List AV} {res : AV} {nv : AV} {nr : List (Nat × Row)}
    (h : Walk Try.prog ops Q C dr (keepH dr (i, o, ⟨args.flatMap snV ++ [], nr.map (fun p => (p.1, some p.2)), nr.map (·.1), nv⟩) H) r ⟨upd tm t nv, updL hp (nr.map (fun p => (p.1, some p.2))), gn, nr.map (·.1) ++ us, L⟩) (hop : ops[i]? = some o := by exact rfl) (hoc : o.op = .call c := by exact rfl) (hcal : c.callee = .value fv := by exact rfl) (hd : o.dst = some t := by exact rfl) (ht : Nat.blt t L = true := by exact rfl) (hg : gw ops tm o = some true := by exact rfl) (hfv : AS.ev ⟨tm, hp, gn, us, L⟩ fv = .c (.fn f caps) := by exact rfl) (hctr : Ctr Try.prog f ins [] res [] := by assumption) (hargs : callArgs ⟨tm, hp, gn, us, L⟩ c caps = args := by exact rfl) (hcv : args.map (cvV hp []) = ins := by ((repeat' (first | rfl | exact cvm_nil | refine cvm_cons ?_ ?_ | refine cv_ag ?_ | refine cv_c ?_ | refine cvL_cons ?_ ?_ | (refine cvC_ro ?_; (first | rfl | (simp [cloV, cloL, clo, acE_clo, acL_clo, owE_clo, owL_clo, cloL_app]; done))) | (refine cvC_rp ?_; (first | rfl | (simp [cloV, cloL, clo, acE_clo, acL_clo, owE_clo, owL_clo, cloL_app]; done))) | refine cvC_fn ?_ | (refine cvC_sl' (by rfl) (by rfl) (by rfl) (by rfl) ?_ ?_; (focus (first | rfl | (simp [cloV, cloL, clo, acE_clo, acL_clo, owE_clo, owL_clo, cloL_app]; done))); (first | rfl | exact owL_toRo _)))) <;> exact rfl)) (hm : rofrV res = true := by (first | rfl | exact owE_rofr _ | (simp [rofrV, rofrVL, rofrL, rofr, owE_rofr, owL_rofr, rofrL_app]; done))) (hopn : opV (100 * (t + 1)) res = (nv, nr) := by exact rfl) (hf : (nr.all fun p => Nat.ble gn p.1 && !us.contains p.1) = true := by exact rfl) (hc : chk dr ops i o ⟨args.flatMap snV ++ [], nr.map (fun p => (p.1, some p.2)), nr.map (·.1), nv⟩ H = true := by first | (with_reducible exact chk_nd) | kernel_rfl) : Walk Try.prog ops Q C dr H (i :: r) ⟨tm, hp, gn, us, L⟩ :=
  v_call (100 * (t + 1)) hctr hop hoc hcal hd ht hg hfv hargs hcv hm hopn hf hc h
theorem x_cak {t : Nat} {c : Call} {fv : Operand} {f : FuncId} {caps : List AC} {args ins : List AV} {res : AV} {nv : AV} {nr : List (Nat × Row)} (hctr : Ctr Try.prog f ins [] res [])
    (h : Walk Try.prog ops Q C dr (keepH dr (i, o, ⟨args.flatMap snV ++ [], nr.map (fun p => (p.1, some p.2)), nr.map (·.1), nv⟩) H) r ⟨upd tm t nv, updL hp (nr.map (fun p => (p.1, some p.2))), gn, nr.map (·.1) ++ us, L⟩) (hop : ops[i]? = some o := by exact rfl) (hoc : o.op = .call c := by exact rfl) (hcal : c.callee = .value fv := by exact rfl) (hd : o.dst = some t := by exact rfl) (ht : Nat.blt t L = true := by exact rfl) (hg : gw ops tm o = some true := by exact rfl) (hfv : AS.ev ⟨tm, hp, gn, us, L⟩ fv = .c (.fn f caps) := by exact rfl) (hargs : callArgs ⟨tm, hp, gn, us, L⟩ c caps = args := by exact rfl) (hcv : args.map (cvV hp []) = ins := by ((repeat' (first | rfl | exact cvm_nil | refine cvm_cons ?_ ?_ | refine cv_ag ?_ | refine cv_c ?_ | refine cvL_cons ?_ ?_ | (refine cvC_ro ?_; (first | rfl | (simp [cloV, cloL, clo, acE_clo, acL_clo, owE_clo, owL_clo, cloL_app]; done))) | (refine cvC_rp ?_; (first | rfl | (simp [cloV, cloL, clo, acE_clo, acL_clo, owE_clo, owL_clo, cloL_app]; done))) | refine cvC_fn ?_ | (refine cvC_sl' (by rfl) (by rfl) (by rfl) (by rfl) ?_ ?_; (focus (first | rfl | (simp [cloV, cloL, clo, acE_clo, acL_clo, owE_clo, owL_clo, cloL_app]; done))); (first | rfl | exact owL_toRo _)))) <;> exact rfl)) (hm : rofrV res = true := by (first | rfl | exact owE_rofr _ | (simp [rofrV, rofrVL, rofrL, rofr, owE_rofr, owL_rofr, rofrL_app]; done))) (hopn : opV (100 * (t + 1)) res = (nv, nr) := by exact rfl) (hf : (nr.all fun p => Nat.ble gn p.1 && !us.contains p.1) = true := by exact rfl) (hc : chk dr ops i o ⟨args.flatMap snV ++ [], nr.map (fun p => (p.1, some p.2)), nr.map (·.1), nv⟩ H = true := by first | (with_reducible exact chk_nd) | kernel_rfl) : Walk Try.prog ops Q C dr H (i :: r) ⟨tm, hp, gn, us, L⟩ :=
  v_call (100 * (t + 1)) hctr hop hoc hcal hd ht hg hfv hargs hcv hm hopn hf hc h
end
end Go.Proofs.Ytfdjognmechcfaa
