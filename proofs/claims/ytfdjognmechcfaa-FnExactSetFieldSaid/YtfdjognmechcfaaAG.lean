/- The abstract machine: bodies of functions that take a slice over; short rules for their calls. -/
import Derived.Test.YtfdjognmechcfaaAF
namespace Go.Proofs.Ytfdjognmechcfaa
open Go.RowKit
set_option maxRecDepth 100000
def σT (ins : List AV) (p : Nat) (T : TypeId) (k n : Nat) (cs : List AC) (nt : Nat) : AS :=
  { tm := upd (fun t => (ins[t]?).getD (.c .un)) p (.c (.sl 0 n)), hp := upd (fun _ => none) 0 (some ⟨T, k, n, false, cs⟩), gn := 0, us := [0], L := ins.length + (nt - ins.length) }
theorem ctrT_of {P : Program} {f : FuncId} {fn : Func} {c : Code} {ins : List AV} {p : Nat} {T : TypeId} {k n : Nat} {cs : List AC} {res : AV} (hf : P.funcs[f]? = some fn) (hb : fn.body = some c) (hn : (fn.name == "runtime.NumGoroutine") = false) (hp : Nat.blt p ins.length = true)
    (h : AWp P c (bodyQ P fn [] fun r c => r = res ∧ c = []) (σT ins p T k n cs fn.ntmps)) : CtrT P f ins p T k n cs res none := by
  refine ⟨by unfold entB; rw [hf]; simp [hn, hb], fun w St us A hE => ?_⟩
  have hE0 : Ent w St φ0 (fun _ => []) ins us [] := by
    refine ⟨VRL.mono (fun b hb _ => ⟨hb, rfl⟩) (Nat.le_refl _) (fun i hi => hi.elim) _ _ hE.args, fun i cs hi => by simp at hi, fun i hi => absurd hi (Nat.not_lt_zero i), fun i j hi => absurd hi (Nat.not_lt_zero i), fun i j b lo hi => absurd hi (Nat.not_lt_zero i), fun i j b lo lo' ci cj hi => by simp at hi, fun i b hi => absurd hi (Nat.not_lt_zero i), fun i b lo hi => absurd hi (Nat.not_lt_zero i), hE.gl.1, fun b _ => ⟨fun ⟨i, hi, _⟩ => absurd hi (Nat.not_lt_zero i), fun o ⟨i, lo, cs, hi, _⟩ => by simp at hi⟩⟩
  have h0 := hE0.sim fn.ntmps
  obtain ⟨u, vs, fs, hu, g1, g2, rfl⟩ := hE.row
  have h1 : SimF { w0 := w, N := 0, pl := plOf φ0, M := (· ∈ obl u ++ fs), R := fun _ _ => False, S0 := St } φ0 (fun _ => []) St (σ0 ins [] fn.ntmps) { tmps := us.toArray ++ Array.replicate (fn.ntmps - us.toArray.size) undef, defers := [] } w :=
    ⟨h0.dfr, h0.len, h0.tms, h0.row, h0.nod, h0.dis, h0.bxF, h0.bxd, h0.stF, h0.stB, Fc.refl _ _ _, fun i r b hr => by simp [σ0] at hr, fun i hi => absurd hi (Nat.not_lt_zero i), fun i r b lo hr => by simp [σ0] at hr, ⟨Nat.le_refl _, hE.gl.1, fun b hg => ⟨hE.gl.2 b hg, fun _ h => h⟩⟩, fun b hb _ => .inl hb⟩
  obtain ⟨φ, F, St1, h2, hv⟩ := h1.newSlice (id := 0) (Nat.le_refl _) List.not_mem_nil (Stp.refl none w) (fun b hb => by cases hb) (CRL.up _ _ (fun b hb _ => hb) g1) (fun b hb e => by cases e) g2 hE.nod fun b hb => .inr ⟨fun j s hj => by simp [σ0] at hj, hE.st b hb, .inl hb⟩
  have hpl : p < ins.length := blt_to hp
  have hlen := hE.args.len
  have h3 : SimF { w0 := w, N := 0, pl := plOf φ0, M := (· ∈ obl u ++ fs), R := fun _ _ => False, S0 := St } φ F St1 (σT ins p T k n cs fn.ntmps) { tmps := us.toArray ++ Array.replicate (fn.ntmps - us.toArray.size) undef, defers := [] } w := by
    refine ⟨h2.dfr, h2.len, fun t => ?_, fun i r hr => ?_, fun i r hr => ?_, fun i j r s hr hs => ?_, fun i j r s b lo hr hs => ?_, fun i j r s b lo lo' hr hs => ?_, fun i r b hr => ?_, fun i r b lo hr => ?_, h2.frm, fun i r b hr => ?_, fun i hi => absurd hi (Nat.not_lt_zero i), fun i r b lo hr => ?_, h2.gnN, h2.stS⟩
    · rw [show (σT ins p T k n cs fn.ntmps).tm = upd (fun t => (ins[t]?).getD (.c .un)) p (.c (.sl 0 n)) from rfl]
      by_cases e : t = p
      · subst e
        rw [upd_same]
        have : (us.toArray ++ Array.replicate (fn.ntmps - us.toArray.size) undef).getD t undef = u := by
          rw [Array.getD_eq_getD_getElem?, Array.getElem?_append_left (by simp [hlen, hpl])]
          simp [hu]
        rw [this]; exact hv
      · rw [upd_ne _ _ e]; exact h2.tms t
    all_goals
      have hx : ∀ i, (σT ins p T k n cs fn.ntmps).hp i = upd (σ0 ins [] fn.ntmps).hp 0 (some ⟨T, k, n, false, cs⟩) i := fun i => by
        rw [show (σT ins p T k n cs fn.ntmps).hp = upd (fun _ => none) 0 (some ⟨T, k, n, false, cs⟩) from rfl]
        by_cases e : i = 0
        · subst e; rw [upd_same, upd_same]
        · rw [upd_ne _ _ e, upd_ne _ _ e]; simp [σ0]
      first
        | (rw [hx] at hr hs; first | exact h2.dis i j r s hr hs | exact h2.bxF i j r s b lo hr hs | exact h2.bxd i j r s b lo lo' hr hs)
        | (rw [hx] at hr; first | exact h2.row i r hr | exact h2.nod i r hr | exact h2.stF i r b hr | exact h2.stB i r b lo hr | exact h2.own i r b hr | exact h2.new i r b lo hr)
  refine calls_of_wp hf hb (wp_mono (h _ _ _ ⟨φ, F, St1, h3⟩) ?_)
  rintro e a' w' ⟨σ', hq, φ', F', St', hsim⟩
  have key : retQ P fn [] (fun r c => r = res ∧ c = []) σ' → a'.defers = [] ∧ ∃ v, (results fn a'.tmps).run P w' = .ok v w' ∧ ∃ u' St' G B, Ending.returned v = .returned u' ∧ ExtT w w' us p T k n (obl u ++ fs) res none u' St' G B := by
    rintro ⟨l, x, hp', rows, h1, h2, h3, h4, rfl, h5⟩
    obtain ⟨ws, r1, r2⟩ := resL_to (P := P) hsim _ _ h1
    obtain ⟨v, r3, r4⟩ := joinAV_to r2
    obtain ⟨G, c1, c2, c3, c4, c5, c6⟩ := clV_to hsim r4 h2
    refine ⟨hsim.dfr, v, ?_, v, St', G, [], rfl, c2.frm, c1, fun cs' hc => (by cases hc), (by simpa using c3), fun b hb => ?_⟩
    · have : (fun | ResultVar.tmp t => pure (a'.tmps.getD t undef) | ResultVar.cell a t => (do loadVar t (← asAddr (a'.tmps.getD a undef)) : Sem Value)) = resSem a'.tmps := by funext z; cases z <;> rfl
      have hres : results fn a'.tmps = (fn.results.mapM (resSem a'.tmps) >>= fun vs => pure (if h : vs.size = 1 then vs[0] else .tuple vs)) := by rw [← this]; rfl
      simp [hres, Array.mapM_eq_mapM_toList, r1, ← r3]
    · rw [List.append_nil] at hb; exact (c4 b hb).1.2.2
  cases e <;> first | exact hq.elim | exact key hq
section
variable {ops : Array Oper} {Q : Exit → Act → World → Prop} {C : Ctx} {H : List (Nat × Oper × Inf)} {i : Nat} {r : List Nat} {o : Oper} {dr : Bool}
variable {tm : Nat → AV} {hp : Nat → Option Row} {gn L : Nat} {us : List Nat}
theorem x_callt {t j n k : Nat} {T : TypeId} {cs : List AC} {c : Call} {fv : Operand} {f : FuncId} {caps : List AC} {args ins : List AV} {res : AV} {back : Option (List AC)} {nv : AV} {nr : List (Nat × Row)} (id p : Nat) (hctr : CtrT Try.prog f ins p T k n cs res back)
    (h : Walk Try.prog ops Q C dr (keepH dr (i, o, ⟨j :: args.flatMap snV, (j, back.map fun cs => ⟨T, k, n, false, cs⟩) :: nr.map (fun p => (p.1, some p.2)), nr.map (·.1), nv⟩) H) r ⟨upd tm t nv, updL (upd hp j (back.map fun cs => ⟨T, k, n, false, cs⟩)) (nr.map (fun p => (p.1, some p.2))), gn, nr.map (·.1) ++ us, L⟩)
    (hop : ops[i]? = some o := by exact rfl) (hoc : o.op = .call c := by exact rfl) (hcal : c.callee = .value fv := by exact rfl) (hd : o.dst = some t := by exact rfl) (ht : Nat.blt t L = true := by exact rfl) (hg : gw ops tm o = some true := by exact rfl)
    (hfv : AS.ev ⟨tm, hp, gn, us, L⟩ fv = .c (.fn f caps) := by exact rfl) (hargs : callArgs ⟨tm, hp, gn, us, L⟩ c caps = args := by exact rfl) (hpp : args[p]? = some (.c (.sl j n)) := by exact rfl) (hr : hp j = some ⟨T, k, n, false, cs⟩ := by exact rfl) (hcl : cloL cs = true := by first | rfl | (simp [cloV, cloL, clo, acE_clo, acL_clo, owE_clo, owL_clo, cloL_app]; done)) (hcv : args.map (cvV (upd hp j none) []) = ins := by (repeat' (first | rfl | exact cvm_nil | refine cvm_cons ?_ ?_ | refine cv_ag ?_ | refine cv_c ?_ | refine cvL_cons ?_ ?_ | (refine cvC_ro ?_; (first | rfl | (simp [cloV, cloL, clo, acE_clo, acL_clo, owE_clo, owL_clo, cloL_app]; done))) | (refine cvC_rp ?_; (first | rfl | (simp [cloV, cloL, clo, acE_clo, acL_clo, owE_clo, owL_clo, cloL_app]; done))) | refine cvC_fn ?_ | (refine cvC_sl' (by rfl) (by rfl) (by rfl) (by rfl) ?_ ?_; (focus (first | rfl | (simp [cloV, cloL, clo, acE_clo, acL_clo, owE_clo, owL_clo, cloL_app]; done))); (first | rfl | exact owL_toRo _))))) (hm : rofrV res = true := by (first | rfl | exact owE_rofr _ | (simp [rofrV, rofrVL, rofrL, rofr, owE_rofr, owL_rofr, rofrL_app]; done))) (hmb : ∀ cs', back = some cs' → rofrL cs' = true := by first | exact (fun _ h => by cases h) | (rintro _ ⟨⟩; (first | rfl | exact owE_rofr _ | (simp [rofrV, rofrVL, rofrL, rofr, owE_rofr, owL_rofr, rofrL_app]; done))))
    (hopn : opV id res = (nv, nr) := by exact rfl) (hf : (nr.all fun p => Nat.ble gn p.1 && !us.contains p.1) = true := by exact rfl)
    (hc : chk dr ops i o ⟨j :: args.flatMap snV, (j, back.map fun cs => ⟨T, k, n, false, cs⟩) :: nr.map (fun p => (p.1, some p.2)), nr.map (·.1), nv⟩ H = true := by first | (with_reducible exact chk_nd) | kernel_rfl) : Walk Try.prog ops Q C dr H (i :: r) ⟨tm, hp, gn, us, L⟩ :=
  v_callT id p hctr hop hoc hcal hd ht hg hfv hargs hpp hr hcl hcv hm hmb hopn hf hc h
end
end Go.Proofs.Ytfdjognmechcfaa
