/- The abstract machine, twenty-two: rules where the data are not written out. -/
import Derived.Test.YtfnnbjkjfoiboaaA21
namespace Go.Proofs.Ytfnnbjkjfoiboaa
open Go.RowKit

/-- The second says no more than the first. -/
def AV.le (x y : AV) : Prop := ∀ (w : World) (St : Nat → Prop) (φ : Nat → Lc) (K : Nat → Prop) (u : Value), VR w St φ K x u → VR w St φ K y u
theorem AV.le_refl (x : AV) : x.le x := fun _ _ _ _ _ h => h
theorem Sim.weak {C : Ctx} {σ τ : AS} {a : Act} {w : World} (h : Sim C σ a w) (ht : ∀ t, (σ.tm t).le (τ.tm t)) (hh : σ.hp = τ.hp) (hg : σ.gn = τ.gn) (hu : σ.us = τ.us) (hL : σ.L = τ.L) : Sim C τ a w := by
  obtain ⟨tm, hp, gn, us, L⟩ := σ
  obtain ⟨tm', hp', gn', us', L'⟩ := τ
  obtain ⟨φ, F, St, h⟩ := h
  simp only at hh hg hu hL
  subst hh hg hu hL
  exact ⟨φ, F, St, h.dfr, h.len, fun t => ht t _ _ _ _ _ (h.tms t), h.row, h.nod, h.dis, h.bxF, h.bxd, h.stF, h.stB, h.frm, h.own, h.par, h.new, h.gnN, h.stS⟩
theorem snd_weak {P : Program} {ops : Array Oper} {Q : Exit → Act → World → Prop} {C : Ctx} {i : Nat} {o : Oper} {σ : AS} {I : Inf} {y : AV} (h : Snd P ops Q C i o σ I) (hy : I.x.le y) : Snd P ops Q C i o σ { I with x := y } := by
  intro τ a w ha hs K hK
  refine h τ a w ⟨ha.tm, ha.hp, ha.gn, ha.L, ha.us⟩ hs K fun a' w' hs' => hK a' w' (hs'.weak (fun t => ?_) ?_ ?_ ?_ ?_)
  · rw [app_tm, app_tm]
    by_cases e : o.dst = some t ∧ t < τ.L
    · simp only [e, and_self, if_true]; exact hy
    · simp only [if_neg e]; exact AV.le_refl _
  · rw [app_hp, app_hp]
  · rw [app_gn, app_gn]
  · rw [app_us, app_us]
  · rw [app_L, app_L]
/-- A pointer into what is read, as a pointer into a part of it. -/
theorem rp_part {l : List AC} {a n : Nat} (h : a + n ≤ l.length) : AV.le (.c (.rp l a)) (.c (.rp (subL l a n) 0)) := by
  intro w St φ K u hu
  simp only [VR, CR] at hu ⊢
  obtain ⟨h0, b, p, us, e, h1, h2, h3, h4⟩ := hu
  have hle := h4.len
  refine ⟨h0, b, p + a, (us.drop a).take n, by rw [Nat.add_zero]; exact e, h1, h2, sub_cell h3, ?_⟩
  have e2 : l = l.take a ++ (subL l a n ++ (l.drop a).drop n) := by unfold subL; rw [List.take_append_drop, List.take_append_drop]
  rw [e2] at h4
  obtain ⟨u1, u2, f1, f2, rfl, e3, g1, g2⟩ := h4.split
  obtain ⟨u3, u4, f3, f4, rfl, e4, g5, g6⟩ := g2.split
  have l1 := g1.len
  have l3 := g5.len
  rw [List.length_take, Nat.min_eq_left (by omega)] at l1
  have ln : (subL l a n).length = n := by unfold subL; rw [List.length_take, List.length_drop]; omega
  rw [ln] at l3
  have d1 : (u1 ++ (u3 ++ u4)).drop a = u3 ++ u4 := by rw [← l1, List.drop_left]
  have d2 : (u3 ++ u4).take n = u3 := by rw [← l3, List.take_left]
  rw [d1, d2]
  have h5 := List.append_eq_nil_iff.1 e3.symm
  have h6 := List.append_eq_nil_iff.1 (e4 ▸ h5.2)
  rw [h6.1] at g5
  exact g5
def eltB (P : Program) (T : TypeId) (k : Nat) : Bool := match P.underlying T with | some (.slice e) => (P.info? e).map (·.size) == some k | _ => false
/-- What an append of these types makes: the element's type, its cells. -/
def appB (P : Program) (T T2 : TypeId) : Option (TypeId × Nat) :=
  match P.underlying T, P.underlying T2 with
  | some (.slice e), some d2 =>
    match P.info? e with
    | some i =>
      match i.zero with
      | some z => if (srcTy d2 && z.cells.size == i.size && Nat.blt 0 i.size && Nat.ble i.bytes 4096) = true then some (e, i.size) else none
      | none => none
    | none => none
  | _, _ => none
theorem srcOf_sl {hp : Nat → Option Row} {j m k : Nat} {s : Row} (h : hp j = some s) (h1 : s.k = k) (h2 : s.n = m) (h3 : s.box = false) : srcOf hp k (.c (.sl j m)) = some (m, s.cs.map ld) := by
  unfold srcOf
  simp only [h, Option.bind_some]
  exact if_pos ⟨h1, h2, h3⟩
theorem noUn_app {l m : List AC} (h : l.all noUn = true) (k : m.all noUn = true) : (l ++ m).all noUn = true := by rw [List.all_append, h, k]; rfl
mutual
theorem acE_noUn : ∀ e : E, (acE e).all noUn = true
  | .int _ _ => rfl
  | .bool _ => rfl
  | .str _ => rfl
  | .agg fs => by simp only [acE]; exact acL_noUn fs
  | .lst .. => rfl
theorem acL_noUn : ∀ l : List E, (acL l).all noUn = true
  | [] => rfl
  | e :: r => by simp only [acL]; exact noUn_app (acE_noUn e) (acL_noUn r)
end
section
variable {P : Program} {ops : Array Oper} {Q : Exit → Act → World → Prop} {C : Ctx} {H : List (Nat × Oper × Inf)} {i : Nat} {r : List Nat} {o : Oper} {dr : Bool}
variable {tm : Nat → AV} {hp : Nat → Option Row} {gn L : Nat} {us : List Nat} {x : AV}
theorem w_weak {t : Nat} (id : Nat) {y : AV} (hop : ops[i]? = some o) (hd : o.dst = some t) (ht : Nat.blt t L = true) (hg : gw ops tm o = some true) (he : EffD P o (AS.ev ⟨tm, hp, gn, us, L⟩) hp id = some (x, .nop)) (hy : x.le y)
    (hc : chk dr ops i o ⟨fpO (AS.ev ⟨tm, hp, gn, us, L⟩) o, [], [], y⟩ H = true) (h : Walk P ops Q C dr (keepH dr (i, o, ⟨fpO (AS.ev ⟨tm, hp, gn, us, L⟩) o, [], [], y⟩) H) r ⟨upd tm t y, hp, gn, us, L⟩) : Walk P ops Q C dr H (i :: r) ⟨tm, hp, gn, us, L⟩ :=
  ⟨o, _, hop, snd_weak (snd_eff hop hg he fun n hn => absurd hn List.not_mem_nil) hy, fun n hn => absurd hn List.not_mem_nil, chk_to hc, keepH_to (by
    show Walk P ops Q C dr _ r (AS.put _ o.dst y)
    rw [hd, put_at (by exact blt_to ht)]; exact h)⟩
theorem eltB_to {T : TypeId} {k : Nat} (h : eltB P T k = true) : ∃ e, P.underlying T = some (.slice e) ∧ (P.info? e).map (·.size) = some k := by
  unfold eltB at h
  split at h
  · rename_i e he; exact ⟨e, he, by simpa using h⟩
  · cases h
/-- An element of a slice that is read. -/
theorem w_idx {t n k j : Nat} {l : List E} {e : E} {kd : IntKind} {z : Int} {T : TypeId} {xo io : Operand} (hop : ops[i]? = some o) (ho : o.op = .indexAddr T xo io) (hd : o.dst = some t) (ht : Nat.blt t L = true) (hg : gw ops tm o = some true)
    (hx : AS.ev ⟨tm, hp, gn, us, L⟩ xo = .c (.ro n k (acL l))) (hi : AS.ev ⟨tm, hp, gn, us, L⟩ io = .c (.v (.int kd z))) (hT : eltB P T k = true) (hz : z = (j : Int)) (hn : n = l.length) (hk : ∀ e ∈ l, e.enc.length = k) (he : l[j]? = some e)
    (hc : chk dr ops i o ⟨fpO (AS.ev ⟨tm, hp, gn, us, L⟩) o, [], [], .c (.rp (acE e) 0)⟩ H = true) (h : Walk P ops Q C dr (keepH dr (i, o, ⟨fpO (AS.ev ⟨tm, hp, gn, us, L⟩) o, [], [], .c (.rp (acE e) 0)⟩) H) r ⟨upd tm t (.c (.rp (acE e) 0)), hp, gn, us, L⟩) : Walk P ops Q C dr H (i :: r) ⟨tm, hp, gn, us, L⟩ := by
  obtain ⟨hj, hje⟩ := List.getElem?_eq_some_iff.1 he
  obtain ⟨T', h1, h2⟩ := eltB_to hT
  have hle : j * k + k ≤ (acL l).length := by
    rw [acL_len, E.encL_len hk]
    have := Nat.mul_le_mul_right k (show j + 1 ≤ l.length from hj)
    rw [Nat.add_mul] at this; omega
  have hek : (acE e).length = k := by rw [acE_len]; exact hk e (List.mem_of_getElem? he)
  have hs : subL (acL l) (j * k) k = acE e := by
    have := acL_at (j := 0) (m := k) hk he (by omega)
    rw [Nat.add_zero] at this
    rw [this]
    unfold subL
    rw [List.drop_zero, List.take_of_length_le (by omega)]
  refine w_weak 0 (x := .c (.rp (acL l) (j * k))) hop hd ht hg ?_ (by have := rp_part hle; rw [hs] at this; exact this) hc h
  unfold EffD
  rw [ho]
  simp only [hx, hi]
  unfold nop? aIndexAddr
  simp only [h1, h2]
  subst hz hn
  rw [if_pos ⟨trivial, by omega, by omega⟩]
  simp
/-- An element of a row. -/
theorem w_idxs {t n k j s : Nat} {rw : Row} {kd : IntKind} {z : Int} {T : TypeId} {xo io : Operand} (hop : ops[i]? = some o) (ho : o.op = .indexAddr T xo io) (hd : o.dst = some t) (ht : Nat.blt t L = true) (hg : gw ops tm o = some true)
    (hx : AS.ev ⟨tm, hp, gn, us, L⟩ xo = .c (.sl s n)) (hi : AS.ev ⟨tm, hp, gn, us, L⟩ io = .c (.v (.int kd z))) (hr : hp s = some rw) (hb : rw.box = false) (hn : rw.n = n) (hk : rw.k = k) (hT : eltB P T k = true) (hz : z = (j : Int)) (hj : j < n)
    (hc : chk dr ops i o ⟨fpO (AS.ev ⟨tm, hp, gn, us, L⟩) o, [], [], .c (.pt s (j * k))⟩ H = true) (h : Walk P ops Q C dr (keepH dr (i, o, ⟨fpO (AS.ev ⟨tm, hp, gn, us, L⟩) o, [], [], .c (.pt s (j * k))⟩) H) r ⟨upd tm t (.c (.pt s (j * k))), hp, gn, us, L⟩) : Walk P ops Q C dr H (i :: r) ⟨tm, hp, gn, us, L⟩ := by
  obtain ⟨T', h1, h2⟩ := eltB_to hT
  refine w_nop 0 hop hd ht hg ?_ hc h
  unfold EffD
  rw [ho]
  simp only [hx, hi]
  unfold nop? aIndexAddr
  simp only [h1, h2, hr]
  subst hz
  rw [if_pos ⟨hb, hn, by omega, by omega⟩]
  simp
/-- A load out of a row. -/
theorem w_ld {t s off : Nat} {rw : Row} {T : TypeId} {p : Operand} {cs : List AC} (hop : ops[i]? = some o) (ho : o.op = .load T p) (hd : o.dst = some t) (ht : Nat.blt t L = true) (hg : gw ops tm o = some true)
    (hx : AS.ev ⟨tm, hp, gn, us, L⟩ p = .c (.pt s off)) (hr : hp s = some rw) (hs : subL rw.cs off (P.cellsOf T) = cs) (hm : mkAV P T cs = some x)
    (hc : chk dr ops i o ⟨fpO (AS.ev ⟨tm, hp, gn, us, L⟩) o, [], [], x⟩ H = true) (h : Walk P ops Q C dr (keepH dr (i, o, ⟨fpO (AS.ev ⟨tm, hp, gn, us, L⟩) o, [], [], x⟩) H) r ⟨upd tm t x, hp, gn, us, L⟩) : Walk P ops Q C dr H (i :: r) ⟨tm, hp, gn, us, L⟩ := by
  refine w_nop 0 hop hd ht hg ?_ hc h
  unfold EffD
  rw [ho]
  simp only [hx]
  unfold nop? aLoad
  simp only [hr, Option.bind_some, hs, hm, Option.map_some]
/-- A store into a row. -/
theorem w_sto {s off : Nat} {rw : Row} {T : TypeId} {p y : Operand} {cs : List AC} (hop : ops[i]? = some o) (ho : o.op = .store T p y) (hd : o.dst = none) (hg : gw ops tm o = some true)
    (hx : AS.ev ⟨tm, hp, gn, us, L⟩ p = .c (.pt s off)) (hr : hp s = some rw) (hy : (AS.ev ⟨tm, hp, gn, us, L⟩ y).cells = some cs) (hT : (P.info? T).map (·.size) = some cs.length) (hnu : cs.all noUn = true) (hle : off + cs.length ≤ rw.cs.length)
    (hc : chk dr ops i o ⟨fpO (AS.ev ⟨tm, hp, gn, us, L⟩) o, [(s, some { rw with cs := spl rw.cs off cs })], [], .c .un⟩ H = true) (h : Walk P ops Q C dr (keepH dr (i, o, ⟨fpO (AS.ev ⟨tm, hp, gn, us, L⟩) o, [(s, some { rw with cs := spl rw.cs off cs })], [], .c .un⟩) H) r ⟨tm, upd hp s (some { rw with cs := spl rw.cs off cs }), gn, us, L⟩) : Walk P ops Q C dr H (i :: r) ⟨tm, hp, gn, us, L⟩ := by
  refine w_st hop hd hg ?_ hc h
  unfold EffD
  rw [ho]
  simp only [hx]
  unfold dStore
  simp only [hy, hr]
  exact if_pos ⟨hT, hnu, hle⟩
theorem appB_to {T T2 e : TypeId} {k : Nat} (h : appB P T T2 = some (e, k)) : ∃ d2 i z, P.underlying T = some (.slice e) ∧ P.underlying T2 = some d2 ∧ P.info? e = some i ∧ i.zero = some z ∧ srcTy d2 = true ∧ z.cells.size = i.size ∧ 0 < i.size ∧ i.bytes ≤ 4096 ∧ i.size = k := by
  unfold appB at h
  split at h
  · rename_i e' d2 h1 h2
    split at h
    · rename_i inf h3
      split at h
      · rename_i z h4
        split at h
        · rename_i hc
          simp only [Bool.and_eq_true, Nat.ble_eq, beq_iff_eq] at hc
          injection h with h
          injection h with h5 h6
          subst h5
          exact ⟨d2, inf, z, h1, h2, h3, h4, hc.1.1.1, hc.1.1.2, blt_to hc.1.2, hc.2, h6⟩
        · cases h
      · cases h
    · cases h
  · cases h
/-- append onto a row. -/
theorem w_app {t j n m k : Nat} (id : Nat) {rw : Row} {e T T2 : TypeId} {xo yo : Operand} {ys : List AC} (hop : ops[i]? = some o) (ho : o.op = .call ⟨.builtin .append, #[xo, yo], #[T, T2]⟩) (hd : o.dst = some t) (ht : Nat.blt t L = true) (hg : gw ops tm o = some true) (hf : (Nat.ble gn id && !us.contains id) = true)
    (hx : AS.ev ⟨tm, hp, gn, us, L⟩ xo = .c (.sl j n)) (hr : hp j = some rw) (hT : appB P T T2 = some (e, k)) (hy : srcOf hp k (AS.ev ⟨tm, hp, gn, us, L⟩ yo) = some (m, ys)) (hnu : ys.all noUn = true) (hr1 : rw.T = e) (hr2 : rw.k = k) (hr3 : rw.n = n) (hr4 : rw.box = false) (hsz : n + m ≤ 4294967296)
    (hc : chk dr ops i o ⟨fpO (AS.ev ⟨tm, hp, gn, us, L⟩) o, [(j, none), (id, some ⟨e, k, n + m, false, rw.cs ++ ys⟩)], [id], .c (.sl id (n + m))⟩ H = true)
    (h : Walk P ops Q C dr (keepH dr (i, o, ⟨fpO (AS.ev ⟨tm, hp, gn, us, L⟩) o, [(j, none), (id, some ⟨e, k, n + m, false, rw.cs ++ ys⟩)], [id], .c (.sl id (n + m))⟩) H) r ⟨upd tm t (.c (.sl id (n + m))), upd (upd hp j none) id (some ⟨e, k, n + m, false, rw.cs ++ ys⟩), gn, id :: us, L⟩) : Walk P ops Q C dr H (i :: r) ⟨tm, hp, gn, us, L⟩ := by
  obtain ⟨d2, inf, z, h1, h2, h3, h4, h5, h6, h7, h8, rfl⟩ := appB_to hT
  refine w_mv id hop hd ht hg hf ?_ hc h
  unfold EffD
  rw [ho]
  simp only [EffCallD, hx]
  unfold dAppend
  simp only [h1, h2, h3, h4, hr]
  rw [if_pos ⟨h5, h6, h7⟩, hy]
  simp only []
  rw [if_pos hnu, if_pos ⟨hr1, hr2, hr3, hr4, Nat.le_trans (Nat.mul_le_mul hsz h8) (by decide), by omega⟩]
/-- append onto nothing. -/
theorem w_app0 {t m k : Nat} (id : Nat) {e T T2 : TypeId} {xo yo : Operand} {ys : List AC} (hop : ops[i]? = some o) (ho : o.op = .call ⟨.builtin .append, #[xo, yo], #[T, T2]⟩) (hd : o.dst = some t) (ht : Nat.blt t L = true) (hg : gw ops tm o = some true) (hf : (Nat.ble gn id && !us.contains id) = true)
    (hx : AS.ev ⟨tm, hp, gn, us, L⟩ xo = .c (.v (.slice none 0 0))) (hT : appB P T T2 = some (e, k)) (hy : srcOf hp k (AS.ev ⟨tm, hp, gn, us, L⟩ yo) = some (m, ys)) (hnu : ys.all noUn = true) (hsz : m ≤ 4294967296)
    (hc : chk dr ops i o ⟨fpO (AS.ev ⟨tm, hp, gn, us, L⟩) o, [(id, some ⟨e, k, m, false, ys⟩)], [id], .c (.sl id m)⟩ H = true)
    (h : Walk P ops Q C dr (keepH dr (i, o, ⟨fpO (AS.ev ⟨tm, hp, gn, us, L⟩) o, [(id, some ⟨e, k, m, false, ys⟩)], [id], .c (.sl id m)⟩) H) r ⟨upd tm t (.c (.sl id m)), upd hp id (some ⟨e, k, m, false, ys⟩), gn, id :: us, L⟩) : Walk P ops Q C dr H (i :: r) ⟨tm, hp, gn, us, L⟩ := by
  obtain ⟨d2, inf, z, h1, h2, h3, h4, h5, h6, h7, h8, rfl⟩ := appB_to hT
  refine w_gr id hop hd ht hg hf ?_ hc h
  unfold EffD
  rw [ho]
  simp only [EffCallD, hx]
  unfold dAppend
  simp only [h1, h2, h3, h4]
  rw [if_pos ⟨h5, h6, h7⟩, hy]
  simp only []
  rw [if_pos hnu, if_pos ⟨Nat.le_trans (Nat.mul_le_mul hsz h8) (by decide), by omega⟩]
/-- A call. -/
theorem w_call {t : Nat} (id : Nat) (D Z : List Nat) {c : Call} {fv : Operand} {f : FuncId} {caps : List AC} {args : List AV} {pars : List (List AC)} {res : AV} {rows : List (List AC)} (hop : ops[i]? = some o) (hoc : o.op = .call c) (hcal : c.callee = .value fv) (hd : o.dst = some t) (ht : Nat.blt t L = true) (hg : gw ops tm o = some true)
    (hfv : AS.ev ⟨tm, hp, gn, us, L⟩ fv = .c (.fn f caps)) (hargs : callArgs ⟨tm, hp, gn, us, L⟩ c caps = args) (hl : lend hp D = some pars) (hctr : Ctr P f (args.map (cvV hp D)) pars res rows)
    (hRD : ((args.flatMap snV).all fun z => !D.contains z) = true) (hZD : (Z.all fun z => !D.contains z) = true) (hm : (rofrV res = true ∧ ∀ c ∈ rows, rofrL c = true) ∨ ((args.flatMap snV).all fun z => Z.contains z) = true)
    {nv : AV} {nr : List (Nat × Row)} (hopn : opV id res = (nv, nr)) (hf : (nr.all fun p => Nat.ble gn p.1 && !us.contains p.1) = true)
    (hc : chk dr ops i o (callInf ⟨tm, hp, gn, us, L⟩ (args.flatMap snV) D Z id res rows) H = true)
    (h : Walk P ops Q C dr (keepH dr (i, o, callInf ⟨tm, hp, gn, us, L⟩ (args.flatMap snV) D Z id res rows) H) r ⟨upd tm t nv, updL hp (backU hp D rows ++ (Z.map fun z => (z, none)) ++ nr.map (fun p => (p.1, some p.2))), gn, nr.map (·.1) ++ us, L⟩) : Walk P ops Q C dr H (i :: r) ⟨tm, hp, gn, us, L⟩ := by
  refine walk_call id D Z hop hg hoc hcal hfv hargs hl hctr hRD hZD hm ?_ (chk_to hc) (keepH_to ?_)
  · rw [hopn]
    refine List.all_eq_true.2 fun p hp => ?_
    have := List.all_eq_true.1 hf p hp
    simpa [Nat.ble_eq] using this
  · have e : AS.app ⟨tm, hp, gn, us, L⟩ (callInf ⟨tm, hp, gn, us, L⟩ (args.flatMap snV) D Z id res rows) o = ⟨upd tm t nv, updL hp (backU hp D rows ++ (Z.map fun z => (z, none)) ++ nr.map (fun p => (p.1, some p.2))), gn, nr.map (·.1) ++ us, L⟩ := by
      unfold AS.app callInf
      rw [hopn, hd, put_at (blt_to ht)]
    rw [e]
    exact h
end
end Go.Proofs.Ytfnnbjkjfoiboaa
