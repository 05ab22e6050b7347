/- The abstract machine: calls that take a slice over (it comes back changed in its place, or it goes into what is returned). -/
import Derived.Laws.Concat
import Derived.Test.YtghljnfbbaklnaaEntriesE
namespace Go.Proofs.Ytghljnfbbaklnaa
open Go.RowKit
structure EntT (w : World) (St : Nat → Prop) (ins : List AV) (us : List Value) (p : Nat) (T : TypeId) (k n : Nat) (cs : List AC) (A : List Nat) : Prop where
  args : VRL w St φ0 K0 ins us
  row : ∃ u vs fs, us[p]? = some u ∧ CRL w St φ0 K0 cs vs fs ∧ w.ownsRow 0 T k u n vs ∧ A = obl u ++ fs
  nod : A.Nodup
  st : ∀ b ∈ A, ¬ St b
  gl : GlobOk w ∧ ∀ b, isG b → b ∉ A
structure ExtT (w w' : World) (us : List Value) (p : Nat) (T : TypeId) (k n : Nat) (A : List Nat) (res : AV) (back : Option (List AC)) (u : Value) (St' : Nat → Prop) (G B : List Nat) : Prop where
  frm : Fc (· ∈ A) (fun _ _ => False) w w'
  res : VRF w' St' φ0 K0 res u G
  bak : ∀ cs', back = some cs' → ∃ v vs fs, us[p]? = some v ∧ CRL w' St' φ0 K0 cs' vs fs ∧ w'.ownsRow 0 T k v n vs ∧ B = obl v ++ fs
  nod : (G ++ B).Nodup
  own : ∀ b ∈ G ++ B, b ∈ A ∨ w.heap.size ≤ b
def CtrT (P : Program) (f : FuncId) (ins : List AV) (p : Nat) (T : TypeId) (k n : Nat) (cs : List AC) (res : AV) (back : Option (List AC)) : Prop :=
  entB P f = true ∧ ∀ (w : World) (St : Nat → Prop) (us : List Value) (A : List Nat), EntT w St ins us p T k n cs A →
    Calls P f us.toArray w fun e w' => ∃ u St' G B, e = .returned u ∧ ExtT w w' us p T k n A res back u St' G B
theorem zk13 {x y : Option Obj} (h : LikeBut (fun _ => False) x y) : y = x := by
  rcases h with h | ⟨c, c', e, rfl, rfl, h1, h2⟩
  · exact h
  · have : c' = c := Array.ext h1 fun i hi hi' => by
      have := h2 i (by simp)
      rw [Array.getElem?_eq_getElem hi, Array.getElem?_eq_getElem hi'] at this
      exact Option.some.inj this
    rw [this]
section
variable {C : Ctx} {φ : Nat → Lc} {F : Nat → List Nat} {St : Nat → Prop} {σ : AS} {a : Act} {w w' : World}
theorem SimF.keepA (h : SimF C φ F St σ a w) {A : List Nat} (hA : ∀ b ∈ A, Free C φ F St σ b) (hf : Fc (· ∈ A) (fun _ _ => False) w w') : SimF C φ F (fun b => St b ∧ b < w.heap.size) σ a w' := by
  have hb : ∀ b, b < w.heap.size → b ∉ A → w'.heap[b]? = w.heap[b]? := fun b hl hn => zk13 (hf.blk b hl hn)
  have hS : ∀ b, St b → b < w.heap.size → (St b ∧ b < w.heap.size) ∧ w'.heap[b]? = w.heap[b]? := fun b hs hl => ⟨⟨hs, hl⟩, hb b hl fun hm => (hA b hm).2.1 hs⟩
  have hK : ∀ i, σ.Kn i → σ.Kn i ∧ φ i = φ i := fun i hi => ⟨hi, rfl⟩
  refine ⟨h.dfr, h.len, fun t => VR.mono hS hf.size hK _ _ (h.tms t), fun i r hr => ⟨(h.row i r hr).1, ?_⟩, h.nod, h.dis, h.bxF, h.bxd, fun i r b hr hb hs => h.stF i r b hr hb hs.1, fun i r b lo hr e hs => h.stB i r b lo hr e hs.1, ?_, h.own, h.par, h.new, h.gnN, fun b hs => h.stS b hs.1⟩
  · have h1 := (h.row i r hr).2
    exact h1.mono hS hf.size hK (fun b hm => hb b (h1.lt b hm) fun hA' => ((hA b hA').1 i r hr).1 hm) fun b lo us e _ hB => hB.block (hb b hB.lt fun hA' => ((hA b hA').1 i r hr).2 lo e)
  · refine ⟨hf.os.trans h.frm.os, hf.tape.trans h.frm.tape, hf.output.trans h.frm.output, Nat.le_trans h.frm.size hf.size, fun b hl hM => (h.frm.blk b hl hM).trans (.inl (hb b (Nat.lt_of_lt_of_le hl h.frm.size) fun hA' => ?_))⟩
    rcases (hA b hA').2.2 with h1 | h1
    · exact hM h1
    · omega
theorem SimF.regrow (h : SimF C φ F St σ a w) {i : Nat} (hk : σ.Kn i) (hn : σ.hp i = none) {u : Value} (hφ : φ i = .slc u) {r : Row} {fp : List Nat} (hr : RowOk w St φ σ.Kn r fp (.slc u)) (hnd : fp.Nodup) (hfp : ∀ b ∈ fp, Free C φ F St σ b) :
    SimF C φ (upd F i fp) St { σ with hp := upd σ.hp i (some r) } a w := by
  have old : ∀ j s, upd σ.hp i (some r) j = some s → j ≠ i → σ.hp j = some s := fun j s hj hji => by rwa [zk1 _ _ hji] at hj
  have now : ∀ s, upd σ.hp i (some r) i = some s → r = s := fun s hj => by rw [zw] at hj; injection hj
  refine ⟨h.dfr, h.len, h.tms, fun j s hj => ?_, fun j s hj => ?_, fun j k s t hj hk' hjk b hb => ?_, fun j k s t b lo hj hk' e => ?_, fun j k s t b lo lo' hj hk' hjk e e' => ?_, fun j s b hj hb => ?_, fun j s b lo hj e => ?_, h.frm, fun j s b hj hb => ?_, fun j hj => ⟨(h.par j hj).1, fun s hs => ?_⟩, fun j s b lo hj e hN => ?_, h.gnN, h.stS⟩
  · by_cases hji : j = i
    · subst hji
      obtain rfl := now s hj
      refine ⟨hk, ?_⟩
      rw [hφ, zw]; exact hr
    · simp only [zk1 _ _ hji]; exact h.row j s (old j s hj hji)
  · by_cases hji : j = i
    · subst hji; simp only [zw]; exact hnd
    · simp only [zk1 _ _ hji]; exact h.nod j s (old j s hj hji)
  · by_cases hji : j = i
    · subst hji
      have hki : k ≠ j := Ne.symm hjk
      simp only [zw] at hb; simp only [zk1 _ _ hki]
      exact ((hfp b hb).1 k t (old k t hk' hki)).1
    · simp only [zk1 _ _ hji] at hb
      by_cases hki : k = i
      · subst hki
        simp only [zw]
        exact fun hb' => ((hfp b hb').1 j s (old j s hj hji)).1 hb
      · simp only [zk1 _ _ hki]
        exact h.dis j k s t (old j s hj hji) (old k t hk' hki) hjk b hb
  · have hji : j ≠ i := by rintro rfl; rw [hφ] at e; cases e
    by_cases hki : k = i
    · subst hki
      simp only [zw]
      exact fun hb' => ((hfp b hb').1 j s (old j s hj hji)).2 lo e
    · simp only [zk1 _ _ hki]
      exact h.bxF j k s t b lo (old j s hj hji) (old k t hk' hki) e
  · have hji : j ≠ i := by rintro rfl; rw [hφ] at e; cases e
    have hki : k ≠ i := by rintro rfl; rw [hφ] at e'; cases e'
    exact h.bxd j k s t b lo lo' (old j s hj hji) (old k t hk' hki) hjk e e'
  · by_cases hji : j = i
    · subst hji; simp only [zw] at hb; exact (hfp b hb).2.1
    · simp only [zk1 _ _ hji] at hb; exact h.stF j s b (old j s hj hji) hb
  · have hji : j ≠ i := by rintro rfl; rw [hφ] at e; cases e
    exact h.stB j s b lo (old j s hj hji) e
  · by_cases hji : j = i
    · subst hji; simp only [zw] at hb; exact (hfp b hb).2.2
    · simp only [zk1 _ _ hji] at hb; exact h.own j s b (old j s hj hji) hb
  · have hji : j ≠ i := by
      rintro rfl
      have := (h.par j hj).1
      rw [hφ] at this; cases this
    exact (h.par j hj).2 s (old j s hs hji)
  · have hji : j ≠ i := by rintro rfl; rw [hφ] at e; cases e
    exact h.new j s b lo (old j s hj hji) e hN
end
def callInfT (R : List Nat) (j : Nat) (T : TypeId) (k n id : Nat) (res : AV) (back : Option (List AC)) : Inf :=
  ⟨j :: R, (j, back.map fun cs => ⟨T, k, n, false, cs⟩) :: (opV id res).2.map (fun p => (p.1, some p.2)), (opV id res).2.map (·.1), (opV id res).1⟩
section
variable {P : Program} {ops : Array Oper} {Q : Exit → Act → World → Prop} {C : Ctx} {σ : AS} {o : Oper} {i : Nat}
theorem zu15 {c : Call} (hop : ops[i]? = some o) (hoc : o.op = .call c) {fv : Operand} (hcal : c.callee = .value fv) {f : FuncId} {caps : List AC} (hfv : σ.ev fv = .c (.fn f caps)) (hg : gw ops σ.tm o = some true)
    {p j n k : Nat} {T : TypeId} {cs : List AC} {res : AV} {back : Option (List AC)} {id : Nat} (hp : (callArgs σ c caps)[p]? = some (.c (.sl j n))) (hr : σ.hp j = some ⟨T, k, n, false, cs⟩) (hcl : cloL cs = true)
    (hm : rofrV res = true) (hmb : ∀ cs', back = some cs' → rofrL cs' = true) (hctr : CtrT P f ((callArgs σ c caps).map (cvV (upd σ.hp j none) [])) p T k n cs res back) (hf : ∀ q ∈ (opV id res).2, σ.gn ≤ q.1) :
    Snd P ops Q C i o σ (callInfT (callR σ c caps) j T k n id res back) := by
  intro τ a w ha hs K hK
  obtain ⟨φ, F, St, hs⟩ := hs
  have hev := ha.ev
  rw [hoc] at hev
  have hargs : ∀ x ∈ c.args.toList, τ.ev x = σ.ev x := fun x hx => hev x (by simp only [Op.operands, Call.operands]; exact Array.mem_append.2 (.inr (by simpa using hx)))
  have hfe : τ.ev fv = .c (.fn f caps) := by rw [hev fv (by simp [Op.operands, Call.operands, hcal]), hfv]
  have eargs : callArgs τ c caps = callArgs σ c caps := by unfold callArgs; rw [zv14 hargs]
  have eR : ∀ i ∈ callR σ c caps, τ.hp i = σ.hp i := fun i hi => ha.hp i (by simp [callInfT, hi])
  have ej : τ.hp j = some ⟨T, k, n, false, cs⟩ := by rw [ha.hp j (by simp [callInfT])]; exact hr
  have hd := hs.drop j
  have ecv : (callArgs σ c caps).map (cvV (upd τ.hp j none) []) = (callArgs σ c caps).map (cvV (upd σ.hp j none) []) := List.map_congr_left fun x hx => zc15 x fun i hi => by
    by_cases e : i = j
    · subst e; simp only [zw]
    · rw [zk1 _ _ e, zk1 _ _ e]; exact eR i (List.mem_flatMap.2 ⟨x, hx, hi⟩)
  have hfn := hs.ev fv
  rw [hfe] at hfn
  simp only [VR, CR] at hfn
  obtain ⟨_, us, hfu, hcaps⟩ := hfn
  have hin : VRL w St φ τ.Kn (callArgs σ c caps) (c.args.toList.map a.eval ++ us) := by
    rw [← eargs]; exact (evs hs _).app (zg11 hcaps)
  have hent := hd.ent (D := []) (pars := []) rfl (R := callR σ c caps) (fun _ _ => List.not_mem_nil) hin fun x hx i hi => List.mem_flatMap.2 ⟨x, hx, hi⟩
  rw [ecv] at hent
  obtain ⟨u0, hu0, hv0⟩ := hin.at_ hp
  simp only [VR, CR] at hv0
  obtain ⟨_, hkj, hφj, -⟩ := hv0
  have hrow := (hs.row j _ ej).2
  rw [hφj] at hrow
  obtain ⟨_, vs, fs, g1, g2, g3⟩ := hrow
  have hfree : ∀ b ∈ F j, Free C φ F St { τ with hp := upd τ.hp j none } b := fun b hb => hs.free ej hb
  have hltF : ∀ b ∈ F j, b < w.heap.size := (hs.row j _ ej).2.lt
  have hT : EntT w (stC St { τ with hp := upd τ.hp j none } F (callR σ c caps)) ((callArgs σ c caps).map (cvV (upd σ.hp j none) [])) (c.args.toList.map a.eval ++ us) p T k n cs (F j) := by
    refine ⟨?_, ⟨u0, vs, fs, hu0, CRL.clo_ hcl (g1.mono (fun b hb _ => ⟨.inl hb, rfl⟩) (Nat.le_refl _) (fun i hi => ⟨hi, rfl⟩) (fun _ _ => rfl)), g2, g3⟩, hs.nod j _ ej, fun b hb hst => ?_, hs.gl, fun b hg hb => (hs.own j _ b ej hb).elim (hs.gnN.2.2 b hg).1 fun h1 => (by have := Gl.lt hs.gnN.2.1 hg; omega)⟩
    · exact VRL.mono (fun b hb _ => ⟨hb, rfl⟩) (Nat.le_refl _) (fun i hi => absurd hi (Nat.not_lt_zero i)) _ _ hent.args
    · rcases hst with h1 | ⟨z, hz, s, hzs, hbz⟩
      · exact hs.stF j _ b ej hb h1
      · exact ((hfree b hb).1 z s hzs).1 hbz
  have hcall := hctr.2 w _ _ _ hT
  unfold wpOp
  rw [hop]
  have hw := ze10 hs (b := true) (by rw [ha.gw]; exact hg)
  simp only [hw, if_true]
  refine .inl ?_
  unfold Oper.wp
  have hrun : (execOp a.eval o).run P w = .ok (.enter f (c.args.toList.map a.eval ++ us).toArray) w := by
    have e : (#[] ++ c.args.map a.eval ++ us.toArray : Array Value) = (c.args.toList.map a.eval ++ us).toArray := by
      apply Array.ext'; simp
    have h1 : (resolve a.eval c o.type).run P w = .ok { target := .fn (.func f) us.toArray, args := #[] ++ c.args.map a.eval } w := by
      unfold resolve; rw [hcal]; simp only [hfu, Deferred.ofValue, Sem.run_pure]
    have h2 : execOp a.eval o = (do let d ← resolve a.eval c o.type; invoke d.target d.args) := by unfold execOp; rw [hoc]
    rw [h2, Sem.run_bind, h1]
    simp only [Result.andThen_ok, invoke]
    rw [e]
    exact zb6 hctr.1 _ _
  rw [hrun, Oper.upon_enter]
  refine hcall.mono ?_
  rintro e w' ⟨u, St', G, B, rfl, hx⟩
  have k1 := hd.keepA hfree hx.frm
  have ltF : ∀ i s b, upd τ.hp j none i = some s → b ∈ F i → b < w.heap.size := fun i s b hi hb => (hd.row i s hi).2.lt b hb
  have ltB : ∀ i s b lo, upd τ.hp j none i = some s → φ i = .box b lo → b < w.heap.size := fun i s b lo hi e => by
    have h1 := (hd.row i s hi).2
    rw [e] at h1
    obtain ⟨_, us, _, h2⟩ := h1
    exact h2.lt
  have hfr : ∀ b ∈ G ++ B, Free C φ F (fun b => St b ∧ b < w.heap.size) { τ with hp := upd τ.hp j none } b := fun b hb => by
    rcases hx.own b hb with h1 | h1
    · exact ⟨(hfree b h1).1, fun h => (hfree b h1).2.1 h.1, (hfree b h1).2.2⟩
    · refine ⟨fun i s hi => ⟨fun hm => ?_, fun lo e => ?_⟩, fun h => by have := h.2; omega, .inr (Nat.le_trans hs.frm.size h1)⟩
      · have := ltF i s b hi hm; omega
      · have := ltB i s b lo hi e; omega
  have hnd := List.nodup_append.1 hx.nod
  obtain ⟨φ4, F4, St4, o1, o2⟩ := zy14 k1 (VRF.rofr_ hm hx.res) hnd.1 (fun b hb => hfr b (List.mem_append_left _ hb)) (id := id) (fun q hq => ⟨by show τ.gn ≤ _; rw [ha.gn]; exact hf q hq, by
    show q.1 ∉ τ.us
    exact ha.us q.1 (by simp only [callInfT, List.mem_map]; exact ⟨q, hq, rfl⟩)⟩)
  obtain ⟨e1, e2, e3, e4⟩ := zh9 (opV id res).2 { τ with hp := upd τ.hp j none }
  have hjn : ∀ q ∈ (opV id res).2.map (fun q => (q.1, some q.2)), q.1 ≠ j := by
    intro q hq e
    simp only [List.mem_map] at hq
    obtain ⟨q', hq', rfl⟩ := hq
    have h1 : σ.gn ≤ q'.1 := hf q' hq'
    have h2 : q'.1 ∉ τ.us := ha.us q'.1 (by simp only [callInfT, List.mem_map]; exact ⟨q', hq', rfl⟩)
    rcases hkj with h | h
    · rw [ha.gn] at h; omega
    · exact h2 (e ▸ h)
  have hjh : (growL { τ with hp := upd τ.hp j none } (opV id res).2).hp j = none := by
    rw [e4, zw4 hjn]; exact zw _ _ _
  have fin : ∃ F5, SimF C φ4 F5 St4 { growL { τ with hp := upd τ.hp j none } (opV id res).2 with hp := upd (growL { τ with hp := upd τ.hp j none } (opV id res).2).hp j (back.map fun cs => ⟨T, k, n, false, cs⟩) } a w' := by
    cases hbk : back with
    | none =>
      refine ⟨F4, ?_⟩
      have : upd (growL { τ with hp := upd τ.hp j none } (opV id res).2).hp j (Option.map (fun cs => (⟨T, k, n, false, cs⟩ : Row)) none) = (growL { τ with hp := upd τ.hp j none } (opV id res).2).hp := by
        funext i
        by_cases e : i = j
        · subst e; rw [zw, hjh]; rfl
        · rw [zk1 _ _ e]
      rw [this]; exact o1.sim
    | some cs' =>
      obtain ⟨v, vs', fs', q1, q2, q3, q4⟩ := hx.bak cs' hbk
      rw [hu0] at q1; injection q1 with q1; subst q1
      have hkj' : ({ τ with hp := upd τ.hp j none } : AS).Kn j := hkj
      refine ⟨_, o1.sim.regrow (o1.hK j hkj').1 hjh (u := u0) (by rw [(o1.hK j hkj').2]; exact hφj) (fp := B) ⟨rfl, vs', fs', ?_, q3, q4⟩ hnd.2.1 fun b hb => o1.free b (hfr b (List.mem_append_right _ hb)) fun hG => hnd.2.2 b hG b hb rfl⟩
      exact CRL.up _ _ o1.hS (q2.rofr_ (hmb cs' hbk))
  obtain ⟨F5, h5⟩ := fin
  refine hK _ _ (Sim.aeq ⟨φ4, F5, St4, h5.put o.dst (x := (opV id res).1) (u := u) (VR.mono (fun b hb _ => ⟨hb, rfl⟩) (Nat.le_refl _) (fun i hi => ⟨hi, rfl⟩) _ _ o2)⟩ ?_)
  refine ⟨?_, ?_, ?_, fun q => ?_, ?_⟩
  · rw [za6, zo14]; simp only [e1, e3]; rfl
  · rw [zz5, (zt3 _ _ _).1, e4]
    simp only [callInfT, updL]
    funext q
    by_cases e : q = j
    · subst e
      rw [zw, zw4 hjn, zw]
    · rw [zk1 _ _ e]
      exact zu6 (.inl (by rw [zk1 _ _ e, zk1 _ _ e]))
  · rw [zv6, (zt3 _ _ _).2.1]; exact e2
  · rw [zw6, (zt3 _ _ _).2.2.1]
    simp only [zq7, callInfT, List.mem_append, List.mem_map]
  · rw [za8, (zt3 _ _ _).2.2.2]; exact e3
end
section
variable {P : Program} {ops : Array Oper} {Q : Exit → Act → World → Prop} {C : Ctx} {H : List (Nat × Oper × Inf)} {i : Nat} {r : List Nat} {o : Oper} {dr : Bool}
variable {tm : Nat → AV} {hp : Nat → Option Row} {gn L : Nat} {us : List Nat}
theorem zy19 (id p : Nat) {t j n k : Nat} {T : TypeId} {cs : List AC} {c : Call} {fv : Operand} {f : FuncId} {caps : List AC} {args ins : List AV} {res : AV} {back : Option (List AC)} (hctr : CtrT P f ins p T k n cs res back) (hop : ops[i]? = some o) (hoc : o.op = .call c) (hcal : c.callee = .value fv) (hd : o.dst = some t) (ht : Nat.blt t L = true) (hg : gw ops tm o = some true)
    (hfv : AS.ev ⟨tm, hp, gn, us, L⟩ fv = .c (.fn f caps)) (hargs : callArgs ⟨tm, hp, gn, us, L⟩ c caps = args) (hpp : args[p]? = some (.c (.sl j n))) (hr : hp j = some ⟨T, k, n, false, cs⟩) (hcl : cloL cs = true) (hcv : args.map (cvV (upd hp j none) []) = ins) (hm : rofrV res = true) (hmb : ∀ cs', back = some cs' → rofrL cs' = true)
    {nv : AV} {nr : List (Nat × Row)} (hopn : opV id res = (nv, nr)) (hf : (nr.all fun p => Nat.ble gn p.1 && !us.contains p.1) = true)
    (hc : chk dr ops i o ⟨j :: args.flatMap snV, (j, back.map fun cs => ⟨T, k, n, false, cs⟩) :: nr.map (fun p => (p.1, some p.2)), nr.map (·.1), nv⟩ H = true)
    (h : Walk P ops Q C dr (keepH dr (i, o, ⟨j :: args.flatMap snV, (j, back.map fun cs => ⟨T, k, n, false, cs⟩) :: nr.map (fun p => (p.1, some p.2)), nr.map (·.1), nv⟩) H) r ⟨upd tm t nv, updL (upd hp j (back.map fun cs => ⟨T, k, n, false, cs⟩)) (nr.map (fun p => (p.1, some p.2))), gn, nr.map (·.1) ++ us, L⟩) : Walk P ops Q C dr H (i :: r) ⟨tm, hp, gn, us, L⟩ := by
  subst hargs
  have e : callInfT (callR ⟨tm, hp, gn, us, L⟩ c caps) j T k n id res back = ⟨j :: (callArgs ⟨tm, hp, gn, us, L⟩ c caps).flatMap snV, (j, back.map fun cs => ⟨T, k, n, false, cs⟩) :: nr.map (fun p => (p.1, some p.2)), nr.map (·.1), nv⟩ := by
    unfold callInfT callR; rw [hopn]
  have hf' : ∀ q ∈ nr, gn ≤ q.1 ∧ q.1 ∉ us := fun q hq => by have := List.all_eq_true.1 hf q hq; simpa [Nat.ble_eq] using this
  refine ⟨o, _, hop, zu15 (σ := ⟨tm, hp, gn, us, L⟩) (p := p) hop hoc hcal hfv hg hpp hr hcl hm hmb (by rw [hcv]; exact hctr) (id := id) (fun q hq => (hf' q (by rw [hopn] at hq; exact hq)).1), fun q hq => ?_, zd5 (by rw [e]; exact hc), zg4 ?_⟩
  · rw [e] at hq
    simp only [List.mem_map] at hq
    obtain ⟨q', hq', rfl⟩ := hq
    exact (hf' q' hq').2
  · rw [e]
    have e2 : AS.app ⟨tm, hp, gn, us, L⟩ ⟨j :: (callArgs ⟨tm, hp, gn, us, L⟩ c caps).flatMap snV, (j, back.map fun cs => ⟨T, k, n, false, cs⟩) :: nr.map (fun p => (p.1, some p.2)), nr.map (·.1), nv⟩ o = ⟨upd tm t nv, updL (upd hp j (back.map fun cs => ⟨T, k, n, false, cs⟩)) (nr.map (fun p => (p.1, some p.2))), gn, nr.map (·.1) ++ us, L⟩ := by
      unfold AS.app
      rw [hd, zs5 (zm5 ht)]
      rfl
    rw [e2]
    exact h
end
set_option maxRecDepth 100000
section
variable {ops : Array Oper} {Q : Exit → Act → World → Prop} {C : Ctx} {H : List (Nat × Oper × Inf)} {i : Nat} {r : List Nat} {o : Oper} {dr : Bool}
variable {tm : Nat → AV} {hp : Nat → Option Row} {gn L : Nat} {us : List Nat}
theorem zz19 {t j n k : Nat} {T : TypeId} {cs : List AC} {c : Call} {fv : Operand} {f : FuncId} {caps : List AC} {args ins : List AV} {res : AV} {back : Option (List AC)} {nv : AV} {nr : List (Nat × Row)} (id p : Nat) (hctr : CtrT Try.prog f ins p T k n cs res back)
    (h : Walk Try.prog ops Q C dr (keepH dr (i, o, ⟨j :: args.flatMap snV, (j, back.map fun cs => ⟨T, k, n, false, cs⟩) :: nr.map (fun p => (p.1, some p.2)), nr.map (·.1), nv⟩) H) r ⟨upd tm t nv, updL (upd hp j (back.map fun cs => ⟨T, k, n, false, cs⟩)) (nr.map (fun p => (p.1, some p.2))), gn, nr.map (·.1) ++ us, L⟩)
    (hop : ops[i]? = some o := by exact rfl) (hoc : o.op = .call c := by exact rfl) (hcal : c.callee = .value fv := by exact rfl) (hd : o.dst = some t := by exact rfl) (ht : Nat.blt t L = true := by exact rfl) (hg : gw ops tm o = some true := by exact rfl)
    (hfv : AS.ev ⟨tm, hp, gn, us, L⟩ fv = .c (.fn f caps) := by exact rfl) (hargs : callArgs ⟨tm, hp, gn, us, L⟩ c caps = args := by exact rfl) (hpp : args[p]? = some (.c (.sl j n)) := by exact rfl) (hr : hp j = some ⟨T, k, n, false, cs⟩ := by exact rfl) (hcl : cloL cs = true := by first | rfl | (simp [cloV, cloL, clo, zo, zn, zp, zl, zk]; done)) (hcv : args.map (cvV (upd hp j none) []) = ins := by (repeat' (first | rfl | exact zu4 | refine zm4 ?_ ?_ | refine ze7 ?_ | refine cv_c ?_ | refine zn4 ?_ ?_ | (refine zt5 ?_; (first | rfl | (simp [cloV, cloL, clo, zo, zn, zp, zl, zk]; done))) | (refine zu5 ?_; (first | rfl | (simp [cloV, cloL, clo, zo, zn, zp, zl, zk]; done))) | refine zv5 ?_ | (refine cvC_sl' (by rfl) (by rfl) (by rfl) (by rfl) ?_ ?_; (focus (first | rfl | (simp [cloV, cloL, clo, zo, zn, zp, zl, zk]; done))); (first | rfl | exact za4 _))))) (hm : rofrV res = true := by (first | rfl | exact zz1 _ | (simp [rofrV, rofrVL, rofrL, rofr, zz1, zq3, zi3]; done))) (hmb : ∀ cs', back = some cs' → rofrL cs' = true := by first | exact (fun _ h => by cases h) | (rintro _ ⟨⟩; (first | rfl | exact zz1 _ | (simp [rofrV, rofrVL, rofrL, rofr, zz1, zq3, zi3]; done))))
    (hopn : opV id res = (nv, nr) := by exact rfl) (hf : (nr.all fun p => Nat.ble gn p.1 && !us.contains p.1) = true := by exact rfl)
    (hc : chk dr ops i o ⟨j :: args.flatMap snV, (j, back.map fun cs => ⟨T, k, n, false, cs⟩) :: nr.map (fun p => (p.1, some p.2)), nr.map (·.1), nv⟩ H = true := by first | (with_reducible exact zr1) | kernel_rfl) : Walk Try.prog ops Q C dr H (i :: r) ⟨tm, hp, gn, us, L⟩ :=
  zy19 id p hctr hop hoc hcal hd ht hg hfv hargs hpp hr hcl hcv hm hmb hopn hf hc h
end
theorem zv15 {ρ : Nat → Option Nat} : ∀ {P Q P' Q' : List AC}, rnL ρ P = some P' → rnL ρ Q = some Q' → rnL ρ (P ++ Q) = some (P' ++ Q')
  | [], Q, P', Q', h, k => by simp only [rnL, Option.some.injEq] at h; subst h; exact k
  | c :: P, Q, P', Q', h, k => by
    simp only [rnL] at h
    split at h
    · rename_i c' r' h1 h2
      injection h with h; subst h
      simp only [List.cons_append, rnL, h1, zv15 h2 k]
    · cases h
theorem ze4 {ρ : Nat → Option Nat} {y : Option Row} {T : TypeId} {k m : Nat} {b : Bool} {P Q : List AC} {i j n : Nat} (h : y = some ⟨T, k, m, b, P ++ .sl i n :: Q⟩) (hρ : ρ i = some j) (hP : cloL P = true) (hQ : cloL Q = true) :
    ∃ r', y = some r' ∧ ((cloL r'.cs = true ∧ (⟨T, k, m, b, P ++ .sl j n :: Q⟩ : Row) = r') ∨ ∃ cs', rnL ρ r'.cs = some cs' ∧ (⟨T, k, m, b, P ++ .sl j n :: Q⟩ : Row) = { r' with cs := cs' }) := by
  refine ⟨_, h, .inr ⟨P ++ .sl j n :: Q, ?_, rfl⟩⟩
  refine zv15 (zk10 P hP) ?_
  simp [rnL, rnC, hρ, zk10 Q hQ]
section
variable {P : Program} {ops : Array Oper} {Q : Exit → Act → World → Prop} {C : Ctx} {H : List (Nat × Oper × Inf)} {i : Nat} {r : List Nat} {o : Oper} {dr : Bool}
variable {tm : Nat → AV} {hp : Nat → Option Row} {gn L : Nat} {us : List Nat}
def gdL (i : Nat) : List Oper → Bool
  | [] => false
  | o :: r => match o.guard with | some (g, _) => Nat.beq g i || gdL i r | none => gdL i r
end
section
variable {ops : Array Oper} {Q : Exit → Act → World → Prop} {C : Ctx} {H H' : List (Nat × Oper × Inf)} {i : Nat} {r : List Nat} {o : Oper} {dr : Bool}
variable {tm : Nat → AV} {hp : Nat → Option Row} {gn L : Nat} {us : List Nat} {x : AV}
theorem x_gm {t : Nat} {b : Bool} (h1 : b = true → Walk Try.prog ops Q C dr (keepH dr (i, o, ⟨fpO (AS.ev ⟨tm, hp, gn, us, L⟩) o, [], [], .c (.v (.bool true))⟩) H) r ⟨upd tm t (.c (.v (.bool true))), hp, gn, us, L⟩)
    (h2 : b = false → Walk Try.prog ops Q C dr (keepH dr (i, o, ⟨fpO (AS.ev ⟨tm, hp, gn, us, L⟩) o, [], [], .c (.v (.bool false))⟩) H) r ⟨upd tm t (.c (.v (.bool false))), hp, gn, us, L⟩)
    (hop : ops[i]? = some o := by exact rfl) (hgd : gdL i ops.toList = true := by exact rfl) (hd : o.dst = some t := by exact rfl) (ht : Nat.blt t L = true := by exact rfl) (hg : gw ops tm o = some true := by exact rfl) (he : EffD Try.prog o (AS.ev ⟨tm, hp, gn, us, L⟩) hp 0 = some (.c (.v (.bool b)), .nop) := by rfl)
    (hc1 : chk dr ops i o ⟨fpO (AS.ev ⟨tm, hp, gn, us, L⟩) o, [], [], .c (.v (.bool true))⟩ H = true := by first | (with_reducible exact zr1) | kernel_rfl) (hc2 : chk dr ops i o ⟨fpO (AS.ev ⟨tm, hp, gn, us, L⟩) o, [], [], .c (.v (.bool false))⟩ H = true := by first | (with_reducible exact zr1) | kernel_rfl) : Walk Try.prog ops Q C dr H (i :: r) ⟨tm, hp, gn, us, L⟩ :=
  zi21 hop hd ht hg he hc1 hc2 h1 h2
theorem zp17 {t : Nat} {c : Call} {fv : Operand} {f : FuncId} {caps : List AC} {args ins : List AV} {res : AV} {nv : AV} {nr : List (Nat × Row)}
    (h : Walk Try.prog ops Q C dr (keepH dr (i, o, ⟨args.flatMap snV ++ [], nr.map (fun p => (p.1, some p.2)), nr.map (·.1), nv⟩) H) r ⟨upd tm t nv, updL hp (nr.map (fun p => (p.1, some p.2))), gn, nr.map (·.1) ++ us, L⟩) (hop : ops[i]? = some o := by exact rfl) (hoc : o.op = .call c := by exact rfl) (hcal : c.callee = .value fv := by exact rfl) (hd : o.dst = some t := by exact rfl) (ht : Nat.blt t L = true := by exact rfl) (hg : gw ops tm o = some true := by exact rfl) (hfv : AS.ev ⟨tm, hp, gn, us, L⟩ fv = .c (.fn f caps) := by exact rfl) (hctr : Ctr Try.prog f ins [] res [] := by assumption) (hargs : callArgs ⟨tm, hp, gn, us, L⟩ c caps = args := by exact rfl) (hcv : args.map (cvV hp []) = ins := by ((repeat' (first | rfl | exact zu4 | refine zm4 ?_ ?_ | refine ze7 ?_ | refine cv_c ?_ | refine zn4 ?_ ?_ | (refine zt5 ?_; (first | rfl | (simp [cloV, cloL, clo, zo, zn, zp, zl, zk]; done))) | (refine zu5 ?_; (first | rfl | (simp [cloV, cloL, clo, zo, zn, zp, zl, zk]; done))) | refine zv5 ?_ | (refine cvC_sl' (by rfl) (by rfl) (by rfl) (by rfl) ?_ ?_; (focus (first | rfl | (simp [cloV, cloL, clo, zo, zn, zp, zl, zk]; done))); (first | rfl | exact za4 _)))) <;> exact rfl)) (hm : rofrV res = true := by (first | rfl | exact zz1 _ | (simp [rofrV, rofrVL, rofrL, rofr, zz1, zq3, zi3]; done))) (hopn : opV (100 * (t + 1)) res = (nv, nr) := by exact rfl) (hf : (nr.all fun p => Nat.ble gn p.1 && !us.contains p.1) = true := by exact rfl) (hc : chk dr ops i o ⟨args.flatMap snV ++ [], nr.map (fun p => (p.1, some p.2)), nr.map (·.1), nv⟩ H = true := by first | (with_reducible exact zr1) | kernel_rfl) : Walk Try.prog ops Q C dr H (i :: r) ⟨tm, hp, gn, us, L⟩ :=
  zq15 (100 * (t + 1)) hctr hop hoc hcal hd ht hg hfv hargs hcv hm hopn hf hc h
theorem zg22 {t : Nat} {c : Call} {fv : Operand} {f : FuncId} {caps : List AC} {args ins : List AV} {res : AV} {nv : AV} {nr : List (Nat × Row)} (hctr : Ctr Try.prog f ins [] res [])
    (h : Walk Try.prog ops Q C dr (keepH dr (i, o, ⟨args.flatMap snV ++ [], nr.map (fun p => (p.1, some p.2)), nr.map (·.1), nv⟩) H) r ⟨upd tm t nv, updL hp (nr.map (fun p => (p.1, some p.2))), gn, nr.map (·.1) ++ us, L⟩) (hop : ops[i]? = some o := by exact rfl) (hoc : o.op = .call c := by exact rfl) (hcal : c.callee = .value fv := by exact rfl) (hd : o.dst = some t := by exact rfl) (ht : Nat.blt t L = true := by exact rfl) (hg : gw ops tm o = some true := by exact rfl) (hfv : AS.ev ⟨tm, hp, gn, us, L⟩ fv = .c (.fn f caps) := by exact rfl) (hargs : callArgs ⟨tm, hp, gn, us, L⟩ c caps = args := by exact rfl) (hcv : args.map (cvV hp []) = ins := by ((repeat' (first | rfl | exact zu4 | refine zm4 ?_ ?_ | refine ze7 ?_ | refine cv_c ?_ | refine zn4 ?_ ?_ | (refine zt5 ?_; (first | rfl | (simp [cloV, cloL, clo, zo, zn, zp, zl, zk]; done))) | (refine zu5 ?_; (first | rfl | (simp [cloV, cloL, clo, zo, zn, zp, zl, zk]; done))) | refine zv5 ?_ | (refine cvC_sl' (by rfl) (by rfl) (by rfl) (by rfl) ?_ ?_; (focus (first | rfl | (simp [cloV, cloL, clo, zo, zn, zp, zl, zk]; done))); (first | rfl | exact za4 _)))) <;> exact rfl)) (hm : rofrV res = true := by (first | rfl | exact zz1 _ | (simp [rofrV, rofrVL, rofrL, rofr, zz1, zq3, zi3]; done))) (hopn : opV (100 * (t + 1)) res = (nv, nr) := by exact rfl) (hf : (nr.all fun p => Nat.ble gn p.1 && !us.contains p.1) = true := by exact rfl) (hc : chk dr ops i o ⟨args.flatMap snV ++ [], nr.map (fun p => (p.1, some p.2)), nr.map (·.1), nv⟩ H = true := by first | (with_reducible exact zr1) | kernel_rfl) : Walk Try.prog ops Q C dr H (i :: r) ⟨tm, hp, gn, us, L⟩ :=
  zq15 (100 * (t + 1)) hctr hop hoc hcal hd ht hg hfv hargs hcv hm hopn hf hc h
end
section
variable {ops : Array Oper} {Q : Exit → Act → World → Prop} {C : Ctx} {H H' : List (Nat × Oper × Inf)} {i : Nat} {r : List Nat} {o : Oper} {dr : Bool}
variable {tm : Nat → AV} {hp : Nat → Option Row} {gn L : Nat} {us : List Nat}
theorem za20 {P : Program} {T ty : TypeId} {xo yo : Operand} {a b : ByteArray} (ho : o.op = .binOp .add T xo yo ty) (hT : P.underlying T = some .string) (hs : a.size + b.size ≤ 9223372036854775807) (ev : Operand → Value) (w : World) (hx : ev xo = .string a) (hy : ev yo = .string b) : (execOp ev o).run P w = .ok (.value (.string (a ++ b))) w := by
  unfold execOp
  rw [ho]
  simp only [hx, hy]
  simp [Sem.run_bind, binOp, eqGuard, run_underlying hT, run_string_add_sum w a b hs]
theorem zw15 {t : Nat} {T ty : TypeId} {xo yo : Operand} {a b : ByteArray} (h : Walk Try.prog ops Q C dr (keepH dr (i, o, ⟨fpO (AS.ev ⟨tm, hp, gn, us, L⟩) o, [], [], .c (.v (.string (a ++ b)))⟩) H) r ⟨upd tm t (.c (.v (.string (a ++ b)))), hp, gn, us, L⟩)
    (hop : ops[i]? = some o := by exact rfl) (ho : o.op = .binOp .add T xo yo ty := by exact rfl) (hT : (Try.prog).underlying T = some .string := by exact Try.underlying9) (hd : o.dst = some t := by exact rfl) (ht : Nat.blt t L = true := by exact rfl) (hg : gw ops tm o = some true := by exact rfl)
    (hx : AS.ev ⟨tm, hp, gn, us, L⟩ xo = .c (.v (.string a)) := by exact rfl) (hy : AS.ev ⟨tm, hp, gn, us, L⟩ yo = .c (.v (.string b)) := by exact rfl) (hs : a.size + b.size ≤ 9223372036854775807 := by first | omega | (simp only [ByteArray.size_append', ByteArray.size_mk', List.size_toArray, List.length_cons, List.length_nil]; omega))
    (hc : chk dr ops i o ⟨fpO (AS.ev ⟨tm, hp, gn, us, L⟩) o, [], [], .c (.v (.string (a ++ b)))⟩ H = true := by first | (with_reducible exact zr1) | kernel_rfl) : Walk Try.prog ops Q C dr H (i :: r) ⟨tm, hp, gn, us, L⟩ := by
  refine ⟨o, _, hop, zl11 (y := .string (a ++ b)) hop hg rfl fun ev w he => ?_, fun n hn => absurd hn List.not_mem_nil, zd5 hc, zg4 ?_⟩
  · have e : o.op.operands = #[xo, yo] := by rw [ho]; rfl
    exact za20 ho hT hs ev w (he xo (by rw [e]; simp) _ (by rw [hx]; rfl)) (he yo (by rw [e]; simp) _ (by rw [hy]; rfl))
  · show Walk Try.prog ops Q C dr _ r (AS.put _ o.dst _)
    rw [hd, zs5 (by exact zm5 ht)]; exact h
def bytC (bs : List UInt8) : List AC := bs.map fun b => .v (.int .u8 b.toNat)
theorem zj (bs : List UInt8) : (bs.map fun b => AC.v (.int .u8 b.toNat)).all noUn = true := by
  rw [List.all_eq_true]
  intro c hc
  obtain ⟨b, _, rfl⟩ := List.mem_map.1 hc
  rfl
theorem zh8 : ∀ bs : List UInt8, bytesL ((bytC bs).map ld) = some bs
  | [] => rfl
  | b :: r => by
    have := zh8 r
    unfold bytC at this ⊢
    simp only [List.map_cons, ld, bytesL, this, Option.map_some, Int.toNat_natCast, UInt8.ofNat_toNat]
def convB (P : Program) (s d : TypeId) : Bool := match P.underlying s, P.underlying d with
  | some (.slice e), some .string => (match P.underlying e with | some (.int .u8) => true | _ => false)
  | _, _ => false
theorem zq17 {P : Program} {s d : TypeId} {hp : Nat → Option Row} {j n : Nat} {rw : Row} {bs : List UInt8} (hr : hp j = some rw) (h1 : rw.k = 1) (h2 : rw.n = n) (h3 : rw.box = false) (hcs : rw.cs = bytC bs) (hT : convB P s d = true) :
    aStr P hp s d (.c (.sl j n)) = some (.c (.v (.string ⟨bs.toArray⟩))) := by
  unfold convB at hT
  unfold aStr
  split at hT
  · rename_i e e1 e2
    rw [e1, e2]
    split at hT
    · rename_i e3
      simp only [e3, zx5 hr h1 h2 h3, hcs, zh8, Option.map_some]
    · cases hT
  · cases hT
theorem zx15 {t j n : Nat} {s d : TypeId} {xo : Operand} {rw : Row} {bs : List UInt8} (h : Walk Try.prog ops Q C dr (keepH dr (i, o, ⟨fpO (AS.ev ⟨tm, hp, gn, us, L⟩) o, [], [], .c (.v (.string ⟨bs.toArray⟩))⟩) H) r ⟨upd tm t (.c (.v (.string ⟨bs.toArray⟩))), hp, gn, us, L⟩)
    (hop : ops[i]? = some o := by exact rfl) (ho : o.op = .convert s d xo := by exact rfl) (hd : o.dst = some t := by exact rfl) (ht : Nat.blt t L = true := by exact rfl) (hg : gw ops tm o = some true := by exact rfl)
    (hx : AS.ev ⟨tm, hp, gn, us, L⟩ xo = .c (.sl j n) := by exact rfl) (hr : hp j = some rw := by exact rfl) (h1 : rw.k = 1 := by exact rfl) (h2 : rw.n = n := by exact rfl) (h3 : rw.box = false := by exact rfl) (hcs : rw.cs = bytC bs := by exact rfl) (hT : convB Try.prog s d = true := by kernel_rfl)
    (hc : chk dr ops i o ⟨fpO (AS.ev ⟨tm, hp, gn, us, L⟩) o, [], [], .c (.v (.string ⟨bs.toArray⟩))⟩ H = true := by first | (with_reducible exact zr1) | kernel_rfl) : Walk Try.prog ops Q C dr H (i :: r) ⟨tm, hp, gn, us, L⟩ := by
  refine zf1 h hop hd ht hg ?_ hc
  unfold EffD
  rw [ho]
  simp only [hx, zq17 hr h1 h2 h3 hcs hT, AV.val?, isStr]
  rw [if_neg (by simp)]
  rfl
def bytE (l : List E) : List UInt8 := l.map fun e => match e with | .int _ z => UInt8.ofNat z.toNat | _ => 0
theorem zy8 : ∀ {l : List E}, (∀ e ∈ l, ∃ z, e = .int .u8 z) → bytesL (acL l) = some (bytE l)
  | [], _ => rfl
  | e :: r, h => by
    obtain ⟨z, rfl⟩ := h e List.mem_cons_self
    have := zy8 (l := r) fun e he => h e (List.mem_cons_of_mem _ he)
    show bytesL (.v (.int .u8 z) :: acL r) = _
    simp only [bytesL, this, Option.map_some]
    rfl
theorem zr17 {P : Program} {s d : TypeId} {hp : Nat → Option Row} {n : Nat} {l : List E} (hl : ∀ e ∈ l, ∃ z, e = .int .u8 z) (hT : convB P s d = true) :
    aStr P hp s d (.c (.ro n 1 (acL l))) = some (.c (.v (.string ⟨(bytE l).toArray⟩))) := by
  unfold convB at hT
  unfold aStr
  split at hT
  · rename_i e e1 e2
    rw [e1, e2]
    split at hT
    · rename_i e3
      simp only [e3, srcOf, if_pos, zy8 hl, Option.map_some]
    · cases hT
  · cases hT
theorem zy15 {t n : Nat} {s d : TypeId} {xo : Operand} {l : List E} (h : Walk Try.prog ops Q C dr (keepH dr (i, o, ⟨fpO (AS.ev ⟨tm, hp, gn, us, L⟩) o, [], [], .c (.v (.string ⟨(bytE l).toArray⟩))⟩) H) r ⟨upd tm t (.c (.v (.string ⟨(bytE l).toArray⟩))), hp, gn, us, L⟩)
    (hop : ops[i]? = some o := by exact rfl) (ho : o.op = .convert s d xo := by exact rfl) (hd : o.dst = some t := by exact rfl) (ht : Nat.blt t L = true := by exact rfl) (hg : gw ops tm o = some true := by exact rfl)
    (hx : AS.ev ⟨tm, hp, gn, us, L⟩ xo = .c (.ro n 1 (acL l)) := by exact rfl) (hl : ∀ e ∈ l, ∃ z, e = .int .u8 z := by assumption) (hT : convB Try.prog s d = true := by kernel_rfl)
    (hc : chk dr ops i o ⟨fpO (AS.ev ⟨tm, hp, gn, us, L⟩) o, [], [], .c (.v (.string ⟨(bytE l).toArray⟩))⟩ H = true := by first | (with_reducible exact zr1) | kernel_rfl) : Walk Try.prog ops Q C dr H (i :: r) ⟨tm, hp, gn, us, L⟩ := by
  refine zf1 h hop hd ht hg ?_ hc
  unfold EffD
  rw [ho]
  simp only [hx, zr17 hl hT, AV.val?, isStr]
  rw [if_neg (by simp)]
  rfl
end
end Go.Proofs.Ytghljnfbbaklnaa
