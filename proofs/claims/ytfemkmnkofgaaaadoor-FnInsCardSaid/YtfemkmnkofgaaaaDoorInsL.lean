/- The machine: calls that are lent rows and take a slice over. Printed by gen_xau.py. -/
import Derived.Test.YtfemkmnkofgaaaaDoorInsK
namespace Go.Proofs.YtfemkmnkofgaaaaDoor
open Go.RowKit
set_option maxRecDepth 100000
structure ExtM (M : Nat → Prop) (w w' : World) (St : Nat → Prop) (φ : Nat → Lc) (F : Nat → List Nat) (pars : List (List AC)) (res : AV) (u : Value) (rows : List (List AC)) (St' : Nat → Prop) (F' : Nat → List Nat) (G : List Nat) : Prop where
  frm : Fc M (lentR φ pars) w w'
  res : VRF w' St' φ0 K0 res u G
  nodG : G.Nodup
  len : rows.length = pars.length
  row : ∀ i cs, rows[i]? = some cs → ∃ b lo vs, φ i = .box b lo ∧ CRL w' St' φ0 K0 cs vs (F' i) ∧ BoxAt w' b lo vs ∧ ∃ cs0, pars[i]? = some cs0 ∧ cs.length = cs0.length
  nod : ∀ i, i < pars.length → (F' i).Nodup
  disG : ∀ i, i < pars.length → ∀ b ∈ F' i, b ∉ G
  dis : ∀ i j, i < pars.length → j < pars.length → i ≠ j → ∀ b ∈ F' i, b ∉ F' j
  bxF : ∀ i b lo, i < pars.length → φ i = .box b lo → b ∉ G ∧ ∀ j, j < pars.length → b ∉ F' j
  own : ∀ b, (b ∈ G ∨ ∃ i, i < pars.length ∧ b ∈ F' i) → (M b ∨ w.heap.size ≤ b)
  sta : ∀ b, St' b → (b < w.heap.size → St b ∨ M b) ∧ b ∉ G ∧ ∀ i, i < pars.length → b ∉ F' i ∧ ∀ lo, φ i ≠ .box b lo
structure EntU (w : World) (St : Nat → Prop) (φ : Nat → Lc) (F : Nat → List Nat) (ins : List AV) (us : List Value) (pars : List (List AC)) (p : Nat) (T : TypeId) (k n : Nat) (cs : List AC) (A : List Nat) : Prop where
  ent : Ent w St φ F ins us pars
  row : ∃ u vs fs, us[p]? = some u ∧ CRL w St φ0 K0 cs vs fs ∧ w.ownsRow 0 T k u n vs ∧ A = obl u ++ fs
  nod : A.Nodup
  st : ∀ b ∈ A, ¬ St b
  ap : ∀ b ∈ A, ∀ i, i < pars.length → b ∉ F i ∧ ∀ lo, φ i ≠ .box b lo
  gl : ∀ b, isG b → b ∉ A
def ctxU (w : World) (St : Nat → Prop) (φ : Nat → Lc) (F : Nat → List Nat) (pars : List (List AC)) (A : List Nat) : Ctx :=
  { w0 := w, N := pars.length, pl := plOf φ, M := fun b => lentM F pars.length b ∨ b ∈ A, R := lentR φ pars, S0 := St }
def CtrU (P : Program) (f : FuncId) (ins : List AV) (pars : List (List AC)) (p : Nat) (T : TypeId) (k n : Nat) (cs : List AC) (res : AV) (rows : List (List AC)) : Prop :=
  entB P f = true ∧ ∀ (w : World) (St : Nat → Prop) (φ : Nat → Lc) (F : Nat → List Nat) (us : List Value) (A : List Nat), EntU w St φ F ins us pars p T k n cs A →
    Calls P f us.toArray w fun e w' => ∃ res' rows' u St' F' G, (res' = res ∧ rows' = rows) ∧ e = .returned u ∧ ExtM (fun b => lentM F pars.length b ∨ b ∈ A) w w' St φ F pars res' u rows' St' F' G
def σU (id : Nat) (ins : List AV) (pars : List (List AC)) (p : Nat) (T : TypeId) (k n : Nat) (cs : List AC) (nt : Nat) : AS :=
  { tm := upd (σ0 ins pars nt).tm p (.c (.sl id n)), hp := upd (σ0 ins pars nt).hp id (some ⟨T, k, n, false, cs⟩), gn := pars.length, us := [id], L := ins.length + (nt - ins.length) }
theorem EntU.sim {w : World} {St : Nat → Prop} {φ : Nat → Lc} {F : Nat → List Nat} {ins : List AV} {us : List Value} {pars : List (List AC)} {p : Nat} {T : TypeId} {k n : Nat} {cs : List AC} {A : List Nat} (h : EntU w St φ F ins us pars p T k n cs A) {id : Nat} (hid : pars.length ≤ id) (nt : Nat) :
    ∃ φ' F' St', SimF (ctxU w St φ F pars A) φ' F' St' (σU id ins pars p T k n cs nt) { tmps := us.toArray ++ Array.replicate (nt - us.toArray.size) undef, defers := [] } w := by
  have h0 := h.ent.sim nt
  have h1 : SimF (ctxU w St φ F pars A) φ F St (σ0 ins pars nt) { tmps := us.toArray ++ Array.replicate (nt - us.toArray.size) undef, defers := [] } w := by
    have hf := h0.frm
    refine ⟨h0.dfr, h0.len, h0.tms, h0.row, h0.nod, h0.dis, h0.bxF, h0.bxd, h0.stF, h0.stB, ⟨hf.os, hf.tape, hf.output, hf.size, fun b hb hM => hf.blk b hb fun hm => hM (.inl hm)⟩, fun i r b hr hb => (h0.own i r b hr hb).imp .inl (fun q => q), h0.par, h0.new, ⟨h0.gnN.1, h0.gnN.2.1, fun b hb => ⟨fun hm => hm.elim (h0.gnN.2.2 b hb).1 (h.gl b hb), (h0.gnN.2.2 b hb).2⟩⟩, fun b hs hl => (h0.stS b hs hl).imp (fun q => q) .inl⟩
  obtain ⟨u, vs, fs, e1, g1, g2, g3⟩ := h.row
  have hkn : ∀ i r, (σ0 ins pars nt).hp i = some r → i < pars.length := fun i r hr => by
    simp only [σ0, Option.map_eq_some_iff] at hr
    obtain ⟨cs, h1, h2⟩ := hr
    exact (List.getElem?_eq_some_iff.1 h1).1
  have hfree : ∀ b ∈ A, Free (ctxU w St φ F pars A) φ F St (σ0 ins pars nt) b := fun b hb => ⟨fun j s hj => h.ap b hb j (hkn j s hj), h.st b hb, .inl (.inr hb)⟩
  have h2 := h1.newRow (i := id) (L := .slc u) (fp := A) (r := ⟨T, k, n, false, cs⟩) (b0 := none) (w' := w) hid (by simp [σ0]) ⟨rfl, rfl, rfl, Nat.le_refl _, fun _ _ _ => rfl⟩ (fun b e => by cases e) (fun St' φ' hS hφ => ⟨rfl, vs, fs, g1.mono hS (Nat.le_refl _) (fun i hi => hi.elim) (fun _ _ => rfl), g2, g3⟩) h.nod (fun b hb => .inr (hfree b hb)) (fun b lo e => by cases e)
  refine ⟨_, _, _, h2.dfr, h2.len, fun t => ?_, h2.row, h2.nod, h2.dis, h2.bxF, h2.bxd, h2.stF, h2.stB, h2.frm, h2.own, h2.par, h2.new, h2.gnN, h2.stS⟩
  show VR w _ _ _ (upd (σ0 ins pars nt).tm p (.c (.sl id n)) t) _
  by_cases ht : t = p
  · subst ht
    rw [zr]
    have ev : (us.toArray ++ Array.replicate (nt - us.toArray.size) undef).getD t undef = u := by
      have hlt := (List.getElem?_eq_some_iff.1 e1).1
      rw [Array.getD_eq_getD_getElem?, Array.getElem?_append_left (by simpa using hlt)]
      simp [e1]
    show VR w _ _ _ _ ((us.toArray ++ Array.replicate (nt - us.toArray.size) undef).getD t undef)
    rw [ev]
    simp only [VR, CR]
    refine ⟨trivial, .inr List.mem_cons_self, by rw [zr], ?_⟩
    obtain ⟨_, ⟨rfl, rfl⟩ | ⟨g, cap, cur, rfl, _⟩⟩ := g2
    · exact ⟨none, 0, rfl⟩
    · exact ⟨_, cap, rfl⟩
  · rw [za1 _ _ ht]
    exact h2.tms t
theorem zc11 {P : Program} {f : FuncId} {fn : Func} {c : Code} {ins : List AV} {pars : List (List AC)} {p : Nat} {T : TypeId} {k n : Nat} {cs0 : List AC} {id : Nat} (hid : pars.length ≤ id) {Post : AV → List (List AC) → Prop} (hf : P.funcs[f]? = some fn) (hb : fn.body = some c)
    (h : AWp P c (bodyQ P fn pars Post) (σU id ins pars p T k n cs0 fn.ntmps)) : ∀ (w : World) (St : Nat → Prop) (φ : Nat → Lc) (F : Nat → List Nat) (us : List Value) (A : List Nat), EntU w St φ F ins us pars p T k n cs0 A →
    Calls P f us.toArray w fun e w' => ∃ res rows u St' F' G, Post res rows ∧ e = .returned u ∧ ExtM (fun b => lentM F pars.length b ∨ b ∈ A) w w' St φ F pars res u rows St' F' G := by
  intro w St φ F us A hEU
  have hE := hEU.ent
  have hs := hEU.sim hid fn.ntmps
  refine calls_of_wp hf hb (wp_mono (h _ _ _ hs) ?_)
  rintro e a' w' ⟨σ', hq, φ', F', St', hsim⟩
  have key : retQ P fn pars Post σ' → a'.defers = [] ∧ ∃ v, (results fn a'.tmps).run P w' = .ok v w' ∧ ∃ res rows u St'' F'' G, Post res rows ∧ Ending.returned v = .returned u ∧ ExtM (fun b => lentM F pars.length b ∨ b ∈ A) w w' St φ F pars res u rows St'' F'' G := by
    rintro ⟨l, x, hp', rows, h1, h2, h3, h4, h5⟩
    obtain ⟨vs, r1, r2⟩ := zn9 (P := P) hsim _ _ h1
    obtain ⟨v, r3, r4⟩ := zr10 r2
    obtain ⟨G, c1, c2, c3, c4, c5, c6⟩ := zo14 hsim r4 h2
    refine ⟨hsim.dfr, v, ?_, x, rows, v, St', F', G, h5, rfl, ?_⟩
    · have : (fun | ResultVar.tmp t => pure (a'.tmps.getD t undef) | ResultVar.cell a t => (do loadVar t (← asAddr (a'.tmps.getD a undef)) : Sem Value)) = resSem a'.tmps := by funext z; cases z <;> rfl
      have hres : results fn a'.tmps = (fn.results.mapM (resSem a'.tmps) >>= fun vs => pure (if h : vs.size = 1 then vs[0] else .tuple vs)) := by rw [← this]; rfl
      simp [hres, Array.mapM_eq_mapM_toList, r1, ← r3]
    · have hrow : ∀ i cs, rows[i]? = some cs → i < pars.length := fun i cs hi => by have := (List.getElem?_eq_some_iff.1 hi).1; omega
      have hpar : ∀ i, i < pars.length → ∃ cs r, rows[i]? = some cs ∧ hp' i = some r ∧ r.cs = cs := fun i hi => by
        have hi' : i < rows.length := by omega
        obtain ⟨_, ⟨r, h6, h7⟩, _⟩ := h4 i rows[i] (List.getElem?_eq_getElem hi')
        exact ⟨_, r, List.getElem?_eq_getElem hi', h6, h7⟩
      have hloc : ∀ i, i < pars.length → ∃ b lo, φ i = .box b lo ∧ φ' i = .box b lo := fun i hi => by
        obtain ⟨b, lo, vs, e, _⟩ := hE.row i pars[i] (List.getElem?_eq_getElem hi)
        have := (c2.par i hi).1
        refine ⟨b, lo, e, ?_⟩
        rw [this]; simp [ctxU, plOf, e]
      refine ⟨c2.frm, c1, c3, h3, fun i cs hi => ?_, fun i hi => ?_, fun i hi b hb => ?_, fun i j hi hj hij b hb => ?_, fun i b lo hi e => ?_, fun b hb => ?_, fun b hb => ?_⟩
      · obtain ⟨h6, ⟨r, h7, rfl⟩, h8⟩ := h4 i cs hi
        obtain ⟨b, lo, e1, e2⟩ := hloc i (hrow i _ hi)
        have := (c2.row i r h7).2
        rw [e2] at this
        obtain ⟨_, us', g1, g2⟩ := this
        exact ⟨b, lo, us', e1, g1.clo_ h6, g2, h8⟩
      · obtain ⟨cs, r, _, h7, _⟩ := hpar i hi; exact c2.nod i r h7
      · obtain ⟨cs, r, _, h7, _⟩ := hpar i hi; exact fun hG => ((c4 b hG).1.1 i r h7).1 hb
      · obtain ⟨_, r, _, h7, _⟩ := hpar i hi; obtain ⟨_, s, _, h8, _⟩ := hpar j hj; exact c2.dis i j r s h7 h8 hij b hb
      · obtain ⟨_, r, _, h7, _⟩ := hpar i hi
        obtain ⟨b', lo', e1, e2⟩ := hloc i hi
        rw [e] at e1
        injection e1 with e1 e1'
        subst e1 e1'
        refine ⟨fun hG => ((c4 b hG).1.1 i r h7).2 lo e2, fun j hj => ?_⟩
        obtain ⟨_, s, _, h8, _⟩ := hpar j hj
        exact c2.bxF i j r s b lo h7 h8 e2
      · rcases hb with hb | ⟨i, hi, hb⟩
        · exact (c4 b hb).1.2.2
        · obtain ⟨_, r, _, h7, _⟩ := hpar i hi
          exact c2.own i r b h7 hb
      · refine ⟨fun hlt => c2.stS b hb hlt, fun hG => (c4 b hG).1.2.1 hb, fun i hi => ?_⟩
        obtain ⟨_, r, _, h7, _⟩ := hpar i hi
        obtain ⟨b', lo', e1, e2⟩ := hloc i hi
        refine ⟨fun hF => c2.stF i r b h7 hF hb, fun lo e => ?_⟩
        rw [e] at e1
        injection e1 with e1 e1'
        subst e1 e1'
        exact c2.stB i r b lo h7 e2 hb
  cases e <;> first | exact hq.elim | exact key hq
theorem za12 {P : Program} {f : FuncId} {fn : Func} {c : Code} {ins : List AV} {pars : List (List AC)} {p : Nat} {T : TypeId} {k n : Nat} {cs : List AC} {res : AV} {rows : List (List AC)} (id : Nat) (hf : P.funcs[f]? = some fn) (hb : fn.body = some c) (hn : (fn.name == "runtime.NumGoroutine") = false) (hid : pars.length ≤ id)
    (h : AWp P c (bodyQ P fn pars fun r c => r = res ∧ c = rows) (σU id ins pars p T k n cs fn.ntmps)) : CtrU P f ins pars p T k n cs res rows :=
  ⟨by unfold entB; rw [hf]; simp [hn, hb], zc11 hid hf hb h⟩
section
variable {P : Program} {C : Ctx} {φ : Nat → Lc} {F : Nat → List Nat} {St : Nat → Prop} {σ : AS} {a : Act} {w w' : World} {D : List Nat} {pars : List (List AC)}
theorem SimF.backM {A : List Nat} (hA : ∀ b ∈ A, Free C φ F St σ b) (h : SimF C φ F St σ a w) (hl : lend σ.hp D = some pars) {R : List Nat} {res : AV} {u : Value} {rows : List (List AC)} {St' : Nat → Prop} {F' : Nat → List Nat} {G : List Nat}
    (hx : ExtM (fun b => lentM (fC φ F D) pars.length b ∨ b ∈ A) w w' (stC St σ F R) (φC φ D) (fC φ F D) pars res u rows St' F' G) {hp3 : Nat → Option Row}
    (hhp : ∀ i s, hp3 i = some s → (∃ d r c, idx i D = some d ∧ σ.hp i = some r ∧ rows[d]? = some c ∧ s = { r with cs := c }) ∨ (idx i D = none ∧ σ.hp i = some s))
    (hm : (rofrV res = true ∧ ∀ c ∈ rows, rofrL c = true) ∨ ∀ i ∈ R, hp3 i = none) :
    ∃ St3, SimF C φ (fBk φ F F' D) St3 { σ with hp := hp3 } a w' ∧ VRF w' St3 φ0 K0 res u G ∧ ∀ b ∈ G, Free C φ (fBk φ F F' D) St3 { σ with hp := hp3 } b := by
  have hn := zy3 hl
  have hD := zj4 hl
  have get : ∀ d, d < pars.length → ∃ i, D[d]? = some i := fun d hd => ⟨_, List.getElem?_eq_getElem (by omega)⟩
  have ne : ∀ {d e i j : Nat}, D[d]? = some i → D[e]? = some j → d ≠ e → i ≠ j := fun hd he hne hij => hne (by subst hij; exact ze7 hD hd he)
  have dlt : ∀ {d i : Nat}, D[d]? = some i → d < pars.length := fun hd => by rw [hn]; exact (List.getElem?_eq_some_iff.1 hd).1
  have nl : ∀ {b : Nat}, lentM (fC φ F D) pars.length b → ∃ i r, i ∈ D ∧ σ.hp i = some r ∧ b ∈ F i := by
    rintro b ⟨d, hd, hb⟩
    obtain ⟨i, hi⟩ := get d hd
    obtain ⟨r, _, _, _, h1, _⟩ := zb1 h hl hi
    exact ⟨i, r, List.mem_of_getElem? hi, h1, zp3 h hl hi hb⟩
  have nr : ∀ {b o : Nat}, lentR (φC φ D) pars b o → (∃ i r lo, i ∈ D ∧ σ.hp i = some r ∧ φ i = .box b lo ∧ lo ≤ o ∧ o < lo + r.cs.length) ∨ (∃ i r, i ∈ D ∧ σ.hp i = some r ∧ b ∈ F i) := by
    rintro b o ⟨d, lo, cs, h1, h2, h3, h4⟩
    obtain ⟨i, hi⟩ := get d (List.getElem?_eq_some_iff.1 h1).1
    obtain ⟨r, g, lo2, vs, g1, _, g3, g4, _, _, hh⟩ := zb1 h hl hi
    rw [h2] at g4; injection g4 with g4 g5; subst g4 g5
    rw [h1] at g3; injection g3 with g3; subst g3
    rcases hh with ⟨_, e, _⟩ | ⟨_, _, e, _⟩
    · exact .inl ⟨i, r, lo, List.mem_of_getElem? hi, g1, e, h3, h4⟩
    · exact .inr ⟨i, r, List.mem_of_getElem? hi, g1, by rw [e]; exact List.mem_cons_self⟩
  have hsz := hx.frm.size
  have keep : ∀ b, b < w.heap.size → b ∉ A → (∀ i r, σ.hp i = some r → i ∈ D → b ∉ F i ∧ ∀ lo, φ i ≠ .box b lo) → w'.heap[b]? = w.heap[b]? := fun b hb hbA hh => by
    refine (hx.frm.blk b hb fun hM => ?_).same fun o hR => ?_
    · rcases hM with hM | hM
      · obtain ⟨i, r, h1, h2, h3⟩ := nl hM
        exact (hh i r h2 h1).1 h3
      · exact hbA hM
    · rcases nr hR with ⟨i, r, lo, h1, h2, h3, _⟩ | ⟨i, r, h1, h2, h3⟩
      · exact (hh i r h2 h1).2 lo h3
      · exact (hh i r h2 h1).1 h3
  have stK : ∀ b, St b → b < w.heap.size → w'.heap[b]? = w.heap[b]? := fun b hb hlt => keep b hlt (fun hA' => (hA b hA').2.1 hb) fun i r hr _ => ⟨fun hf => h.stF i r b hr hf hb, fun lo e => h.stB i r b lo hr e hb⟩
  have fK : ∀ j s b, σ.hp j = some s → j ∉ D → b ∈ F j → w'.heap[b]? = w.heap[b]? := fun j s b hj hjD hb => keep b ((h.row j s hj).2.lt b hb) (fun hA' => ((hA b hA').1 j s hj).1 hb) fun i r hr hi =>
    have hij : i ≠ j := fun e => hjD (e ▸ hi)
    ⟨fun hf => h.dis i j r s hr hj hij b hf hb, fun lo e => h.bxF i j r s b lo hr hj e hb⟩
  have bxlt : ∀ j s b lo, σ.hp j = some s → φ j = .box b lo → b < w.heap.size := fun j s b lo hj e => by
    have h1 := (h.row j s hj).2
    rw [e] at h1
    obtain ⟨_, us, _, h2⟩ := h1
    exact h2.lt
  have Flt : ∀ j s b, σ.hp j = some s → b ∈ F j → b < w.heap.size := fun j s b hj hb => (h.row j s hj).2.lt b hb
  have own' : ∀ b, ((lentM (fC φ F D) pars.length b ∨ b ∈ A) ∨ w.heap.size ≤ b) → C.M b ∨ C.w0.heap.size ≤ b := fun b hb => by
    rcases hb with (hM | hM) | hb
    · obtain ⟨i, r, _, h2, h3⟩ := nl hM; exact h.own i r b h2 h3
    · exact (hA b hM).2.2
    · exact .inr (Nat.le_trans h.frm.size hb)
  -- what a row of after is
  have row3 : ∀ i s, hp3 i = some s → (∃ d r c b lo, idx i D = some d ∧ D[d]? = some i ∧ i ∈ D ∧ d < pars.length ∧ σ.hp i = some r ∧ rows[d]? = some c ∧ s = { r with cs := c } ∧ c.length = r.cs.length ∧ φC φ D d = .box b lo ∧
      ((φ i = .box b lo ∧ fBk φ F F' D i = F' d) ∨ (∃ n cc, φ i = .slc (.slice (some ⟨b, 0, none⟩) n cc) ∧ fBk φ F F' D i = b :: F' d ∧ b ∈ F i))) ∨ (i ∉ D ∧ σ.hp i = some s ∧ fBk φ F F' D i = F i) := by
    intro i s hs
    rcases hhp i s hs with ⟨d, r, c, h1, h2, h3, h4⟩ | ⟨h1, h2⟩
    · have hd := zt2 h1
      obtain ⟨r', b, lo, us, g1, _, g3, g4, _, _, hh⟩ := zb1 h hl hd
      rw [h2] at g1; injection g1 with g1; subst g1
      obtain ⟨_, _, _, _, _, _, cs0, q1, q2⟩ := hx.row d c h3
      rw [g3] at q1; injection q1 with q1; subst q1
      refine .inl ⟨d, r, c, b, lo, h1, hd, List.mem_of_getElem? hd, dlt hd, h2, h3, h4, q2, g4, ?_⟩
      rcases hh with ⟨_, e, _⟩ | ⟨_, _, e', cc, e, _⟩
      · exact .inl ⟨e, by simp [fBk, h1, e]⟩
      · exact .inr ⟨r.n, cc, e, by simp [fBk, h1, e, obl, Value.ownBlock], by rw [e']; exact List.mem_cons_self⟩
    · exact .inr ⟨zo9 h1, h2, by simp [fBk, h1]⟩
  have key : ∀ St3 : Nat → Prop, (∀ b, St b → b < w.heap.size → St3 b) → (∀ i s b, hp3 i = some s → b ∈ fBk φ F F' D i → ¬ St3 b) → (∀ i s b lo, hp3 i = some s → φ i = .box b lo → ¬ St3 b) → (∀ b ∈ G, ¬ St3 b) →
      (∀ b, St3 b → b < C.w0.heap.size → C.S0 b ∨ C.M b) → (∀ d c vs, rows[d]? = some c → CRL w' St' φ0 K0 c vs (F' d) → CRL w' St3 φ0 K0 c vs (F' d)) → VRF w' St3 φ0 K0 res u G →
      ∃ St3, SimF C φ (fBk φ F F' D) St3 { σ with hp := hp3 } a w' ∧ VRF w' St3 φ0 K0 res u G ∧ ∀ b ∈ G, Free C φ (fBk φ F F' D) St3 { σ with hp := hp3 } b := by
    intro St3 s1 s2 s3 s4 s5 s6 s7
    have hS : ∀ b, St b → b < w.heap.size → St3 b ∧ w'.heap[b]? = w.heap[b]? := fun b hb hlt => ⟨s1 b hb hlt, stK b hb hlt⟩
    have hK : ∀ i, σ.Kn i → σ.Kn i ∧ φ i = φ i := fun i hi => ⟨hi, rfl⟩
    have bxk : ∀ i s b lo, hp3 i = some s → φ i = .box b lo → b ∉ G ∧ ∀ j t, hp3 j = some t → b ∉ fBk φ F F' D j := by
      intro i s b lo hs e
      rcases row3 i s hs with ⟨d, r, c, b', lo', _, hd, hiD, hdl, hr, _, _, _, hφ, hh⟩ | ⟨hiD, hr, _⟩
      · obtain ⟨rfl, rfl⟩ : b' = b ∧ lo' = lo := by
          rcases hh with ⟨e', _⟩ | ⟨n, cc, e', _⟩
          · rw [e] at e'; injection e' with e1 e2; exact ⟨e1.symm, e2.symm⟩
          · rw [e] at e'; cases e'
        have hb := hx.bxF d b' lo' hdl hφ
        refine ⟨hb.1, fun j t ht => ?_⟩
        rcases row3 j t ht with ⟨d2, r2, c2, b2, lo2, _, hd2, hjD, hdl2, hr2, _, _, _, hφ2, hh2⟩ | ⟨hjD, hr2, ef⟩
        · rcases hh2 with ⟨_, ef⟩ | ⟨n, cc, _, ef, hb2⟩
          · rw [ef]; exact hb.2 d2 hdl2
          · rw [ef]
            intro hm
            rcases List.mem_cons.1 hm with rfl | hm
            · exact h.bxF i j r r2 b' lo' hr hr2 e hb2
            · exact hb.2 d2 hdl2 hm
        · rw [ef]; exact h.bxF i j r t b' lo' hr hr2 e
      · have hlt := bxlt i s b lo hr e
        have hnM : ¬ (lentM (fC φ F D) pars.length b ∨ b ∈ A) := fun hM => by
          rcases hM with hM | hM
          · obtain ⟨i', r', _, h2, h3⟩ := nl hM; exact h.bxF i i' s r' b lo hr h2 e h3
          · exact ((hA b hM).1 i s hr).2 lo e
        refine ⟨fun hG => (hx.own b (.inl hG)).elim hnM (by omega), fun j t ht => ?_⟩
        rcases row3 j t ht with ⟨d2, r2, c2, b2, lo2, _, hd2, hjD, hdl2, hr2, _, _, _, hφ2, hh2⟩ | ⟨hjD, hr2, ef⟩
        · have hF : b ∉ F' d2 := fun hb => (hx.own b (.inr ⟨d2, hdl2, hb⟩)).elim hnM (by omega)
          rcases hh2 with ⟨_, ef⟩ | ⟨n, cc, _, ef, hb2⟩
          · rw [ef]; exact hF
          · rw [ef]
            intro hm
            rcases List.mem_cons.1 hm with rfl | hm
            · exact h.bxF i j s r2 b lo hr hr2 e hb2
            · exact hF hm
        · rw [ef]; exact h.bxF i j s t b lo hr hr2 e
    have Gk : ∀ i s b, hp3 i = some s → b ∈ fBk φ F F' D i → b ∉ G := by
      intro i s b hs hb hG
      rcases row3 i s hs with ⟨d, r, c, b', lo', _, hd, hiD, hdl, hr, _, _, _, hφ, hh⟩ | ⟨hiD, hr, ef⟩
      · rcases hh with ⟨_, ef⟩ | ⟨n, cc, _, ef, hb2⟩
        · rw [ef] at hb; exact hx.disG d hdl b hb hG
        · rw [ef] at hb
          rcases List.mem_cons.1 hb with rfl | hb
          · exact (hx.bxF d b lo' hdl hφ).1 hG
          · exact hx.disG d hdl b hb hG
      · rw [ef] at hb
        have hlt := Flt i s b hr hb
        refine (hx.own b (.inl hG)).elim (fun hM => ?_) (by omega)
        rcases hM with hM | hM
        · obtain ⟨i', r', h1, h2, h3⟩ := nl hM
          exact h.dis i' i r' s h2 hr (fun e => hiD (e ▸ h1)) b h3 hb
        · exact ((hA b hM).1 i s hr).1 hb
    refine ⟨St3, ⟨h.dfr, h.len, fun t => VR.mono hS hsz hK _ _ (h.tms t), fun i s hs => ?_, fun i s hs => ?_, fun i j s t hs ht hij b hb => ?_, fun i j s t b lo hs ht e => (bxk i s b lo hs e).2 j t ht, fun i j s t b lo lo' hs ht hij e e' => ?_, s2, s3, ?_, fun i s b hs hb => ?_, fun i hi => ⟨(h.par i hi).1, fun s hs j hj => ?_⟩, fun i s b lo hs e hN => ?_, h.gnN, s5⟩, s7, fun b hb => ⟨fun j s hj => ⟨fun hf => Gk j s b hj hf hb, fun lo e => (bxk j s b lo hj e).1 hb⟩, s4 b hb, own' b (hx.own b (.inl hb))⟩⟩
    · -- row
      rcases row3 i s hs with ⟨d, r, c, b, lo, hidx, hd, hiD, hdl, hr, hc, rfl, hlen, hφ, hh⟩ | ⟨hiD, hr, ef⟩
      · refine ⟨(h.row i r hr).1, ?_⟩
        obtain ⟨b1, lo1, vs, q1, q2, q3, _⟩ := hx.row d c hc
        rw [hφ] at q1; injection q1 with q1 q1'; subst q1 q1'
        have q4 : CRL w' St3 φ σ.Kn c vs (F' d) := (s6 d c vs hc q2).mono (fun b hb _ => ⟨hb, rfl⟩) (Nat.le_refl _) (fun i hi => hi.elim) (fun _ _ => rfl)
        have hrow := (h.row i r hr).2
        rcases hh with ⟨e, ef⟩ | ⟨n, cc, e, ef, hbF⟩
        · rw [e] at hrow ⊢
          rw [ef]
          exact ⟨hrow.1, vs, q4, q3⟩
        · obtain ⟨r', b', lo', us, g1, _, g3, g4, g5, g6, hh⟩ := zb1 h hl hd
          rw [hr] at g1; injection g1 with g1; subst g1
          rw [hφ] at g4; injection g4 with g4 g4'; subst g4 g4'
          rcases hh with ⟨_, e', _⟩ | ⟨hb, hlo, eF, cc', e', hown⟩
          · rw [e] at e'; cases e'
          · subst hlo
            rw [ef, e']
            have hlt := Flt i r b hr hbF
            have hnM : ¬ (lentM (fC φ F D) pars.length b ∨ b ∈ A) := by
              rintro (⟨d2, hd2, hb2⟩ | hA')
              rotate_left
              · exact ((hA b hA').1 i r hr).1 hbF
              obtain ⟨i2, hi2⟩ := get d2 hd2
              by_cases hde : d2 = d
              · subst hde
                have := h.nod i r hr; rw [eF] at this
                exact (List.nodup_cons.1 this).1 hb2
              · obtain ⟨r2, _, _, _, k1, _⟩ := zb1 h hl hi2
                exact h.dis i2 i r2 r k1 hr (ne hi2 hd hde) b (zp3 h hl hi2 hb2) hbF
            refine ⟨hb, vs, F' d, q4, zs10 hown (hx.frm.blk b hlt hnM) q3 ?_, by simp [obl, Value.ownBlock]⟩
            rw [q2.len, hlen, g5.len]
      · refine ⟨(h.row i s hr).1, ?_⟩
        rw [ef]
        refine (h.row i s hr).2.mono hS hsz hK (fun b hb => fK i s b hr hiD hb) fun b lo us e hlu hB => ?_
        have hlt := hB.lt
        have hnM : ¬ (lentM (fC φ F D) pars.length b ∨ b ∈ A) := fun hM => by
          rcases hM with hM | hM
          · obtain ⟨i', r', _, h2, h3⟩ := nl hM; exact h.bxF i i' s r' b lo hr h2 e h3
          · exact ((hA b hM).1 i s hr).2 lo e
        obtain ⟨cs, T, h1, h2⟩ := hB
        rcases hx.frm.blk b hlt hnM with e' | ⟨x, y, T', k1, k2, k3, k4⟩
        · exact ⟨cs, T, e'.trans h1, h2⟩
        · rw [h1] at k1
          injection k1 with k1
          injection k1 with k1 k1'
          subst k1 k1'
          refine ⟨y, T, k2, fun j x hjx => ?_⟩
          rw [k4 (lo + j) ?_]
          · exact h2 j x hjx
          · intro hR
            have hjl : j < us.length := (List.getElem?_eq_some_iff.1 hjx).1
            rcases nr hR with ⟨i', r', lo', p1, p2, p3, p4, p5⟩ | ⟨i', r', p1, p2, p3⟩
            · have := h.bxd i' i r' s b lo' lo p2 hr (fun e => hiD (e ▸ p1)) p3 e
              omega
            · exact h.bxF i i' s r' b lo hr p2 e p3
    · -- nodup
      rcases row3 i s hs with ⟨d, r, c, b, lo, hidx, hd, hiD, hdl, hr, hc, rfl, hlen, hφ, hh⟩ | ⟨hiD, hr, ef⟩
      · rcases hh with ⟨e, ef⟩ | ⟨n, cc, e, ef, hbF⟩
        · rw [ef]; exact hx.nod d hdl
        · rw [ef]; exact List.nodup_cons.2 ⟨(hx.bxF d b lo hdl hφ).2 d hdl, hx.nod d hdl⟩
      · rw [ef]; exact h.nod i s hr
    · -- disjoint
      have sub : ∀ i s b, hp3 i = some s → b ∈ fBk φ F F' D i → b ∈ F i ∨ (∃ d, idx i D = some d ∧ d < pars.length ∧ b ∈ F' d) := by
        intro i s b hs hb
        rcases row3 i s hs with ⟨d, r, c, b', lo, hidx, hd, hiD, hdl, hr, hc, _, hlen, hφ, hh⟩ | ⟨hiD, hr, ef⟩
        · rcases hh with ⟨e, ef⟩ | ⟨n, cc, e, ef, hbF⟩
          · rw [ef] at hb; exact .inr ⟨d, hidx, hdl, hb⟩
          · rw [ef] at hb
            rcases List.mem_cons.1 hb with rfl | hb
            · exact .inl hbF
            · exact .inr ⟨d, hidx, hdl, hb⟩
        · rw [ef] at hb; exact .inl hb
      have hpi : ∀ i s, hp3 i = some s → ∃ r, σ.hp i = some r := fun i s hs => by
        rcases row3 i s hs with ⟨_, r, _, _, _, _, _, _, _, hr, _⟩ | ⟨_, hr, _⟩
        · exact ⟨r, hr⟩
        · exact ⟨s, hr⟩
      have mix : ∀ i j s t b, hp3 i = some s → hp3 j = some t → i ≠ j → b ∈ fBk φ F F' D i → b ∈ F i → ∀ d, idx j D = some d → d < pars.length → b ∈ F' d → False := by
        intro i j s t b hs ht hij hb hbi d hidx hdl hbd
        obtain ⟨r, hr⟩ := hpi i s hs
        obtain ⟨r2, hr2⟩ := hpi j t ht
        have hlt := Flt i r b hr hbi
        rcases row3 i s hs with ⟨d1, r1, c1, b1, lo1, hidx1, hd1, hiD1, hdl1, hr1, _, _, _, hφ1, hh1⟩ | ⟨hiD, hr', ef⟩
        · have hdd : d1 ≠ d := by
            rintro rfl
            have h1 := zt2 hidx1
            have h2 := zt2 hidx
            rw [h1] at h2; injection h2 with h2; exact hij h2
          rcases hh1 with ⟨_, ef⟩ | ⟨n, cc, _, ef, _⟩
          · rw [ef] at hb; exact hx.dis d1 d hdl1 hdl hdd b hb hbd
          · rw [ef] at hb
            rcases List.mem_cons.1 hb with rfl | hb
            · exact (hx.bxF d1 b lo1 hdl1 hφ1).2 d hdl hbd
            · exact hx.dis d1 d hdl1 hdl hdd b hb hbd
        · refine (hx.own b (.inr ⟨d, hdl, hbd⟩)).elim (fun hM => ?_) (by omega)
          rcases hM with hM | hM
          · obtain ⟨i', r', h1, h2, h3⟩ := nl hM
            exact h.dis i' i r' r h2 hr (fun e => hiD (e ▸ h1)) b h3 hbi
          · exact ((hA b hM).1 i r hr).1 hbi
      intro hb'
      rcases sub i s b hs hb with h1 | ⟨d, h1, h2, h3⟩
      · rcases sub j t b ht hb' with h4 | ⟨d, h4, h5, h6⟩
        · obtain ⟨r, hr⟩ := hpi i s hs
          obtain ⟨r2, hr2⟩ := hpi j t ht
          exact h.dis i j r r2 hr hr2 hij b h1 h4
        · exact mix i j s t b hs ht hij hb h1 d h4 h5 h6
      · rcases sub j t b ht hb' with h4 | ⟨d', h4, h5, h6⟩
        · exact mix j i t s b ht hs (Ne.symm hij) hb' h4 d h1 h2 h3
        · refine hx.dis d d' h2 h5 ?_ b h3 h6
          rintro rfl
          have e1 := zt2 h1
          have e2 := zt2 h4
          rw [e1] at e2; injection e2 with e2; exact hij e2
    · -- boxes apart
      have len : ∀ i s, hp3 i = some s → ∃ r, σ.hp i = some r ∧ s.cs.length = r.cs.length := fun i s hs => by
        rcases row3 i s hs with ⟨_, r, c, _, _, _, _, _, _, hr, _, rfl, hlen, _⟩ | ⟨_, hr, _⟩
        · exact ⟨r, hr, hlen⟩
        · exact ⟨s, hr, rfl⟩
      obtain ⟨r, hr, e1⟩ := len i s hs
      obtain ⟨r2, hr2, e2⟩ := len j t ht
      rw [e1, e2]
      exact h.bxd i j r r2 b lo lo' hr hr2 hij e e'
    · -- frame
      have hf := h.frm
      refine ⟨hx.frm.os.trans hf.os, hx.frm.tape.trans hf.tape, hx.frm.output.trans hf.output, Nat.le_trans hf.size hsz, fun b hb hM => (hf.blk b hb hM).trans ?_⟩
      refine (hx.frm.blk b (Nat.lt_of_lt_of_le hb hf.size) fun hM' => ?_).mono fun o hR => ?_
      · rcases hM' with hM' | hM'
        · obtain ⟨i, r, _, h2, h3⟩ := nl hM'
          exact (h.own i r b h2 h3).elim hM (by omega)
        · exact (hA b hM').2.2.elim hM (by omega)
      · rcases nr hR with ⟨i, r, lo, _, h2, h3, h4, h5⟩ | ⟨i, r, _, h2, h3⟩
        · rcases Nat.lt_or_ge i C.N with hi | hi
          · obtain ⟨p1, p2⟩ := h.par i hi
            rw [h3] at p1
            injection p1 with p1 p1'
            have := p2 r h2 (o - lo) (by omega)
            rw [← p1, ← p1', show lo + (o - lo) = o by omega] at this
            exact this
          · have := h.new i r b lo h2 h3 hi
            omega
        · exact ((h.own i r b h2 h3).elim hM (by omega)).elim
    · -- own
      rcases row3 i s hs with ⟨d, r, c, b', lo, hidx, hd, hiD, hdl, hr, hc, _, hlen, hφ, hh⟩ | ⟨hiD, hr, ef⟩
      · rcases hh with ⟨e, ef⟩ | ⟨n, cc, e, ef, hbF⟩
        · rw [ef] at hb; exact own' b (hx.own b (.inr ⟨d, hdl, hb⟩))
        · rw [ef] at hb
          rcases List.mem_cons.1 hb with rfl | hb
          · exact h.own i r b hr hbF
          · exact own' b (hx.own b (.inr ⟨d, hdl, hb⟩))
      · rw [ef] at hb; exact h.own i s b hr hb
    · -- par
      rcases row3 i s hs with ⟨d, r, c, b', lo, _, _, _, _, hr, _, rfl, hlen, _⟩ | ⟨_, hr, _⟩
      · exact (h.par i hi).2 r hr j (by simpa [hlen] using hj)
      · exact (h.par i hi).2 s hr j hj
    · -- new
      rcases row3 i s hs with ⟨d, r, c, b', lo', _, _, _, _, hr, _⟩ | ⟨_, hr, _⟩
      · exact h.new i r b lo hr e hN
      · exact h.new i s b lo hr e hN
  have lentF : ∀ d b, d < pars.length → b ∈ F' d → ¬ (St b ∧ b < w.heap.size) := fun d b hd hb hS => (hx.own b (.inr ⟨d, hd, hb⟩)).elim (fun hM => by
    rcases hM with hM | hM
    · obtain ⟨i, r, _, h2, h3⟩ := nl hM; exact h.stF i r b h2 h3 hS.1
    · exact (hA b hM).2.1 hS.1) (by omega)
  have one2 : ∀ i s b, hp3 i = some s → b ∈ fBk φ F F' D i → ¬ (St b ∧ b < w.heap.size) := by
    intro i s b hs hb hS
    rcases row3 i s hs with ⟨d, r, c, b', lo, hidx, hd, hiD, hdl, hr, hc, _, hlen, hφ, hh⟩ | ⟨hiD, hr, ef⟩
    · rcases hh with ⟨e, ef⟩ | ⟨n, cc, e, ef, hbF⟩
      · rw [ef] at hb; exact lentF d b hdl hb hS
      · rw [ef] at hb
        rcases List.mem_cons.1 hb with rfl | hb
        · exact h.stF i r b hr hbF hS.1
        · exact lentF d b hdl hb hS
    · rw [ef] at hb; exact h.stF i s b hr hb hS.1
  have one3 : ∀ i s b lo, hp3 i = some s → φ i = .box b lo → ¬ (St b ∧ b < w.heap.size) := by
    intro i s b lo hs e hS
    rcases row3 i s hs with ⟨d, r, c, b', lo', _, _, _, _, hr, _⟩ | ⟨_, hr, _⟩
    · exact h.stB i r b lo hr e hS.1
    · exact h.stB i s b lo hr e hS.1
  have one4 : ∀ b ∈ G, ¬ (St b ∧ b < w.heap.size) := fun b hb hS => (hx.own b (.inl hb)).elim (fun hM => by
    rcases hM with hM | hM
    · obtain ⟨i, r, _, h2, h3⟩ := nl hM; exact h.stF i r b h2 h3 hS.1
    · exact (hA b hM).2.1 hS.1) (by omega)
  rcases hm with ⟨m1, m2⟩ | hm
  · exact key (fun b => St b ∧ b < w.heap.size) (fun b hb hlt => ⟨hb, hlt⟩) one2 one3 one4 (fun b hb => h.stS b hb.1) (fun d c vs hc hq => hq.rofr_ (m2 c (List.mem_of_getElem? hc))) (hx.res.rofr_ m1)
  · refine key (fun b => (St b ∧ b < w.heap.size) ∨ St' b) (fun b hb hlt => .inl ⟨hb, hlt⟩) ?_ ?_ ?_ ?_ (fun d c vs hc hq => CRL.sub_ (fun b hb => .inr hb) hq) (VRF.sub_ (fun b hb => .inr hb) hx.res)
    · rintro i s b hs hb (hS | hS)
      · exact one2 i s b hs hb hS
      · obtain ⟨t1, t2, t3⟩ := hx.sta b hS
        rcases row3 i s hs with ⟨d, r, c, b', lo, hidx, hd, hiD, hdl, hr, hc, _, hlen, hφ, hh⟩ | ⟨hiD, hr, ef⟩
        · rcases hh with ⟨e, ef⟩ | ⟨n, cc, e, ef, hbF⟩
          · rw [ef] at hb; exact (t3 d hdl).1 hb
          · rw [ef] at hb
            rcases List.mem_cons.1 hb with rfl | hb
            · exact (t3 d hdl).2 lo hφ
            · exact (t3 d hdl).1 hb
        · rw [ef] at hb
          rcases t1 (Flt i s b hr hb) with (h1 | ⟨z, hz, r, hzr, hbz⟩) | hM
          · exact h.stF i s b hr hb h1
          · refine h.dis z i r s hzr hr ?_ b hbz hb
            rintro rfl
            rw [hm z hz] at hs; cases hs
          · rcases hM with hM | hA'
            · obtain ⟨i', r', h1, h2, h3⟩ := nl hM
              exact h.dis i' i r' s h2 hr (fun e => hiD (e ▸ h1)) b h3 hb
            · exact ((hA b hA').1 i s hr).1 hb
    · rintro i s b lo hs e (hS | hS)
      · exact one3 i s b lo hs e hS
      · obtain ⟨t1, t2, t3⟩ := hx.sta b hS
        rcases row3 i s hs with ⟨d, r, c, b', lo', hidx, hd, hiD, hdl, hr, hc, _, hlen, hφ, hh⟩ | ⟨hiD, hr, ef⟩
        · rcases hh with ⟨e', ef⟩ | ⟨n, cc, e', _⟩
          · rw [e] at e'; injection e' with e1 e2; subst e1 e2
            exact (t3 d hdl).2 lo hφ
          · rw [e] at e'; cases e'
        · rcases t1 (bxlt i s b lo hr e) with (h1 | ⟨z, hz, r, hzr, hbz⟩) | hM
          · exact h.stB i s b lo hr e h1
          · exact h.bxF i z s r b lo hr hzr e hbz
          · rcases hM with hM | hA'
            · obtain ⟨i', r', h1, h2, h3⟩ := nl hM
              exact h.bxF i i' s r' b lo hr h2 e h3
            · exact ((hA b hA').1 i s hr).2 lo e
    · rintro b hb (hS | hS)
      · exact one4 b hb hS
      · exact (hx.sta b hS).2.1 hb
    · rintro b (hS | hS) hlt
      · exact h.stS b hS.1 hlt
      · rcases (hx.sta b hS).1 (Nat.lt_of_lt_of_le hlt h.frm.size) with (h1 | ⟨z, hz, r, hzr, hbz⟩) | hM
        · exact h.stS b h1 hlt
        · exact .inr ((h.own z r b hzr hbz).resolve_right (by omega))
        · rcases hM with hM | hA'
          · obtain ⟨i, r, _, h2, h3⟩ := nl hM
            exact .inr ((h.own i r b h2 h3).resolve_right (by omega))
          · exact .inr ((hA b hA').2.2.resolve_right (by omega))
end
def callInfU (σ : AS) (R D : List Nat) (j id : Nat) (res : AV) (rows : List (List AC)) : Inf :=
  ⟨j :: (D ++ R), (j, none) :: (backU σ.hp D rows ++ (opV id res).2.map (fun p => (p.1, some p.2))), (opV id res).2.map (·.1), (opV id res).1⟩
section
variable {P : Program} {ops : Array Oper} {Q : Exit → Act → World → Prop} {C : Ctx} {σ : AS} {o : Oper} {i : Nat}
theorem zi16 {c : Call} (hop : ops[i]? = some o) (hoc : o.op = .call c) {fv : Operand} (hcal : c.callee = .value fv) {f : FuncId} {caps : List AC} (hfv : σ.ev fv = .c (.fn f caps)) (hg : gw ops σ.tm o = some true)
    {p j n k : Nat} {T : TypeId} {cs : List AC} {D : List Nat} {pars : List (List AC)} {res : AV} {rows : List (List AC)} {id : Nat} (hp : (callArgs σ c caps)[p]? = some (.c (.sl j n))) (hr : σ.hp j = some ⟨T, k, n, false, cs⟩) (hcl : cloL cs = true) (hjD : j ∉ D)
    (hl : lend σ.hp D = some pars) (hRD : ∀ z ∈ callR σ c caps, z ∉ D) (hm : (rofrV res = true ∧ ∀ c ∈ rows, rofrL c = true) ∨ ∀ z ∈ callR σ c caps, z = j) (hctr : CtrU P f ((callArgs σ c caps).map (cvV (upd σ.hp j none) D)) pars p T k n cs res rows) (hf : ∀ q ∈ (opV id res).2, σ.gn ≤ q.1) :
    Snd P ops Q C i o σ (callInfU σ (callR σ c caps) D j id res rows) := by
  intro τ a w ha hs K hK
  obtain ⟨φ, F, St, hs⟩ := hs
  have hev := ha.ev
  rw [hoc] at hev
  have hargs : ∀ x ∈ c.args.toList, τ.ev x = σ.ev x := fun x hx => hev x (by simp only [Op.operands, Call.operands]; exact Array.mem_append.2 (.inr (by simpa using hx)))
  have hfe : τ.ev fv = .c (.fn f caps) := by rw [hev fv (by simp [Op.operands, Call.operands, hcal]), hfv]
  have eargs : callArgs τ c caps = callArgs σ c caps := by unfold callArgs; rw [zy14 hargs]
  have eD : ∀ i ∈ D, τ.hp i = σ.hp i := fun i hi => ha.hp i (by simp [callInfU, hi])
  have eR : ∀ i ∈ callR σ c caps, τ.hp i = σ.hp i := fun i hi => ha.hp i (by simp [callInfU, hi])
  have ej : τ.hp j = some ⟨T, k, n, false, cs⟩ := by rw [ha.hp j (by simp [callInfU])]; exact hr
  have hd := hs.drop j
  have eDd : ∀ i ∈ D, upd τ.hp j none i = σ.hp i := fun i hi => by
    have hij : i ≠ j := fun e => hjD (by rw [← e]; exact hi)
    rw [za1 _ _ hij]; exact eD i hi
  have hl' : lend (upd τ.hp j none) D = some pars := by rw [zr9 eDd]; exact hl
  have ecv : (callArgs σ c caps).map (cvV (upd τ.hp j none) D) = (callArgs σ c caps).map (cvV (upd σ.hp j none) D) := List.map_congr_left fun x hx => zf15 x fun i hi => by
    by_cases e : i = j
    · subst e; simp only [zr]
    · rw [za1 _ _ e, za1 _ _ e]; exact eR i (List.mem_flatMap.2 ⟨x, hx, hi⟩)
  have hfn := hs.ev fv
  rw [hfe] at hfn
  simp only [VR, CR] at hfn
  obtain ⟨_, us, hfu, hcaps⟩ := hfn
  have hin : VRL w St φ τ.Kn (callArgs σ c caps) (c.args.toList.map a.eval ++ us) := by
    rw [← eargs]; exact (evs hs _).app (zw11 hcaps)
  have hent := hd.ent (D := D) (pars := pars) hl' (R := callR σ c caps) hRD hin fun x hx i hi => List.mem_flatMap.2 ⟨x, hx, hi⟩
  have ecv' : (callArgs σ c caps).map (cvV ({ τ with hp := upd τ.hp j none } : AS).hp D) = (callArgs σ c caps).map (cvV (upd σ.hp j none) D) := ecv
  rw [ecv'] at hent
  obtain ⟨u0, hu0, hv0⟩ := hin.at_ hp
  simp only [VR, CR] at hv0
  obtain ⟨_, hkj, hφj, -⟩ := hv0
  have hrow := (hs.row j _ ej).2
  rw [hφj] at hrow
  obtain ⟨_, vs, fs, g1, g2, g3⟩ := hrow
  have hfree : ∀ b ∈ F j, Free C φ F St { τ with hp := upd τ.hp j none } b := fun b hb => hs.free ej hb
  have hltF : ∀ b ∈ F j, b < w.heap.size := (hs.row j _ ej).2.lt
  have hT : EntU w (stC St { τ with hp := upd τ.hp j none } F (callR σ c caps)) (φC φ D) (fC φ F D) ((callArgs σ c caps).map (cvV (upd σ.hp j none) D)) (c.args.toList.map a.eval ++ us) pars p T k n cs (F j) := by
    refine ⟨hent, ⟨u0, vs, fs, hu0, CRL.clo_ hcl (g1.mono (fun b hb _ => ⟨.inl hb, rfl⟩) (Nat.le_refl _) (fun i hi => ⟨hi, rfl⟩) (fun _ _ => rfl)), g2, g3⟩, hs.nod j _ ej, fun b hb hst => ?_, fun b hb d hdl => ?_, fun b hg hb => (hs.own j _ b ej hb).elim (hs.gnN.2.2 b hg).1 fun h1 => (by have := Gl.lt hs.gnN.2.1 hg; omega)⟩
    · rcases hst with h1 | ⟨z, hz, s, hzs, hbz⟩
      · exact hs.stF j _ b ej hb h1
      · exact ((hfree b hb).1 z s hzs).1 hbz
    · obtain ⟨i', hi'⟩ : ∃ i', D[d]? = some i' := ⟨_, List.getElem?_eq_getElem (by have := zy3 hl'; omega)⟩
      obtain ⟨r, b', lo', us', q1, q2, q3, q4, q5, q6, hh⟩ := zb1 hd hl' hi'
      have hbn := (hfree b hb).1 i' r q1
      refine ⟨fun hm => hbn.1 (zp3 hd hl' hi' hm), fun lo e => ?_⟩
      rw [e] at q4
      injection q4 with q4 q4'
      subst q4 q4'
      rcases hh with ⟨_, e', _⟩ | ⟨_, _, e', _⟩
      · exact hbn.2 lo e'
      · exact hbn.1 (by rw [e']; exact List.mem_cons_self)
  have hcall := hctr.2 w _ _ _ _ _ hT
  unfold wpOp
  rw [hop]
  have hw := zt11 hs (b := true) (by rw [ha.gw]; exact hg)
  simp only [hw, if_true]
  refine .inl ?_
  unfold Oper.wp
  have hrun : (execOp a.eval o).run P w = .ok (.enter f (c.args.toList.map a.eval ++ us).toArray) w := by
    have e : (#[] ++ c.args.map a.eval ++ us.toArray : Array Value) = (c.args.toList.map a.eval ++ us).toArray := by
      apply Array.ext'; simp
    have h1 : (resolve a.eval c o.type).run P w = .ok { target := .fn (.func f) us.toArray, args := #[] ++ c.args.map a.eval } w := by
      unfold resolve; rw [hcal]; simp only [hfu, Deferred.ofValue, Sem.run_pure]
    have h2 : execOp a.eval o = (do let d ← resolve a.eval c o.type; invoke d.target d.args) := by unfold execOp; rw [hoc]
    rw [h2, Sem.run_bind, h1]
    simp only [Result.andThen_ok, invoke]
    rw [e]
    exact zh5 hctr.1 _ _
  rw [hrun, Oper.upon_enter]
  refine hcall.mono ?_
  rintro e w' ⟨res', rows', u, St', F', G, ⟨rfl, rfl⟩, rfl, hx⟩
  have hrl : rows'.length = D.length := by rw [hx.len, zy3 hl']
  have hDn := zj4 hl'
  obtain ⟨St3, b1, b2, b3⟩ := hd.backM hfree hl' hx (hp3 := updL (upd τ.hp j none) (backU (upd τ.hp j none) D rows')) (fun i s hi => by
      rcases zc6 (hp := upd τ.hp j none) (f := upd τ.hp j none) (i := i) hDn hrl with ⟨d, cc, h1, h2, h3⟩ | ⟨h1, h2⟩
      · rw [h3] at hi
        simp only [Option.map_eq_some_iff] at hi
        obtain ⟨r, h4, h5⟩ := hi
        exact .inl ⟨d, r, cc, h1, h4, h2, h5.symm⟩
      · rw [h2] at hi; exact .inr ⟨h1, hi⟩) (hm.imp (fun q => q) fun hz i hi => by
        rw [hz i hi]
        rcases zc6 (hp := upd τ.hp j none) (f := upd τ.hp j none) (i := j) hDn hrl with ⟨d, cc, h1, _⟩ | ⟨h1, h2⟩
        · exact absurd (List.mem_of_getElem? (zt2 h1)) hjD
        · rw [h2, zr])
  obtain ⟨φ4, F4, St4, o1, o2⟩ := zb15 b1 b2 hx.nodG b3 (id := id) (fun p hp => ⟨by show τ.gn ≤ _; rw [ha.gn]; exact hf p hp, by
    show p.1 ∉ τ.us
    exact ha.us p.1 (by simp only [callInfU, List.mem_map]; exact ⟨p, hp, rfl⟩)⟩)
  refine hK _ _ (Sim.aeq ⟨φ4, F4, St4, o1.sim.put o.dst o2⟩ ?_)
  obtain ⟨g1, g2, g3, g4⟩ := zp9 (opV id res').2 { τ with hp := updL (upd τ.hp j none) (backU (upd τ.hp j none) D rows') }
  have eb : backU (upd τ.hp j none) D rows' = backU σ.hp D rows' := zx7 eDd
  refine ⟨?_, ?_, ?_, fun j' => ?_, ?_⟩
  · rw [zc5, zr14, g1, g3]; rfl
  · rw [zb5, (zx1 _ _ _).1, g4]
    simp only [callInfU]
    rw [← zh7, eb]
    rfl
  · rw [za6, (zx1 _ _ _).2.1, g2]
  · rw [zb6, (zx1 _ _ _).2.2.1, zg7]
    simp only [callInfU, List.mem_append, List.mem_map]
  · rw [zu7, (zx1 _ _ _).2.2.2, g3]
end
end Go.Proofs.YtfemkmnkofgaaaaDoor
