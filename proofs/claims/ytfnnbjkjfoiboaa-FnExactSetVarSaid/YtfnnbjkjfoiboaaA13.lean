/- The abstract machine, thirteen: calls: what is lent. -/
import Derived.Test.YtfnnbjkjfoiboaaA12
namespace Go.Proofs.Ytfnnbjkjfoiboaa
open Go.RowKit

def idx (i : Nat) : List Nat → Option Nat
  | [] => none
  | j :: r => if j = i then some 0 else (idx i r).map (· + 1)
theorem idx_some {i : Nat} : ∀ {D : List Nat} {d : Nat}, idx i D = some d → D[d]? = some i
  | [], d, h => by simp [idx] at h
  | j :: r, d, h => by
    simp only [idx] at h
    split at h
    · rename_i e; injection h with h; subst h e; rfl
    · simp only [Option.map_eq_some_iff] at h
      obtain ⟨d', h1, rfl⟩ := h
      simpa using idx_some h1
theorem idx_none {i : Nat} : ∀ {D : List Nat}, idx i D = none → i ∉ D
  | [], _ => List.not_mem_nil
  | j :: r, h => by
    simp only [idx] at h
    split at h
    · cases h
    · rename_i e
      simp only [Option.map_eq_none_iff] at h
      simp [idx_none h, Ne.symm e]
theorem idx_mem {i : Nat} {D : List Nat} (h : i ∈ D) : ∃ d, idx i D = some d := by
  cases e : idx i D with
  | none => exact absurd h (idx_none e)
  | some d => exact ⟨d, rfl⟩
mutual
/-- An argument, as the callee has it. -/
def cvC (hp : Nat → Option Row) (D : List Nat) : AC → AC
  | .v x => .v x
  | .ro n k l => if cloL l = true then .ro n k l else .un
  | .sl i n =>
    match hp i with
    | some r => if r.box = false ∧ r.n = n ∧ cloL r.cs = true then .ro n r.k (toRoL r.cs) else .un
    | none => .un
  | .pt i o =>
    match idx i D with
    | some d => .pt d o
    | none => .un
  | .rp l o => if cloL l = true then .rp l o else .un
  | .fn f c => .fn f (cvL hp D c)
  | .ow .. => .un
  | .bx .. => .un
  | .un => .un
def cvL (hp : Nat → Option Row) (D : List Nat) : List AC → List AC
  | [] => []
  | c :: r => cvC hp D c :: cvL hp D r
end
def cvV (hp : Nat → Option Row) (D : List Nat) : AV → AV
  | .c x => .c (cvC hp D x)
  | .ag l => .ag (cvL hp D l)
  | .tu _ => .c .un
mutual
/-- The rows that an argument reads. -/
def snC : AC → List Nat
  | .sl i _ => [i]
  | .fn _ c => snL c
  | _ => []
def snL : List AC → List Nat
  | [] => []
  | c :: r => snC c ++ snL r
end
def snV : AV → List Nat
  | .c x => snC x
  | .ag l => snL l
  | .tu _ => []
def lend (hp : Nat → Option Row) : List Nat → Option (List (List AC))
  | [] => some []
  | i :: D =>
    match hp i, lend hp D with
    | some r, some ps => if (r.box = true ∨ 0 < r.n) ∧ cloL r.cs = true ∧ i ∉ D then some (r.cs :: ps) else none
    | _, _ => none
theorem lend_get {hp : Nat → Option Row} : ∀ {D : List Nat} {ps : List (List AC)} {d i : Nat}, lend hp D = some ps → D[d]? = some i →
    ∃ r, hp i = some r ∧ (r.box = true ∨ 0 < r.n) ∧ cloL r.cs = true ∧ ps[d]? = some r.cs
  | [], ps, d, i, _, h => by simp at h
  | j :: D, ps, d, i, h, hd => by
    simp only [lend] at h
    split at h
    · rename_i r ps' hr hps
      split at h
      · rename_i hc
        injection h with h
        subst h
        rcases d with _ | d
        · simp only [List.getElem?_cons_zero, Option.some.injEq] at hd
          subst hd
          exact ⟨r, hr, hc.1, hc.2.1, rfl⟩
        · obtain ⟨r', h1, h2, h3, h4⟩ := lend_get hps (d := d) (by simpa using hd)
          exact ⟨r', h1, h2, h3, by simpa using h4⟩
      · cases h
    · cases h
theorem lend_len {hp : Nat → Option Row} : ∀ {D : List Nat} {ps : List (List AC)}, lend hp D = some ps → ps.length = D.length
  | [], ps, h => by simp only [lend, Option.some.injEq] at h; subst h; rfl
  | j :: D, ps, h => by
    simp only [lend] at h
    split at h
    · rename_i r ps' _ hps
      split at h
      · injection h with h
        subst h
        simp [lend_len hps]
      · cases h
    · cases h
theorem lend_nodup {hp : Nat → Option Row} : ∀ {D : List Nat} {ps : List (List AC)}, lend hp D = some ps → D.Nodup
  | [], ps, _ => List.nodup_nil
  | j :: D, ps, h => by
    simp only [lend] at h
    split at h
    · rename_i r ps' _ hps
      split at h
      · rename_i hc; exact List.nodup_cons.2 ⟨hc.2.2, lend_nodup hps⟩
      · cases h
    · cases h
theorem nodup_at : ∀ {D : List Nat}, D.Nodup → ∀ {d e i : Nat}, D[d]? = some i → D[e]? = some i → d = e
  | [], _, d, e, i, hd, _ => by simp at hd
  | x :: r, h, 0, 0, i, _, _ => rfl
  | x :: r, h, 0, e + 1, i, hd, he => by
    simp only [List.getElem?_cons_zero, Option.some.injEq] at hd
    subst hd
    exact absurd (List.mem_of_getElem? (by simpa using he : r[e]? = some x)) (List.nodup_cons.1 h).1
  | x :: r, h, d + 1, 0, i, hd, he => by
    simp only [List.getElem?_cons_zero, Option.some.injEq] at he
    subst he
    exact absurd (List.mem_of_getElem? (by simpa using hd : r[d]? = some x)) (List.nodup_cons.1 h).1
  | x :: r, h, d + 1, e + 1, i, hd, he => by rw [nodup_at (List.nodup_cons.1 h).2 (d := d) (e := e) (by simpa using hd) (by simpa using he)]
theorem idx_of {D : List Nat} (h : D.Nodup) {d i : Nat} (hd : D[d]? = some i) : idx i D = some d := by
  obtain ⟨e, he⟩ := idx_mem (List.mem_of_getElem? hd)
  rw [he, nodup_at h (idx_some he) hd]
theorem LikeBut.same {R : Nat → Prop} {x y : Option Obj} (h : LikeBut R x y) (hR : ∀ o, ¬ R o) : y = x := by
  rcases h with rfl | ⟨c, c', e, rfl, rfl, h1, h2⟩
  · rfl
  · have : c' = c := by
      apply Array.ext_getElem?
      intro o; exact h2 o (hR o)
    rw [this]
theorem LikeBut.mono {R R' : Nat → Prop} {x y : Option Obj} (h : LikeBut R x y) (hR : ∀ o, R o → R' o) : LikeBut R' x y := by
  rcases h with rfl | ⟨c, c', e, h1, h2, h3, h4⟩
  · exact .inl rfl
  · exact .inr ⟨c, c', e, h1, h2, h3, fun o ho => h4 o fun h => ho (hR o h)⟩

def bxL : Lc → Lc
  | .box b lo => .box b lo
  | .slc (.slice (some ad) _ _) => .box ad.block 0
  | .slc _ => .box 0 0
def φC (φ : Nat → Lc) (D : List Nat) (d : Nat) : Lc := match D[d]? with | some i => bxL (φ i) | none => .box 0 0
def fsL (F : List Nat) : Lc → List Nat
  | .box .. => F
  | .slc _ => F.tail
def fC (φ : Nat → Lc) (F : Nat → List Nat) (D : List Nat) (d : Nat) : List Nat := match D[d]? with | some i => fsL (F i) (φ i) | none => []
/-- What stands for the callee: what stood, and what it reads. -/
def stC (St : Nat → Prop) (σ : AS) (F : Nat → List Nat) (R : List Nat) (b : Nat) : Prop := St b ∨ ∃ z ∈ R, ∃ r, σ.hp z = some r ∧ b ∈ F z
section
variable {P : Program} {C : Ctx} {φ : Nat → Lc} {F : Nat → List Nat} {St : Nat → Prop} {σ : AS} {a : Act} {w : World} {D : List Nat} {pars : List (List AC)}
theorem lent_info (h : SimF C φ F St σ a w) (hl : lend σ.hp D = some pars) {d i : Nat} (hd : D[d]? = some i) :
    ∃ r b lo us, σ.hp i = some r ∧ cloL r.cs = true ∧ pars[d]? = some r.cs ∧ φC φ D d = .box b lo ∧ CRL w St φ σ.Kn r.cs us (fC φ F D d) ∧ BoxAt w b lo us ∧
      ((r.box = true ∧ φ i = .box b lo ∧ fC φ F D d = F i) ∨ (r.box = false ∧ lo = 0 ∧ F i = b :: fC φ F D d ∧ ∃ c, φ i = .slc (.slice (some ⟨b, 0, none⟩) r.n c) ∧ w.ownsRow 0 r.T r.k (.slice (some ⟨b, 0, none⟩) r.n c) r.n us)) := by
  obtain ⟨r, h1, h2, h3, h4⟩ := lend_get hl hd
  have hrow := (h.row i r h1).2
  have e1 : φC φ D d = bxL (φ i) := by simp [φC, hd]
  have e2 : fC φ F D d = fsL (F i) (φ i) := by simp [fC, hd]
  cases e : φ i with
  | box b lo =>
    rw [e] at hrow e1 e2
    obtain ⟨hb, us, g1, g2⟩ := hrow
    exact ⟨r, b, lo, us, h1, h3, h4, e1, by rw [e2]; exact g1, g2, .inl ⟨hb, rfl, e2⟩⟩
  | slc u =>
    rw [e] at hrow e1 e2
    obtain ⟨hb, us, fs, g1, g2, g3⟩ := hrow
    have hn : 0 < r.n := h2.resolve_left (by simp [hb])
    rcases id g2.2 with ⟨_, h0⟩ | ⟨g, cap, cur, rfl, _, hh, hnc, hcm, hs, ht⟩
    · omega
    · have e3 : fC φ F D d = fs := by rw [e2, g3]; simp [fsL, obl, Value.ownBlock]
      refine ⟨r, g, 0, us, h1, h3, h4, e1, by rw [e3]; exact g1, ⟨cur, r.T, hh, fun j x hx => ?_⟩, .inr ⟨hb, rfl, by rw [e3, g3]; simp [obl, Value.ownBlock], cap, rfl, g2⟩⟩
      rw [Nat.zero_add, ← Array.getElem?_toList]
      rw [← ht, List.getElem?_take] at hx
      split at hx
      · exact hx
      · cases hx
theorem lent_sub (h : SimF C φ F St σ a w) (hl : lend σ.hp D = some pars) {d i : Nat} (hd : D[d]? = some i) {b : Nat} (hb : b ∈ fC φ F D d) : b ∈ F i := by
  obtain ⟨r, g, lo, us, _, _, _, _, _, _, ⟨_, _, e⟩ | ⟨_, _, e, _⟩⟩ := lent_info h hl hd
  · rwa [e] at hb
  · rw [e]; exact List.mem_cons_of_mem _ hb
theorem cvL_map (hp : Nat → Option Row) (D : List Nat) : ∀ l, cvL hp D l = l.map (cvC hp D)
  | [] => rfl
  | c :: r => by rw [cvL, List.map_cons, cvL_map hp D r]
theorem cv_CR (h : SimF C φ F St σ a w) (hl : lend σ.hp D = some pars) {R : List Nat} : ∀ (c : AC) (u : Value), (∀ i ∈ snC c, i ∈ R) → CR w St φ σ.Kn c u [] → CR w (stC St σ F R) (φC φ D) (fun i => i < pars.length) (cvC σ.hp D c) u [] := by
  have hS : ∀ b, St b → stC St σ F R b := fun b hb => .inl hb
  have hmono : ∀ (c : AC) (u : Value) (fp : List Nat), CR w St φ σ.Kn c u fp → CR w (stC St σ F R) φ σ.Kn c u fp := fun c u fp => CR.mono (fun b hb _ => ⟨hS b hb, rfl⟩) (Nat.le_refl _) (fun i hi => ⟨hi, rfl⟩) c u fp (fun _ _ => rfl)
  intro c
  induction c using AC.ind with
  | h1 x => intro u _ hc; simp only [cvC, CR] at hc ⊢; exact hc
  | h2 n k l ih =>
    intro u _ hc
    simp only [cvC]
    split
    · rename_i hcl; exact CR.clo_ (.ro n k l) u [] (by simpa [clo] using hcl) (hmono _ _ _ hc)
    · simp [CR]
  | h3 T n k l ih => intro u _ hc; simp [cvC, CR]
  | h4 i n =>
    intro u hsn hc
    simp only [cvC]
    split
    · rename_i r hr
      split
      · rename_i hcond
        obtain ⟨hb, rfl, hcl⟩ := hcond
        simp only [CR] at hc
        obtain ⟨_, _, e, A, c, rfl⟩ := hc
        have hrow := (h.row i r hr).2
        rw [e] at hrow
        obtain ⟨_, us, fs, g1, g2, g3⟩ := hrow
        have := CR.toRo_ (φ' := φC φ D) (K' := fun i => i < pars.length) hS (.ow r.T r.n r.k r.cs) _ (F i) (by simpa [clo] using hcl) (fun b hb => .inr ⟨i, hsn i (by simp [snC]), r, hr, hb⟩) (by simp only [CR]; exact ⟨us, fs, g1, g2, g3⟩)
        simpa only [toRo] using this
      · simp [CR]
    · simp [CR]
  | h5 i o =>
    intro u _ hc
    simp only [cvC]
    split
    · rename_i d hd
      have hd' := idx_some hd
      have hdl : d < D.length := (List.getElem?_eq_some_iff.1 hd').1
      have e1 : φC φ D d = bxL (φ i) := by simp [φC, hd']
      simp only [CR] at hc ⊢
      obtain ⟨_, _, ⟨b, lo, e, rfl⟩ | ⟨b, n, c, e, rfl⟩⟩ := hc
      · exact ⟨trivial, by rw [lend_len hl]; exact hdl, .inl ⟨b, lo, by rw [e1, e]; rfl, rfl⟩⟩
      · exact ⟨trivial, by rw [lend_len hl]; exact hdl, .inl ⟨b, 0, by rw [e1, e]; rfl, by rw [Nat.zero_add]⟩⟩
    · simp [CR]
  | h6 l o ih =>
    intro u _ hc
    simp only [cvC]
    split
    · rename_i hcl; exact CR.clo_ (.rp l o) u [] (by simpa [clo] using hcl) (hmono _ _ _ hc)
    · simp [CR]
  | h7 f c ih =>
    intro u hsn hc
    simp only [cvC, CR] at hc ⊢
    obtain ⟨h0, us, e, h1⟩ := hc
    refine ⟨h0, us, e, ?_⟩
    clear e h0
    have hsn' : ∀ i ∈ snL c, i ∈ R := fun i hi => hsn i (by simpa [snC] using hi)
    clear hsn
    induction c generalizing us with
    | nil => simp only [CRL] at h1; rw [h1.1]; exact CRL.nil
    | cons x r ihr =>
      simp only [CRL] at h1
      obtain ⟨v, vs, f1, f2, rfl, e, g1, g2⟩ := h1
      have e' := List.append_eq_nil_iff.1 e.symm
      rw [e'.1] at g1
      rw [e'.2] at g2
      simp only [cvL]
      exact CRL.cons (f := []) (f' := []) (ih x List.mem_cons_self v (fun i hi => hsn' i (by simp [snL, hi])) g1) (ihr (fun e he => ih e (List.mem_cons_of_mem _ he)) vs g2 (fun i hi => hsn' i (by simp [snL, hi])))
  | h9 T l ih => intro u _ hc; simp [cvC, CR]
  | h8 => intro u _ hc; simp [cvC, CR]
theorem cv_CRL (h : SimF C φ F St σ a w) (hl : lend σ.hp D = some pars) {R : List Nat} : ∀ (l : List AC) (us : List Value), (∀ i ∈ snL l, i ∈ R) → CRL w St φ σ.Kn l us [] → CRL w (stC St σ F R) (φC φ D) (fun i => i < pars.length) (cvL σ.hp D l) us []
  | [], us, _, h1 => by simp only [CRL] at h1; rw [h1.1]; simp only [cvL]; exact CRL.nil
  | x :: r, us, hsn, h1 => by
    simp only [CRL] at h1
    obtain ⟨v, vs, f1, f2, rfl, e, g1, g2⟩ := h1
    have e' := List.append_eq_nil_iff.1 e.symm
    rw [e'.1] at g1
    rw [e'.2] at g2
    simp only [cvL]
    exact CRL.cons (f := []) (f' := []) (cv_CR h hl x v (fun i hi => hsn i (by simp [snL, hi])) g1) (cv_CRL h hl r vs (fun i hi => hsn i (by simp [snL, hi])) g2)
theorem cv_VR (h : SimF C φ F St σ a w) (hl : lend σ.hp D = some pars) {R : List Nat} (x : AV) (u : Value) (hsn : ∀ i ∈ snV x, i ∈ R) (hx : VR w St φ σ.Kn x u) : VR w (stC St σ F R) (φC φ D) (fun i => i < pars.length) (cvV σ.hp D x) u := by
  cases x with
  | c x => simp only [cvV, VR] at hx ⊢; exact cv_CR h hl x u hsn hx
  | ag l => simp only [cvV, VR] at hx ⊢; obtain ⟨us, e, hx⟩ := hx; exact ⟨us, e, cv_CRL h hl l us hsn hx⟩
  | tu l => simp [cvV, VR, CR]
theorem cv_VRL (h : SimF C φ F St σ a w) (hl : lend σ.hp D = some pars) {R : List Nat} : ∀ (l : List AV) (us : List Value), (∀ x ∈ l, ∀ i ∈ snV x, i ∈ R) → VRL w St φ σ.Kn l us → VRL w (stC St σ F R) (φC φ D) (fun i => i < pars.length) (l.map (cvV σ.hp D)) us
  | [], us, _, h1 => by simp only [VRL] at h1; subst h1; simp [VRL]
  | x :: r, us, hsn, h1 => by
    simp only [VRL] at h1
    obtain ⟨u, us', rfl, g1, g2⟩ := h1
    simp only [List.map_cons, VRL]
    exact ⟨u, us', rfl, cv_VR h hl x u (hsn x List.mem_cons_self) g1, cv_VRL h hl r us' (fun y hy => hsn y (List.mem_cons_of_mem _ hy)) g2⟩
/-- What a call finds. -/
theorem SimF.ent (h : SimF C φ F St σ a w) (hl : lend σ.hp D = some pars) {R : List Nat} (hRD : ∀ z ∈ R, z ∉ D) {ins : List AV} {us : List Value} (hi : VRL w St φ σ.Kn ins us) (hsn : ∀ x ∈ ins, ∀ i ∈ snV x, i ∈ R) :
    Ent w (stC St σ F R) (φC φ D) (fC φ F D) (ins.map (cvV σ.hp D)) us pars := by
  have hn := lend_len hl
  have hD := lend_nodup hl
  have get : ∀ d, d < pars.length → ∃ i, D[d]? = some i := fun d hd => ⟨_, List.getElem?_eq_getElem (by omega)⟩
  have hmono : ∀ b, St b → stC St σ F R b := fun b hb => .inl hb
  have ne : ∀ {d e i j : Nat}, D[d]? = some i → D[e]? = some j → d ≠ e → i ≠ j := fun hd he hne hij => hne (by subst hij; exact nodup_at hD hd he)
  refine ⟨cv_VRL h hl ins us hsn hi, fun d cs hd => ?_, fun d hd => ?_, fun d e hd he hde b hb => ?_, fun d e b lo hd he hb => ?_, fun d e b lo lo' ci cj hd he hde e1 e2 => ?_, fun d b hd hb => ?_, fun d b lo hd hb => ?_⟩
  · obtain ⟨i, hi'⟩ := get d (List.getElem?_eq_some_iff.1 hd).1
    obtain ⟨r, b, lo, vs, _, h2, h3, h4, h5, h6, _⟩ := lent_info h hl hi'
    rw [h3] at hd
    injection hd with hd
    subst hd
    exact ⟨b, lo, vs, h4, CRL.clo_ h2 (h5.mono (fun b hb _ => ⟨hmono b hb, rfl⟩) (Nat.le_refl _) (fun i hi => ⟨hi, rfl⟩) (fun _ _ => rfl)), h6⟩
  · obtain ⟨i, hi'⟩ := get d hd
    obtain ⟨r, b, lo, vs, h1, _, _, _, _, _, ⟨_, _, e⟩ | ⟨_, _, e, _⟩⟩ := lent_info h hl hi'
    · rw [e]; exact h.nod i r h1
    · have := h.nod i r h1; rw [e] at this; exact (List.nodup_cons.1 this).2
  · obtain ⟨i, hi'⟩ := get d hd
    obtain ⟨j, hj'⟩ := get e he
    obtain ⟨r, _, _, _, h1, _⟩ := lent_info h hl hi'
    obtain ⟨s, _, _, _, h2, _⟩ := lent_info h hl hj'
    exact fun hb' => h.dis i j r s h1 h2 (ne hi' hj' hde) b (lent_sub h hl hi' hb) (lent_sub h hl hj' hb')
  · obtain ⟨i, hi'⟩ := get d hd
    obtain ⟨j, hj'⟩ := get e he
    obtain ⟨r, g, lo2, vs, h1, _, _, h4, _, _, hh⟩ := lent_info h hl hi'
    obtain ⟨s, _, _, _, h2, _⟩ := lent_info h hl hj'
    rw [hb] at h4
    injection h4 with h4 h4'
    subst h4 h4'
    intro hb'
    rcases hh with ⟨_, e1, _⟩ | ⟨_, _, e1, _⟩
    · exact h.bxF i j r s b lo h1 h2 e1 (lent_sub h hl hj' hb')
    · by_cases hde : d = e
      · subst hde
        have := h.nod i r h1; rw [e1] at this
        exact (List.nodup_cons.1 this).1 hb'
      · exact h.dis i j r s h1 h2 (ne hi' hj' hde) b (by rw [e1]; exact List.mem_cons_self) (lent_sub h hl hj' hb')
  · obtain ⟨i, hi'⟩ := get d (List.getElem?_eq_some_iff.1 hd).1
    obtain ⟨j, hj'⟩ := get e (List.getElem?_eq_some_iff.1 he).1
    obtain ⟨r, g, lo2, vs, h1, _, h3, h4, _, _, hh⟩ := lent_info h hl hi'
    obtain ⟨s, g2, lo3, vs2, h1', _, h3', h4', _, _, hh'⟩ := lent_info h hl hj'
    rw [h3] at hd; injection hd with hd; subst hd
    rw [h3'] at he; injection he with he; subst he
    rw [e1] at h4; injection h4 with h4 h5; subst h4 h5
    rw [e2] at h4'; injection h4' with h4' h5'; subst h4' h5'
    have hij := ne hi' hj' hde
    rcases hh with ⟨_, q1, _⟩ | ⟨_, _, q1, _⟩ <;> rcases hh' with ⟨_, q2, _⟩ | ⟨_, _, q2, _⟩
    · exact h.bxd i j r s b lo lo' h1 h1' hij q1 q2
    · exact absurd (by rw [q2]; exact List.mem_cons_self) (h.bxF i j r s b lo h1 h1' q1)
    · exact absurd (by rw [q1]; exact List.mem_cons_self) (h.bxF j i s r b lo' h1' h1 q2)
    · exact absurd (by rw [q2]; exact List.mem_cons_self) (h.dis i j r s h1 h1' hij b (by rw [q1]; exact List.mem_cons_self))
  · obtain ⟨i, hi'⟩ := get d hd
    obtain ⟨r, _, _, _, h1, _⟩ := lent_info h hl hi'
    have hbF := lent_sub h hl hi' hb
    rintro (hs | ⟨z, hz, s, hzs, hbz⟩)
    · exact h.stF i r b h1 hbF hs
    · exact h.dis i z r s h1 hzs (by rintro rfl; exact hRD i hz (List.mem_of_getElem? hi')) b hbF hbz
  · obtain ⟨i, hi'⟩ := get d hd
    obtain ⟨r, g, lo2, vs, h1, _, _, h4, _, _, hh⟩ := lent_info h hl hi'
    rw [hb] at h4
    injection h4 with h4 h4'
    subst h4 h4'
    have hiz : ∀ z ∈ R, i ≠ z := fun z hz e => hRD z hz (e ▸ List.mem_of_getElem? hi')
    rcases hh with ⟨_, e1, _⟩ | ⟨_, _, e1, _⟩
    · rintro (hs | ⟨z, hz, s, hzs, hbz⟩)
      · exact h.stB i r b lo h1 e1 hs
      · exact h.bxF i z r s b lo h1 hzs e1 hbz
    · have hbi : b ∈ F i := by rw [e1]; exact List.mem_cons_self
      rintro (hs | ⟨z, hz, s, hzs, hbz⟩)
      · exact h.stF i r b h1 hbi hs
      · exact h.dis i z r s h1 hzs (hiz z hz) b hbi hbz
end
end Go.Proofs.Ytfnnbjkjfoiboaa
