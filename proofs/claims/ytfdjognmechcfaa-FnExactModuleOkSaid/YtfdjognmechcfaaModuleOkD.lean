/- The program's rexText: by the abstract machine . -/
import Derived.Test.YtfdjognmechcfaaModuleOkA
import Derived.Test.YtfdjognmechcfaaModuleOkB
import Derived.Test.YtfdjognmechcfaaModuleOkC
namespace Go.Proofs.Ytfdjognmechcfaa
open Go.RowKit
set_option maxRecDepth 100000
theorem zh21 {P : Program} {f : FuncId} {ins ins' : List AV} {pars rows : List (List AC)} {res : AV} (h : Ctr P f ins pars res rows) (hle : ∀ (w : World) (St : Nat → Prop) (φ : Nat → Lc) (K : Nat → Prop) (us : List Value), VRL w St φ K ins' us → VRL w St φ K ins us) : Ctr P f ins' pars res rows :=
  ⟨h.1, fun w St φ F us hent => h.2 w St φ F us ⟨hle _ _ _ _ _ hent.args, hent.row, hent.nod, hent.dis, hent.bxF, hent.bxd, hent.stF, hent.stB, hent.gl⟩⟩
def ksE (ks : List Int) : List E := ks.map (E.int .i64)
theorem ks_any (ks : List Int) (k : Int) : ((ksE ks).any fun e => k == intE e) = ks.any (fun x => k == x) := by
  unfold ksE
  rw [List.any_map]
  rfl
theorem ks_enc (ks : List Int) : ∀ e ∈ ksE ks, e.enc.length = 1 := by
  intro e he
  obtain ⟨z, _, rfl⟩ := List.mem_map.1 he
  rfl
theorem hasKs_c (ks : List Int) (hk : ∀ z ∈ ks, 0 ≤ z ∧ z ≤ 100) (hl : ks.length ≤ 100) (k : Int) : Ctr Try.prog 108 [.c (.ro ks.length 1 (acL (ksE ks))), .c (.v (.int .i64 k))] [] (.c (.v (.bool (ks.any fun x => k == x)))) [] := by
  have h := hasInt_c (l := ksE ks) (fun e he => by
    obtain ⟨z, hz, rfl⟩ := List.mem_map.1 he
    have h1 := hk z hz
    refine ⟨Try.underlying3, ?_⟩
    have e1 : IntKind.i64.min = -9223372036854775808 := rfl
    have e2 : IntKind.i64.max = 9223372036854775807 := rfl
    simp only [Lit.wf, decide_eq_true_iff, Bool.and_eq_true, e1, e2]
    omega) (ks_enc ks) (by unfold ksE; rw [List.length_map]; omega) k
  rw [ks_any] at h
  unfold ksE at h ⊢
  rw [List.length_map] at h
  exact h
theorem nil_ro {w : World} {St : Nat → Prop} {φ : Nat → Lc} {K : Nat → Prop} {k : Nat} {u : Value} (h : VR w St φ K (.c (.v (.slice none 0 0))) u) : VR w St φ K (.c (.ro 0 k [])) u := by
  simp only [VR, CR] at h ⊢
  obtain ⟨rfl, -, -⟩ := h
  exact ⟨trivial, none, 0, rfl, ⟨by omega, by decide, fun _ => rfl⟩, by simp, fun h => by omega⟩
theorem withK5 (g : E → ByteArray) (x : E) : withK [5] x.rk (g x) = brk g x := by
  unfold withK brk
  by_cases h : x.rk = 5
  · rw [if_pos (by simp [h]), if_pos h]
  · rw [if_neg (by simp [h]), if_neg h]
theorem zj15 (g : E → ByteArray) (x : E) : withK [4, 5] x.rk (g x) = oneT g x := by
  unfold withK oneT
  by_cases h : x.rk = 4 ∨ x.rk = 5
  · rw [if_pos (by rcases h with h | h <;> simp [h]), if_pos h]
  · rw [if_neg (by simp only [not_or] at h; simp [h.1, h.2]), if_neg h]
theorem withK0 (k : Int) (t : ByteArray) : withK [] k t = t := rfl
theorem zu16 {g : E → ByteArray} {x : E} {B : Nat} (h : (g x).size ≤ B) : (brk g x).size ≤ B + 2 := by
  unfold brk
  split
  · rw [ByteArray.size_append', ByteArray.size_append']
    have : (ByteArray.mk #[40]).size = 1 := rfl
    have : (ByteArray.mk #[41]).size = 1 := rfl
    omega
  · omega
theorem zx7 {g : E → ByteArray} {x : E} {B : Nat} (h : (g x).size ≤ B) : (oneT g x).size ≤ B + 2 := by
  unfold oneT
  split
  · rw [ByteArray.size_append', ByteArray.size_append']
    have : (ByteArray.mk #[40]).size = 1 := rfl
    have : (ByteArray.mk #[41]).size = 1 := rfl
    omega
  · omega
theorem ze14 (g : E → ByteArray) (b : ByteArray) (x : E) : ∀ a : List E, tailT g b (a ++ [x]) = tailT g b a ++ (b ++ brk g x)
  | [] => by show b ++ (brk g x ++ ByteArray.empty) = ByteArray.empty ++ (b ++ brk g x); rw [zh15, zk8]
  | y :: r => by show b ++ (brk g y ++ tailT g b (r ++ [x])) = b ++ (brk g y ++ tailT g b r) ++ (b ++ brk g x); rw [ze14 g b x r]; simp only [zy6]
theorem zu17 (g : E → ByteArray) (b : ByteArray) (a : List E) (x : E) : joinT g b (a ++ [x]) = (if a = [] then ByteArray.empty else joinT g b a ++ b) ++ brk g x := by
  cases a with
  | nil => show brk g x ++ ByteArray.empty = ByteArray.empty ++ brk g x; rw [zh15, zk8]
  | cons y r =>
    rw [if_neg (by simp)]
    show brk g y ++ tailT g b (r ++ [x]) = brk g y ++ tailT g b r ++ b ++ brk g x
    rw [ze14]; simp only [zy6]
theorem zc7 (g : E → ByteArray) (b : ByteArray) {l : List E} {k : Nat} {x : E} (hx : l[k]? = some x) : joinT g b (l.take (k + 1)) = (if k = 0 then ByteArray.empty else joinT g b (l.take k) ++ b) ++ brk g x := by
  obtain ⟨hk, -⟩ := List.getElem?_eq_some_iff.1 hx
  rw [List.take_add_one, hx, Option.toList_some, zu17]
  congr 1
  by_cases h : k = 0
  · subst h; rfl
  · rw [if_neg h, if_neg (fun e => by have := congrArg List.length e; rw [List.length_take, List.length_nil] at this; omega)]
theorem zk15 (g : E → ByteArray) {l : List E} {k : Nat} {x : E} (hx : l[k]? = some x) : joinT g ByteArray.empty (l.take (k + 1)) = joinT g ByteArray.empty (l.take k) ++ brk g x := by
  rw [zc7 g _ hx]
  congr 1
  by_cases h : k = 0
  · subst h; rfl
  · rw [if_neg h, zh15]
theorem zd7 {g : E → ByteArray} {b : ByteArray} {B : Nat} {l : List E} (h : ∀ x ∈ l, (g x).size ≤ B) : ∀ k, k ≤ l.length → (joinT g b (l.take k)).size ≤ k * (B + 2 + b.size) := by
  intro k
  induction k with
  | zero => intro _; exact Nat.zero_le _
  | succ k ih =>
    intro hk
    have h1 := ih (by omega)
    obtain ⟨x, hx⟩ : ∃ x, l[k]? = some x := ⟨_, List.getElem?_eq_getElem (by omega)⟩
    have h2 := zu16 (h x (List.mem_of_getElem? hx))
    rw [zc7 g b hx, ByteArray.size_append', Nat.add_mul, Nat.one_mul]
    split
    · have : ByteArray.empty.size = 0 := rfl
      omega
    · rw [ByteArray.size_append']; omega
def tlE (g : E → ByteArray) (l : List E) : List E := l.map fun x => .str (g x)
theorem zi21 (g : E → ByteArray) (l : List E) : (tlE g l).length = l.length := List.length_map ..
theorem zv16 (g : E → ByteArray) {l : List E} {k : Nat} {x : E} (hx : l[k]? = some x) : tlE g (l.take (k + 1)) = tlE g (l.take k) ++ [.str (g x)] := by
  unfold tlE
  rw [List.take_add_one, hx, Option.toList_some, List.map_append]; rfl
theorem joinB_tl (g : E → ByteArray) (b : ByteArray) {l : List E} (h : ∀ x ∈ l, x.rk ≠ 5) : ∀ k, k ≤ l.length → joinB (tlE g (l.take k)) b = joinT g b (l.take k) := by
  intro k
  induction k with
  | zero => intro _; rfl
  | succ k ih =>
    intro hk
    have h1 := ih (by omega)
    obtain ⟨x, hx⟩ : ∃ x, l[k]? = some x := ⟨_, List.getElem?_eq_getElem (by omega)⟩
    have hb : brk g x = g x := if_neg (h x (List.mem_of_getElem? hx))
    rw [zv16 g hx, zt17, zc7 g b hx, hb, h1]
    congr 1
    by_cases h0 : k = 0
    · subst h0; rfl
    · rw [if_neg h0, if_neg (fun e => by have := congrArg List.length e; rw [zi21, List.length_take, List.length_nil] at this; omega)]
theorem zf14 {f : Nat} {e : E} (h : partsI (f + 1) e ≤ 60) : headI e = true ∧ ∀ x ∈ e.rl, partsI f x ≤ 60 := by
  unfold partsI at h
  split at h
  · rename_i hh; exact ⟨hh, (zg8 h).2⟩
  · omega
theorem zp9 {f : Nat} {e : E} (h : partsI f e ≤ 60) : (textS f e).size ≤ 960 := by have := zq11 f e h; omega
set_option maxHeartbeats 4000000 in
theorem zj21 (f : Nat) : ∀ (e : E), e.Ty Try.prog 86 → e.sz ≤ 4194304 → partsI f e ≤ 60 → ∀ ks : List Int, (∀ z ∈ ks, 0 ≤ z ∧ z ≤ 100) → ks.length ≤ 100 → Ctr Try.prog 93 [.ag (acE e), .c (.ro ks.length 1 (acL (ksE ks)))] [] (.c (.v (.string (withK ks e.rk (textS f e))))) [] := by
  induction f with
  | zero => intro e _ _ h; exact absurd h (by unfold partsI; omega)
  | succ f ih =>
    intro e he hsz hp ks hks hl
    obtain ⟨hhd, hkid⟩ := zf14 hp
    have hts := zp9 hp
    obtain ⟨x0, x1, x2A, x2c, l, rfl, gx0, gx1, gx2, -⟩ := zq1 he
    simp only [E.sz, E.szL] at hsz
    have hkid : ∀ x ∈ l, partsI f x ≤ 60 := hkid
    have hxs : ∀ x ∈ l, (textS f x).size ≤ 960 := fun x hx => zp9 (hkid x hx)
    have hh2 := hhd
    rw [zr12] at hh2
    simp only [Bool.and_eq_true, Bool.not_eq_true'] at hh2
    obtain ⟨hh, hno⟩ := hh2
    show Ctr _ _ _ _ (.c (.v (.string (withK ks x0 _)))) _
    have c1 := hasKs_c ks hks hl x0
    refine zm2 Try.func93 rfl rfl ?_
    rcases zz4 hh with ⟨rfl, h1, h2, h3⟩ | ⟨rfl, h1, h3⟩ | ⟨rfl | rfl | rfl | rfl, h1, h3⟩ | ⟨rfl | rfl, h1, h2, h3⟩ | ⟨rfl | rfl | rfl, h1, y, h3, h4⟩
    case inl =>
      repeat' (first | ((apply f_wo); first | ((apply f_mv); first | refine zg1 (v := .c _) ?_ | refine za ?_) | ((apply f_as); first | refine zf1 (v := .c _) ?_ | refine za ?_) | ((apply f_fa); first | refine n_fa ?_ | refine zk1 ?_) | ((apply f_ld); first | refine zp1 ?_ | refine zb1 ?_ | refine zw ?_ | refine zi1 ?_ | refine n_ld ?_) | ((apply f_ca); first | refine zr2 (c1) ?_ | refine zp2 (c1) ?_) | ((apply f_bi); first | refine zd1 ?_ | refine zc1 ?_ | refine ze1 ?_ | refine zq2 ?_ | refine zq2 (hnu := zl _) ?_ | refine zv1 ?_ | refine zv1 (hnu := zl _) ?_ | refine za ?_) | ((apply f_st); first | refine n_st ?_ | refine zt1 ?_) | ((apply f_ia); first | refine n_ix ?_ | refine zc2 ?_ | refine za ?_) | ((apply zz1); first | refine za1 ?_ | refine za ?_) | ((apply za2); first | refine zq ?_ | refine za ?_) | ((apply zs1); first | refine zo ?_ | refine zr1 ?_ | refine za ?_) | refine n_al ?_ | refine n_bo ?_ | refine n_bs ?_ | refine za ?_) | ((apply f_w); first | refine zy ?_ | refine zc ?_) | refine zb fun C => ?_ | refine zn ?_ | refine ze ?_ | refine zh ?_ | refine zi ?_ | (refine zt (by rfl) ?_ ?_ <;> intro hC <;> (try cases hC)))
      all_goals
        refine zu ?_
        refine ret0 rfl zn2 ⟨?_, rfl⟩
        unfold withK; rw [hC]; rfl
    case inr.inl =>
      repeat' (first | ((apply f_wo); first | ((apply f_mv); first | refine zg1 (v := .c _) ?_ | refine za ?_) | ((apply f_as); first | refine zf1 (v := .c _) ?_ | refine za ?_) | ((apply f_fa); first | refine n_fa ?_ | refine zk1 ?_) | ((apply f_ld); first | refine zp1 ?_ | refine zb1 ?_ | refine zw ?_ | refine zi1 ?_ | refine n_ld ?_) | ((apply f_ca); first | refine zr2 (c1) ?_ | refine zp2 (c1) ?_) | ((apply f_bi); first | refine zd1 ?_ | refine zc1 ?_ | refine ze1 ?_ | refine zq2 ?_ | refine zq2 (hnu := zl _) ?_ | refine zv1 ?_ | refine zv1 (hnu := zl _) ?_ | refine za ?_) | ((apply f_st); first | refine n_st ?_ | refine zt1 ?_) | ((apply f_ia); first | refine n_ix ?_ | refine zc2 ?_ | refine za ?_) | ((apply zz1); first | refine za1 ?_ | refine za ?_) | ((apply za2); first | refine zq ?_ | refine za ?_) | ((apply zs1); first | refine zo ?_ | refine zr1 ?_ | refine za ?_) | refine n_al ?_ | refine n_bo ?_ | refine n_bs ?_ | refine za ?_) | ((apply f_w); first | refine zy ?_ | refine zc ?_) | refine zb fun C => ?_ | refine zn ?_ | refine ze ?_ | refine zh ?_ | refine zi ?_ | (refine zt (by rfl) ?_ ?_ <;> intro hC <;> (try cases hC)))
      all_goals
        refine zu ?_
        refine ret0 rfl zn2 ⟨?_, rfl⟩
        unfold withK; rw [hC]; rfl
    case inr.inr.inl.inl =>
      repeat' (first | ((apply f_wo); first | ((apply f_mv); first | refine zg1 (v := .c _) ?_ | refine za ?_) | ((apply f_as); first | refine zf1 (v := .c _) ?_ | refine za ?_) | ((apply f_fa); first | refine n_fa ?_ | refine zk1 ?_) | ((apply f_ld); first | refine zp1 ?_ | refine zb1 ?_ | refine zw ?_ | refine zi1 ?_ | refine n_ld ?_) | ((apply f_ca); first | refine zr2 (c1) ?_ | refine zp2 (c1) ?_) | ((apply f_bi); first | refine zd1 ?_ | refine zc1 ?_ | refine ze1 ?_ | refine zq2 ?_ | refine zq2 (hnu := zl _) ?_ | refine zv1 ?_ | refine zv1 (hnu := zl _) ?_ | refine za ?_) | ((apply f_st); first | refine n_st ?_ | refine zt1 ?_) | ((apply f_ia); first | refine n_ix ?_ | refine zc2 ?_ | refine za ?_) | ((apply zz1); first | refine za1 ?_ | refine za ?_) | ((apply za2); first | refine zq ?_ | refine za ?_) | ((apply zs1); first | refine zo ?_ | refine zr1 ?_ | refine za ?_) | refine n_al ?_ | refine n_bo ?_ | refine n_bs ?_ | refine za ?_) | ((apply f_w); first | refine zy ?_ | refine zc ?_) | refine zb fun C => ?_ | refine zn ?_ | refine ze ?_ | refine zh ?_ | refine zi ?_ | (refine zt (by rfl) ?_ ?_ <;> intro hC <;> (try cases hC)))
      all_goals
        refine zu ?_
        refine ret0 rfl zn2 ⟨?_, rfl⟩
        unfold withK; rw [hC]; rfl
    case inr.inr.inl.inr.inl =>
      repeat' (first | ((apply f_wo); first | ((apply f_mv); first | refine zg1 (v := .c _) ?_ | refine za ?_) | ((apply f_as); first | refine zf1 (v := .c _) ?_ | refine za ?_) | ((apply f_fa); first | refine n_fa ?_ | refine zk1 ?_) | ((apply f_ld); first | refine zp1 ?_ | refine zb1 ?_ | refine zw ?_ | refine zi1 ?_ | refine n_ld ?_) | ((apply f_ca); first | refine zr2 (c1) ?_ | refine zp2 (c1) ?_) | ((apply f_bi); first | refine zd1 ?_ | refine zc1 ?_ | refine ze1 ?_ | refine zq2 ?_ | refine zq2 (hnu := zl _) ?_ | refine zv1 ?_ | refine zv1 (hnu := zl _) ?_ | refine za ?_) | ((apply f_st); first | refine n_st ?_ | refine zt1 ?_) | ((apply f_ia); first | refine n_ix ?_ | refine zc2 ?_ | refine za ?_) | ((apply zz1); first | refine za1 ?_ | refine za ?_) | ((apply za2); first | refine zq ?_ | refine za ?_) | ((apply zs1); first | refine zo ?_ | refine zr1 ?_ | refine za ?_) | refine n_al ?_ | refine n_bo ?_ | refine n_bs ?_ | refine za ?_) | ((apply f_w); first | refine zy ?_ | refine zc ?_) | refine zb fun C => ?_ | refine zn ?_ | refine ze ?_ | refine zh ?_ | refine zi ?_ | (refine zt (by rfl) ?_ ?_ <;> intro hC <;> (try cases hC)))
      all_goals
        refine zu ?_
        refine ret0 rfl zn2 ⟨?_, rfl⟩
        unfold withK; rw [hC]; rfl
    case inr.inr.inl.inr.inr.inl =>
      repeat' (first | ((apply f_wo); first | ((apply f_mv); first | refine zg1 (v := .c _) ?_ | refine za ?_) | ((apply f_as); first | refine zf1 (v := .c _) ?_ | refine za ?_) | ((apply f_fa); first | refine n_fa ?_ | refine zk1 ?_) | ((apply f_ld); first | refine zp1 ?_ | refine zb1 ?_ | refine zw ?_ | refine zi1 ?_ | refine n_ld ?_) | ((apply f_ca); first | refine zr2 (c1) ?_ | refine zp2 (c1) ?_) | ((apply f_bi); first | refine zd1 ?_ | refine zc1 ?_ | refine ze1 ?_ | refine zq2 ?_ | refine zq2 (hnu := zl _) ?_ | refine zv1 ?_ | refine zv1 (hnu := zl _) ?_ | refine za ?_) | ((apply f_st); first | refine n_st ?_ | refine zt1 ?_) | ((apply f_ia); first | refine n_ix ?_ | refine zc2 ?_ | refine za ?_) | ((apply zz1); first | refine za1 ?_ | refine za ?_) | ((apply za2); first | refine zq ?_ | refine za ?_) | ((apply zs1); first | refine zo ?_ | refine zr1 ?_ | refine za ?_) | refine n_al ?_ | refine n_bo ?_ | refine n_bs ?_ | refine za ?_) | ((apply f_w); first | refine zy ?_ | refine zc ?_) | refine zb fun C => ?_ | refine zn ?_ | refine ze ?_ | refine zh ?_ | refine zi ?_ | (refine zt (by rfl) ?_ ?_ <;> intro hC <;> (try cases hC)))
      all_goals
        refine zu ?_
        refine ret0 rfl zn2 ⟨?_, rfl⟩
        unfold withK; rw [hC]; rfl
    case inr.inr.inl.inr.inr.inr =>
      repeat' (first | ((apply f_wo); first | ((apply f_mv); first | refine zg1 (v := .c _) ?_ | refine za ?_) | ((apply f_as); first | refine zf1 (v := .c _) ?_ | refine za ?_) | ((apply f_fa); first | refine n_fa ?_ | refine zk1 ?_) | ((apply f_ld); first | refine zp1 ?_ | refine zb1 ?_ | refine zw ?_ | refine zi1 ?_ | refine n_ld ?_) | ((apply f_ca); first | refine zr2 (c1) ?_ | refine zp2 (c1) ?_) | ((apply f_bi); first | refine zd1 ?_ | refine zc1 ?_ | refine ze1 ?_ | refine zq2 ?_ | refine zq2 (hnu := zl _) ?_ | refine zv1 ?_ | refine zv1 (hnu := zl _) ?_ | refine za ?_) | ((apply f_st); first | refine n_st ?_ | refine zt1 ?_) | ((apply f_ia); first | refine n_ix ?_ | refine zc2 ?_ | refine za ?_) | ((apply zz1); first | refine za1 ?_ | refine za ?_) | ((apply za2); first | refine zq ?_ | refine za ?_) | ((apply zs1); first | refine zo ?_ | refine zr1 ?_ | refine za ?_) | refine n_al ?_ | refine n_bo ?_ | refine n_bs ?_ | refine za ?_) | ((apply f_w); first | refine zy ?_ | refine zc ?_) | refine zb fun C => ?_ | refine zn ?_ | refine ze ?_ | refine zh ?_ | refine zi ?_ | (refine zt (by rfl) ?_ ?_ <;> intro hC <;> (try cases hC)))
      all_goals
        refine zu ?_
        refine ret0 rfl zn2 ⟨?_, rfl⟩
        unfold withK; rw [hC]; rfl
    case inr.inr.inr.inl.inl =>
      have hte : textS (f + 1) (E.agg [E.int .i64 4, E.str x1, E.lst 3 86 x2A x2c l]) = joinT (textS f) ByteArray.empty l := rfl
      rw [hte]
      repeat' (first | ((apply f_wo); first | ((apply f_mv); first | refine zg1 (v := .c _) ?_ | refine za ?_) | ((apply f_as); first | refine zf1 (v := .c _) ?_ | refine za ?_) | ((apply f_fa); first | refine n_fa ?_ | refine zk1 ?_) | ((apply f_ld); first | refine zp1 ?_ | refine zb1 ?_ | refine zw ?_ | refine zi1 ?_ | refine n_ld ?_) | ((apply f_bi); first | refine zd1 ?_ | refine zc1 ?_ | refine ze1 ?_ | refine zq2 ?_ | refine zq2 (hnu := zl _) ?_ | refine zv1 ?_ | refine zv1 (hnu := zl _) ?_ | refine za ?_) | ((apply f_st); first | refine n_st ?_ | refine zt1 ?_) | ((apply f_ia); first | refine n_ix ?_ | refine zc2 ?_ | refine za ?_) | ((apply zz1); first | refine za1 ?_ | refine za ?_) | ((apply za2); first | refine zq ?_ | refine za ?_) | ((apply zs1); first | refine zo ?_ | refine zr1 ?_ | refine za ?_) | refine n_al ?_ | refine n_bo ?_ | refine n_bs ?_ | refine za ?_) | ((apply f_w); first | refine zy ?_ | refine zc ?_) | refine zb fun C => ?_ | refine zn ?_ | refine ze ?_ | refine zh ?_ | refine zi ?_)
      iterate 10
        (first
          | refine zt (by rfl) (fun hC => Bool.noConfusion (show false = true from hC)) fun hC => ?_
          | refine zt (by rfl) (fun hC => ?_) fun hC => Bool.noConfusion (show true = false from hC)
          | skip) <;> repeat' (first | ((apply f_wo); first | ((apply f_mv); first | refine zg1 (v := .c _) ?_ | refine za ?_) | ((apply f_as); first | refine zf1 (v := .c _) ?_ | refine za ?_) | ((apply f_fa); first | refine n_fa ?_ | refine zk1 ?_) | ((apply f_ld); first | refine zp1 ?_ | refine zb1 ?_ | refine zw ?_ | refine zi1 ?_ | refine n_ld ?_) | ((apply f_bi); first | refine zd1 ?_ | refine zc1 ?_ | refine ze1 ?_ | refine zq2 ?_ | refine zq2 (hnu := zl _) ?_ | refine zv1 ?_ | refine zv1 (hnu := zl _) ?_ | refine za ?_) | ((apply f_st); first | refine n_st ?_ | refine zt1 ?_) | ((apply f_ia); first | refine n_ix ?_ | refine zc2 ?_ | refine za ?_) | ((apply zz1); first | refine za1 ?_ | refine za ?_) | ((apply za2); first | refine zq ?_ | refine za ?_) | ((apply zs1); first | refine zo ?_ | refine zr1 ?_ | refine za ?_) | refine n_al ?_ | refine n_bo ?_ | refine n_bs ?_ | refine za ?_) | ((apply f_w); first | refine zy ?_ | refine zc ?_) | refine zb fun C => ?_ | refine zn ?_ | refine ze ?_ | refine zh ?_ | refine zi ?_)
      refine zp3 (fun k : Nat => ⟨tmsF [(1, .c (.ro ks.length 1 (acL (ksE ks)))), (2, .c (.pt 2 0)), (5, .c (.v (.string (joinT (textS f) ByteArray.empty (l.take k))))), (28, .c (.ro l.length 3 (acL l))), (29, .c (.v (.int .i64 l.length))), (30, .c (.v (.int .i64 k)))], hpsF [(2, 2, ⟨86, 0, 0, true, [.v (.int .i64 4), .v (.string x1), .ro l.length 3 (acL l)]⟩)], 0, [2], 98⟩)
        (fun N k => k + N = l.length) l.length 0 (by omega) ?_ ?_
      · (refine zo2 _ _ rfl rfl ?_ ?_ <;> (repeat' (first | exact TmOk.nil | exact RwOk.nil | refine TmOk.cons ?_ ?_ | refine RwOk.cons ?_ ?_ | rfl | (refine rnV_id' rfl ?_; (first | rfl | (simp [cloV, cloL, clo, zj, zf, zk, zg, zd]; done))) | (refine zd3 ?_; first | rfl | omega | (rw [zb2 (by omega) (by omega)]; omega)) | (refine zi2 rfl ?_; (first | rfl | (simp [cloV, cloL, clo, zj, zf, zk, zg, zd]; done))) | exact zj4 rfl rfl | (refine ze3 (by rfl) (by rfl) ?_ ?_ <;> (first | rfl | (simp [cloV, cloL, clo, zj, zf, zk, zg, zd]; done))) | (refine rw_rn' rfl rfl ?_; simp; done))))
      rintro N k hN
      repeat' (first | ((apply f_wo); first | ((apply f_mv); first | refine zg1 (v := .c _) ?_ | refine za ?_) | ((apply f_as); first | refine zf1 (v := .c _) ?_ | refine za ?_) | ((apply f_fa); first | refine n_fa ?_ | refine zk1 ?_) | ((apply f_ld); first | refine zp1 ?_ | refine zb1 ?_ | refine zw ?_ | refine zi1 ?_ | refine n_ld ?_) | ((apply f_bi); first | refine zd1 ?_ | refine zc1 ?_ | refine ze1 ?_ | refine zq2 ?_ | refine zq2 (hnu := zl _) ?_ | refine zv1 ?_ | refine zv1 (hnu := zl _) ?_ | refine za ?_) | ((apply f_st); first | refine n_st ?_ | refine zt1 ?_) | ((apply f_ia); first | refine n_ix ?_ | refine zc2 ?_ | refine za ?_) | ((apply zz1); first | refine za1 ?_ | refine za ?_) | ((apply za2); first | refine zq ?_ | refine za ?_) | ((apply zs1); first | refine zo ?_ | refine zr1 ?_ | refine za ?_) | refine n_al ?_ | refine n_bo ?_ | refine n_bs ?_ | refine za ?_) | ((apply f_w); first | refine zy ?_ | refine zc ?_) | refine zb fun C => ?_ | refine zn ?_ | refine ze ?_ | refine zh ?_ | refine zi ?_)
      refine zt (by rfl) (fun hk1 => ?_) fun hk1 => ?_
      · have hk' : k < l.length := by simpa using hk1
        obtain ⟨x, hx⟩ : ∃ x, l[k]? = some x := ⟨_, List.getElem?_eq_getElem hk'⟩
        have hxm := List.mem_of_getElem? hx
        have hxt := gx2.1 x hxm
        have hxz := E.szL_mem hxm
        have c2 := ih x hxt (by omega) (hkid x hxm) [5] (by simp) (by simp)
        rw [withK5] at c2
        have hgk := gx2.2
        have hz1 := zd7 (b := ByteArray.empty) hxs k (by omega)
        have hz2 := zu16 (hxs x hxm)
        have e0 : ByteArray.empty.size = 0 := rfl
        rw [e0] at hz1
        have e := zk15 (textS f) hx
        obtain ⟨y0, y1, y2A, y2c, y2l, rfl, gy0, gy1, gy2, -⟩ := zq1 hxt
        repeat' (first | ((apply f_wo); first | ((apply f_mv); first | refine zg1 (v := .c _) ?_ | refine za ?_) | ((apply f_as); first | refine zf1 (v := .c _) ?_ | refine za ?_) | ((apply f_fa); first | refine n_fa ?_ | refine zk1 ?_) | ((apply f_ld); first | refine zp1 ?_ | refine zb1 ?_ | refine zw ?_ | refine zi1 ?_ | refine n_ld ?_) | ((apply f_ca); first | refine zr2 (c2) ?_ | refine zp2 (c2) ?_) | ((apply f_bi); first | refine zd1 ?_ | refine zc1 ?_ | refine ze1 ?_ | refine zq2 ?_ | refine zq2 (hnu := zl _) ?_ | refine zv1 ?_ | refine zv1 (hnu := zl _) ?_ | refine za ?_) | ((apply f_st); first | refine n_st ?_ | refine zt1 ?_) | ((apply f_ia); first | refine n_ix ?_ | refine zc2 ?_ | refine za ?_) | ((apply zz1); first | refine za1 ?_ | refine za ?_) | ((apply za2); first | refine zq ?_ | refine za ?_) | ((apply zs1); first | refine zo ?_ | refine zr1 ?_ | refine za ?_) | refine n_al ?_ | refine n_bo ?_ | refine n_bs ?_ | refine za ?_) | ((apply f_w); first | refine zy ?_ | refine zc ?_) | refine zb fun C => ?_ | refine zn ?_ | refine ze ?_ | refine zh ?_ | refine zi ?_ | (refine zt (by rfl) ?_ ?_ <;> intro hC <;> (try cases hC)))
        refine ⟨N - 1, k + 1, by omega, by omega, ?_⟩
        rw [e]
        (refine zo2 _ _ rfl rfl ?_ ?_ <;> (repeat' (first | exact TmOk.nil | exact RwOk.nil | refine TmOk.cons ?_ ?_ | refine RwOk.cons ?_ ?_ | rfl | (refine rnV_id' rfl ?_; (first | rfl | (simp [cloV, cloL, clo, zj, zf, zk, zg, zd]; done))) | (refine zd3 ?_; first | rfl | omega | (rw [zb2 (by omega) (by omega)]; omega)) | (refine zi2 rfl ?_; (first | rfl | (simp [cloV, cloL, clo, zj, zf, zk, zg, zd]; done))) | exact zj4 rfl rfl | (refine ze3 (by rfl) (by rfl) ?_ ?_ <;> (first | rfl | (simp [cloV, cloL, clo, zj, zf, zk, zg, zd]; done))) | (refine rw_rn' rfl rfl ?_; simp; done))))
      · have hk' : ¬ k < l.length := by simpa using hk1
        rw [List.take_of_length_le (by omega)]
        have hz1 := zd7 (b := ByteArray.empty) hxs l.length (by omega)
        rw [List.take_length] at hz1
        have e0 : ByteArray.empty.size = 0 := rfl
        rw [e0] at hz1
        repeat' (first | ((apply f_wo); first | ((apply f_mv); first | refine zg1 (v := .c _) ?_ | refine za ?_) | ((apply f_as); first | refine zf1 (v := .c _) ?_ | refine za ?_) | ((apply f_fa); first | refine n_fa ?_ | refine zk1 ?_) | ((apply f_ld); first | refine zp1 ?_ | refine zb1 ?_ | refine zw ?_ | refine zi1 ?_ | refine n_ld ?_) | ((apply f_ca); first | refine zr2 (c1) ?_ | refine zp2 (c1) ?_) | ((apply f_bi); first | refine zd1 ?_ | refine zc1 ?_ | refine ze1 ?_ | refine zq2 ?_ | refine zq2 (hnu := zl _) ?_ | refine zv1 ?_ | refine zv1 (hnu := zl _) ?_ | refine za ?_) | ((apply f_st); first | refine n_st ?_ | refine zt1 ?_) | ((apply f_ia); first | refine n_ix ?_ | refine zc2 ?_ | refine za ?_) | ((apply zz1); first | refine za1 ?_ | refine za ?_) | ((apply za2); first | refine zq ?_ | refine za ?_) | ((apply zs1); first | refine zo ?_ | refine zr1 ?_ | refine za ?_) | refine n_al ?_ | refine n_bo ?_ | refine n_bs ?_ | refine za ?_) | ((apply f_w); first | refine zy ?_ | refine zc ?_) | refine zb fun C => ?_ | refine zn ?_ | refine ze ?_ | refine zh ?_ | refine zi ?_ | (refine zt (by rfl) ?_ ?_ <;> intro hC <;> (try cases hC)))
        all_goals
          refine zu ?_
          refine ret0 rfl zn2 ⟨?_, rfl⟩
          unfold withK; rw [hC]; rfl
    case inr.inr.inr.inl.inr =>
      have hte : textS (f + 1) (E.agg [E.int .i64 5, E.str x1, E.lst 3 86 x2A x2c l]) = joinT (textS f) ⟨#[124]⟩ l := rfl
      rw [hte]
      have hk5 : ∀ x ∈ l, x.rk ≠ 5 := fun x hx hx5 => by
        have hno' : (l.any fun x => x.rk == 5) = false := by simpa using hno
        rw [List.any_eq_false] at hno'
        exact hno' x hx (by simp [hx5])
      repeat' (first | ((apply f_wo); first | ((apply f_mv); first | refine zg1 (v := .c _) ?_ | refine za ?_) | ((apply f_as); first | refine zf1 (v := .c _) ?_ | refine za ?_) | ((apply f_fa); first | refine n_fa ?_ | refine zk1 ?_) | ((apply f_ld); first | refine zp1 ?_ | refine zb1 ?_ | refine zw ?_ | refine zi1 ?_ | refine n_ld ?_) | ((apply f_bi); first | refine zd1 ?_ | refine zc1 ?_ | refine ze1 ?_ | refine zq2 ?_ | refine zq2 (hnu := zl _) ?_ | refine zv1 ?_ | refine zv1 (hnu := zl _) ?_ | refine za ?_) | ((apply f_st); first | refine n_st ?_ | refine zt1 ?_) | ((apply f_ia); first | refine n_ix ?_ | refine zc2 ?_ | refine za ?_) | ((apply zz1); first | refine za1 ?_ | refine za ?_) | ((apply za2); first | refine zq ?_ | refine za ?_) | ((apply zs1); first | refine zo ?_ | refine zr1 ?_ | refine za ?_) | refine n_al ?_ | refine n_bo ?_ | refine n_bs ?_ | refine za ?_) | ((apply f_w); first | refine zy ?_ | refine zc ?_) | refine zb fun C => ?_ | refine zn ?_ | refine ze ?_ | refine zh ?_ | refine zi ?_)
      iterate 12
        (first
          | refine zt (by rfl) (fun hC => Bool.noConfusion (show false = true from hC)) fun hC => ?_
          | refine zt (by rfl) (fun hC => ?_) fun hC => Bool.noConfusion (show true = false from hC)
          | skip) <;> repeat' (first | ((apply f_wo); first | ((apply f_mv); first | refine zg1 (v := .c _) ?_ | refine za ?_) | ((apply f_as); first | refine zf1 (v := .c _) ?_ | refine za ?_) | ((apply f_fa); first | refine n_fa ?_ | refine zk1 ?_) | ((apply f_ld); first | refine zp1 ?_ | refine zb1 ?_ | refine zw ?_ | refine zi1 ?_ | refine n_ld ?_) | ((apply f_bi); first | refine zd1 ?_ | refine zc1 ?_ | refine ze1 ?_ | refine zq2 ?_ | refine zq2 (hnu := zl _) ?_ | refine zv1 ?_ | refine zv1 (hnu := zl _) ?_ | refine za ?_) | ((apply f_st); first | refine n_st ?_ | refine zt1 ?_) | ((apply f_ia); first | refine n_ix ?_ | refine zc2 ?_ | refine za ?_) | ((apply zz1); first | refine za1 ?_ | refine za ?_) | ((apply za2); first | refine zq ?_ | refine za ?_) | ((apply zs1); first | refine zo ?_ | refine zr1 ?_ | refine za ?_) | refine n_al ?_ | refine n_bo ?_ | refine n_bs ?_ | refine za ?_) | ((apply f_w); first | refine zy ?_ | refine zc ?_) | refine zb fun C => ?_ | refine zn ?_ | refine ze ?_ | refine zh ?_ | refine zi ?_)
      refine zp3 (fun k : Nat => ⟨tmsF [(1, .c (.ro ks.length 1 (acL (ksE ks)))), (2, .c (.pt 2 0)), (8, .c (.sl 9 k)), (43, .c (.ro l.length 3 (acL l))), (44, .c (.v (.int .i64 l.length))), (45, .c (.v (.int .i64 k)))], hpsF [(2, 2, ⟨86, 0, 0, true, [.v (.int .i64 5), .v (.string x1), .ro l.length 3 (acL l)]⟩), (9, 9, ⟨9, 1, k, false, owL (tlE (textS f) (l.take k))⟩)], 0, [2, 9], 98⟩)
        (fun N k => k + N = l.length) l.length 0 (by omega) ?_ ?_
      · refine (g_nilT 9 (t := 8) 9 1 rfl rfl).trans ?_
        (refine zo2 _ _ rfl rfl ?_ ?_ <;> (repeat' (first | exact TmOk.nil | exact RwOk.nil | refine TmOk.cons ?_ ?_ | refine RwOk.cons ?_ ?_ | rfl | (refine rnV_id' rfl ?_; (first | rfl | (simp [cloV, cloL, clo, zj, zf, zk, zg, zd]; done))) | (refine zd3 ?_; first | rfl | omega | (rw [zb2 (by omega) (by omega)]; omega)) | (refine zi2 rfl ?_; (first | rfl | (simp [cloV, cloL, clo, zj, zf, zk, zg, zd]; done))) | exact zj4 rfl rfl | (refine ze3 (by rfl) (by rfl) ?_ ?_ <;> (first | rfl | (simp [cloV, cloL, clo, zj, zf, zk, zg, zd]; done))) | (refine rw_rn' rfl rfl ?_; simp; done))))
      rintro N k hN
      repeat' (first | ((apply f_wo); first | ((apply f_mv); first | refine zg1 (v := .c _) ?_ | refine za ?_) | ((apply f_as); first | refine zf1 (v := .c _) ?_ | refine za ?_) | ((apply f_fa); first | refine n_fa ?_ | refine zk1 ?_) | ((apply f_ld); first | refine zp1 ?_ | refine zb1 ?_ | refine zw ?_ | refine zi1 ?_ | refine n_ld ?_) | ((apply f_bi); first | refine zd1 ?_ | refine zc1 ?_ | refine ze1 ?_ | refine zq2 ?_ | refine zq2 (hnu := zl _) ?_ | refine zv1 ?_ | refine zv1 (hnu := zl _) ?_ | refine za ?_) | ((apply f_st); first | refine n_st ?_ | refine zt1 ?_) | ((apply f_ia); first | refine n_ix ?_ | refine zc2 ?_ | refine za ?_) | ((apply zz1); first | refine za1 ?_ | refine za ?_) | ((apply za2); first | refine zq ?_ | refine za ?_) | ((apply zs1); first | refine zo ?_ | refine zr1 ?_ | refine za ?_) | refine n_al ?_ | refine n_bo ?_ | refine n_bs ?_ | refine za ?_) | ((apply f_w); first | refine zy ?_ | refine zc ?_) | refine zb fun C => ?_ | refine zn ?_ | refine ze ?_ | refine zh ?_ | refine zi ?_)
      refine zt (by rfl) (fun hk1 => ?_) fun hk1 => ?_
      · have hk' : k < l.length := by simpa using hk1
        obtain ⟨x, hx⟩ : ∃ x, l[k]? = some x := ⟨_, List.getElem?_eq_getElem hk'⟩
        have hxm := List.mem_of_getElem? hx
        have hxt := gx2.1 x hxm
        have hxz := E.szL_mem hxm
        have c2 := ih x hxt (by omega) (hkid x hxm) [] (by simp) (by simp)
        rw [withK0] at c2
        have c3 := zh21 c2 (ins' := [.ag (acE x), .c (.v (.slice none 0 0))]) fun w St φ K us h => by
          simp only [VRL] at h ⊢
          obtain ⟨u, us', rfl, h1, u2, us2, rfl, h2, h3⟩ := h
          exact ⟨u, _, rfl, h1, u2, us2, rfl, nil_ro h2, h3⟩
        have hgk := gx2.2
        have e := zv16 (textS f) hx
        obtain ⟨y0, y1, y2A, y2c, y2l, rfl, gy0, gy1, gy2, -⟩ := zq1 hxt
        repeat' (first | ((apply f_wo); first | ((apply f_mv); first | refine zg1 (v := .c _) ?_ | refine za ?_) | ((apply f_as); first | refine zf1 (v := .c _) ?_ | refine za ?_) | ((apply f_fa); first | refine n_fa ?_ | refine zk1 ?_) | ((apply f_ld); first | refine zp1 ?_ | refine zb1 ?_ | refine zw ?_ | refine zi1 ?_ | refine n_ld ?_) | ((apply f_ca); first | refine zr2 (c3) ?_ | refine zp2 (c3) ?_) | ((apply f_bi); first | refine zd1 ?_ | refine zc1 ?_ | refine ze1 ?_ | refine zq2 ?_ | refine zq2 (hnu := zl _) ?_ | refine zv1 ?_ | refine zv1 (hnu := zl _) ?_ | refine za ?_) | ((apply f_st); first | refine n_st ?_ | refine zt1 ?_) | ((apply f_ia); first | refine n_ix ?_ | refine zc2 ?_ | refine za ?_) | ((apply zz1); first | refine za1 ?_ | refine za ?_) | ((apply za2); first | refine zq ?_ | refine za ?_) | ((apply zs1); first | refine zo ?_ | refine zr1 ?_ | refine za ?_) | refine n_al ?_ | refine n_bo ?_ | refine n_bs ?_ | refine za ?_) | ((apply f_w); first | refine zy ?_ | refine zc ?_) | refine zb fun C => ?_ | refine zn ?_ | refine ze ?_ | refine zh ?_ | refine zi ?_ | (refine zt (by rfl) ?_ ?_ <;> intro hC <;> (try cases hC)))
        refine ⟨N - 1, k + 1, by omega, by omega, ?_⟩
        rw [e]
        (refine zm7 (fun j => if j = 9 then 53 else j) _ _ rfl rfl ?_ ?_ <;> (repeat' (first | exact TmOk.nil | exact RwOk.nil | refine TmOk.cons ?_ ?_ | refine RwOk.cons ?_ ?_ | rfl | (refine rnV_id' rfl ?_; (first | rfl | (simp [cloV, cloL, clo, zj, zf, zk, zg, zd]; done))) | (refine zd3 ?_; first | rfl | omega | (rw [zb2 (by omega) (by omega)]; omega)) | (refine zi2 rfl ?_; (first | rfl | (simp [cloV, cloL, clo, zj, zf, zk, zg, zd]; done))) | exact zj4 rfl rfl | (refine ze3 (by rfl) (by rfl) ?_ ?_ <;> (first | rfl | (simp [cloV, cloL, clo, zj, zf, zk, zg, zd]; done))) | (refine rw_rn' rfl rfl ?_; simp; done))))
        exact za20 (r := ⟨9, 1, k + 1, false, owL (tlE (textS f) (l.take k)) ++ [.v (.string (textS f (E.agg [E.int .i64 y0, E.str y1, E.lst 3 86 y2A y2c y2l])))]⟩) rfl (by rw [zd8]; rfl) (by first | rfl | (simp [cloV, cloL, clo, zj, zf, zk, zg, zd]; done))
      · have hk' : ¬ k < l.length := by simpa using hk1
        obtain rfl : k = l.length := by omega
        have hz1 := zd7 (b := ⟨#[124]⟩) hxs l.length (by omega)
        have hj := joinB_tl (textS f) ⟨#[124]⟩ hk5 l.length (by omega)
        rw [List.take_length] at hz1 hj ⊢
        have e0 : (ByteArray.mk #[124]).size = 1 := rfl
        rw [e0] at hz1
        have hql : (tlE (textS f) l).length = l.length := zi21 _ _
        have c4 := join_c (l := tlE (textS f) l) (fun e he => by obtain ⟨y, _, rfl⟩ := List.mem_map.1 he; exact ⟨_, rfl⟩) ⟨#[124]⟩ (by omega) (by rw [hj]; omega)
        rw [hql, hj] at c4
        repeat' (first | ((apply f_wo); first | ((apply f_mv); first | refine zg1 (v := .c _) ?_ | refine za ?_) | ((apply f_as); first | refine zf1 (v := .c _) ?_ | refine za ?_) | ((apply f_fa); first | refine n_fa ?_ | refine zk1 ?_) | ((apply f_ld); first | refine zp1 ?_ | refine zb1 ?_ | refine zw ?_ | refine zi1 ?_ | refine n_ld ?_) | ((apply f_ca); first | refine zr2 (c4) ?_ | refine zp2 (c4) ?_ | refine zr2 (c1) ?_ | refine zp2 (c1) ?_) | ((apply f_bi); first | refine zd1 ?_ | refine zc1 ?_ | refine ze1 ?_ | refine zq2 ?_ | refine zq2 (hnu := zl _) ?_ | refine zv1 ?_ | refine zv1 (hnu := zl _) ?_ | refine za ?_) | ((apply f_st); first | refine n_st ?_ | refine zt1 ?_) | ((apply f_ia); first | refine n_ix ?_ | refine zc2 ?_ | refine za ?_) | ((apply zz1); first | refine za1 ?_ | refine za ?_) | ((apply za2); first | refine zq ?_ | refine za ?_) | ((apply zs1); first | refine zo ?_ | refine zr1 ?_ | refine za ?_) | refine n_al ?_ | refine n_bo ?_ | refine n_bs ?_ | refine za ?_) | ((apply f_w); first | refine zy ?_ | refine zc ?_) | refine zb fun C => ?_ | refine zn ?_ | refine ze ?_ | refine zh ?_ | refine zi ?_ | (refine zt (by rfl) ?_ ?_ <;> intro hC <;> (try cases hC)))
        all_goals
          refine zu ?_
          refine ret0 rfl zn2 ⟨?_, rfl⟩
          unfold withK; rw [hC]; rfl
    case inr.inr.inr.inr.inl =>
      subst h3
      have hym : y ∈ [y] := List.mem_singleton.2 rfl
      have hyt := gx2.1 y hym
      have hyz := E.szL_mem hym
      have hte : textS (f + 1) (E.agg [E.int .i64 6, E.str x1, E.lst 3 86 x2A x2c [y]]) = oneT (textS f) y ++ ⟨#[42]⟩ := rfl
      rw [hte]
      have c2 := ih y hyt (by omega) (hkid y hym) [4, 5] (by simp) (by simp)
      rw [zj15] at c2
      have hgk := gx2.2
      have hz2 := zx7 (hxs y hym)
      have hy0 : [y][0]? = some y := rfl
      obtain ⟨y0, y1, y2A, y2c, y2l, rfl, gy0, gy1, gy2, -⟩ := zq1 hyt
      repeat' (first | ((apply f_wo); first | ((apply f_mv); first | refine zg1 (v := .c _) ?_ | refine za ?_) | ((apply f_as); first | refine zf1 (v := .c _) ?_ | refine za ?_) | ((apply f_fa); first | refine n_fa ?_ | refine zk1 ?_) | ((apply f_ld); first | refine zp1 ?_ | refine zb1 ?_ | refine zw ?_ | refine zi1 ?_ | refine n_ld ?_) | ((apply f_ca); first | refine zr2 (c2) ?_ | refine zp2 (c2) ?_ | refine zr2 (c1) ?_ | refine zp2 (c1) ?_) | ((apply f_bi); first | refine zd1 ?_ | refine zc1 ?_ | refine ze1 ?_ | refine zq2 ?_ | refine zq2 (hnu := zl _) ?_ | refine zv1 ?_ | refine zv1 (hnu := zl _) ?_ | refine za ?_) | ((apply f_st); first | refine n_st ?_ | refine zt1 ?_) | ((apply f_ia); first | refine n_ix ?_ | refine zc2 ?_ | refine za ?_) | ((apply zz1); first | refine za1 ?_ | refine za ?_) | ((apply za2); first | refine zq ?_ | refine za ?_) | ((apply zs1); first | refine zo ?_ | refine zr1 ?_ | refine za ?_) | refine n_al ?_ | refine n_bo ?_ | refine n_bs ?_ | refine za ?_) | ((apply f_w); first | refine zy ?_ | refine zc ?_) | refine zb fun C => ?_ | refine zn ?_ | refine ze ?_ | refine zh ?_ | refine zi ?_ | (refine zt (by rfl) ?_ ?_ <;> intro hC <;> (try cases hC)))
      all_goals
        refine zu ?_
        refine ret0 rfl zn2 ⟨?_, rfl⟩
        unfold withK; rw [hC]; rfl
    case inr.inr.inr.inr.inr.inl =>
      subst h3
      have hym : y ∈ [y] := List.mem_singleton.2 rfl
      have hyt := gx2.1 y hym
      have hyz := E.szL_mem hym
      have hte : textS (f + 1) (E.agg [E.int .i64 7, E.str x1, E.lst 3 86 x2A x2c [y]]) = oneT (textS f) y ++ ⟨#[43]⟩ := rfl
      rw [hte]
      have c2 := ih y hyt (by omega) (hkid y hym) [4, 5] (by simp) (by simp)
      rw [zj15] at c2
      have hgk := gx2.2
      have hz2 := zx7 (hxs y hym)
      have hy0 : [y][0]? = some y := rfl
      obtain ⟨y0, y1, y2A, y2c, y2l, rfl, gy0, gy1, gy2, -⟩ := zq1 hyt
      repeat' (first | ((apply f_wo); first | ((apply f_mv); first | refine zg1 (v := .c _) ?_ | refine za ?_) | ((apply f_as); first | refine zf1 (v := .c _) ?_ | refine za ?_) | ((apply f_fa); first | refine n_fa ?_ | refine zk1 ?_) | ((apply f_ld); first | refine zp1 ?_ | refine zb1 ?_ | refine zw ?_ | refine zi1 ?_ | refine n_ld ?_) | ((apply f_ca); first | refine zr2 (c2) ?_ | refine zp2 (c2) ?_ | refine zr2 (c1) ?_ | refine zp2 (c1) ?_) | ((apply f_bi); first | refine zd1 ?_ | refine zc1 ?_ | refine ze1 ?_ | refine zq2 ?_ | refine zq2 (hnu := zl _) ?_ | refine zv1 ?_ | refine zv1 (hnu := zl _) ?_ | refine za ?_) | ((apply f_st); first | refine n_st ?_ | refine zt1 ?_) | ((apply f_ia); first | refine n_ix ?_ | refine zc2 ?_ | refine za ?_) | ((apply zz1); first | refine za1 ?_ | refine za ?_) | ((apply za2); first | refine zq ?_ | refine za ?_) | ((apply zs1); first | refine zo ?_ | refine zr1 ?_ | refine za ?_) | refine n_al ?_ | refine n_bo ?_ | refine n_bs ?_ | refine za ?_) | ((apply f_w); first | refine zy ?_ | refine zc ?_) | refine zb fun C => ?_ | refine zn ?_ | refine ze ?_ | refine zh ?_ | refine zi ?_ | (refine zt (by rfl) ?_ ?_ <;> intro hC <;> (try cases hC)))
      all_goals
        refine zu ?_
        refine ret0 rfl zn2 ⟨?_, rfl⟩
        unfold withK; rw [hC]; rfl
    case inr.inr.inr.inr.inr.inr =>
      subst h3
      have hym : y ∈ [y] := List.mem_singleton.2 rfl
      have hyt := gx2.1 y hym
      have hyz := E.szL_mem hym
      have hte : textS (f + 1) (E.agg [E.int .i64 8, E.str x1, E.lst 3 86 x2A x2c [y]]) = oneT (textS f) y ++ ⟨#[63]⟩ := rfl
      rw [hte]
      have c2 := ih y hyt (by omega) (hkid y hym) [4, 5] (by simp) (by simp)
      rw [zj15] at c2
      have hgk := gx2.2
      have hz2 := zx7 (hxs y hym)
      have hy0 : [y][0]? = some y := rfl
      obtain ⟨y0, y1, y2A, y2c, y2l, rfl, gy0, gy1, gy2, -⟩ := zq1 hyt
      repeat' (first | ((apply f_wo); first | ((apply f_mv); first | refine zg1 (v := .c _) ?_ | refine za ?_) | ((apply f_as); first | refine zf1 (v := .c _) ?_ | refine za ?_) | ((apply f_fa); first | refine n_fa ?_ | refine zk1 ?_) | ((apply f_ld); first | refine zp1 ?_ | refine zb1 ?_ | refine zw ?_ | refine zi1 ?_ | refine n_ld ?_) | ((apply f_ca); first | refine zr2 (c2) ?_ | refine zp2 (c2) ?_ | refine zr2 (c1) ?_ | refine zp2 (c1) ?_) | ((apply f_bi); first | refine zd1 ?_ | refine zc1 ?_ | refine ze1 ?_ | refine zq2 ?_ | refine zq2 (hnu := zl _) ?_ | refine zv1 ?_ | refine zv1 (hnu := zl _) ?_ | refine za ?_) | ((apply f_st); first | refine n_st ?_ | refine zt1 ?_) | ((apply f_ia); first | refine n_ix ?_ | refine zc2 ?_ | refine za ?_) | ((apply zz1); first | refine za1 ?_ | refine za ?_) | ((apply za2); first | refine zq ?_ | refine za ?_) | ((apply zs1); first | refine zo ?_ | refine zr1 ?_ | refine za ?_) | refine n_al ?_ | refine n_bo ?_ | refine n_bs ?_ | refine za ?_) | ((apply f_w); first | refine zy ?_ | refine zc ?_) | refine zb fun C => ?_ | refine zn ?_ | refine ze ?_ | refine zh ?_ | refine zi ?_ | (refine zt (by rfl) ?_ ?_ <;> intro hC <;> (try cases hC)))
      all_goals
        refine zu ?_
        refine ret0 rfl zn2 ⟨?_, rfl⟩
        unfold withK; rw [hC]; rfl
theorem zs12 {e : E} (he : e.Ty Try.prog 86) (hsz : e.sz ≤ 4194304) : Ctr Try.prog 81 [.ag (acE e)] [] (.c (.v (.string (rexT e)))) [] := by
  have c1 := zm10 he hsz
  cases hr : rexOkI e with
  | false =>
    have hres : rexT e = ByteArray.empty := by unfold rexT; rw [hr]; rfl
    rw [hres]
    rw [hr] at c1
    clear hres hr
    obtain ⟨x0, x1, x2A, x2c, l, rfl, gx0, gx1, gx2, -⟩ := zq1 he
    refine zm2 Try.func81 rfl rfl ?_
    repeat' (first | ((apply f_wo); first | ((apply f_as); first | refine zf1 (v := .c _) ?_ | refine za ?_) | ((apply f_ld); first | refine zw ?_ | refine zi1 ?_ | refine n_ld ?_) | ((apply f_ca); first | refine zr2 (c1) ?_ | refine zp2 (c1) ?_) | ((apply f_no); first | refine zj2 ?_ | refine za ?_) | refine n_bo ?_ | refine za ?_) | ((apply f_w); first | refine zy ?_ | refine zc ?_) | refine zb fun C => ?_ | refine zn ?_ | refine ze ?_ | refine zh ?_ | refine zi ?_ | (refine zt (by rfl) ?_ ?_ <;> intro hC <;> (try cases hC)))
    refine zu ?_
    exact ret0 rfl zn2 ⟨rfl, rfl⟩
  | true =>
    have hres : rexT e = textS 6 e := by unfold rexT; rw [hr]; rfl
    rw [hres]
    have hp : partsI 6 e ≤ 60 := by unfold rexOkI at hr; simpa using hr
    have c2 := zj21 6 e he hsz hp [] (by simp) (by simp)
    rw [withK0] at c2
    have c3 := zh21 c2 (ins' := [.ag (acE e), .c (.v (.slice none 0 0))]) fun w St φ K us h => by
      simp only [VRL] at h ⊢
      obtain ⟨u, us', rfl, h1, u2, us2, rfl, h2, h3⟩ := h
      exact ⟨u, _, rfl, h1, u2, us2, rfl, nil_ro h2, h3⟩
    rw [hr] at c1
    clear hres hr c2 hp
    obtain ⟨x0, x1, x2A, x2c, l, rfl, gx0, gx1, gx2, -⟩ := zq1 he
    refine zm2 Try.func81 rfl rfl ?_
    repeat' (first | ((apply f_wo); first | ((apply f_as); first | refine zf1 (v := .c _) ?_ | refine za ?_) | ((apply f_ld); first | refine zw ?_ | refine zi1 ?_ | refine n_ld ?_) | ((apply f_ca); first | refine zr2 (c1) ?_ | refine zp2 (c1) ?_ | refine zr2 (c3) ?_ | refine zp2 (c3) ?_) | ((apply f_no); first | refine zj2 ?_ | refine za ?_) | refine n_bo ?_ | refine za ?_) | ((apply f_w); first | refine zy ?_ | refine zc ?_) | refine zb fun C => ?_ | refine zn ?_ | refine ze ?_ | refine zh ?_ | refine zi ?_ | (refine zt (by rfl) ?_ ?_ <;> intro hC <;> (try cases hC)))
    refine zu ?_
    exact ret0 rfl zn2 ⟨rfl, rfl⟩
def rdrI (s : ByteArray) (p : PS) : List AC := [.v (.string s), .v (.int .i64 (p.a : Int)), .v (.int .i64 (p.d : Int)), .v (.bool p.b)]
theorem zt11 {s : ByteArray} (hs : s.size ≤ 1048576) {p : PS} : Ctr Try.prog 91 [.c (.pt 0 0)] [rdrI s p] (.c (.v (.int .u8 (bAt s p.a : Int)))) [rdrI s p] := by
  obtain ⟨a, d, b⟩ := p
  refine zm2 Try.func91 rfl rfl ?_
  unfold rdrI
  dsimp only
  repeat' (first | ((apply f_wo); first | ((apply f_mv); first | refine zg1 (v := .c _) ?_ | refine za ?_) | ((apply f_as); first | refine zf1 (v := .c _) ?_ | refine za ?_) | ((apply f_fa); first | refine n_fa ?_ | refine zk1 ?_) | ((apply f_ld); first | refine zp1 ?_ | refine zb1 ?_ | refine n_ld ?_) | ((apply f_bi); first | refine zd1 ?_ | refine zc1 ?_ | refine ze1 ?_ | refine za ?_) | ((apply zs3); first | refine zo1 ?_ | refine za ?_) | refine zx3 ?_ | refine za ?_) | ((apply f_w); first | refine zy ?_ | refine zc ?_) | ((apply d_wo); first | ((apply d_mv); refine zr ?_) | ((apply d_as); refine zr ?_) | ((apply d_fa); first | refine o_fa ?_ | refine zb4 ?_) | ((apply d_ld); first | refine zc4 ?_ | refine zz2 ?_ | refine za3 ?_ | refine zd4 ?_ | refine zr ?_ | refine o_ld ?_) | ((apply d_bi); first | refine zn3 ?_ | refine zm3 ?_ | refine zo3 ?_ | refine zw2 ?_ | refine zw2 (hnu := zl _) ?_ | refine zx1 ?_ | refine zx1 (hnu := zl _) ?_ | refine zr ?_) | ((apply d_bb); first | refine zl1 ?_ | refine zm1 ?_ | refine zn1 ?_ | refine zw3 ?_ | refine zr ?_) | refine zo4 ?_ | refine zr ?_) | ((apply d_w); first | refine zy ?_ | refine zc ?_) | refine zb fun C => ?_ | refine zp (by kernel_rfl) (by kernel_rfl) fun C => ?_ | refine zn ?_ | refine ze ?_ | refine zh ?_ | refine zi ?_)
  refine zt (by rfl) (fun hC => ?_) fun hC => ?_
  · repeat' (first | ((apply f_wo); first | ((apply f_mv); first | refine zg1 (v := .c _) ?_ | refine za ?_) | ((apply f_as); first | refine zf1 (v := .c _) ?_ | refine za ?_) | ((apply f_fa); first | refine n_fa ?_ | refine zk1 ?_) | ((apply f_ld); first | refine zp1 ?_ | refine zb1 ?_ | refine n_ld ?_) | ((apply f_bi); first | refine zd1 ?_ | refine zc1 ?_ | refine ze1 ?_ | refine za ?_) | ((apply zs3); first | refine zo1 ?_ | refine za ?_) | refine zx3 ?_ | refine za ?_) | ((apply f_w); first | refine zy ?_ | refine zc ?_) | ((apply d_wo); first | ((apply d_mv); refine zr ?_) | ((apply d_as); refine zr ?_) | ((apply d_fa); first | refine o_fa ?_ | refine zb4 ?_) | ((apply d_ld); first | refine zc4 ?_ | refine zz2 ?_ | refine za3 ?_ | refine zd4 ?_ | refine zr ?_ | refine o_ld ?_) | ((apply d_bi); first | refine zn3 ?_ | refine zm3 ?_ | refine zo3 ?_ | refine zw2 ?_ | refine zw2 (hnu := zl _) ?_ | refine zx1 ?_ | refine zx1 (hnu := zl _) ?_ | refine zr ?_) | ((apply d_bb); first | refine zl1 ?_ | refine zm1 ?_ | refine zn1 ?_ | refine zw3 ?_ | refine zr ?_) | refine zo4 ?_ | refine zr ?_) | ((apply d_w); first | refine zy ?_ | refine zc ?_) | refine zb fun C => ?_ | refine zp (by kernel_rfl) (by kernel_rfl) fun C => ?_ | refine zn ?_ | refine ze ?_ | refine zh ?_ | refine zi ?_ | (refine zt (by rfl) ?_ ?_ <;> intro hC <;> (try cases hC)))
    refine zu ?_; refine ret1 rfl zn2 rfl (by first | rfl | (simp [cloL, clo, zg, zf, zk, zj, zd]; done)) rfl ⟨?_, ?_⟩
    · rw [zh8 (by simp only [decide_eq_true_iff] at hC; omega)]; rfl
    · rfl
  · have hlt : a < s.size := by simp only [decide_eq_false_iff_not] at hC; omega
    repeat' (first | ((apply f_wo); first | ((apply f_mv); first | refine zg1 (v := .c _) ?_ | refine za ?_) | ((apply f_as); first | refine zf1 (v := .c _) ?_ | refine za ?_) | ((apply f_fa); first | refine n_fa ?_ | refine zk1 ?_) | ((apply f_ld); first | refine zp1 ?_ | refine zb1 ?_ | refine n_ld ?_) | ((apply f_bi); first | refine zd1 ?_ | refine zc1 ?_ | refine ze1 ?_ | refine za ?_) | ((apply zs3); first | refine zo1 ?_ | refine za ?_) | refine zx3 ?_ | refine za ?_) | ((apply f_w); first | refine zy ?_ | refine zc ?_) | ((apply d_wo); first | ((apply d_mv); refine zr ?_) | ((apply d_as); refine zr ?_) | ((apply d_fa); first | refine o_fa ?_ | refine zb4 ?_) | ((apply d_ld); first | refine zc4 ?_ | refine zz2 ?_ | refine za3 ?_ | refine zd4 ?_ | refine zr ?_ | refine o_ld ?_) | ((apply d_bi); first | refine zn3 ?_ | refine zm3 ?_ | refine zo3 ?_ | refine zw2 ?_ | refine zw2 (hnu := zl _) ?_ | refine zx1 ?_ | refine zx1 (hnu := zl _) ?_ | refine zr ?_) | ((apply d_bb); first | refine zl1 ?_ | refine zm1 ?_ | refine zn1 ?_ | refine zw3 ?_ | refine zr ?_) | refine zo4 ?_ | refine zr ?_) | ((apply d_w); first | refine zy ?_ | refine zc ?_) | refine zb fun C => ?_ | refine zp (by kernel_rfl) (by kernel_rfl) fun C => ?_ | refine zn ?_ | refine ze ?_ | refine zh ?_ | refine zi ?_ | (refine zt (by rfl) ?_ ?_ <;> intro hC <;> (try cases hC)))
    refine zu ?_; refine ret1 rfl zn2 rfl (by first | rfl | (simp [cloL, clo, zg, zf, zk, zj, zd]; done)) rfl ⟨?_, ?_⟩
    · rfl
    · rfl
theorem zl15 {s : ByteArray} {a b k : Nat} (hb : b ≤ s.size) : (cutB s a b).data.toList[k]? = if a + k < b then some (UInt8.ofNat (bAt s (a + k))) else none := by
  unfold cutB bAt
  rw [Array.getElem?_toList, ByteArray.data_extract, Array.getElem?_extract]
  have e : s.data.size = s.size := rfl
  by_cases h : a + k < b
  · rw [if_pos h, if_pos (by omega), Array.getElem?_eq_getElem (show a + k < s.data.size by omega), Option.getD_some, UInt8.ofNat_toNat]
  · rw [if_neg h, if_neg (by omega)]
theorem zy7 {s : ByteArray} {c : Nat} : ∀ (f a : Nat), s.size ≤ a + f → a ≤ s.size → a ≤ untB s c f a ∧ untB s c f a ≤ s.size ∧ (∀ j, a ≤ j → j < untB s c f a → bAt s j ≠ c) ∧ (untB s c f a < s.size → bAt s (untB s c f a) = c)
  | 0, a, h, h2 => ⟨Nat.le_refl _, h2, fun j h1 h3 => absurd h3 (by show ¬ j < a; omega), fun h3 => absurd h3 (by show ¬ a < s.size; omega)⟩
  | f + 1, a, h, h2 => by
    unfold untB
    split
    · rename_i h3
      obtain ⟨g1, g2, g3, g4⟩ := zy7 (s := s) (c := c) f (a + 1) (by omega) (by omega)
      refine ⟨by omega, g2, fun j h4 h5 => ?_, g4⟩
      by_cases e : j = a
      · rw [e]; exact h3.2
      · exact g3 j (by omega) h5
    · rename_i h3
      exact ⟨Nat.le_refl _, h2, fun j h4 h5 => by omega, fun h4 => Classical.byContradiction fun h5 => h3 ⟨h4, h5⟩⟩
theorem ofNat_ne {a b : Nat} (ha : a < 256) (hb : b < 256) (h : UInt8.ofNat a = UInt8.ofNat b) : a = b := by
  have := congrArg UInt8.toNat h
  rw [UInt8.toNat_ofNat', UInt8.toNat_ofNat'] at this
  omega
theorem idx_unt {s : ByteArray} {a c : Nat} (ha : a ≤ s.size) (hc : c < 256) : Lib.indexByte (cutB s a s.size).data.toList (UInt8.ofNat c) = if untB s c s.size a < s.size then ((untB s c s.size a - a : Nat) : Int) else -1 := by
  obtain ⟨g1, g2, g3, g4⟩ := zy7 (s := s) (c := c) s.size a (by omega) ha
  have hge := Lib.indexByte_ge (cutB s a s.size).data.toList (UInt8.ofNat c)
  rcases Int.lt_or_le (Lib.indexByte (cutB s a s.size).data.toList (UInt8.ofNat c)) 0 with hn | hn
  · have e : Lib.indexByte (cutB s a s.size).data.toList (UInt8.ofNat c) = -1 := by omega
    rw [e]
    have h0 := Lib.indexByte_none e
    by_cases hu : untB s c s.size a < s.size
    · exfalso
      have h1 := h0 (untB s c s.size a - a)
      rw [zl15 (Nat.le_refl _), if_pos (by omega), show a + (untB s c s.size a - a) = untB s c s.size a by omega, g4 hu] at h1
      exact h1 rfl
    · rw [if_neg hu]
  · obtain ⟨o, ho⟩ : ∃ o : Nat, Lib.indexByte (cutB s a s.size).data.toList (UInt8.ofNat c) = (o : Int) := ⟨_, (Int.toNat_of_nonneg hn).symm⟩
    obtain ⟨h1, h2⟩ := Lib.indexByte_some ho
    rw [zl15 (Nat.le_refl _)] at h1
    by_cases hlt : a + o < s.size
    · rw [if_pos hlt] at h1
      injection h1 with h1
      have h3 := ofNat_ne (zn7 _ _) hc h1
      have h4 : untB s c s.size a = a + o := by
        rcases Nat.lt_trichotomy (untB s c s.size a) (a + o) with h | h | h
        · exfalso
          have h5 := h2 (untB s c s.size a - a) (by omega)
          rw [zl15 (Nat.le_refl _), if_pos (by omega), show a + (untB s c s.size a - a) = untB s c s.size a by omega, g4 (by omega)] at h5
          exact h5 rfl
        · exact h
        · exact absurd h3 (g3 (a + o) (by omega) h)
      rw [ho, h4, if_pos hlt, show a + o - a = o by omega]
    · rw [if_neg hlt] at h1; cases h1
theorem atomI_eq {s : ByteArray} {alt : PS → E × PS} {a d : Nat} {b : Bool} {c : Nat} (hc : bAt s a = c) : atomI s alt ⟨a, d, b⟩ = atomIc s alt c ⟨a + 1, d, b⟩ := by unfold atomI; rw [hc]; rfl
set_option maxHeartbeats 4000000 in
theorem atom_c {s : ByteArray} (hs : s.size ≤ 1048576) {alt : PS → E × PS} {p : PS} (hp : p.a < s.size) (hd : p.d ≤ p.a + 1) (hg : Good s (p.go 1) (alt (p.go 1)) 0 0 1)
    (ha : Ctr Try.prog 79 [.c (.pt 0 0)] [rdrI s (p.go 1)] (.ag (owE (alt (p.go 1)).1)) [rdrI s (alt (p.go 1)).2]) :
    Ctr Try.prog 113 [.c (.pt 0 0)] [rdrI s p] (.ag (owE (atomI s alt p).1)) [rdrI s (atomI s alt p).2] := by
  have hn := zt11 hs (p := p)
  have hn2 := zt11 hs (p := p.go 1)
  obtain ⟨a, d, b⟩ := p
  have hp : a < s.size := hp
  have ha : Ctr Try.prog 79 [.c (.pt 0 0)] [rdrI s ⟨a + 1, d, b⟩] (.ag (owE (alt ⟨a + 1, d, b⟩).1)) [rdrI s (alt ⟨a + 1, d, b⟩).2] := ha
  have hg : Good s ⟨a + 1, d, b⟩ (alt ⟨a + 1, d, b⟩) 0 0 1 := hg
  have hn : Ctr Try.prog 91 [.c (.pt 0 0)] [rdrI s ⟨a, d, b⟩] (.c (.v (.int .u8 (bAt s a : Int)))) [rdrI s ⟨a, d, b⟩] := hn
  have hn2 : Ctr Try.prog 91 [.c (.pt 0 0)] [rdrI s ⟨a + 1, d, b⟩] (.c (.v (.int .u8 (bAt s (a + 1) : Int)))) [rdrI s ⟨a + 1, d, b⟩] := hn2
  obtain ⟨c, hc⟩ : ∃ c, bAt s a = c := ⟨_, rfl⟩
  have hcl : c < 256 := hc ▸ zn7 s a
  rw [atomI_eq hc]
  rw [hc] at hn
  have hl := zl10 hcl
  unfold rdrI at *
  dsimp only at hn hn2 ha ⊢
  refine zm2 Try.func113 rfl rfl ?_
  by_cases h1 : litB c = true
  · rw [h1] at hl
    have hr : atomIc s alt c ⟨a + 1, d, b⟩ = (rexE 1 (oneB c) [], ⟨a + 1, d, b⟩) := if_pos h1
    have hc128 : c < 128 := by
      unfold litB at h1
      simp only [Bool.or_eq_true, Bool.and_eq_true, decide_eq_true_iff, beq_iff_eq] at h1
      omega
    rw [hr]
    repeat' (first | ((apply f_wo); first | ((apply f_gs); first | refine n_sk ?_) | ((apply f_mv); first | (refine zw1 ?_ ?_ <;> intro hG <;> (try cases hG)) | refine zg1 (v := .c _) ?_ | refine za ?_) | ((apply f_as); first | refine zf1 (v := .c _) ?_ | refine za ?_) | ((apply f_fa); first | refine n_fa ?_ | refine zk1 ?_) | ((apply f_ld); first | refine zp1 ?_ | refine zb1 ?_ | refine zw ?_ | refine zi1 ?_ | refine n_ld ?_) | ((apply f_ca); first | refine zl2 0 (hn) ?_ | refine zr2 (hl) ?_ | refine zp2 (hl) ?_) | ((apply f_st); first | refine n_st ?_ | refine zt1 ?_) | ((apply zz1); first | refine zd2 ?_ | refine za ?_) | ((apply zy2); first | refine zy1 ?_ | refine za ?_) | ((apply za2); first | refine zq ?_ | refine za ?_) | ((apply zs1); first | refine zo ?_ | refine zr1 ?_ | refine za ?_) | ((apply f_pk); first | refine zu1 (v := .c _) ?_ | refine za ?_) | ((apply f_cv); first | refine zi7 ?_ | refine zp4 ?_ | refine zj5 ?_ | refine zk5 ?_ | refine za ?_) | refine n_al ?_ | refine zg5 ?_ | refine zh5 ?_ | refine zi5 ?_ | refine za ?_ | refine n_mv ?_) | ((apply f_w); first | refine zy ?_ | refine zc ?_) | ((apply d_wo); first | ((apply d_gs); first | refine o_sk ?_ | refine za4 ?_) | ((apply d_bo); (refine o_gm ?_ ?_ <;> intro hG <;> (try cases hG))) | ((apply d_mv); refine zr ?_) | ((apply d_as); refine zr ?_) | ((apply d_fa); first | refine o_fa ?_ | refine zb4 ?_) | ((apply d_ld); first | refine zc4 ?_ | refine zz2 ?_ | refine za3 ?_ | refine zd4 ?_ | refine zr ?_ | refine o_ld ?_) | ((apply d_ca); first | refine zv4 0 (hn) ?_ | refine zn5 (hl) ?_) | ((apply d_st); first | refine o_st ?_ | refine zq4 ?_) | ((apply d_bb); first | refine zl1 ?_ | refine zm1 ?_ | refine zn1 ?_ | refine zw3 ?_ | refine zr ?_) | ((apply d_cv); first | refine zc3 ?_ | refine zn4 ?_ | refine ze5 ?_ | refine zf5 ?_ | refine zr ?_) | refine o_al ?_ | refine zb5 ?_ | refine zc5 ?_ | refine zd5 ?_ | refine zr ?_ | refine o_mv ?_) | ((apply d_w); first | refine zy ?_ | refine zc ?_) | refine zb fun C => ?_ | refine zp (by kernel_rfl) (by kernel_rfl) fun C => ?_ | refine zn ?_ | refine ze ?_ | refine zh ?_ | refine zi ?_ | (refine zt (by rfl) ?_ ?_ <;> intro hC <;> (try cases hC)))
    refine zm4 (ze6 900 (i := 2) 86 3 rfl rfl (pre := [_, _]) (post := []) rfl) ?_; refine zu ?_; refine ret1 rfl (zl3 (zu2 rfl (zu2 rfl (zk3 rfl rfl rfl (by first | exact zg _ | exact zf _ | exact bytC_clo _ | (simp [cloL, clo, zg, zf, zk, zj, zd]; done) | (simp [cloL, clo, opC, opL, zg, zf, zk, zj, zd]; done)) zs2)))) rfl (by first | rfl | (simp [cloL, clo, zg, zf, zk, zj, zd]; done)) rfl ⟨?_, ?_⟩
    · rfl
    · rfl
  have h1 : litB c = false := by simpa using h1
  rw [h1] at hl
  by_cases h2 : c = 46
  · subst h2
    have hr : atomIc s alt 46 ⟨a + 1, d, b⟩ = (rexE 2 ByteArray.empty [], ⟨a + 1, d, b⟩) := rfl
    rw [hr]
    repeat' (first | ((apply f_wo); first | ((apply f_gs); first | refine n_sk ?_) | ((apply f_mv); first | (refine zw1 ?_ ?_ <;> intro hG <;> (try cases hG)) | refine zg1 (v := .c _) ?_ | refine za ?_) | ((apply f_as); first | refine zf1 (v := .c _) ?_ | refine za ?_) | ((apply f_fa); first | refine n_fa ?_ | refine zk1 ?_) | ((apply f_ld); first | refine zp1 ?_ | refine zb1 ?_ | refine zw ?_ | refine zi1 ?_ | refine n_ld ?_) | ((apply f_ca); first | refine zl2 0 (hn) ?_ | refine zr2 (hl) ?_ | refine zp2 (hl) ?_) | ((apply f_st); first | refine n_st ?_ | refine zt1 ?_) | ((apply zz1); first | refine zd2 ?_ | refine za ?_) | ((apply zy2); first | refine zy1 ?_ | refine za ?_) | ((apply za2); first | refine zq ?_ | refine za ?_) | ((apply zs1); first | refine zo ?_ | refine zr1 ?_ | refine za ?_) | ((apply f_pk); first | refine zu1 (v := .c _) ?_ | refine za ?_) | ((apply f_cv); first | refine zi7 ?_ | refine zp4 ?_ | refine zj5 ?_ | refine zk5 ?_ | refine za ?_) | refine n_al ?_ | refine zg5 ?_ | refine zh5 ?_ | refine zi5 ?_ | refine za ?_ | refine n_mv ?_) | ((apply f_w); first | refine zy ?_ | refine zc ?_) | ((apply d_wo); first | ((apply d_gs); first | refine o_sk ?_ | refine za4 ?_) | ((apply d_bo); (refine o_gm ?_ ?_ <;> intro hG <;> (try cases hG))) | ((apply d_mv); refine zr ?_) | ((apply d_as); refine zr ?_) | ((apply d_fa); first | refine o_fa ?_ | refine zb4 ?_) | ((apply d_ld); first | refine zc4 ?_ | refine zz2 ?_ | refine za3 ?_ | refine zd4 ?_ | refine zr ?_ | refine o_ld ?_) | ((apply d_ca); first | refine zv4 0 (hn) ?_ | refine zn5 (hl) ?_) | ((apply d_st); first | refine o_st ?_ | refine zq4 ?_) | ((apply d_bb); first | refine zl1 ?_ | refine zm1 ?_ | refine zn1 ?_ | refine zw3 ?_ | refine zr ?_) | ((apply d_cv); first | refine zc3 ?_ | refine zn4 ?_ | refine ze5 ?_ | refine zf5 ?_ | refine zr ?_) | refine o_al ?_ | refine zb5 ?_ | refine zc5 ?_ | refine zd5 ?_ | refine zr ?_ | refine o_mv ?_) | ((apply d_w); first | refine zy ?_ | refine zc ?_) | refine zb fun C => ?_ | refine zp (by kernel_rfl) (by kernel_rfl) fun C => ?_ | refine zn ?_ | refine ze ?_ | refine zh ?_ | refine zi ?_ | (refine zt (by rfl) ?_ ?_ <;> intro hC <;> (try cases hC)))
    refine zm4 (ze6 900 (i := 2) 86 3 rfl rfl (pre := [_, _]) (post := []) rfl) ?_; refine zu ?_; refine ret1 rfl (zl3 (zu2 rfl (zu2 rfl (zk3 rfl rfl rfl (by first | exact zg _ | exact zf _ | exact bytC_clo _ | (simp [cloL, clo, zg, zf, zk, zj, zd]; done) | (simp [cloL, clo, opC, opL, zg, zf, zk, zj, zd]; done)) zs2)))) rfl (by first | rfl | (simp [cloL, clo, zg, zf, zk, zj, zd]; done)) rfl ⟨?_, ?_⟩
    · rfl
    · rfl
  by_cases h3 : c = 94
  · subst h3
    have hr : atomIc s alt 94 ⟨a + 1, d, b⟩ = (rexE 10 ByteArray.empty [], ⟨a + 1, d, b⟩) := rfl
    rw [hr]
    repeat' (first | ((apply f_wo); first | ((apply f_gs); first | refine n_sk ?_) | ((apply f_mv); first | (refine zw1 ?_ ?_ <;> intro hG <;> (try cases hG)) | refine zg1 (v := .c _) ?_ | refine za ?_) | ((apply f_as); first | refine zf1 (v := .c _) ?_ | refine za ?_) | ((apply f_fa); first | refine n_fa ?_ | refine zk1 ?_) | ((apply f_ld); first | refine zp1 ?_ | refine zb1 ?_ | refine zw ?_ | refine zi1 ?_ | refine n_ld ?_) | ((apply f_ca); first | refine zl2 0 (hn) ?_ | refine zr2 (hl) ?_ | refine zp2 (hl) ?_) | ((apply f_st); first | refine n_st ?_ | refine zt1 ?_) | ((apply zz1); first | refine zd2 ?_ | refine za ?_) | ((apply zy2); first | refine zy1 ?_ | refine za ?_) | ((apply za2); first | refine zq ?_ | refine za ?_) | ((apply zs1); first | refine zo ?_ | refine zr1 ?_ | refine za ?_) | ((apply f_pk); first | refine zu1 (v := .c _) ?_ | refine za ?_) | ((apply f_cv); first | refine zi7 ?_ | refine zp4 ?_ | refine zj5 ?_ | refine zk5 ?_ | refine za ?_) | refine n_al ?_ | refine zg5 ?_ | refine zh5 ?_ | refine zi5 ?_ | refine za ?_ | refine n_mv ?_) | ((apply f_w); first | refine zy ?_ | refine zc ?_) | ((apply d_wo); first | ((apply d_gs); first | refine o_sk ?_ | refine za4 ?_) | ((apply d_bo); (refine o_gm ?_ ?_ <;> intro hG <;> (try cases hG))) | ((apply d_mv); refine zr ?_) | ((apply d_as); refine zr ?_) | ((apply d_fa); first | refine o_fa ?_ | refine zb4 ?_) | ((apply d_ld); first | refine zc4 ?_ | refine zz2 ?_ | refine za3 ?_ | refine zd4 ?_ | refine zr ?_ | refine o_ld ?_) | ((apply d_ca); first | refine zv4 0 (hn) ?_ | refine zn5 (hl) ?_) | ((apply d_st); first | refine o_st ?_ | refine zq4 ?_) | ((apply d_bb); first | refine zl1 ?_ | refine zm1 ?_ | refine zn1 ?_ | refine zw3 ?_ | refine zr ?_) | ((apply d_cv); first | refine zc3 ?_ | refine zn4 ?_ | refine ze5 ?_ | refine zf5 ?_ | refine zr ?_) | refine o_al ?_ | refine zb5 ?_ | refine zc5 ?_ | refine zd5 ?_ | refine zr ?_ | refine o_mv ?_) | ((apply d_w); first | refine zy ?_ | refine zc ?_) | refine zb fun C => ?_ | refine zp (by kernel_rfl) (by kernel_rfl) fun C => ?_ | refine zn ?_ | refine ze ?_ | refine zh ?_ | refine zi ?_ | (refine zt (by rfl) ?_ ?_ <;> intro hC <;> (try cases hC)))
    refine zm4 (ze6 900 (i := 2) 86 3 rfl rfl (pre := [_, _]) (post := []) rfl) ?_; refine zu ?_; refine ret1 rfl (zl3 (zu2 rfl (zu2 rfl (zk3 rfl rfl rfl (by first | exact zg _ | exact zf _ | exact bytC_clo _ | (simp [cloL, clo, zg, zf, zk, zj, zd]; done) | (simp [cloL, clo, opC, opL, zg, zf, zk, zj, zd]; done)) zs2)))) rfl (by first | rfl | (simp [cloL, clo, zg, zf, zk, zj, zd]; done)) rfl ⟨?_, ?_⟩
    · rfl
    · rfl
  by_cases h4 : c = 36
  · subst h4
    have hr : atomIc s alt 36 ⟨a + 1, d, b⟩ = (rexE 11 ByteArray.empty [], ⟨a + 1, d, b⟩) := rfl
    rw [hr]
    repeat' (first | ((apply f_wo); first | ((apply f_gs); first | refine n_sk ?_) | ((apply f_mv); first | (refine zw1 ?_ ?_ <;> intro hG <;> (try cases hG)) | refine zg1 (v := .c _) ?_ | refine za ?_) | ((apply f_as); first | refine zf1 (v := .c _) ?_ | refine za ?_) | ((apply f_fa); first | refine n_fa ?_ | refine zk1 ?_) | ((apply f_ld); first | refine zp1 ?_ | refine zb1 ?_ | refine zw ?_ | refine zi1 ?_ | refine n_ld ?_) | ((apply f_ca); first | refine zl2 0 (hn) ?_ | refine zr2 (hl) ?_ | refine zp2 (hl) ?_) | ((apply f_st); first | refine n_st ?_ | refine zt1 ?_) | ((apply zz1); first | refine zd2 ?_ | refine za ?_) | ((apply zy2); first | refine zy1 ?_ | refine za ?_) | ((apply za2); first | refine zq ?_ | refine za ?_) | ((apply zs1); first | refine zo ?_ | refine zr1 ?_ | refine za ?_) | ((apply f_pk); first | refine zu1 (v := .c _) ?_ | refine za ?_) | ((apply f_cv); first | refine zi7 ?_ | refine zp4 ?_ | refine zj5 ?_ | refine zk5 ?_ | refine za ?_) | refine n_al ?_ | refine zg5 ?_ | refine zh5 ?_ | refine zi5 ?_ | refine za ?_ | refine n_mv ?_) | ((apply f_w); first | refine zy ?_ | refine zc ?_) | ((apply d_wo); first | ((apply d_gs); first | refine o_sk ?_ | refine za4 ?_) | ((apply d_bo); (refine o_gm ?_ ?_ <;> intro hG <;> (try cases hG))) | ((apply d_mv); refine zr ?_) | ((apply d_as); refine zr ?_) | ((apply d_fa); first | refine o_fa ?_ | refine zb4 ?_) | ((apply d_ld); first | refine zc4 ?_ | refine zz2 ?_ | refine za3 ?_ | refine zd4 ?_ | refine zr ?_ | refine o_ld ?_) | ((apply d_ca); first | refine zv4 0 (hn) ?_ | refine zn5 (hl) ?_) | ((apply d_st); first | refine o_st ?_ | refine zq4 ?_) | ((apply d_bb); first | refine zl1 ?_ | refine zm1 ?_ | refine zn1 ?_ | refine zw3 ?_ | refine zr ?_) | ((apply d_cv); first | refine zc3 ?_ | refine zn4 ?_ | refine ze5 ?_ | refine zf5 ?_ | refine zr ?_) | refine o_al ?_ | refine zb5 ?_ | refine zc5 ?_ | refine zd5 ?_ | refine zr ?_ | refine o_mv ?_) | ((apply d_w); first | refine zy ?_ | refine zc ?_) | refine zb fun C => ?_ | refine zp (by kernel_rfl) (by kernel_rfl) fun C => ?_ | refine zn ?_ | refine ze ?_ | refine zh ?_ | refine zi ?_ | (refine zt (by rfl) ?_ ?_ <;> intro hC <;> (try cases hC)))
    refine zm4 (ze6 900 (i := 2) 86 3 rfl rfl (pre := [_, _]) (post := []) rfl) ?_; refine zu ?_; refine ret1 rfl (zl3 (zu2 rfl (zu2 rfl (zk3 rfl rfl rfl (by first | exact zg _ | exact zf _ | exact bytC_clo _ | (simp [cloL, clo, zg, zf, zk, zj, zd]; done) | (simp [cloL, clo, opC, opL, zg, zf, zk, zj, zd]; done)) zs2)))) rfl (by first | rfl | (simp [cloL, clo, zg, zf, zk, zj, zd]; done)) rfl ⟨?_, ?_⟩
    · rfl
    · rfl
  by_cases h5 : c = 91
  · subst h5
    have hix := idx_unt (s := s) (a := a + 1) (c := 93) (by omega) (by omega)
    have c3 := zk10 (cutB s (a + 1) s.size) (c := 93) (by omega)
    obtain ⟨g1, g2, g3, g4⟩ := zy7 (s := s) (c := 93) s.size (a + 1) (by omega) (by omega)
    rw [hix] at c3
    have hr : atomIc s alt 91 ⟨a + 1, d, b⟩ = if untB s 93 s.size (a + 1) < s.size then (rexE 3 (cutB s (a + 1) (untB s 93 s.size (a + 1))) [], ⟨untB s 93 s.size (a + 1) + 1, d, b⟩) else (zeroR, ⟨a + 1, d, true⟩) := rfl
    rw [hr]
    clear hr hix
    generalize untB s 93 s.size (a + 1) = u at *
    by_cases hu : u < s.size
    · rw [if_pos hu] at c3
      rw [if_pos hu]
      have e0 : (a : Int) + 1 = ((a + 1 : Nat) : Int) := by omega
      have e1 : (a : Int) + 1 + ((u - (a + 1) : Nat) : Int) = (u : Int) := by omega
      repeat' (first | ((apply f_wo); first | ((apply f_gs); first | refine n_sk ?_) | ((apply f_mv); first | (refine zw1 ?_ ?_ <;> intro hG <;> (try cases hG)) | refine zg1 (v := .c _) ?_ | refine za ?_) | ((apply f_as); first | refine zf1 (v := .c _) ?_ | refine za ?_) | ((apply f_fa); first | refine n_fa ?_ | refine zk1 ?_) | ((apply f_ld); first | refine zp1 ?_ | refine zb1 ?_ | refine zw ?_ | refine zi1 ?_ | refine n_ld ?_) | ((apply f_ca); first | refine zl2 0 (hn) ?_ | refine zr2 (hl) ?_ | refine zp2 (hl) ?_ | refine zr2 (c3) ?_ | refine zp2 (c3) ?_) | ((apply f_st); first | refine n_st ?_ | refine zt1 ?_) | ((apply zz1); first | refine zd2 ?_ | refine za ?_) | ((apply zy2); first | refine zy1 ?_ | refine za ?_) | ((apply za2); first | refine zq ?_ | refine za ?_) | ((apply zs1); first | refine zo ?_ | refine zr1 ?_ | refine za ?_) | ((apply f_pk); first | refine zu1 (v := .c _) ?_ | refine za ?_) | ((apply f_cv); first | refine zi7 ?_ | refine zp4 ?_ | refine zj5 ?_ | refine zk5 ?_ | refine za ?_) | refine n_al ?_ | refine zg5 ?_ | refine zh5 ?_ | refine zi5 ?_ | refine za ?_ | refine n_mv ?_) | ((apply f_w); first | refine zy ?_ | refine zc ?_) | ((apply d_wo); first | ((apply d_gs); first | refine o_sk ?_ | refine za4 ?_) | ((apply d_bo); (refine o_gm ?_ ?_ <;> intro hG <;> (try cases hG))) | ((apply d_mv); refine zr ?_) | ((apply d_as); refine zr ?_) | ((apply d_fa); first | refine o_fa ?_ | refine zb4 ?_) | ((apply d_ld); first | refine zc4 ?_ | refine zz2 ?_ | refine za3 ?_ | refine zd4 ?_ | refine zr ?_ | refine o_ld ?_) | ((apply d_ca); first | refine zv4 0 (hn) ?_ | refine zn5 (hl) ?_ | refine zn5 (c3) ?_) | ((apply d_st); first | refine o_st ?_ | refine zq4 ?_) | ((apply d_bb); first | refine zl1 ?_ | refine zm1 ?_ | refine zn1 ?_ | refine zw3 ?_ | refine zr ?_) | ((apply d_cv); first | refine zc3 ?_ | refine zn4 ?_ | refine ze5 ?_ | refine zf5 ?_ | refine zr ?_) | refine o_al ?_ | refine zb5 ?_ | refine zc5 ?_ | refine zd5 ?_ | refine zr ?_ | refine o_mv ?_) | ((apply d_w); first | refine zy ?_ | refine zc ?_) | refine zb fun C => ?_ | refine zp (by kernel_rfl) (by kernel_rfl) fun C => ?_ | refine zn ?_ | refine ze ?_ | refine zh ?_ | refine zi ?_ | refine zx rfl ?_ | refine zv rfl ?_)
      refine zm4 (ze6 900 (i := 2) 86 3 rfl rfl (pre := [_, _]) (post := []) rfl) ?_; refine zu ?_; refine ret1 rfl (zl3 (zu2 rfl (zu2 rfl (zk3 rfl rfl rfl (by first | exact zg _ | exact zf _ | exact bytC_clo _ | (simp [cloL, clo, zg, zf, zk, zj, zd]; done) | (simp [cloL, clo, opC, opL, zg, zf, zk, zj, zd]; done)) zs2)))) rfl (by first | rfl | (simp [cloL, clo, zg, zf, zk, zj, zd]; done)) rfl ⟨?_, ?_⟩
      · rfl
      · rw [show ((u + 1 : Nat) : Int) = (a : Int) + 1 + (((u - (a + 1) : Nat) : Int) + 1) by omega]; rfl
    · rw [if_neg hu] at c3
      rw [if_neg hu]
      repeat' (first | ((apply f_wo); first | ((apply f_gs); first | refine n_sk ?_) | ((apply f_mv); first | (refine zw1 ?_ ?_ <;> intro hG <;> (try cases hG)) | refine zg1 (v := .c _) ?_ | refine za ?_) | ((apply f_as); first | refine zf1 (v := .c _) ?_ | refine za ?_) | ((apply f_fa); first | refine n_fa ?_ | refine zk1 ?_) | ((apply f_ld); first | refine zp1 ?_ | refine zb1 ?_ | refine zw ?_ | refine zi1 ?_ | refine n_ld ?_) | ((apply f_ca); first | refine zl2 0 (hn) ?_ | refine zr2 (hl) ?_ | refine zp2 (hl) ?_ | refine zr2 (c3) ?_ | refine zp2 (c3) ?_) | ((apply f_st); first | refine n_st ?_ | refine zt1 ?_) | ((apply zz1); first | refine zd2 ?_ | refine za ?_) | ((apply zy2); first | refine zy1 ?_ | refine za ?_) | ((apply za2); first | refine zq ?_ | refine za ?_) | ((apply zs1); first | refine zo ?_ | refine zr1 ?_ | refine za ?_) | ((apply f_pk); first | refine zu1 (v := .c _) ?_ | refine za ?_) | ((apply f_cv); first | refine zi7 ?_ | refine zp4 ?_ | refine zj5 ?_ | refine zk5 ?_ | refine za ?_) | refine n_al ?_ | refine zg5 ?_ | refine zh5 ?_ | refine zi5 ?_ | refine za ?_ | refine n_mv ?_) | ((apply f_w); first | refine zy ?_ | refine zc ?_) | ((apply d_wo); first | ((apply d_gs); first | refine o_sk ?_ | refine za4 ?_) | ((apply d_bo); (refine o_gm ?_ ?_ <;> intro hG <;> (try cases hG))) | ((apply d_mv); refine zr ?_) | ((apply d_as); refine zr ?_) | ((apply d_fa); first | refine o_fa ?_ | refine zb4 ?_) | ((apply d_ld); first | refine zc4 ?_ | refine zz2 ?_ | refine za3 ?_ | refine zd4 ?_ | refine zr ?_ | refine o_ld ?_) | ((apply d_ca); first | refine zv4 0 (hn) ?_ | refine zn5 (hl) ?_ | refine zn5 (c3) ?_) | ((apply d_st); first | refine o_st ?_ | refine zq4 ?_) | ((apply d_bb); first | refine zl1 ?_ | refine zm1 ?_ | refine zn1 ?_ | refine zw3 ?_ | refine zr ?_) | ((apply d_cv); first | refine zc3 ?_ | refine zn4 ?_ | refine ze5 ?_ | refine zf5 ?_ | refine zr ?_) | refine o_al ?_ | refine zb5 ?_ | refine zc5 ?_ | refine zd5 ?_ | refine zr ?_ | refine o_mv ?_) | ((apply d_w); first | refine zy ?_ | refine zc ?_) | refine zb fun C => ?_ | refine zp (by kernel_rfl) (by kernel_rfl) fun C => ?_ | refine zn ?_ | refine ze ?_ | refine zh ?_ | refine zi ?_ | (refine zt (by rfl) ?_ ?_ <;> intro hC <;> (try cases hC)))
      refine zm4 (ze6 900 (i := 2) 86 3 rfl rfl (pre := [_, _]) (post := []) rfl) ?_; refine zu ?_; refine ret1 rfl (zl3 (zu2 rfl (zu2 rfl (zk3 rfl rfl rfl (by first | exact zg _ | exact zf _ | exact bytC_clo _ | (simp [cloL, clo, zg, zf, zk, zj, zd]; done) | (simp [cloL, clo, opC, opL, zg, zf, zk, zj, zd]; done)) zs2)))) rfl (by first | rfl | (simp [cloL, clo, zg, zf, zk, zj, zd]; done)) rfl ⟨?_, ?_⟩
      · rfl
      · rfl
  by_cases h6 : c = 40
  · subst h6
    by_cases h41 : bAt s (a + 1) = 41
    · have hr : atomIc s alt 40 ⟨a + 1, d, b⟩ = (rexE 9 ByteArray.empty [], ⟨a + 2, d, b⟩) := by
        rw [zj8, if_pos h41]; rfl
      rw [hr]
      rw [h41] at hn2
      repeat' (first | ((apply f_wo); first | ((apply f_gs); first | refine n_sk ?_) | ((apply f_mv); first | (refine zw1 ?_ ?_ <;> intro hG <;> (try cases hG)) | refine zg1 (v := .c _) ?_ | refine za ?_) | ((apply f_as); first | refine zf1 (v := .c _) ?_ | refine za ?_) | ((apply f_fa); first | refine n_fa ?_ | refine zk1 ?_) | ((apply f_ld); first | refine zp1 ?_ | refine zb1 ?_ | refine zw ?_ | refine zi1 ?_ | refine n_ld ?_) | ((apply f_ca); first | refine zl2 0 (hn) ?_ | refine zl2 0 (hn2) ?_ | refine zr2 (hl) ?_ | refine zp2 (hl) ?_) | ((apply f_st); first | refine n_st ?_ | refine zt1 ?_) | ((apply zz1); first | refine zd2 ?_ | refine za ?_) | ((apply zy2); first | refine zy1 ?_ | refine za ?_) | ((apply za2); first | refine zq ?_ | refine za ?_) | ((apply zs1); first | refine zo ?_ | refine zr1 ?_ | refine za ?_) | ((apply f_pk); first | refine zu1 (v := .c _) ?_ | refine za ?_) | ((apply f_cv); first | refine zi7 ?_ | refine zp4 ?_ | refine zj5 ?_ | refine zk5 ?_ | refine za ?_) | refine n_al ?_ | refine zg5 ?_ | refine zh5 ?_ | refine zi5 ?_ | refine za ?_ | refine n_mv ?_) | ((apply f_w); first | refine zy ?_ | refine zc ?_) | ((apply d_wo); first | ((apply d_gs); first | refine o_sk ?_ | refine za4 ?_) | ((apply d_bo); (refine o_gm ?_ ?_ <;> intro hG <;> (try cases hG))) | ((apply d_mv); refine zr ?_) | ((apply d_as); refine zr ?_) | ((apply d_fa); first | refine o_fa ?_ | refine zb4 ?_) | ((apply d_ld); first | refine zc4 ?_ | refine zz2 ?_ | refine za3 ?_ | refine zd4 ?_ | refine zr ?_ | refine o_ld ?_) | ((apply d_ca); first | refine zv4 0 (hn) ?_ | refine zv4 0 (hn2) ?_ | refine zn5 (hl) ?_) | ((apply d_st); first | refine o_st ?_ | refine zq4 ?_) | ((apply d_bb); first | refine zl1 ?_ | refine zm1 ?_ | refine zn1 ?_ | refine zw3 ?_ | refine zr ?_) | ((apply d_cv); first | refine zc3 ?_ | refine zn4 ?_ | refine ze5 ?_ | refine zf5 ?_ | refine zr ?_) | refine o_al ?_ | refine zb5 ?_ | refine zc5 ?_ | refine zd5 ?_ | refine zr ?_ | refine o_mv ?_) | ((apply d_w); first | refine zy ?_ | refine zc ?_) | refine zb fun C => ?_ | refine zp (by kernel_rfl) (by kernel_rfl) fun C => ?_ | refine zn ?_ | refine ze ?_ | refine zh ?_ | refine zi ?_ | (refine zt (by rfl) ?_ ?_ <;> intro hC <;> (try cases hC)))
      refine zm4 (ze6 900 (i := 2) 86 3 rfl rfl (pre := [_, _]) (post := []) rfl) ?_; refine zu ?_; refine ret1 rfl (zl3 (zu2 rfl (zu2 rfl (zk3 rfl rfl rfl (by first | exact zg _ | exact zf _ | exact bytC_clo _ | (simp [cloL, clo, zg, zf, zk, zj, zd]; done) | (simp [cloL, clo, opC, opL, zg, zf, zk, zj, zd]; done)) zs2)))) rfl (by first | rfl | (simp [cloL, clo, zg, zf, zk, zj, zd]; done)) rfl ⟨?_, ?_⟩
      · rfl
      · rfl
    · have hr : atomIc s alt 40 ⟨a + 1, d, b⟩ = if bAt s (alt ⟨a + 1, d, b⟩).2.a = 41 then ((alt ⟨a + 1, d, b⟩).1, (alt ⟨a + 1, d, b⟩).2.go 1) else (zeroR, (alt ⟨a + 1, d, b⟩).2.bad) := by
        rw [zj8, if_neg h41]
      rw [hr]
      clear hr
      obtain ⟨⟨e, q⟩, hq⟩ : ∃ r, alt ⟨a + 1, d, b⟩ = r := ⟨_, rfl⟩
      rw [hq] at ha hg ⊢
      have hn3 := zt11 hs (p := q)
      unfold rdrI at hn3
      have hle : q.a ≤ s.size := hg.le
      have hqd : q.d = d := hg.d
      obtain ⟨qa, qd, qb⟩ := q
      dsimp only at ha hn3 hle hqd ⊢
      have hfi : Fine e := hg.fine
      cases hfi with
      | mk k t l hk ht hl2 =>
      by_cases h7 : bAt s qa = 41
      · rw [if_pos h7]
        rw [h7] at hn3
        have hlt : qa < s.size := zw4 (by rw [h7]; decide)
        repeat' (first | ((apply f_wo); first | ((apply f_gs); first | refine n_sk ?_) | ((apply f_mv); first | (refine zw1 ?_ ?_ <;> intro hG <;> (try cases hG)) | refine zg1 (v := .c _) ?_ | refine za ?_) | ((apply f_as); first | refine zf1 (v := .c _) ?_ | refine za ?_) | ((apply f_fa); first | refine n_fa ?_ | refine zk1 ?_) | ((apply f_ld); first | refine zp1 ?_ | refine zb1 ?_ | refine zw ?_ | refine zi1 ?_ | refine n_ld ?_) | ((apply f_ca); first | refine zl2 0 (hn) ?_ | refine zl2 0 (hn2) ?_ | refine zr2 (hl) ?_ | refine zp2 (hl) ?_ | refine zl2 0 (ha) ?_ | refine zl2 0 (hn3) ?_) | ((apply f_st); first | refine n_st ?_ | refine zt1 ?_) | ((apply zz1); first | refine zd2 ?_ | refine za ?_) | ((apply zy2); first | refine zy1 ?_ | refine za ?_) | ((apply za2); first | refine zq ?_ | refine za ?_) | ((apply zs1); first | refine zo ?_ | refine zr1 ?_ | refine za ?_) | ((apply f_pk); first | refine zu1 (v := .c _) ?_ | refine za ?_) | ((apply f_cv); first | refine zi7 ?_ | refine zp4 ?_ | refine zj5 ?_ | refine zk5 ?_ | refine za ?_) | refine n_al ?_ | refine zg5 ?_ | refine zh5 ?_ | refine zi5 ?_ | refine za ?_ | refine n_mv ?_) | ((apply f_w); first | refine zy ?_ | refine zc ?_) | ((apply d_wo); first | ((apply d_gs); first | refine o_sk ?_ | refine za4 ?_) | ((apply d_bo); (refine o_gm ?_ ?_ <;> intro hG <;> (try cases hG))) | ((apply d_mv); refine zr ?_) | ((apply d_as); refine zr ?_) | ((apply d_fa); first | refine o_fa ?_ | refine zb4 ?_) | ((apply d_ld); first | refine zc4 ?_ | refine zz2 ?_ | refine za3 ?_ | refine zd4 ?_ | refine zr ?_ | refine o_ld ?_) | ((apply d_ca); first | refine zv4 0 (hn) ?_ | refine zv4 0 (hn2) ?_ | refine zn5 (hl) ?_ | refine zv4 0 (ha) ?_ | refine zv4 0 (hn3) ?_) | ((apply d_st); first | refine o_st ?_ | refine zq4 ?_) | ((apply d_bb); first | refine zl1 ?_ | refine zm1 ?_ | refine zn1 ?_ | refine zw3 ?_ | refine zr ?_) | ((apply d_cv); first | refine zc3 ?_ | refine zn4 ?_ | refine ze5 ?_ | refine zf5 ?_ | refine zr ?_) | refine o_al ?_ | refine zb5 ?_ | refine zc5 ?_ | refine zd5 ?_ | refine zr ?_ | refine o_mv ?_) | ((apply d_w); first | refine zy ?_ | refine zc ?_) | refine zb fun C => ?_ | refine zp (by kernel_rfl) (by kernel_rfl) fun C => ?_ | refine zn ?_ | refine ze ?_ | refine zh ?_ | refine zi ?_ | refine zx rfl ?_ | refine zv rfl ?_)
        refine zt (by rfl) (fun hC => absurd (eq_of_beq hC) (by omega)) fun hC => ?_
        repeat' (first | ((apply f_wo); first | ((apply f_gs); first | refine n_sk ?_) | ((apply f_mv); first | (refine zw1 ?_ ?_ <;> intro hG <;> (try cases hG)) | refine zg1 (v := .c _) ?_ | refine za ?_) | ((apply f_as); first | refine zf1 (v := .c _) ?_ | refine za ?_) | ((apply f_fa); first | refine n_fa ?_ | refine zk1 ?_) | ((apply f_ld); first | refine zp1 ?_ | refine zb1 ?_ | refine zw ?_ | refine zi1 ?_ | refine n_ld ?_) | ((apply f_ca); first | refine zl2 0 (hn) ?_ | refine zl2 0 (hn2) ?_ | refine zr2 (hl) ?_ | refine zp2 (hl) ?_ | refine zl2 0 (ha) ?_ | refine zl2 0 (hn3) ?_) | ((apply f_st); first | refine n_st ?_ | refine zt1 ?_) | ((apply zz1); first | refine zd2 ?_ | refine za ?_) | ((apply zy2); first | refine zy1 ?_ | refine za ?_) | ((apply za2); first | refine zq ?_ | refine za ?_) | ((apply zs1); first | refine zo ?_ | refine zr1 ?_ | refine za ?_) | ((apply f_pk); first | refine zu1 (v := .c _) ?_ | refine za ?_) | ((apply f_cv); first | refine zi7 ?_ | refine zp4 ?_ | refine zj5 ?_ | refine zk5 ?_ | refine za ?_) | refine n_al ?_ | refine zg5 ?_ | refine zh5 ?_ | refine zi5 ?_ | refine za ?_ | refine n_mv ?_) | ((apply f_w); first | refine zy ?_ | refine zc ?_) | ((apply d_wo); first | ((apply d_gs); first | refine o_sk ?_ | refine za4 ?_) | ((apply d_bo); (refine o_gm ?_ ?_ <;> intro hG <;> (try cases hG))) | ((apply d_mv); refine zr ?_) | ((apply d_as); refine zr ?_) | ((apply d_fa); first | refine o_fa ?_ | refine zb4 ?_) | ((apply d_ld); first | refine zc4 ?_ | refine zz2 ?_ | refine za3 ?_ | refine zd4 ?_ | refine zr ?_ | refine o_ld ?_) | ((apply d_ca); first | refine zv4 0 (hn) ?_ | refine zv4 0 (hn2) ?_ | refine zn5 (hl) ?_ | refine zv4 0 (ha) ?_ | refine zv4 0 (hn3) ?_) | ((apply d_st); first | refine o_st ?_ | refine zq4 ?_) | ((apply d_bb); first | refine zl1 ?_ | refine zm1 ?_ | refine zn1 ?_ | refine zw3 ?_ | refine zr ?_) | ((apply d_cv); first | refine zc3 ?_ | refine zn4 ?_ | refine ze5 ?_ | refine zf5 ?_ | refine zr ?_) | refine o_al ?_ | refine zb5 ?_ | refine zc5 ?_ | refine zd5 ?_ | refine zr ?_ | refine o_mv ?_) | ((apply d_w); first | refine zy ?_ | refine zc ?_) | refine zb fun C => ?_ | refine zp (by kernel_rfl) (by kernel_rfl) fun C => ?_ | refine zn ?_ | refine ze ?_ | refine zh ?_ | refine zi ?_ | refine zx rfl ?_ | refine zv rfl ?_)
        refine zu ?_; refine ret1 rfl (zl3 (zu2 rfl (zu2 rfl (zk3 rfl rfl rfl (by first | exact zg _ | exact zf _ | exact bytC_clo _ | (simp [cloL, clo, zg, zf, zk, zj, zd]; done) | (simp [cloL, clo, opC, opL, zg, zf, zk, zj, zd]; done)) zs2)))) rfl (by first | rfl | (simp [cloL, clo, zg, zf, zk, zj, zd]; done)) rfl ⟨?_, ?_⟩
        · rfl
        · rfl
      · rw [if_neg h7]
        repeat' (first | ((apply f_wo); first | ((apply f_gs); first | refine n_sk ?_) | ((apply f_mv); first | (refine zw1 ?_ ?_ <;> intro hG <;> (try cases hG)) | refine zg1 (v := .c _) ?_ | refine za ?_) | ((apply f_as); first | refine zf1 (v := .c _) ?_ | refine za ?_) | ((apply f_fa); first | refine n_fa ?_ | refine zk1 ?_) | ((apply f_ld); first | refine zp1 ?_ | refine zb1 ?_ | refine zw ?_ | refine zi1 ?_ | refine n_ld ?_) | ((apply f_ca); first | refine zl2 0 (hn) ?_ | refine zl2 0 (hn2) ?_ | refine zr2 (hl) ?_ | refine zp2 (hl) ?_ | refine zl2 0 (ha) ?_ | refine zl2 0 (hn3) ?_) | ((apply f_st); first | refine n_st ?_ | refine zt1 ?_) | ((apply zz1); first | refine zd2 ?_ | refine za ?_) | ((apply zy2); first | refine zy1 ?_ | refine za ?_) | ((apply za2); first | refine zq ?_ | refine za ?_) | ((apply zs1); first | refine zo ?_ | refine zr1 ?_ | refine za ?_) | ((apply f_pk); first | refine zu1 (v := .c _) ?_ | refine za ?_) | ((apply f_cv); first | refine zi7 ?_ | refine zp4 ?_ | refine zj5 ?_ | refine zk5 ?_ | refine za ?_) | refine n_al ?_ | refine zg5 ?_ | refine zh5 ?_ | refine zi5 ?_ | refine za ?_ | refine n_mv ?_) | ((apply f_w); first | refine zy ?_ | refine zc ?_) | ((apply d_wo); first | ((apply d_gs); first | refine o_sk ?_ | refine za4 ?_) | ((apply d_bo); (refine o_gm ?_ ?_ <;> intro hG <;> (try cases hG))) | ((apply d_mv); refine zr ?_) | ((apply d_as); refine zr ?_) | ((apply d_fa); first | refine o_fa ?_ | refine zb4 ?_) | ((apply d_ld); first | refine zc4 ?_ | refine zz2 ?_ | refine za3 ?_ | refine zd4 ?_ | refine zr ?_ | refine o_ld ?_) | ((apply d_ca); first | refine zv4 0 (hn) ?_ | refine zv4 0 (hn2) ?_ | refine zn5 (hl) ?_ | refine zv4 0 (ha) ?_ | refine zv4 0 (hn3) ?_) | ((apply d_st); first | refine o_st ?_ | refine zq4 ?_) | ((apply d_bb); first | refine zl1 ?_ | refine zm1 ?_ | refine zn1 ?_ | refine zw3 ?_ | refine zr ?_) | ((apply d_cv); first | refine zc3 ?_ | refine zn4 ?_ | refine ze5 ?_ | refine zf5 ?_ | refine zr ?_) | refine o_al ?_ | refine zb5 ?_ | refine zc5 ?_ | refine zd5 ?_ | refine zr ?_ | refine o_mv ?_) | ((apply d_w); first | refine zy ?_ | refine zc ?_) | refine zb fun C => ?_ | refine zp (by kernel_rfl) (by kernel_rfl) fun C => ?_ | refine zn ?_ | refine ze ?_ | refine zh ?_ | refine zi ?_ | refine zx rfl ?_ | refine zv rfl ?_)
        refine zt (by rfl) (fun hC => absurd (eq_of_beq hC) (by omega)) fun hC => ?_
        repeat' (first | ((apply f_wo); first | ((apply f_gs); first | refine n_sk ?_) | ((apply f_mv); first | (refine zw1 ?_ ?_ <;> intro hG <;> (try cases hG)) | refine zg1 (v := .c _) ?_ | refine za ?_) | ((apply f_as); first | refine zf1 (v := .c _) ?_ | refine za ?_) | ((apply f_fa); first | refine n_fa ?_ | refine zk1 ?_) | ((apply f_ld); first | refine zp1 ?_ | refine zb1 ?_ | refine zw ?_ | refine zi1 ?_ | refine n_ld ?_) | ((apply f_ca); first | refine zl2 0 (hn) ?_ | refine zl2 0 (hn2) ?_ | refine zr2 (hl) ?_ | refine zp2 (hl) ?_ | refine zl2 0 (ha) ?_ | refine zl2 0 (hn3) ?_) | ((apply f_st); first | refine n_st ?_ | refine zt1 ?_) | ((apply zz1); first | refine zd2 ?_ | refine za ?_) | ((apply zy2); first | refine zy1 ?_ | refine za ?_) | ((apply za2); first | refine zq ?_ | refine za ?_) | ((apply zs1); first | refine zo ?_ | refine zr1 ?_ | refine za ?_) | ((apply f_pk); first | refine zu1 (v := .c _) ?_ | refine za ?_) | ((apply f_cv); first | refine zi7 ?_ | refine zp4 ?_ | refine zj5 ?_ | refine zk5 ?_ | refine za ?_) | refine n_al ?_ | refine zg5 ?_ | refine zh5 ?_ | refine zi5 ?_ | refine za ?_ | refine n_mv ?_) | ((apply f_w); first | refine zy ?_ | refine zc ?_) | ((apply d_wo); first | ((apply d_gs); first | refine o_sk ?_ | refine za4 ?_) | ((apply d_bo); (refine o_gm ?_ ?_ <;> intro hG <;> (try cases hG))) | ((apply d_mv); refine zr ?_) | ((apply d_as); refine zr ?_) | ((apply d_fa); first | refine o_fa ?_ | refine zb4 ?_) | ((apply d_ld); first | refine zc4 ?_ | refine zz2 ?_ | refine za3 ?_ | refine zd4 ?_ | refine zr ?_ | refine o_ld ?_) | ((apply d_ca); first | refine zv4 0 (hn) ?_ | refine zv4 0 (hn2) ?_ | refine zn5 (hl) ?_ | refine zv4 0 (ha) ?_ | refine zv4 0 (hn3) ?_) | ((apply d_st); first | refine o_st ?_ | refine zq4 ?_) | ((apply d_bb); first | refine zl1 ?_ | refine zm1 ?_ | refine zn1 ?_ | refine zw3 ?_ | refine zr ?_) | ((apply d_cv); first | refine zc3 ?_ | refine zn4 ?_ | refine ze5 ?_ | refine zf5 ?_ | refine zr ?_) | refine o_al ?_ | refine zb5 ?_ | refine zc5 ?_ | refine zd5 ?_ | refine zr ?_ | refine o_mv ?_) | ((apply d_w); first | refine zy ?_ | refine zc ?_) | refine zb fun C => ?_ | refine zp (by kernel_rfl) (by kernel_rfl) fun C => ?_ | refine zn ?_ | refine ze ?_ | refine zh ?_ | refine zi ?_ | refine zx rfl ?_ | refine zv rfl ?_)
        refine zt (by rfl) (fun hC => ?_) fun hC => absurd (bne_eq_false_iff_eq.1 hC) (by omega)
        repeat' (first | ((apply f_wo); first | ((apply f_gs); first | refine n_sk ?_) | ((apply f_mv); first | (refine zw1 ?_ ?_ <;> intro hG <;> (try cases hG)) | refine zg1 (v := .c _) ?_ | refine za ?_) | ((apply f_as); first | refine zf1 (v := .c _) ?_ | refine za ?_) | ((apply f_fa); first | refine n_fa ?_ | refine zk1 ?_) | ((apply f_ld); first | refine zp1 ?_ | refine zb1 ?_ | refine zw ?_ | refine zi1 ?_ | refine n_ld ?_) | ((apply f_ca); first | refine zl2 0 (hn) ?_ | refine zl2 0 (hn2) ?_ | refine zr2 (hl) ?_ | refine zp2 (hl) ?_ | refine zl2 0 (ha) ?_ | refine zl2 0 (hn3) ?_) | ((apply f_st); first | refine n_st ?_ | refine zt1 ?_) | ((apply zz1); first | refine zd2 ?_ | refine za ?_) | ((apply zy2); first | refine zy1 ?_ | refine za ?_) | ((apply za2); first | refine zq ?_ | refine za ?_) | ((apply zs1); first | refine zo ?_ | refine zr1 ?_ | refine za ?_) | ((apply f_pk); first | refine zu1 (v := .c _) ?_ | refine za ?_) | ((apply f_cv); first | refine zi7 ?_ | refine zp4 ?_ | refine zj5 ?_ | refine zk5 ?_ | refine za ?_) | refine n_al ?_ | refine zg5 ?_ | refine zh5 ?_ | refine zi5 ?_ | refine za ?_ | refine n_mv ?_) | ((apply f_w); first | refine zy ?_ | refine zc ?_) | ((apply d_wo); first | ((apply d_gs); first | refine o_sk ?_ | refine za4 ?_) | ((apply d_bo); (refine o_gm ?_ ?_ <;> intro hG <;> (try cases hG))) | ((apply d_mv); refine zr ?_) | ((apply d_as); refine zr ?_) | ((apply d_fa); first | refine o_fa ?_ | refine zb4 ?_) | ((apply d_ld); first | refine zc4 ?_ | refine zz2 ?_ | refine za3 ?_ | refine zd4 ?_ | refine zr ?_ | refine o_ld ?_) | ((apply d_ca); first | refine zv4 0 (hn) ?_ | refine zv4 0 (hn2) ?_ | refine zn5 (hl) ?_ | refine zv4 0 (ha) ?_ | refine zv4 0 (hn3) ?_) | ((apply d_st); first | refine o_st ?_ | refine zq4 ?_) | ((apply d_bb); first | refine zl1 ?_ | refine zm1 ?_ | refine zn1 ?_ | refine zw3 ?_ | refine zr ?_) | ((apply d_cv); first | refine zc3 ?_ | refine zn4 ?_ | refine ze5 ?_ | refine zf5 ?_ | refine zr ?_) | refine o_al ?_ | refine zb5 ?_ | refine zc5 ?_ | refine zd5 ?_ | refine zr ?_ | refine o_mv ?_) | ((apply d_w); first | refine zy ?_ | refine zc ?_) | refine zb fun C => ?_ | refine zp (by kernel_rfl) (by kernel_rfl) fun C => ?_ | refine zn ?_ | refine ze ?_ | refine zh ?_ | refine zi ?_ | refine zx rfl ?_ | refine zv rfl ?_)
        refine zm4 (ze6 900 (i := 2) 86 3 rfl rfl (pre := [_, _]) (post := []) rfl) ?_; refine zu ?_; refine ret1 rfl (zl3 (zu2 rfl (zu2 rfl (zk3 rfl rfl rfl (by first | exact zg _ | exact zf _ | exact bytC_clo _ | (simp [cloL, clo, zg, zf, zk, zj, zd]; done) | (simp [cloL, clo, opC, opL, zg, zf, zk, zj, zd]; done)) zs2)))) rfl (by first | rfl | (simp [cloL, clo, zg, zf, zk, zj, zd]; done)) rfl ⟨?_, ?_⟩
        · rfl
        · rfl
  have hr : atomIc s alt c ⟨a + 1, d, b⟩ = (zeroR, ⟨a + 1, d, true⟩) := by
    unfold atomIc
    rw [if_neg (by rw [h1]; simp), if_neg h2, if_neg h3, if_neg h4, if_neg h5, if_neg h6]; rfl
  rw [hr]
  repeat' (first | ((apply f_wo); first | ((apply f_gs); first | refine n_sk ?_) | ((apply f_mv); first | (refine zw1 ?_ ?_ <;> intro hG <;> (try cases hG)) | refine zg1 (v := .c _) ?_ | refine za ?_) | ((apply f_as); first | refine zf1 (v := .c _) ?_ | refine za ?_) | ((apply f_fa); first | refine n_fa ?_ | refine zk1 ?_) | ((apply f_ld); first | refine zp1 ?_ | refine zb1 ?_ | refine zw ?_ | refine zi1 ?_ | refine n_ld ?_) | ((apply f_ca); first | refine zl2 0 (hn) ?_ | refine zr2 (hl) ?_ | refine zp2 (hl) ?_) | ((apply f_st); first | refine n_st ?_ | refine zt1 ?_) | ((apply zz1); first | refine zd2 ?_ | refine za ?_) | ((apply zy2); first | refine zy1 ?_ | refine za ?_) | ((apply za2); first | refine zq ?_ | refine za ?_) | ((apply zs1); first | refine zo ?_ | refine zr1 ?_ | refine za ?_) | ((apply f_pk); first | refine zu1 (v := .c _) ?_ | refine za ?_) | ((apply f_cv); first | refine zi7 ?_ | refine zp4 ?_ | refine zj5 ?_ | refine zk5 ?_ | refine za ?_) | refine n_al ?_ | refine zg5 ?_ | refine zh5 ?_ | refine zi5 ?_ | refine za ?_ | refine n_mv ?_) | ((apply f_w); first | refine zy ?_ | refine zc ?_) | ((apply d_wo); first | ((apply d_gs); first | refine o_sk ?_ | refine za4 ?_) | ((apply d_bo); (refine o_gm ?_ ?_ <;> intro hG <;> (try cases hG))) | ((apply d_mv); refine zr ?_) | ((apply d_as); refine zr ?_) | ((apply d_fa); first | refine o_fa ?_ | refine zb4 ?_) | ((apply d_ld); first | refine zc4 ?_ | refine zz2 ?_ | refine za3 ?_ | refine zd4 ?_ | refine zr ?_ | refine o_ld ?_) | ((apply d_ca); first | refine zv4 0 (hn) ?_ | refine zn5 (hl) ?_) | ((apply d_st); first | refine o_st ?_ | refine zq4 ?_) | ((apply d_bb); first | refine zl1 ?_ | refine zm1 ?_ | refine zn1 ?_ | refine zw3 ?_ | refine zr ?_) | ((apply d_cv); first | refine zc3 ?_ | refine zn4 ?_ | refine ze5 ?_ | refine zf5 ?_ | refine zr ?_) | refine o_al ?_ | refine zb5 ?_ | refine zc5 ?_ | refine zd5 ?_ | refine zr ?_ | refine o_mv ?_) | ((apply d_w); first | refine zy ?_ | refine zc ?_) | refine zb fun C => ?_ | refine zp (by kernel_rfl) (by kernel_rfl) fun C => ?_ | refine zn ?_ | refine ze ?_ | refine zh ?_ | refine zi ?_)
  iterate 5
    (first
      | refine zt (by rfl) (fun hC => Bool.noConfusion (show false = true from hC)) fun hC => ?_
      | refine zt (by rfl) (fun hC => absurd (eq_of_beq hC) (by omega)) fun hC => ?_
      | skip) <;> repeat' (first | ((apply f_wo); first | ((apply f_gs); first | refine n_sk ?_) | ((apply f_mv); first | (refine zw1 ?_ ?_ <;> intro hG <;> (try cases hG)) | refine zg1 (v := .c _) ?_ | refine za ?_) | ((apply f_as); first | refine zf1 (v := .c _) ?_ | refine za ?_) | ((apply f_fa); first | refine n_fa ?_ | refine zk1 ?_) | ((apply f_ld); first | refine zp1 ?_ | refine zb1 ?_ | refine zw ?_ | refine zi1 ?_ | refine n_ld ?_) | ((apply f_ca); first | refine zl2 0 (hn) ?_ | refine zr2 (hl) ?_ | refine zp2 (hl) ?_) | ((apply f_st); first | refine n_st ?_ | refine zt1 ?_) | ((apply zz1); first | refine zd2 ?_ | refine za ?_) | ((apply zy2); first | refine zy1 ?_ | refine za ?_) | ((apply za2); first | refine zq ?_ | refine za ?_) | ((apply zs1); first | refine zo ?_ | refine zr1 ?_ | refine za ?_) | ((apply f_pk); first | refine zu1 (v := .c _) ?_ | refine za ?_) | ((apply f_cv); first | refine zi7 ?_ | refine zp4 ?_ | refine zj5 ?_ | refine zk5 ?_ | refine za ?_) | refine n_al ?_ | refine zg5 ?_ | refine zh5 ?_ | refine zi5 ?_ | refine za ?_ | refine n_mv ?_) | ((apply f_w); first | refine zy ?_ | refine zc ?_) | ((apply d_wo); first | ((apply d_gs); first | refine o_sk ?_ | refine za4 ?_) | ((apply d_bo); (refine o_gm ?_ ?_ <;> intro hG <;> (try cases hG))) | ((apply d_mv); refine zr ?_) | ((apply d_as); refine zr ?_) | ((apply d_fa); first | refine o_fa ?_ | refine zb4 ?_) | ((apply d_ld); first | refine zc4 ?_ | refine zz2 ?_ | refine za3 ?_ | refine zd4 ?_ | refine zr ?_ | refine o_ld ?_) | ((apply d_ca); first | refine zv4 0 (hn) ?_ | refine zn5 (hl) ?_) | ((apply d_st); first | refine o_st ?_ | refine zq4 ?_) | ((apply d_bb); first | refine zl1 ?_ | refine zm1 ?_ | refine zn1 ?_ | refine zw3 ?_ | refine zr ?_) | ((apply d_cv); first | refine zc3 ?_ | refine zn4 ?_ | refine ze5 ?_ | refine zf5 ?_ | refine zr ?_) | refine o_al ?_ | refine zb5 ?_ | refine zc5 ?_ | refine zd5 ?_ | refine zr ?_ | refine o_mv ?_) | ((apply d_w); first | refine zy ?_ | refine zc ?_) | refine zb fun C => ?_ | refine zp (by kernel_rfl) (by kernel_rfl) fun C => ?_ | refine zn ?_ | refine ze ?_ | refine zh ?_ | refine zi ?_)
  · exact absurd (eq_of_beq hG) (by omega)
  iterate 2
    (first
      | refine zt (by rfl) (fun hC => Bool.noConfusion (show false = true from hC)) fun hC => ?_
      | refine zt (by rfl) (fun hC => absurd (eq_of_beq hC) (by omega)) fun hC => ?_
      | skip) <;> repeat' (first | ((apply f_wo); first | ((apply f_gs); first | refine n_sk ?_) | ((apply f_mv); first | (refine zw1 ?_ ?_ <;> intro hG <;> (try cases hG)) | refine zg1 (v := .c _) ?_ | refine za ?_) | ((apply f_as); first | refine zf1 (v := .c _) ?_ | refine za ?_) | ((apply f_fa); first | refine n_fa ?_ | refine zk1 ?_) | ((apply f_ld); first | refine zp1 ?_ | refine zb1 ?_ | refine zw ?_ | refine zi1 ?_ | refine n_ld ?_) | ((apply f_ca); first | refine zl2 0 (hn) ?_ | refine zr2 (hl) ?_ | refine zp2 (hl) ?_) | ((apply f_st); first | refine n_st ?_ | refine zt1 ?_) | ((apply zz1); first | refine zd2 ?_ | refine za ?_) | ((apply zy2); first | refine zy1 ?_ | refine za ?_) | ((apply za2); first | refine zq ?_ | refine za ?_) | ((apply zs1); first | refine zo ?_ | refine zr1 ?_ | refine za ?_) | ((apply f_pk); first | refine zu1 (v := .c _) ?_ | refine za ?_) | ((apply f_cv); first | refine zi7 ?_ | refine zp4 ?_ | refine zj5 ?_ | refine zk5 ?_ | refine za ?_) | refine n_al ?_ | refine zg5 ?_ | refine zh5 ?_ | refine zi5 ?_ | refine za ?_ | refine n_mv ?_) | ((apply f_w); first | refine zy ?_ | refine zc ?_) | ((apply d_wo); first | ((apply d_gs); first | refine o_sk ?_ | refine za4 ?_) | ((apply d_bo); (refine o_gm ?_ ?_ <;> intro hG <;> (try cases hG))) | ((apply d_mv); refine zr ?_) | ((apply d_as); refine zr ?_) | ((apply d_fa); first | refine o_fa ?_ | refine zb4 ?_) | ((apply d_ld); first | refine zc4 ?_ | refine zz2 ?_ | refine za3 ?_ | refine zd4 ?_ | refine zr ?_ | refine o_ld ?_) | ((apply d_ca); first | refine zv4 0 (hn) ?_ | refine zn5 (hl) ?_) | ((apply d_st); first | refine o_st ?_ | refine zq4 ?_) | ((apply d_bb); first | refine zl1 ?_ | refine zm1 ?_ | refine zn1 ?_ | refine zw3 ?_ | refine zr ?_) | ((apply d_cv); first | refine zc3 ?_ | refine zn4 ?_ | refine ze5 ?_ | refine zf5 ?_ | refine zr ?_) | refine o_al ?_ | refine zb5 ?_ | refine zc5 ?_ | refine zd5 ?_ | refine zr ?_ | refine o_mv ?_) | ((apply d_w); first | refine zy ?_ | refine zc ?_) | refine zb fun C => ?_ | refine zp (by kernel_rfl) (by kernel_rfl) fun C => ?_ | refine zn ?_ | refine ze ?_ | refine zh ?_ | refine zi ?_)
  refine zm4 (ze6 900 (i := 2) 86 3 rfl rfl (pre := [_, _]) (post := []) rfl) ?_; refine zu ?_; refine ret1 rfl (zl3 (zu2 rfl (zu2 rfl (zk3 rfl rfl rfl (by first | exact zg _ | exact zf _ | exact bytC_clo _ | (simp [cloL, clo, zg, zf, zk, zj, zd]; done) | (simp [cloL, clo, opC, opL, zg, zf, zk, zj, zd]; done)) zs2)))) rfl (by first | rfl | (simp [cloL, clo, zg, zf, zk, zj, zd]; done)) rfl ⟨?_, ?_⟩
  · rfl
  · rfl
structure GoodS (s : ByteArray) (p : PS) (r : E × PS) : Prop where
  fine : Fine r.1
  ge : p.a ≤ r.2.a
  le : r.2.a ≤ s.size
  dg : p.d ≤ r.2.d
  dl : r.2.d ≤ 9
  nb : r.2.b = false → p.b = false ∧ r.2.d = p.d
def Pre (s : ByteArray) (p : PS) : Prop := p.a ≤ s.size ∧ p.d ≤ 9 ∧ (p.b = false → p.d ≤ 8)
section
variable {s : ByteArray} (hs : s.size ≤ 1048576)
theorem zg9 {c : Nat} {p : PS} (h : isB s c p = true) : p.b = false ∧ p.a < s.size ∧ bAt s p.a = c := by
  unfold isB at h
  simp only [Bool.and_eq_true, Bool.not_eq_true', decide_eq_true_iff, beq_iff_eq] at h
  exact ⟨h.1.1, h.1.2, h.2⟩
theorem GoodS.bad {p q : PS} (hp : Pre s p) (h1 : p.a ≤ q.a) (h2 : q.a ≤ s.size) (h3 : p.d ≤ q.d) (h4 : q.d ≤ 9) : GoodS s p (zeroR, q.bad) := ⟨Fine.zero, h1, h2, h3, h4, fun h => by cases h⟩
theorem zn10 {alt : PS → E × PS} {q : PS} (hq : Pre s q) (hb : q.b = false) (ha : q.d ≤ 7 → GoodS s ⟨q.a, q.d + 1, q.b⟩ (alt ⟨q.a, q.d + 1, q.b⟩)) : GoodS s q (groupS s alt q) := by
  obtain ⟨h1, h2, h3⟩ := hq
  have h3 := h3 hb
  unfold groupS
  split
  · rename_i h
    obtain ⟨i1, i2, i3⟩ := zg9 h
    exact ⟨Fine.leaf (by omega) (by show (0 : Nat) ≤ _; omega), by show q.a ≤ q.a + 1; omega, by show q.a + 1 ≤ _; omega, Nat.le_refl _, h2, fun _ => ⟨hb, rfl⟩⟩
  split
  · exact ⟨Fine.zero, Nat.le_refl _, h1, by show q.d ≤ q.d + 1; omega, by show q.d + 1 ≤ 9; omega, fun h => by cases h⟩
  · obtain ⟨g1, g2, g3, g4, g5, g6⟩ := ha (by omega)
    dsimp only at g2 g4 ⊢
    split
    · rename_i h
      obtain ⟨i1, i2, i3⟩ := zg9 h
      dsimp only at i1 i2
      obtain ⟨j1, j2⟩ := g6 i1
      exact ⟨g1, by show q.a ≤ (alt ⟨q.a, q.d + 1, q.b⟩).2.a + 1; omega, by show (alt ⟨q.a, q.d + 1, q.b⟩).2.a + 1 ≤ _; omega, by show q.d ≤ (alt ⟨q.a, q.d + 1, q.b⟩).2.d - 1; omega, by show (alt ⟨q.a, q.d + 1, q.b⟩).2.d - 1 ≤ 9; omega, fun _ => ⟨hb, by show (alt ⟨q.a, q.d + 1, q.b⟩).2.d - 1 = q.d; dsimp only at j2; omega⟩⟩
    · exact ⟨Fine.zero, g2, g3, by show q.d ≤ (alt ⟨q.a, q.d + 1, q.b⟩).2.d - 1; omega, by show (alt ⟨q.a, q.d + 1, q.b⟩).2.d - 1 ≤ 9; omega, fun h => by cases h⟩
include hs
theorem zu11 {alt : PS → E × PS} {p : PS} (hp : Pre s p) (ha : p.b = false → p.a < s.size → p.d ≤ 7 → GoodS s ⟨p.a + 1, p.d + 1, p.b⟩ (alt ⟨p.a + 1, p.d + 1, p.b⟩)) : GoodS s p (atomS s alt p) ∧ ((atomS s alt p).2.b = false → p.a < (atomS s alt p).2.a) := by
  obtain ⟨h1, h2, h3⟩ := hp
  unfold atomS
  split
  · exact ⟨GoodS.bad ⟨h1, h2, h3⟩ (Nat.le_refl _) h1 (Nat.le_refl _) h2, fun h => by cases h⟩
  · rename_i hn
    simp only [not_or, Bool.not_eq_true, Nat.not_le] at hn
    obtain ⟨hb, hlt⟩ := hn
    have up : ∀ r : E × PS, GoodS s (p.go 1) r → GoodS s p r ∧ (r.2.b = false → p.a < r.2.a) := fun r g =>
      ⟨⟨g.fine, by have := g.ge; have e : (p.go 1).a = p.a + 1 := rfl; omega, g.le, g.dg, g.dl, g.nb⟩, fun _ => by have := g.ge; have e : (p.go 1).a = p.a + 1 := rfl; omega⟩
    have hq : Pre s (p.go 1) := ⟨by show p.a + 1 ≤ _; omega, h2, h3⟩
    apply up
    have leaf : ∀ (k : Int) (t : ByteArray), 0 ≤ k ∧ k ≤ 11 → t.size ≤ 1 → GoodS s (p.go 1) (rexE k t [], p.go 1) := fun k t hk ht => ⟨Fine.leaf hk (by omega), Nat.le_refl _, hq.1, Nat.le_refl _, hq.2.1, fun h => ⟨h, rfl⟩⟩
    have e0 : ByteArray.empty.size = 0 := rfl
    unfold atomSc
    split
    · exact leaf 2 _ (by omega) (by omega)
    split
    · exact leaf 10 _ (by omega) (by omega)
    split
    · exact leaf 11 _ (by omega) (by omega)
    split
    · exact zn10 hq hb fun h => ha hb hlt h
    split
    · exact leaf 1 _ (by omega) (by show (1 : Nat) ≤ 1; omega)
    split
    · exact GoodS.bad hq (Nat.le_refl _) hq.1 (Nat.le_refl _) hq.2.1
    · obtain ⟨u1, u2⟩ := zi15 (s := s) (c := 93) s.size (p.go 1).a hq.1
      dsimp only
      split
      · rename_i h
        obtain ⟨i1, i2, i3⟩ := zg9 h
        dsimp only at i2
        refine ⟨Fine.leaf (by omega) (by show (cutB _ _ _).size ≤ _; unfold cutB; rw [ByteArray.size_extract]; omega), ?_, ?_, Nat.le_refl _, hq.2.1, fun h => ⟨h, rfl⟩⟩
        · show (p.go 1).a ≤ untB s 93 s.size (p.go 1).a + 1; omega
        · show untB s 93 s.size (p.go 1).a + 1 ≤ _; omega
      · exact GoodS.bad hq u1 u2 (Nat.le_refl _) hq.2.1
omit hs in
theorem zo8 {atom : PS → E × PS} {p : PS} (ha : GoodS s p (atom p) ∧ ((atom p).2.b = false → p.a < (atom p).2.a)) : GoodS s p (itemS s atom p) ∧ ((itemS s atom p).2.b = false → p.a < (itemS s atom p).2.a) := by
  obtain ⟨⟨g1, g2, g3, g4, g5, g6⟩, g7⟩ := ha
  have star : ∀ k : Int, 0 ≤ k ∧ k ≤ 11 → (atom p).2.a < s.size → GoodS s p (rexE k ByteArray.empty [(atom p).1], (atom p).2.go 1) ∧ (((atom p).2.go 1).b = false → p.a < ((atom p).2.go 1).a) := fun k hk hl =>
    ⟨⟨.mk k _ _ hk (by show (0 : Nat) ≤ _; omega) (fun x hx => by obtain rfl := List.mem_singleton.1 hx; exact g1), by show p.a ≤ (atom p).2.a + 1; omega, by show (atom p).2.a + 1 ≤ _; omega, g4, g5, g6⟩, fun _ => by show p.a < (atom p).2.a + 1; omega⟩
  unfold itemS
  dsimp only
  split
  · rename_i h; exact star 6 (by omega) (zg9 h).2.1
  split
  · rename_i h; exact star 7 (by omega) (zg9 h).2.1
  split
  · rename_i h; exact star 8 (by omega) (zg9 h).2.1
  · exact ⟨⟨g1, g2, g3, g4, g5, g6⟩, g7⟩
omit hs in
structure GoodLS (s : ByteArray) (p0 : PS) (l : List E) (q : PS) : Prop where
  fine : ∀ x ∈ l, Fine x
  ge : p0.a ≤ q.a
  le : q.a ≤ s.size
  dg : p0.d ≤ q.d
  dl : q.d ≤ 9
  nb : q.b = false → p0.b = false ∧ q.d = p0.d
  len : l.length + p0.a ≤ q.a + 2 ∧ (q.b = false → l.length + p0.a ≤ q.a + 1)
  ne : 0 < l.length
omit hs in
theorem goS_to {p : PS} (h : goS s p = true) : p.b = false ∧ p.a < s.size ∧ bAt s p.a ≠ 124 ∧ bAt s p.a ≠ 41 := by
  unfold goS at h
  simp only [Bool.and_eq_true, Bool.not_eq_true', decide_eq_true_iff, beq_eq_false_iff_ne] at h
  exact ⟨h.1.1.1, h.1.1.2, h.1.2, h.2⟩
omit hs in
theorem GoodLS.pre {p0 q : PS} {l : List E} (h : GoodLS s p0 l q) (hp : Pre s p0) : Pre s q := ⟨h.le, h.dl, fun hb => by obtain ⟨h1, h2⟩ := h.nb hb; have := hp.2.2 h1; omega⟩
omit hs in
theorem GoodLS.step {p0 q : PS} {l : List E} {r : E × PS} (h : GoodLS s p0 l q) (hb : q.b = false) (hr : GoodS s q r ∧ (r.2.b = false → q.a < r.2.a)) : GoodLS s p0 (l ++ [r.1]) r.2 := by
  obtain ⟨k1, k2, k3, k4, k5, k6, k7, k8⟩ := h
  obtain ⟨⟨g1, g2, g3, g4, g5, g6⟩, g7⟩ := hr
  have k7 := k7.2 hb
  refine ⟨fun x hx => ?_, by omega, g3, by omega, g5, fun h => ?_, ⟨?_, fun h => ?_⟩, ?_⟩
  · rcases List.mem_append.1 hx with hx | hx
    · exact k1 x hx
    · obtain rfl := List.mem_singleton.1 hx; exact g1
  · exact ⟨(k6 hb).1, by have := (g6 h).2; have := (k6 hb).2; omega⟩
  · rw [List.length_append, List.length_singleton]; omega
  · have := g7 h; rw [List.length_append, List.length_singleton]; omega
  · rw [List.length_append, List.length_singleton]; omega
omit hs in
theorem GoodLS.one {p0 : PS} {r : E × PS} (hr : GoodS s p0 r) : GoodLS s p0 [r.1] r.2 := by
  obtain ⟨g1, g2, g3, g4, g5, g6⟩ := hr
  exact ⟨fun x hx => by obtain rfl := List.mem_singleton.1 hx; exact g1, g2, g3, g4, g5, g6, ⟨by rw [List.length_singleton]; omega, fun _ => by rw [List.length_singleton]; omega⟩, by simp⟩
omit hs in
theorem zz7 {item : PS → E × PS} {p0 : PS} (hp0 : Pre s p0) (hi : ∀ p, Pre s p → p0.a ≤ p.a → p.d ≤ p0.d ∨ p.b = true → GoodS s p (item p) ∧ ((item p).2.b = false → p.a < (item p).2.a)) : ∀ (n : Nat) (l : List E) (p : PS), GoodLS s p0 l p → GoodLS s p0 (catLoopS s item n l p).1 (catLoopS s item n l p).2
  | 0, l, p, h => h
  | n + 1, l, p, h => by
    unfold catLoopS
    split
    · rename_i hg
      obtain ⟨hb, hlt, -⟩ := goS_to hg
      exact zz7 hp0 hi n _ _ (h.step hb (hi p (h.pre hp0) h.ge (.inl (by have := (h.nb hb).2; omega))))
    · exact h
omit hs in
theorem GoodLS.fin {p0 q : PS} {l : List E} {k : Int} (hk : 0 ≤ k ∧ k ≤ 11) (h : GoodLS s p0 l q) : GoodS s p0 (oneOr k l, q) := ⟨(zn8 hk h.fine).1, h.ge, h.le, h.dg, h.dl, h.nb⟩
omit hs in
theorem zg14 {item : PS → E × PS} {p : PS} (hp : Pre s p) (hi : ∀ q, Pre s q → p.a ≤ q.a → GoodS s q (item q) ∧ ((item q).2.b = false → q.a < (item q).2.a)) : GoodS s p (catS s item p) :=
  (zz7 hp (fun q h1 h2 _ => hi q h1 h2) (s.size + 1) _ _ (GoodLS.one (hi p hp (Nat.le_refl _)).1)).fin (by omega)
omit hs in
theorem za8 {cat : PS → E × PS} {p0 : PS} (hp0 : Pre s p0) (hc : ∀ q, Pre s q → p0.a ≤ q.a → GoodS s q (cat q)) : ∀ (n : Nat) (l : List E) (p : PS), GoodLS s p0 l p → GoodLS s p0 (altLoopS s cat n l p).1 (altLoopS s cat n l p).2
  | 0, l, p, h => h
  | n + 1, l, p, h => by
    unfold altLoopS
    split
    · rename_i hg
      obtain ⟨hb, hlt, -⟩ := zg9 hg
      have hpre := h.pre hp0
      have e1 : (p.go 1).a = p.a + 1 := rfl
      have hge := h.ge
      have hgd := hc (p.go 1) ⟨by omega, hpre.2.1, hpre.2.2⟩ (by omega)
      refine za8 hp0 hc n _ _ (h.step hb ⟨⟨hgd.fine, by have := hgd.ge; omega, hgd.le, hgd.dg, hgd.dl, hgd.nb⟩, fun _ => by have := hgd.ge; omega⟩)
    · exact h
omit hs in
theorem zk21 {cat : PS → E × PS} {p : PS} (hp : Pre s p) (hc : ∀ q, Pre s q → p.a ≤ q.a → GoodS s q (cat q)) : GoodS s p (altC s cat p) :=
  (za8 hp hc (s.size + 1) _ _ (GoodLS.one (hc p hp (Nat.le_refl _)))).fin (by omega)
theorem zh14 (f : Nat) : ∀ p : PS, Pre s p → s.size + 1 ≤ p.a + f → GoodS s p (altS s f p) := by
  induction f with
  | zero => intro p h1 h2; have := h1.1; omega
  | succ f ih =>
    intro p h1 h2
    exact zk21 h1 fun q hq hqa => zg14 hq fun r hr hra => zo8 (zu11 hs hr fun hb hlt hd => ih _ ⟨by show r.a + 1 ≤ _; omega, by show r.d + 1 ≤ 9; omega, fun _ => by show r.d + 1 ≤ 8; omega⟩ (by show s.size + 1 ≤ r.a + 1 + f; omega))
end
theorem zt12 {c : Nat} (hc : c < 256) : Ctr Try.prog 111 [.c (.v (.int .u8 (c : Int)))] [] (.c (.v (.bool (litB c)))) [] := by
  have h2 := zv20 hc
  refine zm2 Try.func111 rfl rfl ?_
  repeat' (first | ((apply f_wo); first | ((apply f_gs); first | refine n_sk ?_) | ((apply f_mv); first | (refine zw1 ?_ ?_ <;> intro hG <;> (try cases hG)) | refine zg1 (v := .c _) ?_ | refine za ?_) | ((apply f_as); first | refine zf1 (v := .c _) ?_ | refine za ?_) | ((apply f_ca); first | refine zr2 ((zk6 _ _ _)) ?_ | refine zp2 ((zk6 _ _ _)) ?_ | refine zr2 (h2) ?_ | refine zp2 (h2) ?_) | ((apply zz1); first | refine zd2 ?_ | refine za ?_) | ((apply f_pk); first | refine zu1 (v := .c _) ?_ | refine za ?_) | ((apply f_cv); first | refine n_int_cv ?_ | refine za ?_) | refine za ?_) | ((apply f_w); first | refine zy ?_ | refine zc ?_) | refine zb fun C => ?_ | refine zn ?_ | refine ze ?_ | refine zh ?_ | refine zi ?_ | (refine zt (by rfl) ?_ ?_ <;> intro hC <;> (try cases hC)))
  all_goals
    (first | refine zu ?_ | skip); refine ret0 rfl zn2 ⟨?_, rfl⟩; refine congrArg (fun s => AV.c (AC.v (Value.bool s))) ?_
    clear h2
    unfold litB
    simp only [inR, digB, Bool.or_eq_true, Bool.and_eq_true, decide_eq_true_iff, beq_iff_eq, Bool.and_eq_false_iff, decide_eq_false_iff_not] at *
    (rw [Bool.eq_iff_iff]; (try simp only [Bool.and_eq_true, Bool.or_eq_true, Bool.not_eq_true', decide_eq_true_iff, decide_eq_false_iff_not, beq_iff_eq, Bool.and_eq_false_iff, Bool.or_eq_false_iff, bne_iff_ne, ne_eq, Bool.true_eq_false, Bool.false_eq_true, true_iff, false_iff, iff_true, iff_false] at *); first | omega | (simp at *; omega))
theorem zu5 (k : Int) : Ctr Try.prog 110 [.c (.v (.int .i64 k))] [] (.c (.v (.bool (loopK k)))) [] := by
  refine zm2 Try.func110 rfl rfl ?_
  repeat' (first | ((apply f_wo); first | ((apply f_gs); first | refine n_sk ?_) | ((apply f_mv); first | (refine zw1 ?_ ?_ <;> intro hG <;> (try cases hG)) | refine zg1 (v := .c _) ?_ | refine za ?_) | ((apply f_as); first | refine zf1 (v := .c _) ?_ | refine za ?_) | ((apply zz1); first | refine za1 ?_ | refine za ?_) | ((apply f_pk); first | refine zu1 (v := .c _) ?_ | refine za ?_) | refine za ?_) | ((apply f_w); first | refine zy ?_ | refine zc ?_) | refine zb fun C => ?_ | refine zn ?_ | refine ze ?_ | refine zh ?_ | refine zi ?_ | (refine zt (by rfl) ?_ ?_ <;> intro hC <;> (try cases hC)))
  all_goals
    (first | refine zu ?_ | skip); refine ret0 rfl zn2 ⟨?_, rfl⟩; refine congrArg (fun s => AV.c (AC.v (Value.bool s))) ?_
    unfold loopK
    (rw [Bool.eq_iff_iff]; (try simp only [Bool.and_eq_true, Bool.or_eq_true, Bool.not_eq_true', decide_eq_true_iff, decide_eq_false_iff_not, beq_iff_eq, Bool.and_eq_false_iff, Bool.or_eq_false_iff, bne_iff_ne, ne_eq, Bool.true_eq_false, Bool.false_eq_true, true_iff, false_iff, iff_true, iff_false] at *); first | omega | (simp at *; omega))
theorem l3Set_c {s : ByteArray} (hs : s.size ≤ 1073741824) : Ctr Try.prog 112 [.c (.v (.string s))] [] (.c (.v (.bool (setOkB s)))) [] := by
  refine zm2 Try.func112 rfl rfl ?_
  repeat' (first | ((apply f_wo); first | ((apply f_gs); first | refine n_sk ?_) | ((apply f_mv); first | (refine zw1 ?_ ?_ <;> intro hG <;> (try cases hG)) | refine zg1 (v := .c _) ?_ | refine za ?_) | ((apply f_as); first | refine zf1 (v := .c _) ?_ | refine za ?_) | ((apply f_bi); first | refine zd1 ?_ | refine zc1 ?_ | refine ze1 ?_ | refine za ?_) | ((apply za2); first | refine zq ?_ | refine za ?_) | ((apply zq3); first | refine zh1 ?_ | refine za ?_) | ((apply zs3); first | refine zw7 ?_ | refine za ?_) | ((apply zs1); first | refine zo ?_ | refine zr1 ?_ | refine za ?_) | ((apply f_no); first | refine zj2 ?_ | refine za ?_) | ((apply f_pk); first | refine zu1 (v := .c _) ?_ | refine za ?_) | ((apply f_bb); first | refine zg2 ?_ | refine zh2 ?_ | refine za ?_) | refine zx3 ?_ | refine za ?_) | ((apply f_w); first | refine zy ?_ | refine zc ?_) | ((apply d_wo); first | ((apply d_gs); first | refine o_sk ?_ | refine za4 ?_) | ((apply d_bo); (refine o_gm ?_ ?_ <;> intro hG <;> (try cases hG))) | ((apply d_mv); refine zr ?_) | ((apply d_as); refine zr ?_) | ((apply d_bi); first | refine zn3 ?_ | refine zm3 ?_ | refine zo3 ?_ | refine zw2 ?_ | refine zw2 (hnu := zl _) ?_ | refine zx1 ?_ | refine zx1 (hnu := zl _) ?_ | refine zr ?_) | ((apply d_bb); first | refine zl1 ?_ | refine zm1 ?_ | refine zn1 ?_ | refine zw3 ?_ | refine zr ?_) | refine zo4 ?_ | refine zr ?_) | ((apply d_w); first | refine zy ?_ | refine zc ?_) | refine zb fun C => ?_ | refine zp (by kernel_rfl) (by kernel_rfl) fun C => ?_ | refine zn ?_ | refine ze ?_ | refine zh ?_ | refine zi ?_)
  refine zp3 (fun k : Nat => ⟨tmsF [(0, .c (.v (.string s))), (3, .c (.v (.int .i64 k)))], hpsF [], 0, [], 32⟩) (fun N k => k + N = s.size ∧ ∀ j, j < k → setAtB s j = true) s.size 0 ⟨by omega, fun j hj => by omega⟩ ?_ ?_
  · (refine zo2 _ _ rfl rfl ?_ ?_ <;> (repeat' (first | exact TmOk.nil | exact RwOk.nil | refine TmOk.cons ?_ ?_ | refine RwOk.cons ?_ ?_ | rfl | (refine rnV_id' rfl ?_; (first | rfl | (simp [cloV, cloL, clo, zj, zf, zk, zg, zd]; done))) | (refine zd3 ?_; first | rfl | omega | (rw [zb2 (by omega) (by omega)]; omega)) | (refine zi2 rfl ?_; (first | rfl | (simp [cloV, cloL, clo, zj, zf, zk, zg, zd]; done))) | exact zj4 rfl rfl | (refine ze3 (by rfl) (by rfl) ?_ ?_ <;> (first | rfl | (simp [cloV, cloL, clo, zj, zf, zk, zg, zd]; done))) | (refine rw_rn' rfl rfl ?_; simp; done))))
  rintro N k ⟨hN, hall⟩
  repeat' (first | ((apply f_wo); first | ((apply f_gs); first | refine n_sk ?_) | ((apply f_mv); first | (refine zw1 ?_ ?_ <;> intro hG <;> (try cases hG)) | refine zg1 (v := .c _) ?_ | refine za ?_) | ((apply f_as); first | refine zf1 (v := .c _) ?_ | refine za ?_) | ((apply f_bi); first | refine zd1 ?_ | refine zc1 ?_ | refine ze1 ?_ | refine za ?_) | ((apply za2); first | refine zq ?_ | refine za ?_) | ((apply zq3); first | refine zh1 ?_ | refine za ?_) | ((apply zs3); first | refine zw7 ?_ | refine za ?_) | ((apply zs1); first | refine zo ?_ | refine zr1 ?_ | refine za ?_) | ((apply f_no); first | refine zj2 ?_ | refine za ?_) | ((apply f_pk); first | refine zu1 (v := .c _) ?_ | refine za ?_) | ((apply f_bb); first | refine zg2 ?_ | refine zh2 ?_ | refine za ?_) | refine zx3 ?_ | refine za ?_) | ((apply f_w); first | refine zy ?_ | refine zc ?_) | ((apply d_wo); first | ((apply d_gs); first | refine o_sk ?_ | refine za4 ?_) | ((apply d_bo); (refine o_gm ?_ ?_ <;> intro hG <;> (try cases hG))) | ((apply d_mv); refine zr ?_) | ((apply d_as); refine zr ?_) | ((apply d_bi); first | refine zn3 ?_ | refine zm3 ?_ | refine zo3 ?_ | refine zw2 ?_ | refine zw2 (hnu := zl _) ?_ | refine zx1 ?_ | refine zx1 (hnu := zl _) ?_ | refine zr ?_) | ((apply d_bb); first | refine zl1 ?_ | refine zm1 ?_ | refine zn1 ?_ | refine zw3 ?_ | refine zr ?_) | refine zo4 ?_ | refine zr ?_) | ((apply d_w); first | refine zy ?_ | refine zc ?_) | refine zb fun C => ?_ | refine zp (by kernel_rfl) (by kernel_rfl) fun C => ?_ | refine zn ?_ | refine ze ?_ | refine zh ?_ | refine zi ?_)
  refine zt (by rfl) (fun h1 => ?_) fun h1 => ?_
  · have hk : k < s.size := by simpa using h1
    have hl := zt12 (zn7 s k)
    cases k with
    | zero =>
      repeat' (first | ((apply f_wo); first | ((apply f_gs); first | refine n_sk ?_) | ((apply f_mv); first | (refine zw1 ?_ ?_ <;> intro hG <;> (try cases hG)) | refine zg1 (v := .c _) ?_ | refine za ?_) | ((apply f_as); first | refine zf1 (v := .c _) ?_ | refine za ?_) | ((apply f_ca); first | refine zr2 (hl) ?_ | refine zp2 (hl) ?_) | ((apply f_bi); first | refine zd1 ?_ | refine zc1 ?_ | refine ze1 ?_ | refine za ?_) | ((apply za2); first | refine zq ?_ | refine za ?_) | ((apply zq3); first | refine zh1 ?_ | refine za ?_) | ((apply zs3); first | refine zw7 ?_ | refine za ?_) | ((apply zs1); first | refine zo ?_ | refine zr1 ?_ | refine za ?_) | ((apply f_no); first | refine zj2 ?_ | refine za ?_) | ((apply f_pk); first | refine zu1 (v := .c _) ?_ | refine za ?_) | ((apply f_bb); first | refine zg2 ?_ | refine zh2 ?_ | refine za ?_) | refine zx3 ?_ | refine za ?_) | ((apply f_w); first | refine zy ?_ | refine zc ?_) | ((apply d_wo); first | ((apply d_gs); first | refine o_sk ?_ | refine za4 ?_) | ((apply d_bo); (refine o_gm ?_ ?_ <;> intro hG <;> (try cases hG))) | ((apply d_mv); refine zr ?_) | ((apply d_as); refine zr ?_) | ((apply d_ca); first | refine zn5 (hl) ?_) | ((apply d_bi); first | refine zn3 ?_ | refine zm3 ?_ | refine zo3 ?_ | refine zw2 ?_ | refine zw2 (hnu := zl _) ?_ | refine zx1 ?_ | refine zx1 (hnu := zl _) ?_ | refine zr ?_) | ((apply d_bb); first | refine zl1 ?_ | refine zm1 ?_ | refine zn1 ?_ | refine zw3 ?_ | refine zr ?_) | refine zo4 ?_ | refine zr ?_) | ((apply d_w); first | refine zy ?_ | refine zc ?_) | refine zb fun C => ?_ | refine zp (by kernel_rfl) (by kernel_rfl) fun C => ?_ | refine zn ?_ | refine ze ?_ | refine zh ?_ | refine zi ?_ | (refine zt (by rfl) ?_ ?_ <;> intro hC <;> (try cases hC)))
      all_goals first
        | (exfalso; revert hG; simp; done)
        | (refine zu ?_
           refine ret0 (x := .c (.v (.bool false))) rfl zn2 ⟨?_, rfl⟩
           rw [zo9 hk (by unfold setAtB; simp_all)])
        | (refine ⟨N - 1, 1, by omega, ⟨by omega, fun j hj => ?_⟩, ?_⟩
           · obtain rfl : j = 0 := by omega
             unfold setAtB; simp_all
           · (refine zo2 _ _ rfl rfl ?_ ?_ <;> (repeat' (first | exact TmOk.nil | exact RwOk.nil | refine TmOk.cons ?_ ?_ | refine RwOk.cons ?_ ?_ | rfl | (refine rnV_id' rfl ?_; (first | rfl | (simp [cloV, cloL, clo, zj, zf, zk, zg, zd]; done))) | (refine zd3 ?_; first | rfl | omega | (rw [zb2 (by omega) (by omega)]; omega)) | (refine zi2 rfl ?_; (first | rfl | (simp [cloV, cloL, clo, zj, zf, zk, zg, zd]; done))) | exact zj4 rfl rfl | (refine ze3 (by rfl) (by rfl) ?_ ?_ <;> (first | rfl | (simp [cloV, cloL, clo, zj, zf, zk, zg, zd]; done))) | (refine rw_rn' rfl rfl ?_; simp; done)))))
    | succ m =>
      have hm : ((m + 1 : Nat) : Int) - 1 = (m : Int) := by omega
      repeat' (first | ((apply f_wo); first | ((apply f_gs); first | refine n_sk ?_) | ((apply f_mv); first | (refine zw1 ?_ ?_ <;> intro hG <;> (try cases hG)) | refine zg1 (v := .c _) ?_ | refine za ?_) | ((apply f_as); first | refine zf1 (v := .c _) ?_ | refine za ?_) | ((apply f_ca); first | refine zr2 (hl) ?_ | refine zp2 (hl) ?_) | ((apply f_bi); first | refine zd1 ?_ | refine zc1 ?_ | refine ze1 ?_ | refine za ?_) | ((apply za2); first | refine zq ?_ | refine za ?_) | ((apply zq3); first | refine zh1 ?_ | refine za ?_) | ((apply zs3); first | refine zw7 ?_ | refine za ?_) | ((apply zs1); first | refine zo ?_ | refine zr1 ?_ | refine za ?_) | ((apply f_no); first | refine zj2 ?_ | refine za ?_) | ((apply f_pk); first | refine zu1 (v := .c _) ?_ | refine za ?_) | ((apply f_bb); first | refine zg2 ?_ | refine zh2 ?_ | refine za ?_) | refine zx3 ?_ | refine za ?_) | ((apply f_w); first | refine zy ?_ | refine zc ?_) | ((apply d_wo); first | ((apply d_gs); first | refine o_sk ?_ | refine za4 ?_) | ((apply d_bo); (refine o_gm ?_ ?_ <;> intro hG <;> (try cases hG))) | ((apply d_mv); refine zr ?_) | ((apply d_as); refine zr ?_) | ((apply d_ca); first | refine zn5 (hl) ?_) | ((apply d_bi); first | refine zn3 ?_ | refine zm3 ?_ | refine zo3 ?_ | refine zw2 ?_ | refine zw2 (hnu := zl _) ?_ | refine zx1 ?_ | refine zx1 (hnu := zl _) ?_ | refine zr ?_) | ((apply d_bb); first | refine zl1 ?_ | refine zm1 ?_ | refine zn1 ?_ | refine zw3 ?_ | refine zr ?_) | refine zo4 ?_ | refine zr ?_) | ((apply d_w); first | refine zy ?_ | refine zc ?_) | refine zb fun C => ?_ | refine zp (by kernel_rfl) (by kernel_rfl) fun C => ?_ | refine zn ?_ | refine ze ?_ | refine zh ?_ | refine zi ?_ | (refine zt (by rfl) ?_ ?_ <;> intro hC <;> (try cases hC)))
      all_goals first
        | (refine zu ?_
           refine ret0 (x := .c (.v (.bool false))) rfl zn2 ⟨?_, rfl⟩
           rw [zo9 hk (by unfold setAtB; simp_all; try omega)])
        | (refine ⟨N - 1, m + 2, by omega, ⟨by omega, fun j hj => ?_⟩, ?_⟩
           · rcases Nat.lt_or_ge j (m + 1) with h | h
             · exact hall j h
             · obtain rfl : j = m + 1 := by omega
               unfold setAtB; simp_all; try omega
           · (refine zo2 _ _ rfl rfl ?_ ?_ <;> (repeat' (first | exact TmOk.nil | exact RwOk.nil | refine TmOk.cons ?_ ?_ | refine RwOk.cons ?_ ?_ | rfl | (refine rnV_id' rfl ?_; (first | rfl | (simp [cloV, cloL, clo, zj, zf, zk, zg, zd]; done))) | (refine zd3 ?_; first | rfl | omega | (rw [zb2 (by omega) (by omega)]; omega)) | (refine zi2 rfl ?_; (first | rfl | (simp [cloV, cloL, clo, zj, zf, zk, zg, zd]; done))) | exact zj4 rfl rfl | (refine ze3 (by rfl) (by rfl) ?_ ?_ <;> (first | rfl | (simp [cloV, cloL, clo, zj, zf, zk, zg, zd]; done))) | (refine rw_rn' rfl rfl ?_; simp; done)))))
        | skip
  · repeat' (first | ((apply f_wo); first | ((apply f_gs); first | refine n_sk ?_) | ((apply f_mv); first | (refine zw1 ?_ ?_ <;> intro hG <;> (try cases hG)) | refine zg1 (v := .c _) ?_ | refine za ?_) | ((apply f_as); first | refine zf1 (v := .c _) ?_ | refine za ?_) | ((apply f_ca); first | refine zr2 ((zk6 _ _ _)) ?_ | refine zp2 ((zk6 _ _ _)) ?_) | ((apply f_bi); first | refine zd1 ?_ | refine zc1 ?_ | refine ze1 ?_ | refine za ?_) | ((apply za2); first | refine zq ?_ | refine za ?_) | ((apply zq3); first | refine zh1 ?_ | refine za ?_) | ((apply zs3); first | refine zw7 ?_ | refine za ?_) | ((apply zs1); first | refine zo ?_ | refine zr1 ?_ | refine za ?_) | ((apply f_no); first | refine zj2 ?_ | refine za ?_) | ((apply f_pk); first | refine zu1 (v := .c _) ?_ | refine za ?_) | ((apply f_bb); first | refine zg2 ?_ | refine zh2 ?_ | refine za ?_) | refine zx3 ?_ | refine za ?_) | ((apply f_w); first | refine zy ?_ | refine zc ?_) | ((apply d_wo); first | ((apply d_gs); first | refine o_sk ?_ | refine za4 ?_) | ((apply d_bo); (refine o_gm ?_ ?_ <;> intro hG <;> (try cases hG))) | ((apply d_mv); refine zr ?_) | ((apply d_as); refine zr ?_) | ((apply d_ca); first | refine zn5 ((zk6 _ _ _)) ?_) | ((apply d_bi); first | refine zn3 ?_ | refine zm3 ?_ | refine zo3 ?_ | refine zw2 ?_ | refine zw2 (hnu := zl _) ?_ | refine zx1 ?_ | refine zx1 (hnu := zl _) ?_ | refine zr ?_) | ((apply d_bb); first | refine zl1 ?_ | refine zm1 ?_ | refine zn1 ?_ | refine zw3 ?_ | refine zr ?_) | refine zo4 ?_ | refine zr ?_) | ((apply d_w); first | refine zy ?_ | refine zc ?_) | refine zb fun C => ?_ | refine zp (by kernel_rfl) (by kernel_rfl) fun C => ?_ | refine zn ?_ | refine ze ?_ | refine zh ?_ | refine zi ?_ | (refine zt (by rfl) ?_ ?_ <;> intro hC <;> (try cases hC)))
    refine zu ?_
    refine ret0 rfl zn2 ⟨?_, rfl⟩
    rw [zd14 fun j hj => hall j (by simp at h1; omega)]
    refine congrArg (fun s => AV.c (AC.v (Value.bool s))) ?_
    unfold inR
    (rw [Bool.eq_iff_iff]; (try simp only [Bool.and_eq_true, Bool.or_eq_true, Bool.not_eq_true', decide_eq_true_iff, decide_eq_false_iff_not, beq_iff_eq, Bool.and_eq_false_iff, Bool.or_eq_false_iff, bne_iff_ne, ne_eq, Bool.true_eq_false, Bool.false_eq_true, true_iff, false_iff, iff_true, iff_false] at *); first | omega | (simp at *; omega))
theorem zl21 {g : E → Nat} {B : Nat} : ∀ (l : List E) (n : Nat), (∀ x ∈ l, g x ≤ B) → sumS g l n ≤ max n (60 + B)
  | [], n, _ => by unfold sumS; omega
  | x :: r, n, h => by
    unfold sumS
    split
    · have h1 := h x List.mem_cons_self
      have := zl21 r (n + g x) fun y hy => h y (List.mem_cons_of_mem _ hy)
      omega
    · omega
theorem zi14 : ∀ (f : Nat) (e : E), partsS f e ≤ 61 + 60 * f
  | 0, _ => by unfold partsS; omega
  | f + 1, e => by
    have := zl21 e.rl 1 fun x _ => zi14 f x
    unfold partsS; omega
theorem zm21 {g : E → Nat} : ∀ (l : List E) {n : Nat}, 60 < n → sumS g l n = n
  | [], _, _ => rfl
  | x :: r, n, h => by unfold sumS; rw [if_neg (by omega)]
set_option maxHeartbeats 4000000 in
theorem zn21 (f : Nat) : ∀ (e : E) (deep : Nat), f ≤ 6 → e.Ty Try.prog 86 → e.sz ≤ 4194304 → deep + f = 7 → Ctr Try.prog 98 [.ag (acE e), .c (.v (.int .i64 (deep : Int)))] [] (.c (.v (.int .i64 ((partsS f e : Nat) : Int)))) [] := by
  induction f with
  | zero =>
    intro e deep hf he hsz hd
    obtain ⟨x0, x1, x2A, x2c, l, rfl, gx0, gx1, gx2, -⟩ := zq1 he
    obtain rfl : deep = 7 := by omega
    refine zm2 Try.func98 rfl rfl ?_
    repeat' (first | ((apply f_wo); first | ((apply f_gs); first | refine n_sk ?_) | ((apply f_mv); first | (refine zw1 ?_ ?_ <;> intro hG <;> (try cases hG)) | refine zg1 (v := .c _) ?_ | refine za ?_) | ((apply f_as); first | refine zf1 (v := .c _) ?_ | refine za ?_) | ((apply f_fa); first | refine n_fa ?_ | refine zk1 ?_) | ((apply f_ld); first | refine zw ?_ | refine zi1 ?_ | refine n_ld ?_) | ((apply f_bi); first | refine zd1 ?_ | refine zc1 ?_ | refine ze1 ?_ | refine za ?_) | ((apply f_ia); first | refine n_ix ?_ | refine zc2 ?_ | refine za ?_) | ((apply za2); first | refine zq ?_ | refine za ?_) | ((apply zb6); first | refine zj3 ?_ | refine za ?_) | ((apply zq3); first | refine zh1 ?_ | refine za ?_) | ((apply zs1); first | refine zo ?_ | refine zr1 ?_ | refine za ?_) | ((apply f_pk); first | refine zu1 (v := .c _) ?_ | refine za ?_) | refine n_bo ?_ | refine za ?_) | ((apply f_w); first | refine zy ?_ | refine zc ?_) | refine zb fun C => ?_ | refine zn ?_ | refine ze ?_ | refine zh ?_ | refine zi ?_ | refine zx rfl ?_ | refine zv rfl ?_)
    refine zu ?_
    exact ret0 (x := .c (.v (.int .i64 61))) rfl zn2 ⟨rfl, rfl⟩
  | succ f ih =>
    intro e deep hf he hsz hd
    obtain ⟨x0, x1, x2A, x2c, l, rfl, gx0, gx1, gx2, -⟩ := zq1 he
    simp only [E.sz, E.szL] at hsz
    have hl : l.length ≤ 4194304 := by omega
    refine zm2 Try.func98 rfl rfl ?_
    have hres : partsS (f + 1) (E.agg [.int .i64 x0, .str x1, .lst 3 86 x2A x2c l]) = sumS (partsS f) l 1 := rfl
    rw [hres]
    clear hres
    generalize hT : sumS (partsS f) l 1 = tot
    repeat' (first | ((apply f_wo); first | ((apply f_gs); first | refine n_sk ?_) | ((apply f_mv); first | (refine zw1 ?_ ?_ <;> intro hG <;> (try cases hG)) | refine zg1 (v := .c _) ?_ | refine za ?_) | ((apply f_as); first | refine zf1 (v := .c _) ?_ | refine za ?_) | ((apply f_fa); first | refine n_fa ?_ | refine zk1 ?_) | ((apply f_ld); first | refine zw ?_ | refine zi1 ?_ | refine n_ld ?_) | ((apply f_bi); first | refine zd1 ?_ | refine zc1 ?_ | refine ze1 ?_ | refine za ?_) | ((apply f_ia); first | refine n_ix ?_ | refine zc2 ?_ | refine za ?_) | ((apply za2); first | refine zq ?_ | refine za ?_) | ((apply zb6); first | refine zj3 ?_ | refine za ?_) | ((apply zq3); first | refine zh1 ?_ | refine za ?_) | ((apply zs1); first | refine zo ?_ | refine zr1 ?_ | refine za ?_) | ((apply f_pk); first | refine zu1 (v := .c _) ?_ | refine za ?_) | refine n_bo ?_ | refine za ?_) | ((apply f_w); first | refine zy ?_ | refine zc ?_) | refine zb fun C => ?_ | refine zn ?_ | refine ze ?_ | refine zh ?_ | refine zi ?_)
    refine zt (by rfl) (fun h => by exfalso; simp at h; omega) fun _ => ?_
    repeat' (first | ((apply f_wo); first | ((apply f_gs); first | refine n_sk ?_) | ((apply f_mv); first | (refine zw1 ?_ ?_ <;> intro hG <;> (try cases hG)) | refine zg1 (v := .c _) ?_ | refine za ?_) | ((apply f_as); first | refine zf1 (v := .c _) ?_ | refine za ?_) | ((apply f_fa); first | refine n_fa ?_ | refine zk1 ?_) | ((apply f_ld); first | refine zw ?_ | refine zi1 ?_ | refine n_ld ?_) | ((apply f_bi); first | refine zd1 ?_ | refine zc1 ?_ | refine ze1 ?_ | refine za ?_) | ((apply f_ia); first | refine n_ix ?_ | refine zc2 ?_ | refine za ?_) | ((apply za2); first | refine zq ?_ | refine za ?_) | ((apply zb6); first | refine zj3 ?_ | refine za ?_) | ((apply zq3); first | refine zh1 ?_ | refine za ?_) | ((apply zs1); first | refine zo ?_ | refine zr1 ?_ | refine za ?_) | ((apply f_pk); first | refine zu1 (v := .c _) ?_ | refine za ?_) | refine n_bo ?_ | refine za ?_) | ((apply f_w); first | refine zy ?_ | refine zc ?_) | refine zb fun C => ?_ | refine zn ?_ | refine ze ?_ | refine zh ?_ | refine zi ?_)
    refine zp3 (fun d : Nat × Nat => ⟨tmsF [(1, .c (.v (.int .i64 (deep : Int)))), (2, .c (.pt 2 0)), (5, .c (.v (.int .i64 (d.2 : Int)))), (6, .c (.v (.int .i64 (d.1 : Int))))], hpsF [(2, 2, ⟨86, 0, 0, true, [.v (.int .i64 x0), .v (.string x1), .ro l.length 3 (acL l)]⟩)], 0, [2], 31⟩) (fun N d => d.1 + N = l.length ∧ d.2 ≤ 600 ∧ sumS (partsS f) (l.drop d.1) d.2 = tot) l.length (0, 1) ⟨by simp, by simp, hT⟩ ?_ ?_
    · (refine zo2 _ _ rfl rfl ?_ ?_ <;> (repeat' (first | exact TmOk.nil | exact RwOk.nil | refine TmOk.cons ?_ ?_ | refine RwOk.cons ?_ ?_ | rfl | (refine rnV_id' rfl ?_; (first | rfl | (simp [cloV, cloL, clo, zj, zf, zk, zg, zd]; done))) | (refine zd3 ?_; first | rfl | omega | (rw [zb2 (by omega) (by omega)]; omega)) | (refine zi2 rfl ?_; (first | rfl | (simp [cloV, cloL, clo, zj, zf, zk, zg, zd]; done))) | exact zj4 rfl rfl | (refine ze3 (by rfl) (by rfl) ?_ ?_ <;> (first | rfl | (simp [cloV, cloL, clo, zj, zf, zk, zg, zd]; done))) | (refine rw_rn' rfl rfl ?_; simp; done))))
    rintro N ⟨k, n⟩ ⟨hN, hn, hs⟩
    dsimp only at hN hn hs ⊢
    repeat' (first | ((apply f_wo); first | ((apply f_gs); first | refine n_sk ?_) | ((apply f_mv); first | (refine zw1 ?_ ?_ <;> intro hG <;> (try cases hG)) | refine zg1 (v := .c _) ?_ | refine za ?_) | ((apply f_as); first | refine zf1 (v := .c _) ?_ | refine za ?_) | ((apply f_fa); first | refine n_fa ?_ | refine zk1 ?_) | ((apply f_ld); first | refine zw ?_ | refine zi1 ?_ | refine n_ld ?_) | ((apply f_bi); first | refine zd1 ?_ | refine zc1 ?_ | refine ze1 ?_ | refine za ?_) | ((apply f_ia); first | refine n_ix ?_ | refine zc2 ?_ | refine za ?_) | ((apply za2); first | refine zq ?_ | refine za ?_) | ((apply zb6); first | refine zj3 ?_ | refine za ?_) | ((apply zq3); first | refine zh1 ?_ | refine za ?_) | ((apply zs1); first | refine zo ?_ | refine zr1 ?_ | refine za ?_) | ((apply f_pk); first | refine zu1 (v := .c _) ?_ | refine za ?_) | refine n_bo ?_ | refine za ?_) | ((apply f_w); first | refine zy ?_ | refine zc ?_) | refine zb fun C => ?_ | refine zn ?_ | refine ze ?_ | refine zh ?_ | refine zi ?_)
    · have hk : k < l.length := by simpa using hG
      obtain ⟨x, hx⟩ : ∃ x, l[k]? = some x := ⟨_, List.getElem?_eq_getElem hk⟩
      have hd1 : l.drop k = x :: l.drop (k + 1) := by rw [List.drop_eq_getElem_cons hk]; congr 1; rw [List.getElem?_eq_getElem hk] at hx; exact Option.some.inj hx
      refine zt (by rfl) (fun h2 => ?_) fun h2 => ?_
      · have hn2 : n ≤ 60 := by simp only [decide_eq_true_iff] at h2; omega
        have hxt := gx2.1 x (List.mem_of_getElem? hx)
        have hxs := E.szL_mem (List.mem_of_getElem? hx)
        have hc := ih x (deep + 1) (by omega) hxt (by omega) (by omega)
        have hb := zi14 f x
        rw [hd1] at hs
        unfold sumS at hs
        rw [if_pos hn2] at hs
        have hgk := gx2.2
        obtain ⟨y0, y1, y2A, y2c, y2l, rfl, gy0, gy1, gy2, -⟩ := zq1 hxt
        repeat' (first | ((apply f_wo); first | ((apply f_gs); first | refine n_sk ?_) | ((apply f_mv); first | (refine zw1 ?_ ?_ <;> intro hG <;> (try cases hG)) | refine zg1 (v := .c _) ?_ | refine za ?_) | ((apply f_as); first | refine zf1 (v := .c _) ?_ | refine za ?_) | ((apply f_fa); first | refine n_fa ?_ | refine zk1 ?_) | ((apply f_ld); first | refine zw ?_ | refine zi1 ?_ | refine n_ld ?_) | ((apply f_ca); first | refine zr2 (hc) ?_ | refine zp2 (hc) ?_) | ((apply f_bi); first | refine zd1 ?_ | refine zc1 ?_ | refine ze1 ?_ | refine za ?_) | ((apply f_ia); first | refine n_ix ?_ | refine zc2 ?_ | refine za ?_) | ((apply za2); first | refine zq ?_ | refine za ?_) | ((apply zb6); first | refine zj3 ?_ | refine za ?_) | ((apply zq3); first | refine zh1 ?_ | refine za ?_) | ((apply zs1); first | refine zo ?_ | refine zr1 ?_ | refine za ?_) | ((apply f_pk); first | refine zu1 (v := .c _) ?_ | refine za ?_) | refine n_bo ?_ | refine za ?_) | ((apply f_w); first | refine zy ?_ | refine zc ?_) | refine zb fun C => ?_ | refine zn ?_ | refine ze ?_ | refine zh ?_ | refine zi ?_ | (refine zt (by rfl) ?_ ?_ <;> intro hC <;> (try cases hC)))
        refine ⟨N - 1, (k + 1, n + partsS f (E.agg [.int .i64 y0, .str y1, .lst 3 86 y2A y2c y2l])), by omega, ⟨by dsimp only; omega, by dsimp only; omega, hs⟩, ?_⟩
        (refine zo2 _ _ rfl rfl ?_ ?_ <;> (repeat' (first | exact TmOk.nil | exact RwOk.nil | refine TmOk.cons ?_ ?_ | refine RwOk.cons ?_ ?_ | rfl | (refine rnV_id' rfl ?_; (first | rfl | (simp [cloV, cloL, clo, zj, zf, zk, zg, zd]; done))) | (refine zd3 ?_; first | rfl | omega | (rw [zb2 (by omega) (by omega)]; omega)) | (refine zi2 rfl ?_; (first | rfl | (simp [cloV, cloL, clo, zj, zf, zk, zg, zd]; done))) | exact zj4 rfl rfl | (refine ze3 (by rfl) (by rfl) ?_ ?_ <;> (first | rfl | (simp [cloV, cloL, clo, zj, zf, zk, zg, zd]; done))) | (refine rw_rn' rfl rfl ?_; simp; done))))
      · have hn2 : 60 < n := by simp only [decide_eq_false_iff_not] at h2; omega
        rw [zm21 _ hn2] at hs
        repeat' (first | ((apply f_wo); first | ((apply f_gs); first | refine n_sk ?_) | ((apply f_mv); first | (refine zw1 ?_ ?_ <;> intro hG <;> (try cases hG)) | refine zg1 (v := .c _) ?_ | refine za ?_) | ((apply f_as); first | refine zf1 (v := .c _) ?_ | refine za ?_) | ((apply f_fa); first | refine n_fa ?_ | refine zk1 ?_) | ((apply f_ld); first | refine zw ?_ | refine zi1 ?_ | refine n_ld ?_) | ((apply f_bi); first | refine zd1 ?_ | refine zc1 ?_ | refine ze1 ?_ | refine za ?_) | ((apply f_ia); first | refine n_ix ?_ | refine zc2 ?_ | refine za ?_) | ((apply za2); first | refine zq ?_ | refine za ?_) | ((apply zb6); first | refine zj3 ?_ | refine za ?_) | ((apply zq3); first | refine zh1 ?_ | refine za ?_) | ((apply zs1); first | refine zo ?_ | refine zr1 ?_ | refine za ?_) | ((apply f_pk); first | refine zu1 (v := .c _) ?_ | refine za ?_) | refine n_bo ?_ | refine za ?_) | ((apply f_w); first | refine zy ?_ | refine zc ?_) | refine zb fun C => ?_ | refine zn ?_ | refine ze ?_ | refine zh ?_ | refine zi ?_ | (refine zt (by rfl) ?_ ?_ <;> intro hC <;> (try cases hC)))
        refine zu ?_
        refine ret0 (x := .c (.v (.int .i64 (n : Int)))) rfl zn2 ⟨?_, rfl⟩
        rw [hs]
    · have hk : k = l.length := by simp at hG; omega
      repeat' (first | ((apply f_wo); first | ((apply f_gs); first | refine n_sk ?_) | ((apply f_mv); first | (refine zw1 ?_ ?_ <;> intro hG <;> (try cases hG)) | refine zg1 (v := .c _) ?_ | refine za ?_) | ((apply f_as); first | refine zf1 (v := .c _) ?_ | refine za ?_) | ((apply f_fa); first | refine n_fa ?_ | refine zk1 ?_) | ((apply f_ld); first | refine zw ?_ | refine zi1 ?_ | refine n_ld ?_) | ((apply f_bi); first | refine zd1 ?_ | refine zc1 ?_ | refine ze1 ?_ | refine za ?_) | ((apply f_ia); first | refine n_ix ?_ | refine zc2 ?_ | refine za ?_) | ((apply za2); first | refine zq ?_ | refine za ?_) | ((apply zb6); first | refine zj3 ?_ | refine za ?_) | ((apply zq3); first | refine zh1 ?_ | refine za ?_) | ((apply zs1); first | refine zo ?_ | refine zr1 ?_ | refine za ?_) | ((apply f_pk); first | refine zu1 (v := .c _) ?_ | refine za ?_) | refine n_bo ?_ | refine za ?_) | ((apply f_w); first | refine zy ?_ | refine zc ?_) | refine zb fun C => ?_ | refine zn ?_ | refine ze ?_ | refine zh ?_ | refine zi ?_ | refine zx rfl ?_ | refine zv rfl ?_)
      refine zu ?_
      refine ret0 (x := .c (.v (.int .i64 (n : Int)))) rfl zn2 ⟨?_, rfl⟩
      rw [hk, List.drop_length] at hs
      rw [← hs]; rfl
theorem zo21 {f : Nat} {e : E} (h : partsS (f + 1) e ≤ 60) : ∀ x ∈ e.rl, partsS f x ≤ 60 := by unfold partsS at h; exact (ze10 h).2
def kidOk (f : Nat) (k : Int) (x : E) : Bool := okS f x && !(x.rk == k && !loopK k)
theorem okS_all {f : Nat} {x0 : Int} {x1 : ByteArray} {A : Option Addr} {c : Nat} {l : List E} : okS (f + 1) (E.agg [.int .i64 x0, .str x1, .lst 3 86 A c l]) = (l.all (kidOk f x0) && headR x0 x1 l) := rfl
theorem zw16 {p : E → Bool} {l : List E} {k : Nat} {x : E} (hx : l[k]? = some x) (h : p x = false) : l.all p = false := List.all_eq_false.2 ⟨x, List.mem_of_getElem? hx, by simp [h]⟩
theorem zu12 {p : E → Bool} {l : List E} (h : ∀ j y, j < l.length → l[j]? = some y → p y = true) : l.all p = true := List.all_eq_true.2 fun y hy => by
  obtain ⟨j, hj, rfl⟩ := List.getElem_of_mem hy
  exact h j _ hj (List.getElem?_eq_getElem hj)
set_option maxHeartbeats 8000000 in
theorem l3Ok_n (f : Nat) : ∀ (e : E), e.Ty Try.prog 86 → e.sz ≤ 4194304 → partsS f e ≤ 60 → Ctr Try.prog 99 [.ag (acE e)] [] (.c (.v (.bool (okS f e)))) [] := by
  induction f with
  | zero => intro e _ _ h; exact absurd h (by unfold partsS; omega)
  | succ f ih =>
    intro e he hsz hp
    have hkid := zo21 hp
    obtain ⟨x0, x1, x2A, x2c, l, rfl, gx0, gx1, gx2, -⟩ := zq1 he
    have hkid : ∀ x ∈ l, partsS f x ≤ 60 := hkid
    simp only [E.sz, E.szL] at hsz
    have hl : l.length ≤ 4194304 := by omega
    rw [okS_all]
    refine zm2 Try.func99 rfl rfl ?_
    repeat' (first | ((apply f_wo); first | ((apply f_gs); first | refine n_sk ?_) | ((apply f_mv); first | (refine zw1 ?_ ?_ <;> intro hG <;> (try cases hG)) | refine zg1 (v := .c _) ?_ | refine za ?_) | ((apply f_as); first | refine zf1 (v := .c _) ?_ | refine za ?_) | ((apply f_fa); first | refine n_fa ?_ | refine zk1 ?_) | ((apply f_ld); first | refine zp1 ?_ | refine zb1 ?_ | refine zw ?_ | refine zi1 ?_ | refine n_ld ?_) | ((apply f_bi); first | refine zd1 ?_ | refine zc1 ?_ | refine ze1 ?_ | refine za ?_) | ((apply f_ia); first | refine n_ix ?_ | refine zc2 ?_ | refine za ?_) | ((apply zz1); first | refine za1 ?_ | refine zr4 ?_ | refine za ?_) | ((apply za2); first | refine zq ?_ | refine za ?_) | ((apply zs1); first | refine zo ?_ | refine zr1 ?_ | refine za ?_) | ((apply f_no); first | refine zj2 ?_ | refine za ?_) | ((apply f_pk); first | refine zu1 (v := .c _) ?_ | refine za ?_) | refine n_bo ?_ | refine zx3 ?_ | refine za ?_) | ((apply f_w); first | refine zy ?_ | refine zc ?_) | ((apply d_wo); first | ((apply d_gs); first | refine o_sk ?_ | refine za4 ?_) | ((apply d_bo); (refine o_gm ?_ ?_ <;> intro hG <;> (try cases hG))) | ((apply d_mv); refine zr ?_) | ((apply d_as); refine zr ?_) | ((apply d_fa); first | refine o_fa ?_ | refine zb4 ?_) | ((apply d_ld); first | refine zc4 ?_ | refine zz2 ?_ | refine za3 ?_ | refine zd4 ?_ | refine zr ?_ | refine o_ld ?_) | ((apply d_bi); first | refine zn3 ?_ | refine zm3 ?_ | refine zo3 ?_ | refine zw2 ?_ | refine zw2 (hnu := zl _) ?_ | refine zx1 ?_ | refine zx1 (hnu := zl _) ?_ | refine zr ?_) | ((apply d_ia); first | refine o_ix ?_ | refine zz6 ?_ | refine zr ?_) | ((apply d_bb); first | refine zl1 ?_ | refine zm1 ?_ | refine zn1 ?_ | refine zw3 ?_ | refine zr ?_) | refine o_bo ?_ | refine zo4 ?_ | refine zr ?_) | ((apply d_w); first | refine zy ?_ | refine zc ?_) | refine zb fun C => ?_ | refine zp (by kernel_rfl) (by kernel_rfl) fun C => ?_ | refine zn ?_ | refine ze ?_ | refine zh ?_ | refine zi ?_)
    refine zp3 (fun k : Nat => ⟨tmsF [(1, .c (.pt 1 0)), (3, .c (.v (.int .i64 (k : Int))))], hpsF [(1, 1, ⟨86, 0, 0, true, [.v (.int .i64 x0), .v (.string x1), .ro l.length 3 (acL l)]⟩)], 0, [1], 114⟩) (fun N k => k + N = l.length ∧ ∀ j y, j < k → l[j]? = some y → kidOk f x0 y = true) l.length 0 ⟨by omega, by omega⟩ ?_ ?_
    · (refine zo2 _ _ rfl rfl ?_ ?_ <;> (repeat' (first | exact TmOk.nil | exact RwOk.nil | refine TmOk.cons ?_ ?_ | refine RwOk.cons ?_ ?_ | rfl | (refine rnV_id' rfl ?_; (first | rfl | (simp [cloV, cloL, clo, zj, zf, zk, zg, zd]; done))) | (refine zd3 ?_; first | rfl | omega | (rw [zb2 (by omega) (by omega)]; omega)) | (refine zi2 rfl ?_; (first | rfl | (simp [cloV, cloL, clo, zj, zf, zk, zg, zd]; done))) | exact zj4 rfl rfl | (refine ze3 (by rfl) (by rfl) ?_ ?_ <;> (first | rfl | (simp [cloV, cloL, clo, zj, zf, zk, zg, zd]; done))) | (refine rw_rn' rfl rfl ?_; simp; done))))
    rintro N k ⟨hN, hno⟩
    repeat' (first | ((apply f_wo); first | ((apply f_gs); first | refine n_sk ?_) | ((apply f_mv); first | (refine zw1 ?_ ?_ <;> intro hG <;> (try cases hG)) | refine zg1 (v := .c _) ?_ | refine za ?_) | ((apply f_as); first | refine zf1 (v := .c _) ?_ | refine za ?_) | ((apply f_fa); first | refine n_fa ?_ | refine zk1 ?_) | ((apply f_ld); first | refine zp1 ?_ | refine zb1 ?_ | refine zw ?_ | refine zi1 ?_ | refine n_ld ?_) | ((apply f_bi); first | refine zd1 ?_ | refine zc1 ?_ | refine ze1 ?_ | refine za ?_) | ((apply f_ia); first | refine n_ix ?_ | refine zc2 ?_ | refine za ?_) | ((apply zz1); first | refine za1 ?_ | refine zr4 ?_ | refine za ?_) | ((apply za2); first | refine zq ?_ | refine za ?_) | ((apply zs1); first | refine zo ?_ | refine zr1 ?_ | refine za ?_) | ((apply f_no); first | refine zj2 ?_ | refine za ?_) | ((apply f_pk); first | refine zu1 (v := .c _) ?_ | refine za ?_) | refine n_bo ?_ | refine zx3 ?_ | refine za ?_) | ((apply f_w); first | refine zy ?_ | refine zc ?_) | ((apply d_wo); first | ((apply d_gs); first | refine o_sk ?_ | refine za4 ?_) | ((apply d_bo); (refine o_gm ?_ ?_ <;> intro hG <;> (try cases hG))) | ((apply d_mv); refine zr ?_) | ((apply d_as); refine zr ?_) | ((apply d_fa); first | refine o_fa ?_ | refine zb4 ?_) | ((apply d_ld); first | refine zc4 ?_ | refine zz2 ?_ | refine za3 ?_ | refine zd4 ?_ | refine zr ?_ | refine o_ld ?_) | ((apply d_bi); first | refine zn3 ?_ | refine zm3 ?_ | refine zo3 ?_ | refine zw2 ?_ | refine zw2 (hnu := zl _) ?_ | refine zx1 ?_ | refine zx1 (hnu := zl _) ?_ | refine zr ?_) | ((apply d_ia); first | refine o_ix ?_ | refine zz6 ?_ | refine zr ?_) | ((apply d_bb); first | refine zl1 ?_ | refine zm1 ?_ | refine zn1 ?_ | refine zw3 ?_ | refine zr ?_) | refine o_bo ?_ | refine zo4 ?_ | refine zr ?_) | ((apply d_w); first | refine zy ?_ | refine zc ?_) | refine zb fun C => ?_ | refine zp (by kernel_rfl) (by kernel_rfl) fun C => ?_ | refine zn ?_ | refine ze ?_ | refine zh ?_ | refine zi ?_)
    refine zt (by rfl) (fun h1 => ?_) fun h1 => ?_
    · have hk' : k < l.length := by simpa using h1
      obtain ⟨x, hx⟩ : ∃ x, l[k]? = some x := ⟨_, List.getElem?_eq_getElem hk'⟩
      have hxm := List.mem_of_getElem? hx
      have hxt := gx2.1 x hxm
      have hxz := E.szL_mem hxm
      have hgk := gx2.2
      have hc := ih x hxt (by omega) (hkid x hxm)
      have hrk : ∀ y0 y1 A c l', x = E.agg [.int .i64 y0, .str y1, .lst 3 86 A c l'] → kidOk f x0 x = (okS f x && !(y0 == x0 && !loopK x0)) := fun y0 y1 A c l' e => by subst e; rfl
      obtain ⟨y0, y1, y2A, y2c, y2l, rfl, gy0, gy1, gy2, -⟩ := zq1 hxt
      have hrk := hrk _ _ _ _ _ rfl
      generalize hok : okS f (E.agg [E.int IntKind.i64 y0, E.str y1, E.lst 3 86 y2A y2c y2l]) = ok at hc hrk
      repeat' (first | ((apply f_wo); first | ((apply f_gs); first | refine n_sk ?_) | ((apply f_mv); first | (refine zw1 ?_ ?_ <;> intro hG <;> (try cases hG)) | refine zg1 (v := .c _) ?_ | refine za ?_) | ((apply f_as); first | refine zf1 (v := .c _) ?_ | refine za ?_) | ((apply f_fa); first | refine n_fa ?_ | refine zk1 ?_) | ((apply f_ld); first | refine zp1 ?_ | refine zb1 ?_ | refine zw ?_ | refine zi1 ?_ | refine n_ld ?_) | ((apply f_ca); first | refine zr2 (hc) ?_ | refine zp2 (hc) ?_ | refine zr2 ((zu5 _)) ?_ | refine zp2 ((zu5 _)) ?_) | ((apply f_bi); first | refine zd1 ?_ | refine zc1 ?_ | refine ze1 ?_ | refine za ?_) | ((apply f_ia); first | refine n_ix ?_ | refine zc2 ?_ | refine za ?_) | ((apply zz1); first | refine za1 ?_ | refine zr4 ?_ | refine za ?_) | ((apply za2); first | refine zq ?_ | refine za ?_) | ((apply zs1); first | refine zo ?_ | refine zr1 ?_ | refine za ?_) | ((apply f_no); first | refine zj2 ?_ | refine za ?_) | ((apply f_pk); first | refine zu1 (v := .c _) ?_ | refine za ?_) | refine n_bo ?_ | refine zx3 ?_ | refine za ?_) | ((apply f_w); first | refine zy ?_ | refine zc ?_) | ((apply d_wo); first | ((apply d_gs); first | refine o_sk ?_ | refine za4 ?_) | ((apply d_bo); (refine o_gm ?_ ?_ <;> intro hG <;> (try cases hG))) | ((apply d_mv); refine zr ?_) | ((apply d_as); refine zr ?_) | ((apply d_fa); first | refine o_fa ?_ | refine zb4 ?_) | ((apply d_ld); first | refine zc4 ?_ | refine zz2 ?_ | refine za3 ?_ | refine zd4 ?_ | refine zr ?_ | refine o_ld ?_) | ((apply d_ca); first | refine zn5 (hc) ?_ | refine zn5 ((zu5 _)) ?_) | ((apply d_bi); first | refine zn3 ?_ | refine zm3 ?_ | refine zo3 ?_ | refine zw2 ?_ | refine zw2 (hnu := zl _) ?_ | refine zx1 ?_ | refine zx1 (hnu := zl _) ?_ | refine zr ?_) | ((apply d_ia); first | refine o_ix ?_ | refine zz6 ?_ | refine zr ?_) | ((apply d_bb); first | refine zl1 ?_ | refine zm1 ?_ | refine zn1 ?_ | refine zw3 ?_ | refine zr ?_) | refine o_bo ?_ | refine zo4 ?_ | refine zr ?_) | ((apply d_w); first | refine zy ?_ | refine zc ?_) | refine zb fun C => ?_ | refine zp (by kernel_rfl) (by kernel_rfl) fun C => ?_ | refine zn ?_ | refine ze ?_ | refine zh ?_ | refine zi ?_ | (refine zt (by rfl) ?_ ?_ <;> intro hC <;> (try cases hC)))
      all_goals first
        | (refine zu ?_
           refine ret0 (x := .c (.v (.bool false))) rfl zn2 ⟨?_, rfl⟩
           rw [zw16 hx (by rw [hrk]; clear hc ih; simp_all), Bool.false_and])
        | (refine ⟨N - 1, k + 1, by omega, ⟨by omega, fun j z hj hz => ?_⟩, ?_⟩
           · by_cases e : j = k
             · rw [e, hx] at hz; injection hz with hz; subst hz; rw [hrk]; clear hc ih; simp_all
             · exact hno j z (by omega) hz
           · (refine zo2 _ _ rfl rfl ?_ ?_ <;> (repeat' (first | exact TmOk.nil | exact RwOk.nil | refine TmOk.cons ?_ ?_ | refine RwOk.cons ?_ ?_ | rfl | (refine rnV_id' rfl ?_; (first | rfl | (simp [cloV, cloL, clo, zj, zf, zk, zg, zd]; done))) | (refine zd3 ?_; first | rfl | omega | (rw [zb2 (by omega) (by omega)]; omega)) | (refine zi2 rfl ?_; (first | rfl | (simp [cloV, cloL, clo, zj, zf, zk, zg, zd]; done))) | exact zj4 rfl rfl | (refine ze3 (by rfl) (by rfl) ?_ ?_ <;> (first | rfl | (simp [cloV, cloL, clo, zj, zf, zk, zg, zd]; done))) | (refine rw_rn' rfl rfl ?_; simp; done)))))
    · have hk' : ¬ k < l.length := by simpa using h1
      rw [zu12 (p := kidOk f x0) fun j y hj hy => hno j y (by omega) hy, Bool.true_and]
      clear hno h1 ih hN hp
      have c1 := l3Set_c (s := x1) (by omega)
      have c2 := zt12 (zn7 x1 0)
      by_cases hin : x0 = 1 ∨ x0 = 2 ∨ x0 = 3 ∨ x0 = 4 ∨ x0 = 5 ∨ x0 = 9 ∨ x0 = 10 ∨ x0 = 11
      · rcases hin with rfl | rfl | rfl | rfl | rfl | rfl | rfl | rfl
        all_goals
          repeat' (first | ((apply f_wo); first | ((apply f_gs); first | refine n_sk ?_) | ((apply f_mv); first | (refine zw1 ?_ ?_ <;> intro hG <;> (try cases hG)) | refine zg1 (v := .c _) ?_ | refine za ?_) | ((apply f_as); first | refine zf1 (v := .c _) ?_ | refine za ?_) | ((apply f_fa); first | refine n_fa ?_ | refine zk1 ?_) | ((apply f_ld); first | refine zp1 ?_ | refine zb1 ?_ | refine zw ?_ | refine zi1 ?_ | refine n_ld ?_) | ((apply f_ca); first | refine zr2 (c1) ?_ | refine zp2 (c1) ?_ | refine zr2 (c2) ?_ | refine zp2 (c2) ?_ | refine zr2 ((zk6 _ _ _)) ?_ | refine zp2 ((zk6 _ _ _)) ?_) | ((apply f_bi); first | refine zd1 ?_ | refine zc1 ?_ | refine ze1 ?_ | refine za ?_) | ((apply f_ia); first | refine n_ix ?_ | refine zc2 ?_ | refine za ?_) | ((apply zz1); first | refine za1 ?_ | refine zr4 ?_ | refine za ?_) | ((apply za2); first | refine zq ?_ | refine za ?_) | ((apply zs1); first | refine zo ?_ | refine zr1 ?_ | refine za ?_) | ((apply f_no); first | refine zj2 ?_ | refine za ?_) | ((apply f_pk); first | refine zu1 (v := .c _) ?_ | refine za ?_) | refine n_bo ?_ | refine zx3 ?_ | refine za ?_) | ((apply f_w); first | refine zy ?_ | refine zc ?_) | ((apply d_wo); first | ((apply d_gs); first | refine o_sk ?_ | refine za4 ?_) | ((apply d_bo); (refine o_gm ?_ ?_ <;> intro hG <;> (try cases hG))) | ((apply d_mv); refine zr ?_) | ((apply d_as); refine zr ?_) | ((apply d_fa); first | refine o_fa ?_ | refine zb4 ?_) | ((apply d_ld); first | refine zc4 ?_ | refine zz2 ?_ | refine za3 ?_ | refine zd4 ?_ | refine zr ?_ | refine o_ld ?_) | ((apply d_ca); first | refine zn5 (c1) ?_ | refine zn5 (c2) ?_ | refine zn5 ((zk6 _ _ _)) ?_) | ((apply d_bi); first | refine zn3 ?_ | refine zm3 ?_ | refine zo3 ?_ | refine zw2 ?_ | refine zw2 (hnu := zl _) ?_ | refine zx1 ?_ | refine zx1 (hnu := zl _) ?_ | refine zr ?_) | ((apply d_ia); first | refine o_ix ?_ | refine zz6 ?_ | refine zr ?_) | ((apply d_bb); first | refine zl1 ?_ | refine zm1 ?_ | refine zn1 ?_ | refine zw3 ?_ | refine zr ?_) | refine o_bo ?_ | refine zo4 ?_ | refine zr ?_) | ((apply d_w); first | refine zy ?_ | refine zc ?_) | refine zb fun C => ?_ | refine zp (by kernel_rfl) (by kernel_rfl) fun C => ?_ | refine zn ?_ | refine ze ?_ | refine zh ?_ | refine zi ?_ | (refine zt (by rfl) ?_ ?_ <;> intro hC <;> (try cases hC)))
        all_goals
          (first | refine zu ?_ | skip); refine ret0 rfl zn2 ⟨?_, rfl⟩; refine congrArg (fun s => AV.c (AC.v (Value.bool s))) ?_
          clear c1 c2 gx0 gx1 gx2 he hsz hkid
          unfold headR
          (try simp only [zq12, ib0, ib1, inR28] at *)
          first
            | (simp_all; done)
            | (simp_all; intros; omega)
      by_cases hlp : x0 = 6 ∨ x0 = 7 ∨ x0 = 8
      · by_cases hl1 : l.length = 1
        · obtain ⟨y, hy⟩ : ∃ y, l[0]? = some y := ⟨_, List.getElem?_eq_getElem (by omega)⟩
          have hl2 : l = [y] := zs16 hl1 hy
          have hyt := gx2.1 y (List.mem_of_getElem? hy)
          have hgk := gx2.2
          obtain ⟨y0, y1, y2A, y2c, y2l, rfl, gy0, gy1, gy2, -⟩ := zq1 hyt
          have hr : headR x0 x1 l = (x1.size == 0 && !(loopK y0)) := by
            rw [hl2]; unfold headR
            rcases hlp with rfl | rfl | rfl <;> simp [E.rk]
          rw [hr]
          clear hr
          rcases hlp with rfl | rfl | rfl
          all_goals
            repeat' (first | ((apply f_wo); first | ((apply f_gs); first | refine n_sk ?_) | ((apply f_mv); first | (refine zw1 ?_ ?_ <;> intro hG <;> (try cases hG)) | refine zg1 (v := .c _) ?_ | refine za ?_) | ((apply f_as); first | refine zf1 (v := .c _) ?_ | refine za ?_) | ((apply f_fa); first | refine n_fa ?_ | refine zk1 ?_) | ((apply f_ld); first | refine zp1 ?_ | refine zb1 ?_ | refine zw ?_ | refine zi1 ?_ | refine n_ld ?_) | ((apply f_ca); first | refine zr2 ((zu5 _)) ?_ | refine zp2 ((zu5 _)) ?_) | ((apply f_bi); first | refine zd1 ?_ | refine zc1 ?_ | refine ze1 ?_ | refine za ?_) | ((apply f_ia); first | refine n_ix ?_ | refine zc2 ?_ | refine za ?_) | ((apply zz1); first | refine za1 ?_ | refine zr4 ?_ | refine za ?_) | ((apply za2); first | refine zq ?_ | refine za ?_) | ((apply zs1); first | refine zo ?_ | refine zr1 ?_ | refine za ?_) | ((apply f_no); first | refine zj2 ?_ | refine za ?_) | ((apply f_pk); first | refine zu1 (v := .c _) ?_ | refine za ?_) | refine n_bo ?_ | refine zx3 ?_ | refine za ?_) | ((apply f_w); first | refine zy ?_ | refine zc ?_) | ((apply d_wo); first | ((apply d_gs); first | refine o_sk ?_ | refine za4 ?_) | ((apply d_bo); (refine o_gm ?_ ?_ <;> intro hG <;> (try cases hG))) | ((apply d_mv); refine zr ?_) | ((apply d_as); refine zr ?_) | ((apply d_fa); first | refine o_fa ?_ | refine zb4 ?_) | ((apply d_ld); first | refine zc4 ?_ | refine zz2 ?_ | refine za3 ?_ | refine zd4 ?_ | refine zr ?_ | refine o_ld ?_) | ((apply d_ca); first | refine zn5 ((zu5 _)) ?_) | ((apply d_bi); first | refine zn3 ?_ | refine zm3 ?_ | refine zo3 ?_ | refine zw2 ?_ | refine zw2 (hnu := zl _) ?_ | refine zx1 ?_ | refine zx1 (hnu := zl _) ?_ | refine zr ?_) | ((apply d_ia); first | refine o_ix ?_ | refine zz6 ?_ | refine zr ?_) | ((apply d_bb); first | refine zl1 ?_ | refine zm1 ?_ | refine zn1 ?_ | refine zw3 ?_ | refine zr ?_) | refine o_bo ?_ | refine zo4 ?_ | refine zr ?_) | ((apply d_w); first | refine zy ?_ | refine zc ?_) | refine zb fun C => ?_ | refine zp (by kernel_rfl) (by kernel_rfl) fun C => ?_ | refine zn ?_ | refine ze ?_ | refine zh ?_ | refine zi ?_ | (refine zt (by rfl) ?_ ?_ <;> intro hC <;> (try cases hC)))
          all_goals
            (first | refine zu ?_ | skip); refine ret0 rfl zn2 ⟨?_, rfl⟩; refine congrArg (fun s => AV.c (AC.v (Value.bool s))) ?_
            clear c1 c2 gx0 gx1 gx2 he hsz hkid hgk hyt gy0 gy1 gy2
            (try simp only [zq12, ib0, ib1, inR28] at *)
            first
              | (simp_all; done)
              | (simp_all; intros; omega)
        · have hr : headR x0 x1 l = false := by
            unfold headR
            rcases hlp with rfl | rfl | rfl <;> simp [hl1]
          have hl1' : ((l.length : Int) == 1) = false := by rw [ib1]; simpa using hl1
          rw [hr]
          clear hr
          rcases hlp with rfl | rfl | rfl
          all_goals
            repeat' (first | ((apply f_wo); first | ((apply f_gs); first | refine n_sk ?_) | ((apply f_mv); first | (refine zw1 ?_ ?_ <;> intro hG <;> (try cases hG)) | refine zg1 (v := .c _) ?_ | refine za ?_) | ((apply f_as); first | refine zf1 (v := .c _) ?_ | refine za ?_) | ((apply f_fa); first | refine n_fa ?_ | refine zk1 ?_) | ((apply f_ld); first | refine zp1 ?_ | refine zb1 ?_ | refine zw ?_ | refine zi1 ?_ | refine n_ld ?_) | ((apply f_bi); first | refine zd1 ?_ | refine zc1 ?_ | refine ze1 ?_ | refine za ?_) | ((apply f_ia); first | refine n_ix ?_ | refine zc2 ?_ | refine za ?_) | ((apply zz1); first | refine za1 ?_ | refine zr4 ?_ | refine za ?_) | ((apply za2); first | refine zq ?_ | refine za ?_) | ((apply zs1); first | refine zo ?_ | refine zr1 ?_ | refine za ?_) | ((apply f_no); first | refine zj2 ?_ | refine za ?_) | ((apply f_pk); first | refine zu1 (v := .c _) ?_ | refine za ?_) | refine n_bo ?_ | refine zx3 ?_ | refine za ?_) | ((apply f_w); first | refine zy ?_ | refine zc ?_) | ((apply d_wo); first | ((apply d_gs); first | refine o_sk ?_ | refine za4 ?_) | ((apply d_bo); (refine o_gm ?_ ?_ <;> intro hG <;> (try cases hG))) | ((apply d_mv); refine zr ?_) | ((apply d_as); refine zr ?_) | ((apply d_fa); first | refine o_fa ?_ | refine zb4 ?_) | ((apply d_ld); first | refine zc4 ?_ | refine zz2 ?_ | refine za3 ?_ | refine zd4 ?_ | refine zr ?_ | refine o_ld ?_) | ((apply d_bi); first | refine zn3 ?_ | refine zm3 ?_ | refine zo3 ?_ | refine zw2 ?_ | refine zw2 (hnu := zl _) ?_ | refine zx1 ?_ | refine zx1 (hnu := zl _) ?_ | refine zr ?_) | ((apply d_ia); first | refine o_ix ?_ | refine zz6 ?_ | refine zr ?_) | ((apply d_bb); first | refine zl1 ?_ | refine zm1 ?_ | refine zn1 ?_ | refine zw3 ?_ | refine zr ?_) | refine o_bo ?_ | refine zo4 ?_ | refine zr ?_) | ((apply d_w); first | refine zy ?_ | refine zc ?_) | refine zb fun C => ?_ | refine zp (by kernel_rfl) (by kernel_rfl) fun C => ?_ | refine zn ?_ | refine ze ?_ | refine zh ?_ | refine zi ?_ | (refine zt (by rfl) ?_ ?_ <;> intro hC <;> (try cases hC)))
          all_goals first
            | (exfalso; rw [hl1'] at hG; cases hG; done)
            | ((first | refine zu ?_ | skip); refine ret0 rfl zn2 ⟨?_, rfl⟩; refine congrArg (fun s => AV.c (AC.v (Value.bool s))) ?_; rfl)
      have hk0 : ∀ k : Int, 1 ≤ k → k ≤ 11 → x0 ≠ k := fun k g1 g2 g3 => by omega
      rw [zt16 hk0]
      repeat' (first | ((apply f_wo); first | ((apply f_gs); first | refine n_sk ?_) | ((apply f_mv); first | (refine zw1 ?_ ?_ <;> intro hG <;> (try cases hG)) | refine zg1 (v := .c _) ?_ | refine za ?_) | ((apply f_as); first | refine zf1 (v := .c _) ?_ | refine za ?_) | ((apply f_fa); first | refine n_fa ?_ | refine zk1 ?_) | ((apply f_ld); first | refine zp1 ?_ | refine zb1 ?_ | refine zw ?_ | refine zi1 ?_ | refine n_ld ?_) | ((apply f_bi); first | refine zd1 ?_ | refine zc1 ?_ | refine ze1 ?_ | refine za ?_) | ((apply f_ia); first | refine n_ix ?_ | refine zc2 ?_ | refine za ?_) | ((apply zz1); first | refine za1 ?_ | refine zr4 ?_ | refine za ?_) | ((apply za2); first | refine zq ?_ | refine za ?_) | ((apply zs1); first | refine zo ?_ | refine zr1 ?_ | refine za ?_) | ((apply f_no); first | refine zj2 ?_ | refine za ?_) | ((apply f_pk); first | refine zu1 (v := .c _) ?_ | refine za ?_) | refine n_bo ?_ | refine zx3 ?_ | refine za ?_) | ((apply f_w); first | refine zy ?_ | refine zc ?_) | ((apply d_wo); first | ((apply d_gs); first | refine o_sk ?_ | refine za4 ?_) | ((apply d_bo); (refine o_gm ?_ ?_ <;> intro hG <;> (try cases hG))) | ((apply d_mv); refine zr ?_) | ((apply d_as); refine zr ?_) | ((apply d_fa); first | refine o_fa ?_ | refine zb4 ?_) | ((apply d_ld); first | refine zc4 ?_ | refine zz2 ?_ | refine za3 ?_ | refine zd4 ?_ | refine zr ?_ | refine o_ld ?_) | ((apply d_bi); first | refine zn3 ?_ | refine zm3 ?_ | refine zo3 ?_ | refine zw2 ?_ | refine zw2 (hnu := zl _) ?_ | refine zx1 ?_ | refine zx1 (hnu := zl _) ?_ | refine zr ?_) | ((apply d_ia); first | refine o_ix ?_ | refine zz6 ?_ | refine zr ?_) | ((apply d_bb); first | refine zl1 ?_ | refine zm1 ?_ | refine zn1 ?_ | refine zw3 ?_ | refine zr ?_) | refine o_bo ?_ | refine zo4 ?_ | refine zr ?_) | ((apply d_w); first | refine zy ?_ | refine zc ?_) | refine zb fun C => ?_ | refine zp (by kernel_rfl) (by kernel_rfl) fun C => ?_ | refine zn ?_ | refine ze ?_ | refine zh ?_ | refine zi ?_)
      iterate 20
        (first
          | refine zv rfl ?_
          | refine zt (by rfl) (fun hC => absurd (eq_of_beq hC) (hk0 _ (by omega) (by omega))) fun hC => ?_
          | skip) <;> repeat' (first | ((apply f_wo); first | ((apply f_gs); first | refine n_sk ?_) | ((apply f_mv); first | (refine zw1 ?_ ?_ <;> intro hG <;> (try cases hG)) | refine zg1 (v := .c _) ?_ | refine za ?_) | ((apply f_as); first | refine zf1 (v := .c _) ?_ | refine za ?_) | ((apply f_fa); first | refine n_fa ?_ | refine zk1 ?_) | ((apply f_ld); first | refine zp1 ?_ | refine zb1 ?_ | refine zw ?_ | refine zi1 ?_ | refine n_ld ?_) | ((apply f_bi); first | refine zd1 ?_ | refine zc1 ?_ | refine ze1 ?_ | refine za ?_) | ((apply f_ia); first | refine n_ix ?_ | refine zc2 ?_ | refine za ?_) | ((apply zz1); first | refine za1 ?_ | refine zr4 ?_ | refine za ?_) | ((apply za2); first | refine zq ?_ | refine za ?_) | ((apply zs1); first | refine zo ?_ | refine zr1 ?_ | refine za ?_) | ((apply f_no); first | refine zj2 ?_ | refine za ?_) | ((apply f_pk); first | refine zu1 (v := .c _) ?_ | refine za ?_) | refine n_bo ?_ | refine zx3 ?_ | refine za ?_) | ((apply f_w); first | refine zy ?_ | refine zc ?_) | ((apply d_wo); first | ((apply d_gs); first | refine o_sk ?_ | refine za4 ?_) | ((apply d_bo); (refine o_gm ?_ ?_ <;> intro hG <;> (try cases hG))) | ((apply d_mv); refine zr ?_) | ((apply d_as); refine zr ?_) | ((apply d_fa); first | refine o_fa ?_ | refine zb4 ?_) | ((apply d_ld); first | refine zc4 ?_ | refine zz2 ?_ | refine za3 ?_ | refine zd4 ?_ | refine zr ?_ | refine o_ld ?_) | ((apply d_bi); first | refine zn3 ?_ | refine zm3 ?_ | refine zo3 ?_ | refine zw2 ?_ | refine zw2 (hnu := zl _) ?_ | refine zx1 ?_ | refine zx1 (hnu := zl _) ?_ | refine zr ?_) | ((apply d_ia); first | refine o_ix ?_ | refine zz6 ?_ | refine zr ?_) | ((apply d_bb); first | refine zl1 ?_ | refine zm1 ?_ | refine zn1 ?_ | refine zw3 ?_ | refine zr ?_) | refine o_bo ?_ | refine zo4 ?_ | refine zr ?_) | ((apply d_w); first | refine zy ?_ | refine zc ?_) | refine zb fun C => ?_ | refine zp (by kernel_rfl) (by kernel_rfl) fun C => ?_ | refine zn ?_ | refine ze ?_ | refine zh ?_ | refine zi ?_)
      (first | refine zu ?_ | skip); refine ret0 rfl zn2 ⟨?_, rfl⟩; refine congrArg (fun s => AV.c (AC.v (Value.bool s))) ?_
      rfl
theorem zm15 {e : E} (he : e.Ty Try.prog 86) (hsz : e.sz ≤ 4194304) : Ctr Try.prog 87 [.ag (acE e)] [] (.c (.v (.bool (rexOkS e)))) [] := by
  have c1 := zn21 6 e 1 (by omega) he hsz rfl
  by_cases hp : partsS 6 e ≤ 60
  · have c2 := l3Ok_n 6 e he hsz hp
    have hr : rexOkS e = okS 6 e := by unfold rexOkS; rw [decide_eq_true hp, Bool.true_and]
    rw [hr]
    clear hr
    obtain ⟨x0, x1, x2A, x2c, l, rfl, gx0, gx1, gx2, -⟩ := zq1 he
    refine zm2 Try.func87 rfl rfl ?_
    repeat' (first | ((apply f_wo); first | ((apply f_gs); first | refine n_sk ?_) | ((apply f_mv); first | (refine zw1 ?_ ?_ <;> intro hG <;> (try cases hG)) | refine zg1 (v := .c _) ?_ | refine za ?_) | ((apply f_as); first | refine zf1 (v := .c _) ?_ | refine za ?_) | ((apply f_ld); first | refine zw ?_ | refine zi1 ?_ | refine n_ld ?_) | ((apply f_ca); first | refine zr2 (c1) ?_ | refine zp2 (c1) ?_ | refine zr2 (c2) ?_ | refine zp2 (c2) ?_) | ((apply zb6); first | refine zj3 ?_ | refine za ?_) | ((apply f_pk); first | refine zu1 (v := .c _) ?_ | refine za ?_) | refine n_bo ?_ | refine za ?_) | ((apply f_w); first | refine zy ?_ | refine zc ?_) | refine zb fun C => ?_ | refine zn ?_ | refine ze ?_ | refine zh ?_ | refine zi ?_)
    · (first | refine zu ?_ | skip); refine ret0 rfl zn2 ⟨?_, rfl⟩; refine congrArg (fun s => AV.c (AC.v (Value.bool s))) ?_
      rfl
    · exfalso; simp only [decide_eq_false_iff_not] at hG; omega
  · have hr : rexOkS e = false := by unfold rexOkS; rw [decide_eq_false hp, Bool.false_and]
    rw [hr]
    clear hr
    obtain ⟨x0, x1, x2A, x2c, l, rfl, gx0, gx1, gx2, -⟩ := zq1 he
    refine zm2 Try.func87 rfl rfl ?_
    repeat' (first | ((apply f_wo); first | ((apply f_gs); first | refine n_sk ?_) | ((apply f_mv); first | (refine zw1 ?_ ?_ <;> intro hG <;> (try cases hG)) | refine zg1 (v := .c _) ?_ | refine za ?_) | ((apply f_as); first | refine zf1 (v := .c _) ?_ | refine za ?_) | ((apply f_ld); first | refine zw ?_ | refine zi1 ?_ | refine n_ld ?_) | ((apply f_ca); first | refine zr2 (c1) ?_ | refine zp2 (c1) ?_) | ((apply zb6); first | refine zj3 ?_ | refine za ?_) | ((apply f_pk); first | refine zu1 (v := .c _) ?_ | refine za ?_) | refine n_bo ?_ | refine za ?_) | ((apply f_w); first | refine zy ?_ | refine zc ?_) | refine zb fun C => ?_ | refine zn ?_ | refine ze ?_ | refine zh ?_ | refine zi ?_)
    · exfalso; simp only [decide_eq_true_iff] at hG; omega
    · repeat' (first | ((apply f_wo); first | ((apply f_gs); first | refine n_sk ?_) | ((apply f_mv); first | (refine zw1 ?_ ?_ <;> intro hG <;> (try cases hG)) | refine zg1 (v := .c _) ?_ | refine za ?_) | ((apply f_as); first | refine zf1 (v := .c _) ?_ | refine za ?_) | ((apply f_ld); first | refine zw ?_ | refine zi1 ?_ | refine n_ld ?_) | ((apply zb6); first | refine zj3 ?_ | refine za ?_) | ((apply f_pk); first | refine zu1 (v := .c _) ?_ | refine za ?_) | refine n_bo ?_ | refine za ?_) | ((apply f_w); first | refine zy ?_ | refine zc ?_) | refine zb fun C => ?_ | refine zn ?_ | refine ze ?_ | refine zh ?_ | refine zi ?_ | refine zx rfl ?_ | refine zv rfl ?_)
      (first | refine zu ?_ | skip); refine ret0 rfl zn2 ⟨?_, rfl⟩; refine congrArg (fun s => AV.c (AC.v (Value.bool s))) ?_
      rfl
set_option maxHeartbeats 4000000 in
theorem zx16 {g : E → ByteArray} {b : ByteArray} (hb : b.size ≤ 1) {l : List E} (hl : ∀ x ∈ l, x.Ty Try.prog 86) (hk3 : ∀ x ∈ l, x.enc.length = 3) (hlen : l.length ≤ 8) (hsz : ∀ x ∈ l, (g x).size ≤ 960)
    (hg : ∀ x ∈ l, Ctr Try.prog 88 [.ag (acE x)] [] (.c (.v (.string (g x)))) []) :
    Ctr Try.prog 100 [.c (.ro l.length 3 (acL l)), .c (.v (.string b)), .c (.v (.int .i64 5))] [] (.c (.v (.string (joinT g b l)))) [] := by
  refine zm2 Try.func100 rfl rfl ?_
  repeat' (first | ((apply f_wo); first | ((apply f_mv); first | refine zg1 (v := .c _) ?_ | refine za ?_) | ((apply f_as); first | refine zf1 (v := .c _) ?_ | refine za ?_) | ((apply f_fa); first | refine n_fa ?_ | refine zk1 ?_) | ((apply f_ld); first | refine zp1 ?_ | refine zb1 ?_ | refine zw ?_ | refine zi1 ?_ | refine n_ld ?_) | ((apply f_bi); first | refine zd1 ?_ | refine zc1 ?_ | refine ze1 ?_ | refine za ?_) | ((apply f_ia); first | refine n_ix ?_ | refine zc2 ?_ | refine za ?_) | ((apply zz1); first | refine za1 ?_ | refine za ?_) | ((apply za2); first | refine zq ?_ | refine za ?_) | ((apply zq3); first | refine zh1 ?_ | refine za ?_) | ((apply zs1); first | refine zo ?_ | refine zr1 ?_ | refine za ?_) | refine za ?_) | ((apply f_w); first | refine zy ?_ | refine zc ?_) | refine zb fun C => ?_ | refine zn ?_ | refine ze ?_ | refine zh ?_ | refine zi ?_)
  refine zp3 (fun k : Nat => ⟨tmsF [(0, .c (.ro l.length 3 (acL l))), (1, .c (.v (.string b))), (2, .c (.v (.int .i64 5))), (7, .c (.v (.string (joinT g b (l.take k))))), (8, .c (.v (.int .i64 k)))], hpsF [], 0, [], 44⟩)
    (fun N k => k + N = l.length) l.length 0 (by omega) ?_ ?_
  · (refine zo2 _ _ rfl rfl ?_ ?_ <;> (repeat' (first | exact TmOk.nil | exact RwOk.nil | refine TmOk.cons ?_ ?_ | refine RwOk.cons ?_ ?_ | rfl | (refine rnV_id' rfl ?_; (first | rfl | (simp [cloV, cloL, clo, zj, zf, zk, zg, zd]; done))) | (refine zd3 ?_; first | rfl | omega | (rw [zb2 (by omega) (by omega)]; omega)) | (refine zi2 rfl ?_; (first | rfl | (simp [cloV, cloL, clo, zj, zf, zk, zg, zd]; done))) | exact zj4 rfl rfl | (refine ze3 (by rfl) (by rfl) ?_ ?_ <;> (first | rfl | (simp [cloV, cloL, clo, zj, zf, zk, zg, zd]; done))) | (refine rw_rn' rfl rfl ?_; simp; done))))
  rintro N k hN
  repeat' (first | ((apply f_wo); first | ((apply f_mv); first | refine zg1 (v := .c _) ?_ | refine za ?_) | ((apply f_as); first | refine zf1 (v := .c _) ?_ | refine za ?_) | ((apply f_fa); first | refine n_fa ?_ | refine zk1 ?_) | ((apply f_ld); first | refine zp1 ?_ | refine zb1 ?_ | refine zw ?_ | refine zi1 ?_ | refine n_ld ?_) | ((apply f_bi); first | refine zd1 ?_ | refine zc1 ?_ | refine ze1 ?_ | refine za ?_) | ((apply f_ia); first | refine n_ix ?_ | refine zc2 ?_ | refine za ?_) | ((apply zz1); first | refine za1 ?_ | refine za ?_) | ((apply za2); first | refine zq ?_ | refine za ?_) | ((apply zq3); first | refine zh1 ?_ | refine za ?_) | ((apply zs1); first | refine zo ?_ | refine zr1 ?_ | refine za ?_) | refine za ?_) | ((apply f_w); first | refine zy ?_ | refine zc ?_) | refine zb fun C => ?_ | refine zn ?_ | refine ze ?_ | refine zh ?_ | refine zi ?_)
  refine zt (by rfl) (fun hk1 => ?_) fun hk1 => ?_
  · have hk' : k < l.length := by simpa using hk1
    obtain ⟨x, hx⟩ : ∃ x, l[k]? = some x := ⟨_, List.getElem?_eq_getElem hk'⟩
    have hxm := List.mem_of_getElem? hx
    have hxt := hl x hxm
    have hc := hg x hxm
    have hz1 := zd7 (b := b) hsz k (by omega)
    have hz2 := hsz x hxm
    have hz3 : k * (960 + 2 + b.size) ≤ 8 * 963 := Nat.mul_le_mul (by omega) (by omega)
    have e := zc7 g b hx
    have o1 : (ByteArray.mk #[40]).size = 1 := rfl
    have o2 : (ByteArray.mk #[41]).size = 1 := rfl
    have hgk := hk3
    have hkk : ∀ y0 y1 A c l', x = E.agg [.int .i64 y0, .str y1, .lst 3 86 A c l'] → brk g x = if y0 = 5 then ⟨#[40]⟩ ++ g x ++ ⟨#[41]⟩ else g x := fun y0 y1 A c l' h => by subst h; rfl
    obtain ⟨y0, y1, y2A, y2c, y2l, rfl, gy0, gy1, gy2, -⟩ := zq1 hxt
    have hkk := hkk _ _ _ _ _ rfl
    rw [hkk] at e
    generalize hgx : g (E.agg [E.int IntKind.i64 y0, E.str y1, E.lst 3 86 y2A y2c y2l]) = t at hc hz2 e
    generalize hJ : joinT g b (l.take k) = J at hz1 e ⊢
    have s1 : (J ++ b).size = J.size + b.size := ByteArray.size_append' ..
    have s2 : (J ++ b ++ ⟨#[40]⟩).size = J.size + b.size + 1 := by rw [ByteArray.size_append', s1]; rfl
    have s3 : (J ++ ⟨#[40]⟩).size = J.size + 1 := by rw [ByteArray.size_append']; rfl
    have s4 : (J ++ b ++ ⟨#[40]⟩ ++ t).size = J.size + b.size + 1 + t.size := by rw [ByteArray.size_append', s2]
    have s5 : (J ++ ⟨#[40]⟩ ++ t).size = J.size + 1 + t.size := by rw [ByteArray.size_append', s3]
    repeat' (first | ((apply f_wo); first | ((apply f_mv); first | refine zg1 (v := .c _) ?_ | refine za ?_) | ((apply f_as); first | refine zf1 (v := .c _) ?_ | refine za ?_) | ((apply f_fa); first | refine n_fa ?_ | refine zk1 ?_) | ((apply f_ld); first | refine zp1 ?_ | refine zb1 ?_ | refine zw ?_ | refine zi1 ?_ | refine n_ld ?_) | ((apply f_bi); first | refine zd1 ?_ | refine zc1 ?_ | refine ze1 ?_ | refine za ?_) | ((apply f_ia); first | refine n_ix ?_ | refine zc2 ?_ | refine za ?_) | ((apply zz1); first | refine za1 ?_ | refine za ?_) | ((apply za2); first | refine zq ?_ | refine za ?_) | ((apply zq3); first | refine zh1 ?_ | refine za ?_) | ((apply zs1); first | refine zo ?_ | refine zr1 ?_ | refine za ?_) | refine za ?_) | ((apply f_w); first | refine zy ?_ | refine zc ?_) | refine zb fun C => ?_ | refine zn ?_ | refine ze ?_ | refine zh ?_ | refine zi ?_)
    by_cases hk0 : k = 0
    · subst hk0
      refine zv rfl ?_
      repeat' (first | ((apply f_wo); first | ((apply f_mv); first | refine zg1 (v := .c _) ?_ | refine za ?_) | ((apply f_as); first | refine zf1 (v := .c _) ?_ | refine za ?_) | ((apply f_fa); first | refine n_fa ?_ | refine zk1 ?_) | ((apply f_ld); first | refine zp1 ?_ | refine zb1 ?_ | refine zw ?_ | refine zi1 ?_ | refine n_ld ?_) | ((apply f_bi); first | refine zd1 ?_ | refine zc1 ?_ | refine ze1 ?_ | refine za ?_) | ((apply f_ia); first | refine n_ix ?_ | refine zc2 ?_ | refine za ?_) | ((apply zz1); first | refine za1 ?_ | refine za ?_) | ((apply za2); first | refine zq ?_ | refine za ?_) | ((apply zq3); first | refine zh1 ?_ | refine za ?_) | ((apply zs1); first | refine zo ?_ | refine zr1 ?_ | refine za ?_) | refine za ?_) | ((apply f_w); first | refine zy ?_ | refine zc ?_) | refine zb fun C => ?_ | refine zn ?_ | refine ze ?_ | refine zh ?_ | refine zi ?_)
      obtain rfl : J = ByteArray.empty := hJ.symm
      refine zt (by rfl) (fun h5 => ?_) fun h5 => ?_
      · repeat' (first | ((apply f_wo); first | ((apply f_mv); first | refine zg1 (v := .c _) ?_ | refine za ?_) | ((apply f_as); first | refine zf1 (v := .c _) ?_ | refine za ?_) | ((apply f_fa); first | refine n_fa ?_ | refine zk1 ?_) | ((apply f_ld); first | refine zp1 ?_ | refine zb1 ?_ | refine zw ?_ | refine zi1 ?_ | refine n_ld ?_) | ((apply f_ca); first | refine zr2 (hc) ?_ | refine zp2 (hc) ?_) | ((apply f_bi); first | refine zd1 ?_ | refine zc1 ?_ | refine ze1 ?_ | refine za ?_) | ((apply f_ia); first | refine n_ix ?_ | refine zc2 ?_ | refine za ?_) | ((apply zz1); first | refine za1 ?_ | refine za ?_) | ((apply za2); first | refine zq ?_ | refine za ?_) | ((apply zq3); first | refine zh1 ?_ | refine za ?_) | ((apply zs1); first | refine zo ?_ | refine zr1 ?_ | refine za ?_) | refine za ?_) | ((apply f_w); first | refine zy ?_ | refine zc ?_) | refine zb fun C => ?_ | refine zn ?_ | refine ze ?_ | refine zh ?_ | refine zi ?_ | (refine zt (by rfl) ?_ ?_ <;> intro hC <;> (try cases hC)))
        refine ⟨N - 1, 1, by omega, by omega, ?_⟩
        rw [e, if_pos rfl, if_pos (eq_of_beq h5)]
        simp only [zk8, zy6]
        (refine zo2 _ _ rfl rfl ?_ ?_ <;> (repeat' (first | exact TmOk.nil | exact RwOk.nil | refine TmOk.cons ?_ ?_ | refine RwOk.cons ?_ ?_ | rfl | (refine rnV_id' rfl ?_; (first | rfl | (simp [cloV, cloL, clo, zj, zf, zk, zg, zd]; done))) | (refine zd3 ?_; first | rfl | omega | (rw [zb2 (by omega) (by omega)]; omega)) | (refine zi2 rfl ?_; (first | rfl | (simp [cloV, cloL, clo, zj, zf, zk, zg, zd]; done))) | exact zj4 rfl rfl | (refine ze3 (by rfl) (by rfl) ?_ ?_ <;> (first | rfl | (simp [cloV, cloL, clo, zj, zf, zk, zg, zd]; done))) | (refine rw_rn' rfl rfl ?_; simp; done))))
      · repeat' (first | ((apply f_wo); first | ((apply f_mv); first | refine zg1 (v := .c _) ?_ | refine za ?_) | ((apply f_as); first | refine zf1 (v := .c _) ?_ | refine za ?_) | ((apply f_fa); first | refine n_fa ?_ | refine zk1 ?_) | ((apply f_ld); first | refine zp1 ?_ | refine zb1 ?_ | refine zw ?_ | refine zi1 ?_ | refine n_ld ?_) | ((apply f_ca); first | refine zr2 (hc) ?_ | refine zp2 (hc) ?_) | ((apply f_bi); first | refine zd1 ?_ | refine zc1 ?_ | refine ze1 ?_ | refine za ?_) | ((apply f_ia); first | refine n_ix ?_ | refine zc2 ?_ | refine za ?_) | ((apply zz1); first | refine za1 ?_ | refine za ?_) | ((apply za2); first | refine zq ?_ | refine za ?_) | ((apply zq3); first | refine zh1 ?_ | refine za ?_) | ((apply zs1); first | refine zo ?_ | refine zr1 ?_ | refine za ?_) | refine za ?_) | ((apply f_w); first | refine zy ?_ | refine zc ?_) | refine zb fun C => ?_ | refine zn ?_ | refine ze ?_ | refine zh ?_ | refine zi ?_ | (refine zt (by rfl) ?_ ?_ <;> intro hC <;> (try cases hC)))
        refine ⟨N - 1, 1, by omega, by omega, ?_⟩
        rw [e, if_pos rfl, if_neg (fun h => by rw [h] at h5; cases h5)]
        (refine zo2 _ _ rfl rfl ?_ ?_ <;> (repeat' (first | exact TmOk.nil | exact RwOk.nil | refine TmOk.cons ?_ ?_ | refine RwOk.cons ?_ ?_ | rfl | (refine rnV_id' rfl ?_; (first | rfl | (simp [cloV, cloL, clo, zj, zf, zk, zg, zd]; done))) | (refine zd3 ?_; first | rfl | omega | (rw [zb2 (by omega) (by omega)]; omega)) | (refine zi2 rfl ?_; (first | rfl | (simp [cloV, cloL, clo, zj, zf, zk, zg, zd]; done))) | exact zj4 rfl rfl | (refine ze3 (by rfl) (by rfl) ?_ ?_ <;> (first | rfl | (simp [cloV, cloL, clo, zj, zf, zk, zg, zd]; done))) | (refine rw_rn' rfl rfl ?_; simp; done))))
    · refine zt (by rfl) (fun _ => ?_) fun hC => by exfalso; simp only [decide_eq_false_iff_not] at hC; omega
      repeat' (first | ((apply f_wo); first | ((apply f_mv); first | refine zg1 (v := .c _) ?_ | refine za ?_) | ((apply f_as); first | refine zf1 (v := .c _) ?_ | refine za ?_) | ((apply f_fa); first | refine n_fa ?_ | refine zk1 ?_) | ((apply f_ld); first | refine zp1 ?_ | refine zb1 ?_ | refine zw ?_ | refine zi1 ?_ | refine n_ld ?_) | ((apply f_bi); first | refine zd1 ?_ | refine zc1 ?_ | refine ze1 ?_ | refine za ?_) | ((apply f_ia); first | refine n_ix ?_ | refine zc2 ?_ | refine za ?_) | ((apply zz1); first | refine za1 ?_ | refine za ?_) | ((apply za2); first | refine zq ?_ | refine za ?_) | ((apply zq3); first | refine zh1 ?_ | refine za ?_) | ((apply zs1); first | refine zo ?_ | refine zr1 ?_ | refine za ?_) | refine za ?_) | ((apply f_w); first | refine zy ?_ | refine zc ?_) | refine zb fun C => ?_ | refine zn ?_ | refine ze ?_ | refine zh ?_ | refine zi ?_)
      refine zt (by rfl) (fun h5 => ?_) fun h5 => ?_
      · repeat' (first | ((apply f_wo); first | ((apply f_mv); first | refine zg1 (v := .c _) ?_ | refine za ?_) | ((apply f_as); first | refine zf1 (v := .c _) ?_ | refine za ?_) | ((apply f_fa); first | refine n_fa ?_ | refine zk1 ?_) | ((apply f_ld); first | refine zp1 ?_ | refine zb1 ?_ | refine zw ?_ | refine zi1 ?_ | refine n_ld ?_) | ((apply f_ca); first | refine zr2 (hc) ?_ | refine zp2 (hc) ?_) | ((apply f_bi); first | refine zd1 ?_ | refine zc1 ?_ | refine ze1 ?_ | refine za ?_) | ((apply f_ia); first | refine n_ix ?_ | refine zc2 ?_ | refine za ?_) | ((apply zz1); first | refine za1 ?_ | refine za ?_) | ((apply za2); first | refine zq ?_ | refine za ?_) | ((apply zq3); first | refine zh1 ?_ | refine za ?_) | ((apply zs1); first | refine zo ?_ | refine zr1 ?_ | refine za ?_) | refine za ?_) | ((apply f_w); first | refine zy ?_ | refine zc ?_) | refine zb fun C => ?_ | refine zn ?_ | refine ze ?_ | refine zh ?_ | refine zi ?_ | (refine zt (by rfl) ?_ ?_ <;> intro hC <;> (try cases hC)))
        refine ⟨N - 1, k + 1, by omega, by omega, ?_⟩
        rw [e, if_neg hk0, if_pos (eq_of_beq h5)]
        simp only [zy6]
        (refine zo2 _ _ rfl rfl ?_ ?_ <;> (repeat' (first | exact TmOk.nil | exact RwOk.nil | refine TmOk.cons ?_ ?_ | refine RwOk.cons ?_ ?_ | rfl | (refine rnV_id' rfl ?_; (first | rfl | (simp [cloV, cloL, clo, zj, zf, zk, zg, zd]; done))) | (refine zd3 ?_; first | rfl | omega | (rw [zb2 (by omega) (by omega)]; omega)) | (refine zi2 rfl ?_; (first | rfl | (simp [cloV, cloL, clo, zj, zf, zk, zg, zd]; done))) | exact zj4 rfl rfl | (refine ze3 (by rfl) (by rfl) ?_ ?_ <;> (first | rfl | (simp [cloV, cloL, clo, zj, zf, zk, zg, zd]; done))) | (refine rw_rn' rfl rfl ?_; simp; done))))
      · repeat' (first | ((apply f_wo); first | ((apply f_mv); first | refine zg1 (v := .c _) ?_ | refine za ?_) | ((apply f_as); first | refine zf1 (v := .c _) ?_ | refine za ?_) | ((apply f_fa); first | refine n_fa ?_ | refine zk1 ?_) | ((apply f_ld); first | refine zp1 ?_ | refine zb1 ?_ | refine zw ?_ | refine zi1 ?_ | refine n_ld ?_) | ((apply f_ca); first | refine zr2 (hc) ?_ | refine zp2 (hc) ?_) | ((apply f_bi); first | refine zd1 ?_ | refine zc1 ?_ | refine ze1 ?_ | refine za ?_) | ((apply f_ia); first | refine n_ix ?_ | refine zc2 ?_ | refine za ?_) | ((apply zz1); first | refine za1 ?_ | refine za ?_) | ((apply za2); first | refine zq ?_ | refine za ?_) | ((apply zq3); first | refine zh1 ?_ | refine za ?_) | ((apply zs1); first | refine zo ?_ | refine zr1 ?_ | refine za ?_) | refine za ?_) | ((apply f_w); first | refine zy ?_ | refine zc ?_) | refine zb fun C => ?_ | refine zn ?_ | refine ze ?_ | refine zh ?_ | refine zi ?_ | (refine zt (by rfl) ?_ ?_ <;> intro hC <;> (try cases hC)))
        refine ⟨N - 1, k + 1, by omega, by omega, ?_⟩
        rw [e, if_neg hk0, if_neg (fun h => by rw [h] at h5; cases h5)]
        (refine zo2 _ _ rfl rfl ?_ ?_ <;> (repeat' (first | exact TmOk.nil | exact RwOk.nil | refine TmOk.cons ?_ ?_ | refine RwOk.cons ?_ ?_ | rfl | (refine rnV_id' rfl ?_; (first | rfl | (simp [cloV, cloL, clo, zj, zf, zk, zg, zd]; done))) | (refine zd3 ?_; first | rfl | omega | (rw [zb2 (by omega) (by omega)]; omega)) | (refine zi2 rfl ?_; (first | rfl | (simp [cloV, cloL, clo, zj, zf, zk, zg, zd]; done))) | exact zj4 rfl rfl | (refine ze3 (by rfl) (by rfl) ?_ ?_ <;> (first | rfl | (simp [cloV, cloL, clo, zj, zf, zk, zg, zd]; done))) | (refine rw_rn' rfl rfl ?_; simp; done))))
  · have hk' : ¬ k < l.length := by simpa using hk1
    repeat' (first | ((apply f_wo); first | ((apply f_mv); first | refine zg1 (v := .c _) ?_ | refine za ?_) | ((apply f_as); first | refine zf1 (v := .c _) ?_ | refine za ?_) | ((apply f_fa); first | refine n_fa ?_ | refine zk1 ?_) | ((apply f_ld); first | refine zp1 ?_ | refine zb1 ?_ | refine zw ?_ | refine zi1 ?_ | refine n_ld ?_) | ((apply f_bi); first | refine zd1 ?_ | refine zc1 ?_ | refine ze1 ?_ | refine za ?_) | ((apply f_ia); first | refine n_ix ?_ | refine zc2 ?_ | refine za ?_) | ((apply zz1); first | refine za1 ?_ | refine za ?_) | ((apply za2); first | refine zq ?_ | refine za ?_) | ((apply zq3); first | refine zh1 ?_ | refine za ?_) | ((apply zs1); first | refine zo ?_ | refine zr1 ?_ | refine za ?_) | refine za ?_) | ((apply f_w); first | refine zy ?_ | refine zc ?_) | refine zb fun C => ?_ | refine zn ?_ | refine ze ?_ | refine zh ?_ | refine zi ?_ | (refine zt (by rfl) ?_ ?_ <;> intro hC <;> (try cases hC)))
    refine zu ?_
    refine ret0 (x := .c (.v (.string (joinT g b (l.take k))))) rfl zn2 ⟨?_, rfl⟩
    rw [List.take_of_length_le (by omega)]
theorem l3One_c {g : E → ByteArray} {x : E} (hx : x.Ty Try.prog 86) (hsz : (g x).size ≤ 960) (hg : Ctr Try.prog 88 [.ag (acE x)] [] (.c (.v (.string (g x)))) []) :
    Ctr Try.prog 101 [.ag (acE x)] [] (.c (.v (.string (oneT g x)))) [] := by
  have hkk : ∀ y0 y1 A c l', x = E.agg [.int .i64 y0, .str y1, .lst 3 86 A c l'] → oneT g x = if y0 = 4 ∨ y0 = 5 then ⟨#[40]⟩ ++ g x ++ ⟨#[41]⟩ else g x := fun y0 y1 A c l' h => by subst h; rfl
  obtain ⟨y0, y1, y2A, y2c, y2l, rfl, gy0, gy1, gy2, -⟩ := zq1 hx
  rw [hkk _ _ _ _ _ rfl]
  clear hkk
  generalize g (E.agg [E.int IntKind.i64 y0, E.str y1, E.lst 3 86 y2A y2c y2l]) = t at *
  refine zm2 Try.func101 rfl rfl ?_
  have s3 : (ByteArray.mk #[40] ++ t).size = 1 + t.size := by rw [ByteArray.size_append']; rfl
  repeat' (first | ((apply f_wo); first | ((apply f_gs); first | refine n_sk ?_) | ((apply f_mv); first | (refine zw1 ?_ ?_ <;> intro hG <;> (try cases hG)) | refine zg1 (v := .c _) ?_ | refine za ?_) | ((apply f_as); first | refine zf1 (v := .c _) ?_ | refine za ?_) | ((apply f_fa); first | refine n_fa ?_ | refine zk1 ?_) | ((apply f_ld); first | refine zp1 ?_ | refine zb1 ?_ | refine zw ?_ | refine zi1 ?_ | refine n_ld ?_) | ((apply f_ca); first | refine zr2 (hg) ?_ | refine zp2 (hg) ?_) | ((apply zz1); first | refine za1 ?_ | refine za ?_) | ((apply zs1); first | refine zo ?_ | refine zr1 ?_ | refine za ?_) | ((apply f_pk); first | refine zu1 (v := .c _) ?_ | refine za ?_) | refine n_bo ?_ | refine za ?_) | ((apply f_w); first | refine zy ?_ | refine zc ?_) | refine zb fun C => ?_ | refine zn ?_ | refine ze ?_ | refine zh ?_ | refine zi ?_ | (refine zt (by rfl) ?_ ?_ <;> intro hC <;> (try cases hC)))
  all_goals
    refine zu ?_
    refine ret0 rfl zn2 ⟨?_, rfl⟩
    clear hg
    first
      | (rw [if_pos (by simp only [beq_iff_eq] at *; omega)]; done)
      | (rw [if_neg (by simp only [beq_eq_false_iff_ne, ne_eq] at *; omega)]; done)
set_option maxHeartbeats 8000000 in
theorem l3Text_n (f : Nat) : ∀ (e : E), e.Ty Try.prog 86 → e.sz ≤ 4194304 → partsI f e ≤ 60 → Ctr Try.prog 88 [.ag (acE e)] [] (.c (.v (.string (textS f e)))) [] := by
  induction f with
  | zero => intro e _ _ h; exact absurd h (by unfold partsI; omega)
  | succ f ih =>
    intro e he hsz hp
    obtain ⟨hhd, hkid⟩ := zf14 hp
    have hts := zp9 hp
    obtain ⟨x0, x1, x2A, x2c, l, rfl, gx0, gx1, gx2, -⟩ := zq1 he
    simp only [E.sz, E.szL] at hsz
    have hkid : ∀ x ∈ l, partsI f x ≤ 60 := hkid
    have hxs : ∀ x ∈ l, (textS f x).size ≤ 960 := fun x hx => zp9 (hkid x hx)
    have hcs : ∀ x ∈ l, Ctr Try.prog 88 [.ag (acE x)] [] (.c (.v (.string (textS f x)))) [] := fun x hx => ih x (gx2.1 x hx) (by have := E.szL_mem hx; omega) (hkid x hx)
    have hh2 := hhd
    rw [zr12] at hh2
    simp only [Bool.and_eq_true, Bool.not_eq_true'] at hh2
    obtain ⟨hh, hno⟩ := hh2
    clear hhd ih hp
    refine zm2 Try.func88 rfl rfl ?_
    rcases zz4 hh with ⟨rfl, h1, h2, h3⟩ | ⟨rfl, h1, h3⟩ | ⟨rfl | rfl | rfl | rfl, h1, h3⟩ | ⟨rfl | rfl, h1, h2, h3⟩ | ⟨rfl | rfl | rfl, h1, y, h3, h4⟩
    case inl =>
      repeat' (first | ((apply f_wo); first | ((apply f_as); first | refine zf1 (v := .c _) ?_ | refine za ?_) | ((apply f_fa); first | refine n_fa ?_ | refine zk1 ?_) | ((apply f_ld); first | refine zp1 ?_ | refine zb1 ?_ | refine zw ?_ | refine zi1 ?_ | refine n_ld ?_) | ((apply f_ia); first | refine n_ix ?_ | refine zc2 ?_ | refine za ?_) | ((apply zz1); first | refine za1 ?_ | refine za ?_) | ((apply zs1); first | refine zo ?_ | refine zr1 ?_ | refine za ?_) | refine n_bo ?_ | refine za ?_) | ((apply f_w); first | refine zy ?_ | refine zc ?_) | refine zb fun C => ?_ | refine zn ?_ | refine ze ?_ | refine zh ?_ | refine zi ?_ | (refine zt (by rfl) ?_ ?_ <;> intro hC <;> (try cases hC)))
      refine zu ?_; refine ret0 rfl zn2 ⟨?_, rfl⟩
      rfl
    case inr.inl =>
      repeat' (first | ((apply f_wo); first | ((apply f_as); first | refine zf1 (v := .c _) ?_ | refine za ?_) | ((apply f_fa); first | refine n_fa ?_ | refine zk1 ?_) | ((apply f_ld); first | refine zp1 ?_ | refine zb1 ?_ | refine zw ?_ | refine zi1 ?_ | refine n_ld ?_) | ((apply f_ia); first | refine n_ix ?_ | refine zc2 ?_ | refine za ?_) | ((apply zz1); first | refine za1 ?_ | refine za ?_) | ((apply zs1); first | refine zo ?_ | refine zr1 ?_ | refine za ?_) | refine n_bo ?_ | refine za ?_) | ((apply f_w); first | refine zy ?_ | refine zc ?_) | refine zb fun C => ?_ | refine zn ?_ | refine ze ?_ | refine zh ?_ | refine zi ?_ | (refine zt (by rfl) ?_ ?_ <;> intro hC <;> (try cases hC)))
      refine zu ?_; refine ret0 rfl zn2 ⟨?_, rfl⟩
      rfl
    case inr.inr.inl.inl =>
      repeat' (first | ((apply f_wo); first | ((apply f_as); first | refine zf1 (v := .c _) ?_ | refine za ?_) | ((apply f_fa); first | refine n_fa ?_ | refine zk1 ?_) | ((apply f_ld); first | refine zp1 ?_ | refine zb1 ?_ | refine zw ?_ | refine zi1 ?_ | refine n_ld ?_) | ((apply f_ia); first | refine n_ix ?_ | refine zc2 ?_ | refine za ?_) | ((apply zz1); first | refine za1 ?_ | refine za ?_) | ((apply zs1); first | refine zo ?_ | refine zr1 ?_ | refine za ?_) | refine n_bo ?_ | refine za ?_) | ((apply f_w); first | refine zy ?_ | refine zc ?_) | refine zb fun C => ?_ | refine zn ?_ | refine ze ?_ | refine zh ?_ | refine zi ?_ | (refine zt (by rfl) ?_ ?_ <;> intro hC <;> (try cases hC)))
      refine zu ?_; refine ret0 rfl zn2 ⟨?_, rfl⟩
      rfl
    case inr.inr.inl.inr.inl =>
      repeat' (first | ((apply f_wo); first | ((apply f_as); first | refine zf1 (v := .c _) ?_ | refine za ?_) | ((apply f_fa); first | refine n_fa ?_ | refine zk1 ?_) | ((apply f_ld); first | refine zp1 ?_ | refine zb1 ?_ | refine zw ?_ | refine zi1 ?_ | refine n_ld ?_) | ((apply f_ia); first | refine n_ix ?_ | refine zc2 ?_ | refine za ?_) | ((apply zz1); first | refine za1 ?_ | refine za ?_) | ((apply zs1); first | refine zo ?_ | refine zr1 ?_ | refine za ?_) | refine n_bo ?_ | refine za ?_) | ((apply f_w); first | refine zy ?_ | refine zc ?_) | refine zb fun C => ?_ | refine zn ?_ | refine ze ?_ | refine zh ?_ | refine zi ?_ | (refine zt (by rfl) ?_ ?_ <;> intro hC <;> (try cases hC)))
      refine zu ?_; refine ret0 rfl zn2 ⟨?_, rfl⟩
      rfl
    case inr.inr.inl.inr.inr.inl =>
      repeat' (first | ((apply f_wo); first | ((apply f_as); first | refine zf1 (v := .c _) ?_ | refine za ?_) | ((apply f_fa); first | refine n_fa ?_ | refine zk1 ?_) | ((apply f_ld); first | refine zp1 ?_ | refine zb1 ?_ | refine zw ?_ | refine zi1 ?_ | refine n_ld ?_) | ((apply f_ia); first | refine n_ix ?_ | refine zc2 ?_ | refine za ?_) | ((apply zz1); first | refine za1 ?_ | refine za ?_) | ((apply zs1); first | refine zo ?_ | refine zr1 ?_ | refine za ?_) | refine n_bo ?_ | refine za ?_) | ((apply f_w); first | refine zy ?_ | refine zc ?_) | refine zb fun C => ?_ | refine zn ?_ | refine ze ?_ | refine zh ?_ | refine zi ?_ | (refine zt (by rfl) ?_ ?_ <;> intro hC <;> (try cases hC)))
      refine zu ?_; refine ret0 rfl zn2 ⟨?_, rfl⟩
      rfl
    case inr.inr.inl.inr.inr.inr =>
      repeat' (first | ((apply f_wo); first | ((apply f_as); first | refine zf1 (v := .c _) ?_ | refine za ?_) | ((apply f_fa); first | refine n_fa ?_ | refine zk1 ?_) | ((apply f_ld); first | refine zp1 ?_ | refine zb1 ?_ | refine zw ?_ | refine zi1 ?_ | refine n_ld ?_) | ((apply f_ia); first | refine n_ix ?_ | refine zc2 ?_ | refine za ?_) | ((apply zz1); first | refine za1 ?_ | refine za ?_) | ((apply zs1); first | refine zo ?_ | refine zr1 ?_ | refine za ?_) | refine n_bo ?_ | refine za ?_) | ((apply f_w); first | refine zy ?_ | refine zc ?_) | refine zb fun C => ?_ | refine zn ?_ | refine ze ?_ | refine zh ?_ | refine zi ?_ | (refine zt (by rfl) ?_ ?_ <;> intro hC <;> (try cases hC)))
      refine zu ?_; refine ret0 rfl zn2 ⟨?_, rfl⟩
      rfl
    case inr.inr.inr.inl.inl =>
      have c2 := zx16 (b := ⟨#[]⟩) (by decide) gx2.1 gx2.2 h3 hxs hcs
      repeat' (first | ((apply f_wo); first | ((apply f_as); first | refine zf1 (v := .c _) ?_ | refine za ?_) | ((apply f_fa); first | refine n_fa ?_ | refine zk1 ?_) | ((apply f_ld); first | refine zp1 ?_ | refine zb1 ?_ | refine zw ?_ | refine zi1 ?_ | refine n_ld ?_) | ((apply f_ca); first | refine zr2 (c2) ?_ | refine zp2 (c2) ?_) | ((apply f_ia); first | refine n_ix ?_ | refine zc2 ?_ | refine za ?_) | ((apply zz1); first | refine za1 ?_ | refine za ?_) | ((apply zs1); first | refine zo ?_ | refine zr1 ?_ | refine za ?_) | refine n_bo ?_ | refine za ?_) | ((apply f_w); first | refine zy ?_ | refine zc ?_) | refine zb fun C => ?_ | refine zn ?_ | refine ze ?_ | refine zh ?_ | refine zi ?_ | (refine zt (by rfl) ?_ ?_ <;> intro hC <;> (try cases hC)))
      refine zu ?_; refine ret0 rfl zn2 ⟨?_, rfl⟩
      rfl
    case inr.inr.inr.inl.inr =>
      have c2 := zx16 (b := ⟨#[124]⟩) (by decide) gx2.1 gx2.2 h3 hxs hcs
      repeat' (first | ((apply f_wo); first | ((apply f_as); first | refine zf1 (v := .c _) ?_ | refine za ?_) | ((apply f_fa); first | refine n_fa ?_ | refine zk1 ?_) | ((apply f_ld); first | refine zp1 ?_ | refine zb1 ?_ | refine zw ?_ | refine zi1 ?_ | refine n_ld ?_) | ((apply f_ca); first | refine zr2 (c2) ?_ | refine zp2 (c2) ?_) | ((apply f_ia); first | refine n_ix ?_ | refine zc2 ?_ | refine za ?_) | ((apply zz1); first | refine za1 ?_ | refine za ?_) | ((apply zs1); first | refine zo ?_ | refine zr1 ?_ | refine za ?_) | refine n_bo ?_ | refine za ?_) | ((apply f_w); first | refine zy ?_ | refine zc ?_) | refine zb fun C => ?_ | refine zn ?_ | refine ze ?_ | refine zh ?_ | refine zi ?_ | (refine zt (by rfl) ?_ ?_ <;> intro hC <;> (try cases hC)))
      refine zu ?_; refine ret0 rfl zn2 ⟨?_, rfl⟩
      rfl
    all_goals
      subst h3
      have hym : y ∈ [y] := List.mem_singleton.2 rfl
      have hyt := gx2.1 y hym
      have c2 := l3One_c hyt (hxs y hym) (hcs y hym)
      have hgk := gx2.2
      have hz2 := zx7 (hxs y hym)
      have hy0 : [y][0]? = some y := rfl
      obtain ⟨y0, y1, y2A, y2c, y2l, rfl, gy0, gy1, gy2, -⟩ := zq1 hyt
      repeat' (first | ((apply f_wo); first | ((apply f_as); first | refine zf1 (v := .c _) ?_ | refine za ?_) | ((apply f_fa); first | refine n_fa ?_ | refine zk1 ?_) | ((apply f_ld); first | refine zp1 ?_ | refine zb1 ?_ | refine zw ?_ | refine zi1 ?_ | refine n_ld ?_) | ((apply f_ca); first | refine zr2 (c2) ?_ | refine zp2 (c2) ?_) | ((apply f_ia); first | refine n_ix ?_ | refine zc2 ?_ | refine za ?_) | ((apply zz1); first | refine za1 ?_ | refine za ?_) | ((apply zs1); first | refine zo ?_ | refine zr1 ?_ | refine za ?_) | refine n_bo ?_ | refine za ?_) | ((apply f_w); first | refine zy ?_ | refine zc ?_) | refine zb fun C => ?_ | refine zn ?_ | refine ze ?_ | refine zh ?_ | refine zi ?_ | (refine zt (by rfl) ?_ ?_ <;> intro hC <;> (try cases hC)))
      refine zu ?_; refine ret0 rfl zn2 ⟨?_, rfl⟩
      rfl
theorem zv12 {e : E} (he : e.Ty Try.prog 86) (hsz : e.sz ≤ 4194304) : Ctr Try.prog 76 [.ag (acE e)] [] (.c (.v (.string (rexT e)))) [] := by
  have c1 := zm15 he hsz
  rw [← zj17] at c1
  cases hr : rexOkI e with
  | false =>
    have hres : rexT e = ByteArray.empty := by unfold rexT; rw [hr]; rfl
    rw [hres]
    rw [hr] at c1
    clear hres hr
    obtain ⟨x0, x1, x2A, x2c, l, rfl, gx0, gx1, gx2, -⟩ := zq1 he
    refine zm2 Try.func76 rfl rfl ?_
    repeat' (first | ((apply f_wo); first | ((apply f_as); first | refine zf1 (v := .c _) ?_ | refine za ?_) | ((apply f_ld); first | refine zw ?_ | refine zi1 ?_ | refine n_ld ?_) | ((apply f_ca); first | refine zr2 (c1) ?_ | refine zp2 (c1) ?_) | ((apply f_no); first | refine zj2 ?_ | refine za ?_) | refine n_bo ?_ | refine za ?_) | ((apply f_w); first | refine zy ?_ | refine zc ?_) | refine zb fun C => ?_ | refine zn ?_ | refine ze ?_ | refine zh ?_ | refine zi ?_ | refine zx rfl ?_ | refine zv rfl ?_)
    refine zu ?_; refine ret0 rfl zn2 ⟨?_, rfl⟩
    rfl
  | true =>
    have hres : rexT e = textS 6 e := by unfold rexT; rw [hr]; rfl
    rw [hres]
    have hp : partsI 6 e ≤ 60 := by unfold rexOkI at hr; simpa using hr
    have c2 := l3Text_n 6 e he hsz hp
    rw [hr] at c1
    clear hres hr hp
    obtain ⟨x0, x1, x2A, x2c, l, rfl, gx0, gx1, gx2, -⟩ := zq1 he
    refine zm2 Try.func76 rfl rfl ?_
    repeat' (first | ((apply f_wo); first | ((apply f_as); first | refine zf1 (v := .c _) ?_ | refine za ?_) | ((apply f_ld); first | refine zw ?_ | refine zi1 ?_ | refine n_ld ?_) | ((apply f_ca); first | refine zr2 (c1) ?_ | refine zp2 (c1) ?_ | refine zr2 (c2) ?_ | refine zp2 (c2) ?_) | ((apply f_no); first | refine zj2 ?_ | refine za ?_) | refine n_bo ?_ | refine za ?_) | ((apply f_w); first | refine zy ?_ | refine zc ?_) | refine zb fun C => ?_ | refine zn ?_ | refine ze ?_ | refine zh ?_ | refine zi ?_ | refine zx rfl ?_ | refine zv rfl ?_)
    refine zu ?_; refine ret0 rfl zn2 ⟨?_, rfl⟩
    rfl
section
variable {C : Ctx} {φ : Nat → Lc} {F : Nat → List Nat} {St : Nat → Prop} {σ : AS} {a : Act} {w w' : World}
theorem SimF.give (h : SimF C φ F St σ a w) {b : Nat} (hf : Free C φ F St σ b) (hs : Stp (some b) w w') : SimF C φ F (fun x => (St x ∧ x < w.heap.size) ∨ x = b) σ a w' := by
  have hS : ∀ x, St x → x < w.heap.size → ((St x ∧ x < w.heap.size) ∨ x = b) ∧ w'.heap[x]? = w.heap[x]? := fun x hx hl => ⟨.inl ⟨hx, hl⟩, hs.blk x hl fun e => hf.2.1 (by injection e with e; exact e ▸ hx)⟩
  have hK : ∀ j, σ.Kn j → σ.Kn j ∧ φ j = φ j := fun j hj => ⟨hj, rfl⟩
  refine ⟨h.dfr, h.len, fun t => VR.mono hS hs.size hK _ _ (h.tms t), fun j s hj => ⟨(h.row j s hj).1, ?_⟩, h.nod, h.dis, h.bxF, h.bxd, fun j s x hj hx hst => ?_, fun j s x lo hj e hst => ?_, ?_, h.own, h.par, h.new, h.gnN, fun x hx hl => ?_⟩
  · have h1 := (h.row j s hj).2
    exact h1.mono hS hs.size hK (fun x hx => hs.blk x (h1.lt x hx) fun e => (hf.1 j s hj).1 (by injection e with e; exact e ▸ hx)) fun x lo us e' _ hB => hB.block (hs.blk x hB.lt fun e => (hf.1 j s hj).2 lo (by injection e with e; rw [e', e]))
  · rcases hst with h1 | rfl
    · exact h.stF j s x hj hx h1.1
    · exact (hf.1 j s hj).1 hx
  · rcases hst with h1 | rfl
    · exact h.stB j s x lo hj e h1.1
    · exact (hf.1 j s hj).2 lo e
  · have hfr := h.frm
    refine ⟨hs.os.trans hfr.os, hs.tape.trans hfr.tape, hs.output.trans hfr.output, Nat.le_trans hfr.size hs.size, fun x hx hM => (hfr.blk x hx hM).trans (.inl (hs.blk x (Nat.lt_of_lt_of_le hx hfr.size) fun e => ?_))⟩
    injection e with e
    subst e
    rcases hf.2.2 with h1 | h1
    · exact hM h1
    · omega
  · rcases hx with h1 | rfl
    · exact h.stS x h1.1 hl
    · rcases hf.2.2 with h1 | h1
      · exact .inr h1
      · omega
end
section
variable {P : Program} {ops : Array Oper} {Q : Exit → Act → World → Prop} {C : Ctx} {i : Nat} {r : List Nat} {o : Oper}
variable {tm : Nat → AV} {hp : Nat → Option Row} {gn L : Nat} {us : List Nat} {x : AV}
theorem zv17 {w : World} {b : Nat} {cur : Array Value} {e : TypeId} (h : w.heap[b]? = some (.cells cur e (0, 0))) : (w.freeze ⟨b, cur.size, none⟩ 1).heap[b]? = some (.cells cur e (cur.size, cur.size + 1)) ∧ Stp (some b) w (w.freeze ⟨b, cur.size, none⟩ 1) := by
  unfold World.freeze
  rw [if_neg (by decide)]
  refine ⟨?_, rfl, rfl, rfl, ?_, fun j hj hne => ?_⟩
  · show (w.heap.modify b _)[b]? = _
    rw [Array.getElem?_modify, if_pos rfl, h]; rfl
  · show w.heap.size ≤ (w.heap.modify b _).size
    rw [Array.size_modify]; exact Nat.le_refl _
  · show (w.heap.modify b _)[j]? = _
    rw [Array.getElem?_modify, if_neg (fun e => hne (by rw [e]))]
theorem zp21 {P : Program} {T e : TypeId} {w : World} {b n c : Nat} {cur : Array Value} (ht : P.underlying T = some (.slice e)) (he : P.underlying e = some (.int .u8)) (h : w.heap[b]? = some (.cells cur e (0, 0))) :
    (convert T T (.slice (some ⟨b, 0, none⟩) n c)).run P w = .ok (.slice (some ⟨b, 0, none⟩) n c) (w.freeze ⟨b, cur.size, none⟩ 1) := by
  have hsh : w.shape? b = some (e, cur.size) := by unfold World.shape?; rw [h]
  simp [convert, run_underlying ht, run_underlying he, markStringish, hsh]
def scC : AC → Bool
  | .v _ => true
  | _ => false
theorem zq21 {w w' : World} {St St' : Nat → Prop} {φ φ' : Nat → Lc} {K K' : Nat → Prop} : ∀ {l : List AC} {us : List Value} {fp : List Nat}, l.all scC = true → CRL w St φ K l us fp → fp = [] ∧ CRL w' St' φ' K' l us []
  | [], us, fp, _, h => by
    simp only [CRL] at h
    obtain ⟨rfl, rfl⟩ := h
    exact ⟨rfl, CRL.nil⟩
  | c :: t, us, fp, hl, h => by
    simp only [List.all_cons, Bool.and_eq_true] at hl
    simp only [CRL] at h
    obtain ⟨u, us', f1, f2, rfl, rfl, h1, h2⟩ := h
    obtain ⟨rfl, h4⟩ := zq21 (w' := w') (St' := St') (φ' := φ') (K' := K') hl.2 h2
    cases c with
    | v y =>
      simp only [CR] at h1
      obtain ⟨rfl, g2, rfl⟩ := h1
      exact ⟨rfl, CRL.cons (f := []) (f' := []) (by simp only [CR]; exact ⟨trivial, g2, trivial⟩) h4⟩
    | _ => cases hl.1
theorem n_cvm {ty : TypeId} {gd : Option (Nat × Bool)} {ps : String} {af : Array Edge} {t j n : Nat} {T e : TypeId} {xo : Operand} {cs : List AC}
    (h : Walk P ops Q C false [] r ⟨upd tm t (.c (.ro n 1 cs)), upd hp j none, gn, us, L⟩)
    (hT : P.underlying T = some (.slice e)) (hE : P.underlying e = some (.int .u8)) (ht : Nat.blt t L = true := by exact rfl) (hg : gw ops tm (⟨some t, .convert T T xo, ty, ps, af, gd⟩ : Oper) = some true := by exact rfl)
    (hx : AS.ev ⟨tm, hp, gn, us, L⟩ xo = .c (.sl j n) := by exact rfl) (hr : hp j = some ⟨e, 1, n, false, cs⟩ := by exact rfl) (hn : Nat.blt 0 n = true := by exact rfl) (hs : cs.all scC = true := by exact rfl) :
    WalkO P ops Q C false [] i (⟨some t, .convert T T xo, ty, ps, af, gd⟩ : Oper) r ⟨tm, hp, gn, us, L⟩ := ⟨fun hop => by
  refine ⟨_, ⟨[j], [(j, none)], [], .c (.ro n 1 cs)⟩, hop, ?_, fun n hn => absurd hn List.not_mem_nil, zd6 (by exact zt2), ?_⟩
  · intro τ a w ha hsim K hK
    obtain ⟨φ, F, St, hsim⟩ := hsim
    have e1 : τ.ev xo = .c (.sl j n) := by rw [ha.ev xo (by show xo ∈ #[xo]; simp)]; exact hx
    have e2 : τ.hp j = some ⟨e, 1, n, false, cs⟩ := by rw [ha.hp j List.mem_cons_self]; exact hr
    have v1 := hsim.ev xo
    rw [e1] at v1
    simp only [VR, CR] at v1
    obtain ⟨-, k1, k2, A, c, k3⟩ := v1
    obtain ⟨-, hrow⟩ := hsim.row j _ e2
    rw [k2] at hrow
    obtain ⟨-, vs, fs, g1, g2, g3⟩ := hrow
    have hn' : 0 < n := zc6 hn
    obtain ⟨hl, ⟨-, h0⟩ | ⟨b, cap, cur, hu, -, hh, hnc, hcm, hsz, htk⟩⟩ := g2
    · dsimp only at h0; omega
    obtain ⟨hfs, -⟩ := zq21 (w' := w) (St' := St) (φ' := φ) (K' := τ.Kn) hs g1
    subst hfs
    rw [List.append_nil] at g3
    rw [hu] at g3
    have hob : obl (Value.slice (some ⟨b, 0, none⟩) n cap) = [b] := rfl
    dsimp only at hnc hsz htk hl hh
    have hbF : b ∈ F j := by rw [g3]; exact List.mem_cons_self
    have hfree := hsim.free e2 hbF
    obtain ⟨w1, w2⟩ := zv17 hh
    have hsim2 := (hsim.drop j).give hfree w2
    have hev : a.eval xo = .slice (some ⟨b, 0, none⟩) n cap := hu
    unfold wpOp
    rw [hop]
    have hw := zh19 hsim (b := true) (by rw [ha.gw]; exact hg)
    simp only [hw, if_true]
    refine .inl ?_
    unfold Oper.wp
    have hrun : (execOp a.eval (⟨some t, .convert T T xo, ty, ps, af, gd⟩ : Oper)).run P w = .ok (.value (.slice (some ⟨b, 0, none⟩) n cap)) (w.freeze ⟨b, cur.size, none⟩ 1) := by
      unfold execOp
      have hrc := zp21 (P := P) (n := n) (c := cap) hT hE hh
      simp only [hev]
      simp [Sem.run_bind, hrc]
    rw [hrun]
    have hvr : VR (w.freeze ⟨b, cur.size, none⟩ 1) (fun x => (St x ∧ x < w.heap.size) ∨ x = b) φ ({ τ with hp := upd τ.hp j none } : AS).Kn (.c (.ro n 1 cs)) (.slice (some ⟨b, 0, none⟩) n cap) := by
      simp only [VR, CR]
      refine ⟨trivial, some ⟨b, 0, none⟩, cap, rfl, ⟨hnc, hcm, fun h => by cases h⟩, ?_, fun _ => ⟨b, 0, vs, rfl, .inr rfl, (Array.getElem?_eq_some_iff.1 w1).1, fun q y hq => ?_, ?_⟩⟩
      · rw [← g1.len]; omega
      · have hq2 : cur[q]? = some y := by
          rw [← htk] at hq
          rw [List.getElem?_take] at hq
          split at hq
          · rwa [Array.getElem?_toList] at hq
          · cases hq
        rw [Nat.zero_add]
        unfold World.cell?
        rw [w1]
        exact hq2
      · exact (zq21 hs g1).2
    have h7 := hsim2.put (some t) hvr
    exact hK _ _ ⟨φ, F, _, h7⟩
  · refine zx4 ?_
    show Walk P ops Q C false [] r (AS.put _ (some t) _)
    rw [zo6 (by exact zc6 ht)]; exact h⟩
end
def rdrS (s : ByteArray) (p : PS) : List AC := [.v (.string s), .v (.int .i64 (p.a : Int)), .v (.bool p.b), .v (.int .i64 (p.d : Int))]
def isP (s : ByteArray) (c : Nat) (p : PS) : PS := if isB s c p then p.go 1 else p
set_option maxHeartbeats 4000000 in
theorem zo10 {s : ByteArray} (hs : s.size ≤ 1048576) {c : Nat} (hc : c < 256) {p : PS} : Ctr Try.prog 86 [.c (.pt 0 0), .c (.v (.int .u8 (c : Int)))] [rdrS s p] (.c (.v (.bool (isB s c p)))) [rdrS s (isP s c p)] := by
  obtain ⟨a, d, b⟩ := p
  refine zm2 Try.func86 rfl rfl ?_
  unfold rdrS
  dsimp only
  cases b with
  | true =>
    have hr : isB s c ⟨a, d, true⟩ = false := rfl
    unfold isP
    rw [hr]
    repeat' (first | ((apply f_wo); first | ((apply f_gs); first | refine n_sk ?_) | ((apply f_mv); first | (refine zw1 ?_ ?_ <;> intro hG <;> (try cases hG)) | refine zg1 (v := .c _) ?_ | refine za ?_) | ((apply f_as); first | refine zf1 (v := .c _) ?_ | refine za ?_) | ((apply f_fa); first | refine n_fa ?_ | refine zk1 ?_) | ((apply f_ld); first | refine zp1 ?_ | refine zb1 ?_ | refine n_ld ?_) | ((apply f_bi); first | refine zd1 ?_ | refine zc1 ?_ | refine ze1 ?_ | refine za ?_) | ((apply f_st); first | refine n_st ?_ | refine zt1 ?_) | ((apply zy2); first | refine zy1 ?_ | refine za ?_) | ((apply zs3); first | refine zo1 ?_ | refine za ?_) | ((apply zs1); first | refine zo ?_ | refine zr1 ?_ | refine za ?_) | ((apply f_pk); first | refine zu1 (v := .c _) ?_ | refine za ?_) | refine zx3 ?_ | refine za ?_) | ((apply f_w); first | refine zy ?_ | refine zc ?_) | ((apply d_wo); first | ((apply d_gs); first | refine o_sk ?_ | refine za4 ?_) | ((apply d_bo); (refine o_gm ?_ ?_ <;> intro hG <;> (try cases hG))) | ((apply d_mv); refine zr ?_) | ((apply d_as); refine zr ?_) | ((apply d_fa); first | refine o_fa ?_ | refine zb4 ?_) | ((apply d_ld); first | refine zc4 ?_ | refine zz2 ?_ | refine za3 ?_ | refine zd4 ?_ | refine zr ?_ | refine o_ld ?_) | ((apply d_bi); first | refine zn3 ?_ | refine zm3 ?_ | refine zo3 ?_ | refine zw2 ?_ | refine zw2 (hnu := zl _) ?_ | refine zx1 ?_ | refine zx1 (hnu := zl _) ?_ | refine zr ?_) | ((apply d_st); first | refine o_st ?_ | refine zq4 ?_) | ((apply d_bb); first | refine zl1 ?_ | refine zm1 ?_ | refine zn1 ?_ | refine zw3 ?_ | refine zr ?_) | refine zo4 ?_ | refine zr ?_) | ((apply d_w); first | refine zy ?_ | refine zc ?_) | refine zb fun C => ?_ | refine zp (by kernel_rfl) (by kernel_rfl) fun C => ?_ | refine zn ?_ | refine ze ?_ | refine zh ?_ | refine zi ?_ | refine zx rfl ?_ | refine zv rfl ?_)
    refine zu ?_; refine ret1 rfl zn2 rfl (by first | rfl | (simp [cloL, clo, zg, zf, zk, zj, zd]; done)) rfl ⟨?_, ?_⟩ <;> rfl
  | false =>
    by_cases hlt : a < s.size
    · by_cases he : bAt s a = c
      · have hr : isB s c ⟨a, d, false⟩ = true := by unfold isB; rw [decide_eq_true hlt, he]; simp
        unfold isP
        rw [hr]
        subst he
        repeat' (first | ((apply f_wo); first | ((apply f_gs); first | refine n_sk ?_) | ((apply f_mv); first | (refine zw1 ?_ ?_ <;> intro hG <;> (try cases hG)) | refine zg1 (v := .c _) ?_ | refine za ?_) | ((apply f_as); first | refine zf1 (v := .c _) ?_ | refine za ?_) | ((apply f_fa); first | refine n_fa ?_ | refine zk1 ?_) | ((apply f_ld); first | refine zp1 ?_ | refine zb1 ?_ | refine n_ld ?_) | ((apply f_bi); first | refine zd1 ?_ | refine zc1 ?_ | refine ze1 ?_ | refine za ?_) | ((apply f_st); first | refine n_st ?_ | refine zt1 ?_) | ((apply zy2); first | refine zy1 ?_ | refine za ?_) | ((apply zs3); first | refine zo1 ?_ | refine za ?_) | ((apply zs1); first | refine zo ?_ | refine zr1 ?_ | refine za ?_) | ((apply f_pk); first | refine zu1 (v := .c _) ?_ | refine za ?_) | refine zx3 ?_ | refine za ?_) | ((apply f_w); first | refine zy ?_ | refine zc ?_) | ((apply d_wo); first | ((apply d_gs); first | refine o_sk ?_ | refine za4 ?_) | ((apply d_bo); (refine o_gm ?_ ?_ <;> intro hG <;> (try cases hG))) | ((apply d_mv); refine zr ?_) | ((apply d_as); refine zr ?_) | ((apply d_fa); first | refine o_fa ?_ | refine zb4 ?_) | ((apply d_ld); first | refine zc4 ?_ | refine zz2 ?_ | refine za3 ?_ | refine zd4 ?_ | refine zr ?_ | refine o_ld ?_) | ((apply d_bi); first | refine zn3 ?_ | refine zm3 ?_ | refine zo3 ?_ | refine zw2 ?_ | refine zw2 (hnu := zl _) ?_ | refine zx1 ?_ | refine zx1 (hnu := zl _) ?_ | refine zr ?_) | ((apply d_st); first | refine o_st ?_ | refine zq4 ?_) | ((apply d_bb); first | refine zl1 ?_ | refine zm1 ?_ | refine zn1 ?_ | refine zw3 ?_ | refine zr ?_) | refine zo4 ?_ | refine zr ?_) | ((apply d_w); first | refine zy ?_ | refine zc ?_) | refine zb fun C => ?_ | refine zp (by kernel_rfl) (by kernel_rfl) fun C => ?_ | refine zn ?_ | refine ze ?_ | refine zh ?_ | refine zi ?_)
        · exfalso; simp only [decide_eq_true_iff] at hG; omega
        · refine zt (by rfl) (fun hC => absurd hC (by simp)) fun hC => ?_
          repeat' (first | ((apply f_wo); first | ((apply f_gs); first | refine n_sk ?_) | ((apply f_mv); first | (refine zw1 ?_ ?_ <;> intro hG <;> (try cases hG)) | refine zg1 (v := .c _) ?_ | refine za ?_) | ((apply f_as); first | refine zf1 (v := .c _) ?_ | refine za ?_) | ((apply f_fa); first | refine n_fa ?_ | refine zk1 ?_) | ((apply f_ld); first | refine zp1 ?_ | refine zb1 ?_ | refine n_ld ?_) | ((apply f_bi); first | refine zd1 ?_ | refine zc1 ?_ | refine ze1 ?_ | refine za ?_) | ((apply f_st); first | refine n_st ?_ | refine zt1 ?_) | ((apply zy2); first | refine zy1 ?_ | refine za ?_) | ((apply zs3); first | refine zo1 ?_ | refine za ?_) | ((apply zs1); first | refine zo ?_ | refine zr1 ?_ | refine za ?_) | ((apply f_pk); first | refine zu1 (v := .c _) ?_ | refine za ?_) | refine zx3 ?_ | refine za ?_) | ((apply f_w); first | refine zy ?_ | refine zc ?_) | ((apply d_wo); first | ((apply d_gs); first | refine o_sk ?_ | refine za4 ?_) | ((apply d_bo); (refine o_gm ?_ ?_ <;> intro hG <;> (try cases hG))) | ((apply d_mv); refine zr ?_) | ((apply d_as); refine zr ?_) | ((apply d_fa); first | refine o_fa ?_ | refine zb4 ?_) | ((apply d_ld); first | refine zc4 ?_ | refine zz2 ?_ | refine za3 ?_ | refine zd4 ?_ | refine zr ?_ | refine o_ld ?_) | ((apply d_bi); first | refine zn3 ?_ | refine zm3 ?_ | refine zo3 ?_ | refine zw2 ?_ | refine zw2 (hnu := zl _) ?_ | refine zx1 ?_ | refine zx1 (hnu := zl _) ?_ | refine zr ?_) | ((apply d_st); first | refine o_st ?_ | refine zq4 ?_) | ((apply d_bb); first | refine zl1 ?_ | refine zm1 ?_ | refine zn1 ?_ | refine zw3 ?_ | refine zr ?_) | refine zo4 ?_ | refine zr ?_) | ((apply d_w); first | refine zy ?_ | refine zc ?_) | refine zb fun C => ?_ | refine zp (by kernel_rfl) (by kernel_rfl) fun C => ?_ | refine zn ?_ | refine ze ?_ | refine zh ?_ | refine zi ?_ | refine zx rfl ?_ | refine zv rfl ?_)
          refine zu ?_; refine ret1 rfl zn2 rfl (by first | rfl | (simp [cloL, clo, zg, zf, zk, zj, zd]; done)) rfl ⟨?_, ?_⟩ <;> rfl
      · have hr : isB s c ⟨a, d, false⟩ = false := by unfold isB; simp [he]
        unfold isP
        rw [hr]
        repeat' (first | ((apply f_wo); first | ((apply f_gs); first | refine n_sk ?_) | ((apply f_mv); first | (refine zw1 ?_ ?_ <;> intro hG <;> (try cases hG)) | refine zg1 (v := .c _) ?_ | refine za ?_) | ((apply f_as); first | refine zf1 (v := .c _) ?_ | refine za ?_) | ((apply f_fa); first | refine n_fa ?_ | refine zk1 ?_) | ((apply f_ld); first | refine zp1 ?_ | refine zb1 ?_ | refine n_ld ?_) | ((apply f_bi); first | refine zd1 ?_ | refine zc1 ?_ | refine ze1 ?_ | refine za ?_) | ((apply f_st); first | refine n_st ?_ | refine zt1 ?_) | ((apply zy2); first | refine zy1 ?_ | refine za ?_) | ((apply zs3); first | refine zo1 ?_ | refine za ?_) | ((apply zs1); first | refine zo ?_ | refine zr1 ?_ | refine za ?_) | ((apply f_pk); first | refine zu1 (v := .c _) ?_ | refine za ?_) | refine zx3 ?_ | refine za ?_) | ((apply f_w); first | refine zy ?_ | refine zc ?_) | ((apply d_wo); first | ((apply d_gs); first | refine o_sk ?_ | refine za4 ?_) | ((apply d_bo); (refine o_gm ?_ ?_ <;> intro hG <;> (try cases hG))) | ((apply d_mv); refine zr ?_) | ((apply d_as); refine zr ?_) | ((apply d_fa); first | refine o_fa ?_ | refine zb4 ?_) | ((apply d_ld); first | refine zc4 ?_ | refine zz2 ?_ | refine za3 ?_ | refine zd4 ?_ | refine zr ?_ | refine o_ld ?_) | ((apply d_bi); first | refine zn3 ?_ | refine zm3 ?_ | refine zo3 ?_ | refine zw2 ?_ | refine zw2 (hnu := zl _) ?_ | refine zx1 ?_ | refine zx1 (hnu := zl _) ?_ | refine zr ?_) | ((apply d_st); first | refine o_st ?_ | refine zq4 ?_) | ((apply d_bb); first | refine zl1 ?_ | refine zm1 ?_ | refine zn1 ?_ | refine zw3 ?_ | refine zr ?_) | refine zo4 ?_ | refine zr ?_) | ((apply d_w); first | refine zy ?_ | refine zc ?_) | refine zb fun C => ?_ | refine zp (by kernel_rfl) (by kernel_rfl) fun C => ?_ | refine zn ?_ | refine ze ?_ | refine zh ?_ | refine zi ?_)
        · exfalso; simp only [decide_eq_true_iff] at hG; omega
        · refine zt (by rfl) (fun hC => ?_) fun hC => absurd (bne_eq_false_iff_eq.1 hC) (by omega)
          repeat' (first | ((apply f_wo); first | ((apply f_gs); first | refine n_sk ?_) | ((apply f_mv); first | (refine zw1 ?_ ?_ <;> intro hG <;> (try cases hG)) | refine zg1 (v := .c _) ?_ | refine za ?_) | ((apply f_as); first | refine zf1 (v := .c _) ?_ | refine za ?_) | ((apply f_fa); first | refine n_fa ?_ | refine zk1 ?_) | ((apply f_ld); first | refine zp1 ?_ | refine zb1 ?_ | refine n_ld ?_) | ((apply f_bi); first | refine zd1 ?_ | refine zc1 ?_ | refine ze1 ?_ | refine za ?_) | ((apply f_st); first | refine n_st ?_ | refine zt1 ?_) | ((apply zy2); first | refine zy1 ?_ | refine za ?_) | ((apply zs3); first | refine zo1 ?_ | refine za ?_) | ((apply zs1); first | refine zo ?_ | refine zr1 ?_ | refine za ?_) | ((apply f_pk); first | refine zu1 (v := .c _) ?_ | refine za ?_) | refine zx3 ?_ | refine za ?_) | ((apply f_w); first | refine zy ?_ | refine zc ?_) | ((apply d_wo); first | ((apply d_gs); first | refine o_sk ?_ | refine za4 ?_) | ((apply d_bo); (refine o_gm ?_ ?_ <;> intro hG <;> (try cases hG))) | ((apply d_mv); refine zr ?_) | ((apply d_as); refine zr ?_) | ((apply d_fa); first | refine o_fa ?_ | refine zb4 ?_) | ((apply d_ld); first | refine zc4 ?_ | refine zz2 ?_ | refine za3 ?_ | refine zd4 ?_ | refine zr ?_ | refine o_ld ?_) | ((apply d_bi); first | refine zn3 ?_ | refine zm3 ?_ | refine zo3 ?_ | refine zw2 ?_ | refine zw2 (hnu := zl _) ?_ | refine zx1 ?_ | refine zx1 (hnu := zl _) ?_ | refine zr ?_) | ((apply d_st); first | refine o_st ?_ | refine zq4 ?_) | ((apply d_bb); first | refine zl1 ?_ | refine zm1 ?_ | refine zn1 ?_ | refine zw3 ?_ | refine zr ?_) | refine zo4 ?_ | refine zr ?_) | ((apply d_w); first | refine zy ?_ | refine zc ?_) | refine zb fun C => ?_ | refine zp (by kernel_rfl) (by kernel_rfl) fun C => ?_ | refine zn ?_ | refine ze ?_ | refine zh ?_ | refine zi ?_ | refine zx rfl ?_ | refine zv rfl ?_)
          refine zu ?_; refine ret1 rfl zn2 rfl (by first | rfl | (simp [cloL, clo, zg, zf, zk, zj, zd]; done)) rfl ⟨?_, ?_⟩ <;> rfl
    · have hr : isB s c ⟨a, d, false⟩ = false := by unfold isB; simp [hlt]
      unfold isP
      rw [hr]
      repeat' (first | ((apply f_wo); first | ((apply f_gs); first | refine n_sk ?_) | ((apply f_mv); first | (refine zw1 ?_ ?_ <;> intro hG <;> (try cases hG)) | refine zg1 (v := .c _) ?_ | refine za ?_) | ((apply f_as); first | refine zf1 (v := .c _) ?_ | refine za ?_) | ((apply f_fa); first | refine n_fa ?_ | refine zk1 ?_) | ((apply f_ld); first | refine zp1 ?_ | refine zb1 ?_ | refine n_ld ?_) | ((apply f_bi); first | refine zd1 ?_ | refine zc1 ?_ | refine ze1 ?_ | refine za ?_) | ((apply f_st); first | refine n_st ?_ | refine zt1 ?_) | ((apply zy2); first | refine zy1 ?_ | refine za ?_) | ((apply zs3); first | refine zo1 ?_ | refine za ?_) | ((apply zs1); first | refine zo ?_ | refine zr1 ?_ | refine za ?_) | ((apply f_pk); first | refine zu1 (v := .c _) ?_ | refine za ?_) | refine zx3 ?_ | refine za ?_) | ((apply f_w); first | refine zy ?_ | refine zc ?_) | ((apply d_wo); first | ((apply d_gs); first | refine o_sk ?_ | refine za4 ?_) | ((apply d_bo); (refine o_gm ?_ ?_ <;> intro hG <;> (try cases hG))) | ((apply d_mv); refine zr ?_) | ((apply d_as); refine zr ?_) | ((apply d_fa); first | refine o_fa ?_ | refine zb4 ?_) | ((apply d_ld); first | refine zc4 ?_ | refine zz2 ?_ | refine za3 ?_ | refine zd4 ?_ | refine zr ?_ | refine o_ld ?_) | ((apply d_bi); first | refine zn3 ?_ | refine zm3 ?_ | refine zo3 ?_ | refine zw2 ?_ | refine zw2 (hnu := zl _) ?_ | refine zx1 ?_ | refine zx1 (hnu := zl _) ?_ | refine zr ?_) | ((apply d_st); first | refine o_st ?_ | refine zq4 ?_) | ((apply d_bb); first | refine zl1 ?_ | refine zm1 ?_ | refine zn1 ?_ | refine zw3 ?_ | refine zr ?_) | refine zo4 ?_ | refine zr ?_) | ((apply d_w); first | refine zy ?_ | refine zc ?_) | refine zb fun C => ?_ | refine zp (by kernel_rfl) (by kernel_rfl) fun C => ?_ | refine zn ?_ | refine ze ?_ | refine zh ?_ | refine zi ?_)
      · refine zx rfl ?_
        repeat' (first | ((apply f_wo); first | ((apply f_gs); first | refine n_sk ?_) | ((apply f_mv); first | (refine zw1 ?_ ?_ <;> intro hG <;> (try cases hG)) | refine zg1 (v := .c _) ?_ | refine za ?_) | ((apply f_as); first | refine zf1 (v := .c _) ?_ | refine za ?_) | ((apply f_fa); first | refine n_fa ?_ | refine zk1 ?_) | ((apply f_ld); first | refine zp1 ?_ | refine zb1 ?_ | refine n_ld ?_) | ((apply f_bi); first | refine zd1 ?_ | refine zc1 ?_ | refine ze1 ?_ | refine za ?_) | ((apply f_st); first | refine n_st ?_ | refine zt1 ?_) | ((apply zy2); first | refine zy1 ?_ | refine za ?_) | ((apply zs3); first | refine zo1 ?_ | refine za ?_) | ((apply zs1); first | refine zo ?_ | refine zr1 ?_ | refine za ?_) | ((apply f_pk); first | refine zu1 (v := .c _) ?_ | refine za ?_) | refine zx3 ?_ | refine za ?_) | ((apply f_w); first | refine zy ?_ | refine zc ?_) | ((apply d_wo); first | ((apply d_gs); first | refine o_sk ?_ | refine za4 ?_) | ((apply d_bo); (refine o_gm ?_ ?_ <;> intro hG <;> (try cases hG))) | ((apply d_mv); refine zr ?_) | ((apply d_as); refine zr ?_) | ((apply d_fa); first | refine o_fa ?_ | refine zb4 ?_) | ((apply d_ld); first | refine zc4 ?_ | refine zz2 ?_ | refine za3 ?_ | refine zd4 ?_ | refine zr ?_ | refine o_ld ?_) | ((apply d_bi); first | refine zn3 ?_ | refine zm3 ?_ | refine zo3 ?_ | refine zw2 ?_ | refine zw2 (hnu := zl _) ?_ | refine zx1 ?_ | refine zx1 (hnu := zl _) ?_ | refine zr ?_) | ((apply d_st); first | refine o_st ?_ | refine zq4 ?_) | ((apply d_bb); first | refine zl1 ?_ | refine zm1 ?_ | refine zn1 ?_ | refine zw3 ?_ | refine zr ?_) | refine zo4 ?_ | refine zr ?_) | ((apply d_w); first | refine zy ?_ | refine zc ?_) | refine zb fun C => ?_ | refine zp (by kernel_rfl) (by kernel_rfl) fun C => ?_ | refine zn ?_ | refine ze ?_ | refine zh ?_ | refine zi ?_ | refine zx rfl ?_ | refine zv rfl ?_)
        refine zu ?_; refine ret1 rfl zn2 rfl (by first | rfl | (simp [cloL, clo, zg, zf, zk, zj, zd]; done)) rfl ⟨?_, ?_⟩ <;> rfl
      · exfalso; simp only [decide_eq_false_iff_not] at hG; omega
theorem zp10 {s : ByteArray} {p : PS} : Ctr Try.prog 118 [.c (.pt 0 0)] [rdrS s p] (.ag (owE zeroR)) [rdrS s p.bad] := by
  obtain ⟨a, d, b⟩ := p
  refine zm2 Try.func118 rfl rfl ?_
  unfold rdrS
  dsimp only
  repeat' (first | ((apply f_wo); first | ((apply f_mv); first | refine zg1 (v := .c _) ?_ | refine za ?_) | ((apply f_fa); first | refine n_fa ?_ | refine zk1 ?_) | ((apply f_st); first | refine n_st ?_ | refine zt1 ?_) | refine n_al ?_ | refine za ?_) | ((apply f_w); first | refine zy ?_ | refine zc ?_) | refine zb fun C => ?_ | refine zn ?_ | refine ze ?_ | refine zh ?_ | refine zi ?_ | refine zx rfl ?_ | refine zv rfl ?_)
  refine zm4 (ze6 900 (i := 2) 86 3 rfl rfl (pre := [_, _]) (post := []) rfl) ?_; refine zu ?_; refine ret1 rfl (zl3 (zu2 rfl (zu2 rfl (zk3 rfl rfl rfl (by first | exact zg _ | exact zf _ | exact bytC_clo _ | (simp [cloL, clo, zg, zf, zk, zj, zd]; done) | (simp [cloL, clo, opC, opL, zg, zf, zk, zj, zd]; done)) zs2)))) rfl (by first | rfl | (simp [cloL, clo, zg, zf, zk, zj, zd]; done)) rfl ⟨?_, ?_⟩ <;> rfl
theorem zj7 {s : ByteArray} {c : Nat} {p : PS} (h : isB s c p = true) : isP s c p = p.go 1 := if_pos h
theorem zq10 {s : ByteArray} {c : Nat} {p : PS} (h : isB s c p = false) : isP s c p = p := by unfold isP; rw [h]; rfl
set_option maxHeartbeats 4000000 in
theorem zr21 {s : ByteArray} (hs : s.size ≤ 1048576) {alt : PS → E × PS} {p : PS} (hp : Pre s p) (hb : p.b = false) (hg : p.d ≤ 7 → GoodS s ⟨p.a, p.d + 1, p.b⟩ (alt ⟨p.a, p.d + 1, p.b⟩))
    (ha : p.d ≤ 7 → Ctr Try.prog 75 [.c (.pt 0 0)] [rdrS s ⟨p.a, p.d + 1, p.b⟩] (.ag (owE (alt ⟨p.a, p.d + 1, p.b⟩).1)) [rdrS s (alt ⟨p.a, p.d + 1, p.b⟩).2]) :
    Ctr Try.prog 119 [.c (.pt 0 0)] [rdrS s p] (.ag (owE (groupS s alt p).1)) [rdrS s (groupS s alt p).2] := by
  obtain ⟨a, d, b⟩ := p
  have hb : b = false := hb
  subst hb
  dsimp only at ha hg
  have hpd : d ≤ 8 := hp.2.2 rfl
  have h41 := zo10 hs (c := 41) (by omega) (p := ⟨a, d, false⟩)
  cases h1 : isB s 41 ⟨a, d, false⟩ with
  | true =>
    have hr : groupS s alt ⟨a, d, false⟩ = (rexE 9 ByteArray.empty [], ⟨a + 1, d, false⟩) := by unfold groupS; rw [if_pos h1]; rfl
    rw [hr]
    rw [zj7 h1, h1] at h41
    refine zm2 Try.func119 rfl rfl ?_
    unfold rdrS at h41 ⊢
    dsimp only [PS.go] at h41 ⊢
    repeat' (first | ((apply f_wo); first | ((apply f_mv); first | refine zg1 (v := .c _) ?_ | refine za ?_) | ((apply f_fa); first | refine n_fa ?_ | refine zk1 ?_) | ((apply f_ld); first | refine zp1 ?_ | refine zb1 ?_ | refine zw ?_ | refine zi1 ?_ | refine n_ld ?_) | ((apply f_ca); first | refine zl2 0 (h41) ?_) | ((apply f_st); first | refine n_st ?_ | refine zt1 ?_) | ((apply zq3); first | refine zh1 ?_ | refine za ?_) | ((apply zs1); first | refine zo ?_ | refine zr1 ?_ | refine za ?_) | ((apply f_no); first | refine zj2 ?_ | refine za ?_) | ((apply f_bb); first | refine zg2 ?_ | refine zh2 ?_ | refine za ?_) | refine n_al ?_ | refine za ?_) | ((apply f_w); first | refine zy ?_ | refine zc ?_) | refine zb fun C => ?_ | refine zn ?_ | refine ze ?_ | refine zh ?_ | refine zi ?_ | refine zx rfl ?_ | refine zv rfl ?_)
    refine zm4 (ze6 900 (i := 2) 86 3 rfl rfl (pre := [_, _]) (post := []) rfl) ?_; refine zu ?_; refine ret1 rfl (zl3 (zu2 rfl (zu2 rfl (zk3 rfl rfl rfl (by first | exact zg _ | exact zf _ | exact bytC_clo _ | (simp [cloL, clo, zg, zf, zk, zj, zd]; done) | (simp [cloL, clo, opC, opL, zg, zf, zk, zj, zd]; done)) zs2)))) rfl (by first | rfl | (simp [cloL, clo, zg, zf, zk, zj, zd]; done)) rfl ⟨?_, ?_⟩ <;> rfl
  | false =>
    rw [zq10 h1, h1] at h41
    by_cases h8 : 8 < d + 1
    · have hr : groupS s alt ⟨a, d, false⟩ = (zeroR, ⟨a, d + 1, true⟩) := by unfold groupS; rw [if_neg (by rw [h1]; simp), if_pos h8]
      rw [hr]
      have hbad := zp10 (s := s) (p := ⟨a, d + 1, false⟩)
      refine zm2 Try.func119 rfl rfl ?_
      unfold rdrS at h41 hbad ⊢
      dsimp only [PS.bad] at h41 hbad ⊢
      repeat' (first | ((apply f_wo); first | ((apply f_mv); first | refine zg1 (v := .c _) ?_ | refine za ?_) | ((apply f_fa); first | refine n_fa ?_ | refine zk1 ?_) | ((apply f_ld); first | refine zp1 ?_ | refine zb1 ?_ | refine zw ?_ | refine zi1 ?_ | refine n_ld ?_) | ((apply f_ca); first | refine zl2 0 (h41) ?_ | refine zl2 0 (hbad) ?_) | ((apply f_st); first | refine n_st ?_ | refine zt1 ?_) | ((apply zq3); first | refine zh1 ?_ | refine za ?_) | ((apply zs1); first | refine zo ?_ | refine zr1 ?_ | refine za ?_) | ((apply f_no); first | refine zj2 ?_ | refine za ?_) | ((apply f_bb); first | refine zg2 ?_ | refine zh2 ?_ | refine za ?_) | refine n_al ?_ | refine za ?_) | ((apply f_w); first | refine zy ?_ | refine zc ?_) | refine zb fun C => ?_ | refine zn ?_ | refine ze ?_ | refine zh ?_ | refine zi ?_ | refine zx rfl ?_ | refine zv rfl ?_)
      refine zt (by rfl) (fun hC => ?_) fun hC => by exfalso; simp only [decide_eq_false_iff_not] at hC; omega
      repeat' (first | ((apply f_wo); first | ((apply f_mv); first | refine zg1 (v := .c _) ?_ | refine za ?_) | ((apply f_fa); first | refine n_fa ?_ | refine zk1 ?_) | ((apply f_ld); first | refine zp1 ?_ | refine zb1 ?_ | refine zw ?_ | refine zi1 ?_ | refine n_ld ?_) | ((apply f_ca); first | refine zl2 0 (h41) ?_ | refine zl2 0 (hbad) ?_) | ((apply f_st); first | refine n_st ?_ | refine zt1 ?_) | ((apply zq3); first | refine zh1 ?_ | refine za ?_) | ((apply zs1); first | refine zo ?_ | refine zr1 ?_ | refine za ?_) | ((apply f_no); first | refine zj2 ?_ | refine za ?_) | ((apply f_bb); first | refine zg2 ?_ | refine zh2 ?_ | refine za ?_) | refine n_al ?_ | refine za ?_) | ((apply f_w); first | refine zy ?_ | refine zc ?_) | refine zb fun C => ?_ | refine zn ?_ | refine ze ?_ | refine zh ?_ | refine zi ?_ | refine zx rfl ?_ | refine zv rfl ?_)
      refine zu ?_; refine ret1 rfl (zl3 (zu2 rfl (zu2 rfl (zk3 rfl rfl rfl (by first | exact zg _ | exact zf _ | exact bytC_clo _ | (simp [cloL, clo, zg, zf, zk, zj, zd]; done) | (simp [cloL, clo, opC, opL, zg, zf, zk, zj, zd]; done)) zs2)))) rfl (by first | rfl | (simp [cloL, clo, zg, zf, zk, zj, zd]; done)) rfl ⟨?_, ?_⟩ <;> rfl
    · have hic := ha (by omega)
      obtain ⟨g1, g2, g3, g4, g5, g6⟩ := hg (by omega)
      clear ha hg
      have hr : groupS s alt ⟨a, d, false⟩ = if isB s 41 ⟨(alt ⟨a, d + 1, false⟩).2.a, (alt ⟨a, d + 1, false⟩).2.d - 1, (alt ⟨a, d + 1, false⟩).2.b⟩ then ((alt ⟨a, d + 1, false⟩).1, ⟨(alt ⟨a, d + 1, false⟩).2.a + 1, (alt ⟨a, d + 1, false⟩).2.d - 1, (alt ⟨a, d + 1, false⟩).2.b⟩) else (zeroR, ⟨(alt ⟨a, d + 1, false⟩).2.a, (alt ⟨a, d + 1, false⟩).2.d - 1, true⟩) := by unfold groupS; rw [if_neg (by rw [h1]; simp), if_neg h8]; rfl
      rw [hr]
      clear hr
      obtain ⟨⟨e, q⟩, hq⟩ : ∃ r, alt ⟨a, d + 1, false⟩ = r := ⟨_, rfl⟩
      rw [hq] at hic g1 g2 g3 g4 g5 g6 ⊢
      dsimp only at hic g1 g2 g3 g4 g5 g6 ⊢
      cases g1 with
      | mk k t l hk ht hl2 =>
      obtain ⟨qa, qd, qb⟩ := q
      dsimp only at hic g2 g3 g4 g5 g6 ⊢
      have hqd : ((qd : Nat) : Int) - 1 = ((qd - 1 : Nat) : Int) := by omega
      have hbad := zp10 (s := s) (p := ⟨qa, qd - 1, qb⟩)
      have h41b := zo10 hs (c := 41) (by omega) (p := ⟨qa, qd - 1, qb⟩)
      cases h2 : isB s 41 ⟨qa, qd - 1, qb⟩ with
      | true =>
        rw [zj7 h2, h2] at h41b
        rw [if_pos rfl]
        refine zm2 Try.func119 rfl rfl ?_
        unfold rdrS at h41 hic h41b ⊢
        dsimp only [PS.go] at h41 hic h41b ⊢
        rw [← hqd] at h41b ⊢
        repeat' (first | ((apply f_wo); first | ((apply f_mv); first | refine zg1 (v := .c _) ?_ | refine za ?_) | ((apply f_fa); first | refine n_fa ?_ | refine zk1 ?_) | ((apply f_ld); first | refine zp1 ?_ | refine zb1 ?_ | refine zw ?_ | refine zi1 ?_ | refine n_ld ?_) | ((apply f_ca); first | refine zl2 0 (h41) ?_ | refine zl2 0 (hic) ?_ | refine zl2 0 (h41b) ?_) | ((apply f_st); first | refine n_st ?_ | refine zt1 ?_) | ((apply zq3); first | refine zh1 ?_ | refine za ?_) | ((apply zs1); first | refine zo ?_ | refine zr1 ?_ | refine za ?_) | ((apply f_no); first | refine zj2 ?_ | refine za ?_) | ((apply f_bb); first | refine zg2 ?_ | refine zh2 ?_ | refine za ?_) | refine n_al ?_ | refine za ?_) | ((apply f_w); first | refine zy ?_ | refine zc ?_) | refine zb fun C => ?_ | refine zn ?_ | refine ze ?_ | refine zh ?_ | refine zi ?_ | refine zx rfl ?_ | refine zv rfl ?_)
        refine zt (by rfl) (fun hC => by exfalso; simp only [decide_eq_true_iff] at hC; omega) fun hC => ?_
        repeat' (first | ((apply f_wo); first | ((apply f_mv); first | refine zg1 (v := .c _) ?_ | refine za ?_) | ((apply f_fa); first | refine n_fa ?_ | refine zk1 ?_) | ((apply f_ld); first | refine zp1 ?_ | refine zb1 ?_ | refine zw ?_ | refine zi1 ?_ | refine n_ld ?_) | ((apply f_ca); first | refine zl2 0 (h41) ?_ | refine zl2 0 (hic) ?_ | refine zl2 0 (h41b) ?_) | ((apply f_st); first | refine n_st ?_ | refine zt1 ?_) | ((apply zq3); first | refine zh1 ?_ | refine za ?_) | ((apply zs1); first | refine zo ?_ | refine zr1 ?_ | refine za ?_) | ((apply f_no); first | refine zj2 ?_ | refine za ?_) | ((apply f_bb); first | refine zg2 ?_ | refine zh2 ?_ | refine za ?_) | refine n_al ?_ | refine za ?_) | ((apply f_w); first | refine zy ?_ | refine zc ?_) | refine zb fun C => ?_ | refine zn ?_ | refine ze ?_ | refine zh ?_ | refine zi ?_ | refine zx rfl ?_ | refine zv rfl ?_)
        refine zu ?_; refine ret1 rfl (zl3 (zu2 rfl (zu2 rfl (zk3 rfl rfl rfl (by first | exact zg _ | exact zf _ | exact bytC_clo _ | (simp [cloL, clo, zg, zf, zk, zj, zd]; done) | (simp [cloL, clo, opC, opL, zg, zf, zk, zj, zd]; done)) zs2)))) rfl (by first | rfl | (simp [cloL, clo, zg, zf, zk, zj, zd]; done)) rfl ⟨?_, ?_⟩ <;> rfl
      | false =>
        rw [zq10 h2, h2] at h41b
        rw [if_neg (by simp)]
        refine zm2 Try.func119 rfl rfl ?_
        unfold rdrS at h41 hic h41b hbad ⊢
        dsimp only [PS.bad] at h41 hic h41b hbad ⊢
        rw [← hqd] at h41b hbad ⊢
        repeat' (first | ((apply f_wo); first | ((apply f_mv); first | refine zg1 (v := .c _) ?_ | refine za ?_) | ((apply f_fa); first | refine n_fa ?_ | refine zk1 ?_) | ((apply f_ld); first | refine zp1 ?_ | refine zb1 ?_ | refine zw ?_ | refine zi1 ?_ | refine n_ld ?_) | ((apply f_ca); first | refine zl2 0 (h41) ?_ | refine zl2 0 (hic) ?_ | refine zl2 0 (h41b) ?_ | refine zl2 0 (hbad) ?_) | ((apply f_st); first | refine n_st ?_ | refine zt1 ?_) | ((apply zq3); first | refine zh1 ?_ | refine za ?_) | ((apply zs1); first | refine zo ?_ | refine zr1 ?_ | refine za ?_) | ((apply f_no); first | refine zj2 ?_ | refine za ?_) | ((apply f_bb); first | refine zg2 ?_ | refine zh2 ?_ | refine za ?_) | refine n_al ?_ | refine za ?_) | ((apply f_w); first | refine zy ?_ | refine zc ?_) | refine zb fun C => ?_ | refine zn ?_ | refine ze ?_ | refine zh ?_ | refine zi ?_ | refine zx rfl ?_ | refine zv rfl ?_)
        refine zt (by rfl) (fun hC => by exfalso; simp only [decide_eq_true_iff] at hC; omega) fun hC => ?_
        repeat' (first | ((apply f_wo); first | ((apply f_mv); first | refine zg1 (v := .c _) ?_ | refine za ?_) | ((apply f_fa); first | refine n_fa ?_ | refine zk1 ?_) | ((apply f_ld); first | refine zp1 ?_ | refine zb1 ?_ | refine zw ?_ | refine zi1 ?_ | refine n_ld ?_) | ((apply f_ca); first | refine zl2 0 (h41) ?_ | refine zl2 0 (hic) ?_ | refine zl2 0 (h41b) ?_ | refine zl2 0 (hbad) ?_) | ((apply f_st); first | refine n_st ?_ | refine zt1 ?_) | ((apply zq3); first | refine zh1 ?_ | refine za ?_) | ((apply zs1); first | refine zo ?_ | refine zr1 ?_ | refine za ?_) | ((apply f_no); first | refine zj2 ?_ | refine za ?_) | ((apply f_bb); first | refine zg2 ?_ | refine zh2 ?_ | refine za ?_) | refine n_al ?_ | refine za ?_) | ((apply f_w); first | refine zy ?_ | refine zc ?_) | refine zb fun C => ?_ | refine zn ?_ | refine ze ?_ | refine zh ?_ | refine zi ?_ | refine zx rfl ?_ | refine zv rfl ?_)
        refine zu ?_; refine ret1 rfl (zl3 (zu2 rfl (zu2 rfl (zk3 rfl rfl rfl (by first | exact zg _ | exact zf _ | exact bytC_clo _ | (simp [cloL, clo, zg, zf, zk, zj, zd]; done) | (simp [cloL, clo, opC, opL, zg, zf, zk, zj, zd]; done)) zs2)))) rfl (by first | rfl | (simp [cloL, clo, zg, zf, zk, zj, zd]; done)) rfl ⟨?_, ?_⟩ <;> rfl
theorem atomS_eq {s : ByteArray} {alt : PS → E × PS} {a d c : Nat} (ha : a < s.size) (hc : bAt s a = c) : atomS s alt ⟨a, d, false⟩ = atomSc s alt c ⟨a + 1, d, false⟩ := by
  unfold atomS
  rw [if_neg (by simp; exact ha), hc]; rfl
set_option maxHeartbeats 8000000 in
theorem l3Atom_c {s : ByteArray} (hs : s.size ≤ 1048576) {alt : PS → E × PS} {p : PS} (hp : Pre s p)
    (hgr : p.b = false → p.a < s.size → Ctr Try.prog 119 [.c (.pt 0 0)] [rdrS s (p.go 1)] (.ag (owE (groupS s alt (p.go 1)).1)) [rdrS s (groupS s alt (p.go 1)).2])
    (hgg : p.b = false → p.a < s.size → GoodS s (p.go 1) (groupS s alt (p.go 1))) :
    Ctr Try.prog 109 [.c (.pt 0 0)] [rdrS s p] (.ag (owE (atomS s alt p).1)) [rdrS s (atomS s alt p).2] := by
  obtain ⟨a, d, b⟩ := p
  have hple : a ≤ s.size := hp.1
  have hbad0 := zp10 (s := s) (p := ⟨a, d, b⟩)
  cases b with
  | true =>
    have hr : atomS s alt ⟨a, d, true⟩ = (zeroR, ⟨a, d, true⟩) := by unfold atomS; rw [if_pos (.inl rfl)]; rfl
    rw [hr]
    refine zm2 Try.func109 rfl rfl ?_
    unfold rdrS at hbad0 ⊢
    dsimp only [PS.bad] at hbad0 ⊢
    repeat' (first | ((apply f_wo); first | ((apply f_gs); first | refine n_sk ?_) | ((apply f_mv); first | (refine zw1 ?_ ?_ <;> intro hG <;> (try cases hG)) | refine zg1 (v := .c _) ?_ | refine za ?_) | ((apply f_as); first | refine zf1 (v := .c _) ?_ | refine za ?_) | ((apply f_fa); first | refine n_fa ?_ | refine zk1 ?_) | ((apply f_ld); first | refine zp1 ?_ | refine zb1 ?_ | refine zw ?_ | refine zi1 ?_ | refine n_ld ?_) | ((apply f_ca); first | refine zl2 0 (hbad0) ?_) | ((apply f_bi); first | refine zd1 ?_ | refine zc1 ?_ | refine ze1 ?_ | refine za ?_) | ((apply f_st); first | refine n_st ?_ | refine zt1 ?_) | ((apply zz1); first | refine zd2 ?_ | refine za ?_) | ((apply zy2); first | refine zy1 ?_ | refine za ?_) | ((apply za2); first | refine zq ?_ | refine za ?_) | ((apply zs3); first | refine zo1 ?_ | refine za ?_) | ((apply zs1); first | refine zo ?_ | refine zr1 ?_ | refine za ?_) | ((apply f_no); first | refine zj2 ?_ | refine za ?_) | ((apply f_pk); first | refine zu1 (v := .c _) ?_ | refine za ?_) | ((apply f_cv); first | refine zp4 ?_ | refine zj5 ?_ | refine zk5 ?_ | refine za ?_) | refine n_al ?_ | refine n_bs ?_ | refine zx3 ?_ | refine zg5 ?_ | refine zh5 ?_ | refine zi5 ?_ | refine za ?_ | refine n_mv ?_) | ((apply f_w); first | refine zy ?_ | refine zc ?_) | ((apply d_wo); first | ((apply d_gs); first | refine o_sk ?_ | refine za4 ?_) | ((apply d_bo); (refine o_gm ?_ ?_ <;> intro hG <;> (try cases hG))) | ((apply d_mv); refine zr ?_) | ((apply d_as); refine zr ?_) | ((apply d_fa); first | refine o_fa ?_ | refine zb4 ?_) | ((apply d_ld); first | refine zc4 ?_ | refine zz2 ?_ | refine za3 ?_ | refine zd4 ?_ | refine zr ?_ | refine o_ld ?_) | ((apply d_ca); first | refine zv4 0 (hbad0) ?_) | ((apply d_bi); first | refine zn3 ?_ | refine zm3 ?_ | refine zo3 ?_ | refine zw2 ?_ | refine zw2 (hnu := zl _) ?_ | refine zx1 ?_ | refine zx1 (hnu := zl _) ?_ | refine zr ?_) | ((apply d_st); first | refine o_st ?_ | refine zq4 ?_) | ((apply d_bb); first | refine zl1 ?_ | refine zm1 ?_ | refine zn1 ?_ | refine zw3 ?_ | refine zr ?_) | ((apply d_cv); first | refine zc3 ?_ | refine zn4 ?_ | refine ze5 ?_ | refine zf5 ?_ | refine zr ?_) | refine o_al ?_ | refine o_bs ?_ | refine zo4 ?_ | refine zb5 ?_ | refine zc5 ?_ | refine zd5 ?_ | refine zr ?_ | refine o_mv ?_) | ((apply d_w); first | refine zy ?_ | refine zc ?_) | refine zb fun C => ?_ | refine zp (by kernel_rfl) (by kernel_rfl) fun C => ?_ | refine zn ?_ | refine ze ?_ | refine zh ?_ | refine zi ?_ | refine zx rfl ?_ | refine zv rfl ?_)
    refine zu ?_; refine ret1 rfl (zl3 (zu2 rfl (zu2 rfl (zk3 rfl rfl rfl (by first | exact zg _ | exact zf _ | exact bytC_clo _ | (simp [cloL, clo, zg, zf, zk, zj, zd]; done) | (simp [cloL, clo, opC, opL, zg, zf, zk, zj, zd]; done)) zs2)))) rfl (by first | rfl | (simp [cloL, clo, zg, zf, zk, zj, zd]; done)) rfl ⟨?_, ?_⟩ <;> rfl
  | false =>
  by_cases hlt : a < s.size
  · have hgr := hgr rfl hlt
    have hgg := hgg rfl hlt
    obtain ⟨u, hu⟩ : ∃ u : UInt8, bAt s a = u.toNat := ⟨UInt8.ofNat (bAt s a), by rw [UInt8.toNat_ofNat']; have := zn7 s a; omega⟩
    obtain ⟨c, hc⟩ : ∃ c, u.toNat = c := ⟨_, rfl⟩
    have hcl : c < 256 := hc ▸ u.toNat_lt
    rw [atomS_eq hlt (hu.trans hc)]
    have hlb := zt12 hcl
    have hbad1 := zp10 (s := s) (p := ⟨a + 1, d, false⟩)
    have hq1 : (PS.mk a d false).go 1 = ⟨a + 1, d, false⟩ := rfl
    rw [hq1] at hgr hgg
    refine zm2 Try.func109 rfl rfl ?_
    unfold rdrS at hgr hbad1 ⊢
    dsimp only [PS.bad] at hgr hbad1 ⊢
    have hbu : bAt s a = c := hu.trans hc
    repeat' (first | ((apply f_wo); first | ((apply f_gs); first | refine n_sk ?_) | ((apply f_mv); first | (refine zw1 ?_ ?_ <;> intro hG <;> (try cases hG)) | refine zg1 (v := .c _) ?_ | refine za ?_) | ((apply f_as); first | refine zf1 (v := .c _) ?_ | refine za ?_) | ((apply f_fa); first | refine n_fa ?_ | refine zk1 ?_) | ((apply f_ld); first | refine zp1 ?_ | refine zb1 ?_ | refine zw ?_ | refine zi1 ?_ | refine n_ld ?_) | ((apply f_bi); first | refine zd1 ?_ | refine zc1 ?_ | refine ze1 ?_ | refine za ?_) | ((apply f_st); first | refine n_st ?_ | refine zt1 ?_) | ((apply zz1); first | refine zd2 ?_ | refine za ?_) | ((apply zy2); first | refine zy1 ?_ | refine za ?_) | ((apply za2); first | refine zq ?_ | refine za ?_) | ((apply zs3); first | refine zo1 ?_ | refine za ?_) | ((apply zs1); first | refine zo ?_ | refine zr1 ?_ | refine za ?_) | ((apply f_no); first | refine zj2 ?_ | refine za ?_) | ((apply f_pk); first | refine zu1 (v := .c _) ?_ | refine za ?_) | ((apply f_cv); first | refine zp4 ?_ | refine zj5 ?_ | refine zk5 ?_ | refine za ?_) | refine n_al ?_ | refine n_bs ?_ | refine zx3 ?_ | refine zg5 ?_ | refine zh5 ?_ | refine zi5 ?_ | refine za ?_ | refine n_mv ?_) | ((apply f_w); first | refine zy ?_ | refine zc ?_) | ((apply d_wo); first | ((apply d_gs); first | refine o_sk ?_ | refine za4 ?_) | ((apply d_bo); (refine o_gm ?_ ?_ <;> intro hG <;> (try cases hG))) | ((apply d_mv); refine zr ?_) | ((apply d_as); refine zr ?_) | ((apply d_fa); first | refine o_fa ?_ | refine zb4 ?_) | ((apply d_ld); first | refine zc4 ?_ | refine zz2 ?_ | refine za3 ?_ | refine zd4 ?_ | refine zr ?_ | refine o_ld ?_) | ((apply d_bi); first | refine zn3 ?_ | refine zm3 ?_ | refine zo3 ?_ | refine zw2 ?_ | refine zw2 (hnu := zl _) ?_ | refine zx1 ?_ | refine zx1 (hnu := zl _) ?_ | refine zr ?_) | ((apply d_st); first | refine o_st ?_ | refine zq4 ?_) | ((apply d_bb); first | refine zl1 ?_ | refine zm1 ?_ | refine zn1 ?_ | refine zw3 ?_ | refine zr ?_) | ((apply d_cv); first | refine zc3 ?_ | refine zn4 ?_ | refine ze5 ?_ | refine zf5 ?_ | refine zr ?_) | refine o_al ?_ | refine o_bs ?_ | refine zo4 ?_ | refine zb5 ?_ | refine zc5 ?_ | refine zd5 ?_ | refine zr ?_ | refine o_mv ?_) | ((apply d_w); first | refine zy ?_ | refine zc ?_) | refine zb fun C => ?_ | refine zp (by kernel_rfl) (by kernel_rfl) fun C => ?_ | refine zn ?_ | refine ze ?_ | refine zh ?_ | refine zi ?_)
    refine zt (by rfl) (fun hC => by exfalso; simp only [decide_eq_true_iff] at hC; omega) fun hC => ?_
    have hu' : bAt s a = u.toNat := hu
    repeat' (first | ((apply f_wo); first | ((apply f_gs); first | refine n_sk ?_) | ((apply f_mv); first | (refine zw1 ?_ ?_ <;> intro hG <;> (try cases hG)) | refine zg1 (v := .c _) ?_ | refine za ?_) | ((apply f_as); first | refine zf1 (v := .c _) ?_ | refine za ?_) | ((apply f_fa); first | refine n_fa ?_ | refine zk1 ?_) | ((apply f_ld); first | refine zp1 ?_ | refine zb1 ?_ | refine zw ?_ | refine zi1 ?_ | refine n_ld ?_) | ((apply f_bi); first | refine zd1 ?_ | refine zc1 ?_ | refine ze1 ?_ | refine za ?_) | ((apply f_st); first | refine n_st ?_ | refine zt1 ?_) | ((apply zz1); first | refine zd2 ?_ | refine za ?_) | ((apply zy2); first | refine zy1 ?_ | refine za ?_) | ((apply za2); first | refine zq ?_ | refine za ?_) | ((apply zs3); first | refine zo1 ?_ | refine za ?_) | ((apply zs1); first | refine zo ?_ | refine zr1 ?_ | refine za ?_) | ((apply f_no); first | refine zj2 ?_ | refine za ?_) | ((apply f_pk); first | refine zu1 (v := .c _) ?_ | refine za ?_) | ((apply f_cv); first | refine zp4 ?_ | refine zj5 ?_ | refine zk5 ?_ | refine za ?_) | refine n_al ?_ | refine n_bs ?_ | refine zx3 ?_ | refine zg5 ?_ | refine zh5 ?_ | refine zi5 ?_ | refine za ?_ | refine n_mv ?_) | ((apply f_w); first | refine zy ?_ | refine zc ?_) | ((apply d_wo); first | ((apply d_gs); first | refine o_sk ?_ | refine za4 ?_) | ((apply d_bo); (refine o_gm ?_ ?_ <;> intro hG <;> (try cases hG))) | ((apply d_mv); refine zr ?_) | ((apply d_as); refine zr ?_) | ((apply d_fa); first | refine o_fa ?_ | refine zb4 ?_) | ((apply d_ld); first | refine zc4 ?_ | refine zz2 ?_ | refine za3 ?_ | refine zd4 ?_ | refine zr ?_ | refine o_ld ?_) | ((apply d_bi); first | refine zn3 ?_ | refine zm3 ?_ | refine zo3 ?_ | refine zw2 ?_ | refine zw2 (hnu := zl _) ?_ | refine zx1 ?_ | refine zx1 (hnu := zl _) ?_ | refine zr ?_) | ((apply d_st); first | refine o_st ?_ | refine zq4 ?_) | ((apply d_bb); first | refine zl1 ?_ | refine zm1 ?_ | refine zn1 ?_ | refine zw3 ?_ | refine zr ?_) | ((apply d_cv); first | refine zc3 ?_ | refine zn4 ?_ | refine ze5 ?_ | refine zf5 ?_ | refine zr ?_) | refine o_al ?_ | refine o_bs ?_ | refine zo4 ?_ | refine zb5 ?_ | refine zc5 ?_ | refine zd5 ?_ | refine zr ?_ | refine o_mv ?_) | ((apply d_w); first | refine zy ?_ | refine zc ?_) | refine zb fun C => ?_ | refine zp (by kernel_rfl) (by kernel_rfl) fun C => ?_ | refine zn ?_ | refine ze ?_ | refine zh ?_ | refine zi ?_)
    rw [hbu]
    by_cases h3 : c = 46 ∨ c = 94 ∨ c = 36
    · obtain ⟨kk, hr, hkk⟩ : ∃ kk : Int, atomSc s alt c ⟨a + 1, d, false⟩ = (rexE kk ByteArray.empty [], ⟨a + 1, d, false⟩) ∧ ((c = 46 ∧ kk = 2) ∨ (c = 94 ∧ kk = 10) ∨ (c = 36 ∧ kk = 11)) := by
        rcases h3 with h | h | h
        · exact ⟨2, by rw [h]; rfl, .inl ⟨h, rfl⟩⟩
        · exact ⟨10, by rw [h]; rfl, .inr (.inl ⟨h, rfl⟩)⟩
        · exact ⟨11, by rw [h]; rfl, .inr (.inr ⟨h, rfl⟩)⟩
      rw [hr]
      clear hr h3
      rcases hkk with ⟨h, rfl⟩ | ⟨h, rfl⟩ | ⟨h, rfl⟩
      all_goals
        rw [h]
        repeat' (first | ((apply f_wo); first | ((apply f_gs); first | refine n_sk ?_) | ((apply f_mv); first | (refine zw1 ?_ ?_ <;> intro hG <;> (try cases hG)) | refine zg1 (v := .c _) ?_ | refine za ?_) | ((apply f_as); first | refine zf1 (v := .c _) ?_ | refine za ?_) | ((apply f_fa); first | refine n_fa ?_ | refine zk1 ?_) | ((apply f_ld); first | refine zp1 ?_ | refine zb1 ?_ | refine zw ?_ | refine zi1 ?_ | refine n_ld ?_) | ((apply f_bi); first | refine zd1 ?_ | refine zc1 ?_ | refine ze1 ?_ | refine za ?_) | ((apply f_st); first | refine n_st ?_ | refine zt1 ?_) | ((apply zz1); first | refine zd2 ?_ | refine za ?_) | ((apply zy2); first | refine zy1 ?_ | refine za ?_) | ((apply za2); first | refine zq ?_ | refine za ?_) | ((apply zs3); first | refine zo1 ?_ | refine za ?_) | ((apply zs1); first | refine zo ?_ | refine zr1 ?_ | refine za ?_) | ((apply f_no); first | refine zj2 ?_ | refine za ?_) | ((apply f_pk); first | refine zu1 (v := .c _) ?_ | refine za ?_) | ((apply f_cv); first | refine zp4 ?_ | refine zj5 ?_ | refine zk5 ?_ | refine za ?_) | refine n_al ?_ | refine n_bs ?_ | refine zx3 ?_ | refine zg5 ?_ | refine zh5 ?_ | refine zi5 ?_ | refine za ?_ | refine n_mv ?_) | ((apply f_w); first | refine zy ?_ | refine zc ?_) | ((apply d_wo); first | ((apply d_gs); first | refine o_sk ?_ | refine za4 ?_) | ((apply d_bo); (refine o_gm ?_ ?_ <;> intro hG <;> (try cases hG))) | ((apply d_mv); refine zr ?_) | ((apply d_as); refine zr ?_) | ((apply d_fa); first | refine o_fa ?_ | refine zb4 ?_) | ((apply d_ld); first | refine zc4 ?_ | refine zz2 ?_ | refine za3 ?_ | refine zd4 ?_ | refine zr ?_ | refine o_ld ?_) | ((apply d_bi); first | refine zn3 ?_ | refine zm3 ?_ | refine zo3 ?_ | refine zw2 ?_ | refine zw2 (hnu := zl _) ?_ | refine zx1 ?_ | refine zx1 (hnu := zl _) ?_ | refine zr ?_) | ((apply d_st); first | refine o_st ?_ | refine zq4 ?_) | ((apply d_bb); first | refine zl1 ?_ | refine zm1 ?_ | refine zn1 ?_ | refine zw3 ?_ | refine zr ?_) | ((apply d_cv); first | refine zc3 ?_ | refine zn4 ?_ | refine ze5 ?_ | refine zf5 ?_ | refine zr ?_) | refine o_al ?_ | refine o_bs ?_ | refine zo4 ?_ | refine zb5 ?_ | refine zc5 ?_ | refine zd5 ?_ | refine zr ?_ | refine o_mv ?_) | ((apply d_w); first | refine zy ?_ | refine zc ?_) | refine zb fun C => ?_ | refine zp (by kernel_rfl) (by kernel_rfl) fun C => ?_ | refine zn ?_ | refine ze ?_ | refine zh ?_ | refine zi ?_ | refine zx rfl ?_ | refine zv rfl ?_)
        refine zm4 (ze6 900 (i := 2) 86 3 rfl rfl (pre := [_, _]) (post := []) rfl) ?_; refine zu ?_; refine ret1 rfl (zl3 (zu2 rfl (zu2 rfl (zk3 rfl rfl rfl (by first | exact zg _ | exact zf _ | exact bytC_clo _ | (simp [cloL, clo, zg, zf, zk, zj, zd]; done) | (simp [cloL, clo, opC, opL, zg, zf, zk, zj, zd]; done)) zs2)))) rfl (by first | rfl | (simp [cloL, clo, zg, zf, zk, zj, zd]; done)) rfl ⟨?_, ?_⟩ <;> rfl
    have h46 : c ≠ 46 := fun h => h3 (.inl h)
    have h94 : c ≠ 94 := fun h => h3 (.inr (.inl h))
    have h36 : c ≠ 36 := fun h => h3 (.inr (.inr h))
    by_cases h40 : c = 40
    · have hr : atomSc s alt c ⟨a + 1, d, false⟩ = groupS s alt ⟨a + 1, d, false⟩ := by rw [h40]; rfl
      rw [hr]
      rw [h40]
      obtain ⟨⟨e, q⟩, hq⟩ : ∃ r, groupS s alt ⟨a + 1, d, false⟩ = r := ⟨_, rfl⟩
      rw [hq] at hgr hgg ⊢
      have hfi : Fine e := hgg.fine
      cases hfi with
      | mk k t l hk ht hl2 =>
      dsimp only at hgr ⊢
      repeat' (first | ((apply f_wo); first | ((apply f_gs); first | refine n_sk ?_) | ((apply f_mv); first | (refine zw1 ?_ ?_ <;> intro hG <;> (try cases hG)) | refine zg1 (v := .c _) ?_ | refine za ?_) | ((apply f_as); first | refine zf1 (v := .c _) ?_ | refine za ?_) | ((apply f_fa); first | refine n_fa ?_ | refine zk1 ?_) | ((apply f_ld); first | refine zp1 ?_ | refine zb1 ?_ | refine zw ?_ | refine zi1 ?_ | refine n_ld ?_) | ((apply f_ca); first | refine zl2 0 (hgr) ?_) | ((apply f_bi); first | refine zd1 ?_ | refine zc1 ?_ | refine ze1 ?_ | refine za ?_) | ((apply f_st); first | refine n_st ?_ | refine zt1 ?_) | ((apply zz1); first | refine zd2 ?_ | refine za ?_) | ((apply zy2); first | refine zy1 ?_ | refine za ?_) | ((apply za2); first | refine zq ?_ | refine za ?_) | ((apply zs3); first | refine zo1 ?_ | refine za ?_) | ((apply zs1); first | refine zo ?_ | refine zr1 ?_ | refine za ?_) | ((apply f_no); first | refine zj2 ?_ | refine za ?_) | ((apply f_pk); first | refine zu1 (v := .c _) ?_ | refine za ?_) | ((apply f_cv); first | refine zp4 ?_ | refine zj5 ?_ | refine zk5 ?_ | refine za ?_) | refine n_al ?_ | refine n_bs ?_ | refine zx3 ?_ | refine zg5 ?_ | refine zh5 ?_ | refine zi5 ?_ | refine za ?_ | refine n_mv ?_) | ((apply f_w); first | refine zy ?_ | refine zc ?_) | ((apply d_wo); first | ((apply d_gs); first | refine o_sk ?_ | refine za4 ?_) | ((apply d_bo); (refine o_gm ?_ ?_ <;> intro hG <;> (try cases hG))) | ((apply d_mv); refine zr ?_) | ((apply d_as); refine zr ?_) | ((apply d_fa); first | refine o_fa ?_ | refine zb4 ?_) | ((apply d_ld); first | refine zc4 ?_ | refine zz2 ?_ | refine za3 ?_ | refine zd4 ?_ | refine zr ?_ | refine o_ld ?_) | ((apply d_ca); first | refine zv4 0 (hgr) ?_) | ((apply d_bi); first | refine zn3 ?_ | refine zm3 ?_ | refine zo3 ?_ | refine zw2 ?_ | refine zw2 (hnu := zl _) ?_ | refine zx1 ?_ | refine zx1 (hnu := zl _) ?_ | refine zr ?_) | ((apply d_st); first | refine o_st ?_ | refine zq4 ?_) | ((apply d_bb); first | refine zl1 ?_ | refine zm1 ?_ | refine zn1 ?_ | refine zw3 ?_ | refine zr ?_) | ((apply d_cv); first | refine zc3 ?_ | refine zn4 ?_ | refine ze5 ?_ | refine zf5 ?_ | refine zr ?_) | refine o_al ?_ | refine o_bs ?_ | refine zo4 ?_ | refine zb5 ?_ | refine zc5 ?_ | refine zd5 ?_ | refine zr ?_ | refine o_mv ?_) | ((apply d_w); first | refine zy ?_ | refine zc ?_) | refine zb fun C => ?_ | refine zp (by kernel_rfl) (by kernel_rfl) fun C => ?_ | refine zn ?_ | refine ze ?_ | refine zh ?_ | refine zi ?_ | refine zx rfl ?_ | refine zv rfl ?_)
      refine zu ?_; refine ret1 rfl (zl3 (zu2 rfl (zu2 rfl (zk3 rfl rfl rfl (by first | exact zg _ | exact zf _ | exact bytC_clo _ | (simp [cloL, clo, zg, zf, zk, zj, zd]; done) | (simp [cloL, clo, opC, opL, zg, zf, zk, zj, zd]; done)) zs2)))) rfl (by first | rfl | (simp [cloL, clo, zg, zf, zk, zj, zd]; done)) rfl ⟨?_, ?_⟩ <;> rfl
    iterate 3
      refine zt (by rfl) (fun hC => absurd (eq_of_beq hC) (by omega)) fun hC => ?_
      repeat' (first | ((apply f_wo); first | ((apply f_gs); first | refine n_sk ?_) | ((apply f_mv); first | (refine zw1 ?_ ?_ <;> intro hG <;> (try cases hG)) | refine zg1 (v := .c _) ?_ | refine za ?_) | ((apply f_as); first | refine zf1 (v := .c _) ?_ | refine za ?_) | ((apply f_fa); first | refine n_fa ?_ | refine zk1 ?_) | ((apply f_ld); first | refine zp1 ?_ | refine zb1 ?_ | refine zw ?_ | refine zi1 ?_ | refine n_ld ?_) | ((apply f_bi); first | refine zd1 ?_ | refine zc1 ?_ | refine ze1 ?_ | refine za ?_) | ((apply f_st); first | refine n_st ?_ | refine zt1 ?_) | ((apply zz1); first | refine zd2 ?_ | refine za ?_) | ((apply zy2); first | refine zy1 ?_ | refine za ?_) | ((apply za2); first | refine zq ?_ | refine za ?_) | ((apply zs3); first | refine zo1 ?_ | refine za ?_) | ((apply zs1); first | refine zo ?_ | refine zr1 ?_ | refine za ?_) | ((apply f_no); first | refine zj2 ?_ | refine za ?_) | ((apply f_pk); first | refine zu1 (v := .c _) ?_ | refine za ?_) | ((apply f_cv); first | refine zp4 ?_ | refine zj5 ?_ | refine zk5 ?_ | refine za ?_) | refine n_al ?_ | refine n_bs ?_ | refine zx3 ?_ | refine zg5 ?_ | refine zh5 ?_ | refine zi5 ?_ | refine za ?_ | refine n_mv ?_) | ((apply f_w); first | refine zy ?_ | refine zc ?_) | ((apply d_wo); first | ((apply d_gs); first | refine o_sk ?_ | refine za4 ?_) | ((apply d_bo); (refine o_gm ?_ ?_ <;> intro hG <;> (try cases hG))) | ((apply d_mv); refine zr ?_) | ((apply d_as); refine zr ?_) | ((apply d_fa); first | refine o_fa ?_ | refine zb4 ?_) | ((apply d_ld); first | refine zc4 ?_ | refine zz2 ?_ | refine za3 ?_ | refine zd4 ?_ | refine zr ?_ | refine o_ld ?_) | ((apply d_bi); first | refine zn3 ?_ | refine zm3 ?_ | refine zo3 ?_ | refine zw2 ?_ | refine zw2 (hnu := zl _) ?_ | refine zx1 ?_ | refine zx1 (hnu := zl _) ?_ | refine zr ?_) | ((apply d_st); first | refine o_st ?_ | refine zq4 ?_) | ((apply d_bb); first | refine zl1 ?_ | refine zm1 ?_ | refine zn1 ?_ | refine zw3 ?_ | refine zr ?_) | ((apply d_cv); first | refine zc3 ?_ | refine zn4 ?_ | refine ze5 ?_ | refine zf5 ?_ | refine zr ?_) | refine o_al ?_ | refine o_bs ?_ | refine zo4 ?_ | refine zb5 ?_ | refine zc5 ?_ | refine zd5 ?_ | refine zr ?_ | refine o_mv ?_) | ((apply d_w); first | refine zy ?_ | refine zc ?_) | refine zb fun C => ?_ | refine zp (by kernel_rfl) (by kernel_rfl) fun C => ?_ | refine zn ?_ | refine ze ?_ | refine zh ?_ | refine zi ?_)
    refine zt (by rfl) (fun hC => absurd (eq_of_beq hC) (by omega)) fun hC => ?_
    cases hl : litB c with
    | true =>
      have hr : atomSc s alt c ⟨a + 1, d, false⟩ = (rexE 1 (oneB c) [], ⟨a + 1, d, false⟩) := zi8 hl
      rw [hr]
      rw [hl] at hlb
      subst hc
      repeat' (first | ((apply f_wo); first | ((apply f_gs); first | refine n_sk ?_) | ((apply f_mv); first | (refine zw1 ?_ ?_ <;> intro hG <;> (try cases hG)) | refine zg1 (v := .c _) ?_ | refine za ?_) | ((apply f_as); first | refine zf1 (v := .c _) ?_ | refine za ?_) | ((apply f_fa); first | refine n_fa ?_ | refine zk1 ?_) | ((apply f_ld); first | refine zp1 ?_ | refine zb1 ?_ | refine zw ?_ | refine zi1 ?_ | refine n_ld ?_) | ((apply f_ca); first | refine zr2 (hlb) ?_ | refine zp2 (hlb) ?_) | ((apply f_bi); first | refine zd1 ?_ | refine zc1 ?_ | refine ze1 ?_ | refine za ?_) | ((apply f_st); first | refine n_st ?_ | refine zt1 ?_) | ((apply zz1); first | refine zd2 ?_ | refine za ?_) | ((apply zy2); first | refine zy1 ?_ | refine za ?_) | ((apply za2); first | refine zq ?_ | refine za ?_) | ((apply zs3); first | refine zo1 ?_ | refine za ?_) | ((apply zs1); first | refine zo ?_ | refine zr1 ?_ | refine za ?_) | ((apply f_no); first | refine zj2 ?_ | refine za ?_) | ((apply f_pk); first | refine zu1 (v := .c _) ?_ | refine za ?_) | ((apply f_cv); first | refine zp4 ?_ | refine zj5 ?_ | refine zk5 ?_ | refine za ?_) | refine n_al ?_ | refine n_bs ?_ | refine zx3 ?_ | refine zg5 ?_ | refine zh5 ?_ | refine zi5 ?_ | refine za ?_ | refine n_mv ?_) | ((apply f_w); first | refine zy ?_ | refine zc ?_) | ((apply d_wo); first | ((apply d_gs); first | refine o_sk ?_ | refine za4 ?_) | ((apply d_bo); (refine o_gm ?_ ?_ <;> intro hG <;> (try cases hG))) | ((apply d_mv); refine zr ?_) | ((apply d_as); refine zr ?_) | ((apply d_fa); first | refine o_fa ?_ | refine zb4 ?_) | ((apply d_ld); first | refine zc4 ?_ | refine zz2 ?_ | refine za3 ?_ | refine zd4 ?_ | refine zr ?_ | refine o_ld ?_) | ((apply d_ca); first | refine zn5 (hlb) ?_) | ((apply d_bi); first | refine zn3 ?_ | refine zm3 ?_ | refine zo3 ?_ | refine zw2 ?_ | refine zw2 (hnu := zl _) ?_ | refine zx1 ?_ | refine zx1 (hnu := zl _) ?_ | refine zr ?_) | ((apply d_st); first | refine o_st ?_ | refine zq4 ?_) | ((apply d_bb); first | refine zl1 ?_ | refine zm1 ?_ | refine zn1 ?_ | refine zw3 ?_ | refine zr ?_) | ((apply d_cv); first | refine zc3 ?_ | refine zn4 ?_ | refine ze5 ?_ | refine zf5 ?_ | refine zr ?_) | refine o_al ?_ | refine o_bs ?_ | refine zo4 ?_ | refine zb5 ?_ | refine zc5 ?_ | refine zd5 ?_ | refine zr ?_ | refine o_mv ?_) | ((apply d_w); first | refine zy ?_ | refine zc ?_) | refine zb fun C => ?_ | refine zp (by kernel_rfl) (by kernel_rfl) fun C => ?_ | refine zn ?_ | refine ze ?_ | refine zh ?_ | refine zi ?_ | refine zx rfl ?_ | refine zv rfl ?_)
      refine zm4 (ze6 900 (i := 2) 86 3 rfl rfl (pre := [_, _]) (post := []) rfl) ?_; refine zu ?_; refine ret1 rfl (zl3 (zu2 rfl (zu2 rfl (zk3 rfl rfl rfl (by first | exact zg _ | exact zf _ | exact bytC_clo _ | (simp [cloL, clo, zg, zf, zk, zj, zd]; done) | (simp [cloL, clo, opC, opL, zg, zf, zk, zj, zd]; done)) zs2)))) rfl (by first | rfl | (simp [cloL, clo, zg, zf, zk, zj, zd]; done)) rfl ⟨?_, ?_⟩ <;> rfl
    | false =>
      rw [hl] at hlb
      by_cases h91 : c = 91
      · subst h91
        obtain ⟨g1, g2, g3, g4⟩ := zy7 (s := s) (c := 93) s.size (a + 1) (by omega) (by omega)
        have hr : atomSc s alt 91 ⟨a + 1, d, false⟩ = if isB s 93 ⟨untB s 93 s.size (a + 1), d, false⟩ then (rexE 3 (cutB s (a + 1) (untB s 93 s.size (a + 1))) [], ⟨untB s 93 s.size (a + 1) + 1, d, false⟩) else (zeroR, ⟨untB s 93 s.size (a + 1), d, true⟩) := rfl
        rw [hr]
        clear hr
        generalize untB s 93 s.size (a + 1) = w at *
        have hisb := zo10 hs (c := 93) (by omega) (p := ⟨w, d, false⟩)
        have hbadw := zp10 (s := s) (p := ⟨w, d, false⟩)
        have ea : (a : Int) + 1 = ((a + 1 : Nat) : Int) := by omega
        repeat' (first | ((apply f_wo); first | ((apply f_gs); first | refine n_sk ?_) | ((apply f_mv); first | (refine zw1 ?_ ?_ <;> intro hG <;> (try cases hG)) | refine zg1 (v := .c _) ?_ | refine za ?_) | ((apply f_as); first | refine zf1 (v := .c _) ?_ | refine za ?_) | ((apply f_fa); first | refine n_fa ?_ | refine zk1 ?_) | ((apply f_ld); first | refine zp1 ?_ | refine zb1 ?_ | refine zw ?_ | refine zi1 ?_ | refine n_ld ?_) | ((apply f_ca); first | refine zr2 (hlb) ?_ | refine zp2 (hlb) ?_) | ((apply f_bi); first | refine zd1 ?_ | refine zc1 ?_ | refine ze1 ?_ | refine za ?_) | ((apply f_st); first | refine n_st ?_ | refine zt1 ?_) | ((apply zz1); first | refine zd2 ?_ | refine za ?_) | ((apply zy2); first | refine zy1 ?_ | refine za ?_) | ((apply za2); first | refine zq ?_ | refine za ?_) | ((apply zs3); first | refine zo1 ?_ | refine za ?_) | ((apply zs1); first | refine zo ?_ | refine zr1 ?_ | refine za ?_) | ((apply f_no); first | refine zj2 ?_ | refine za ?_) | ((apply f_pk); first | refine zu1 (v := .c _) ?_ | refine za ?_) | ((apply f_cv); first | refine zp4 ?_ | refine zj5 ?_ | refine zk5 ?_ | refine za ?_) | refine n_al ?_ | refine n_bs ?_ | refine zx3 ?_ | refine zg5 ?_ | refine zh5 ?_ | refine zi5 ?_ | refine za ?_ | refine n_mv ?_) | ((apply f_w); first | refine zy ?_ | refine zc ?_) | ((apply d_wo); first | ((apply d_gs); first | refine o_sk ?_ | refine za4 ?_) | ((apply d_bo); (refine o_gm ?_ ?_ <;> intro hG <;> (try cases hG))) | ((apply d_mv); refine zr ?_) | ((apply d_as); refine zr ?_) | ((apply d_fa); first | refine o_fa ?_ | refine zb4 ?_) | ((apply d_ld); first | refine zc4 ?_ | refine zz2 ?_ | refine za3 ?_ | refine zd4 ?_ | refine zr ?_ | refine o_ld ?_) | ((apply d_ca); first | refine zn5 (hlb) ?_) | ((apply d_bi); first | refine zn3 ?_ | refine zm3 ?_ | refine zo3 ?_ | refine zw2 ?_ | refine zw2 (hnu := zl _) ?_ | refine zx1 ?_ | refine zx1 (hnu := zl _) ?_ | refine zr ?_) | ((apply d_st); first | refine o_st ?_ | refine zq4 ?_) | ((apply d_bb); first | refine zl1 ?_ | refine zm1 ?_ | refine zn1 ?_ | refine zw3 ?_ | refine zr ?_) | ((apply d_cv); first | refine zc3 ?_ | refine zn4 ?_ | refine ze5 ?_ | refine zf5 ?_ | refine zr ?_) | refine o_al ?_ | refine o_bs ?_ | refine zo4 ?_ | refine zb5 ?_ | refine zc5 ?_ | refine zd5 ?_ | refine zr ?_ | refine o_mv ?_) | ((apply d_w); first | refine zy ?_ | refine zc ?_) | refine zb fun C => ?_ | refine zp (by kernel_rfl) (by kernel_rfl) fun C => ?_ | refine zn ?_ | refine ze ?_ | refine zh ?_ | refine zi ?_ | refine zx rfl ?_ | refine zv rfl ?_)
        refine zp3 (fun j : Nat => ⟨tmsF [(0, .c (.pt 0 0)), (2, .c (.pt 2 0)), (4, .c (.v (.int .i64 ((a + 1 : Nat) : Int))))], hpsF [(0, 0, ⟨0, 0, 0, true, [.v (.string s), .v (.int .i64 (j : Int)), .v (.bool false), .v (.int .i64 (d : Int))]⟩), (2, 2, ⟨86, 0, 0, true, [.v (.int .i64 0), .v (.string ByteArray.empty), .v (.slice none 0 0)]⟩)], 1, [0, 2], 119⟩)
          (fun N j => j + N = w ∧ a + 1 ≤ j) (w - (a + 1)) (a + 1) ⟨by omega, by omega⟩ ?_ ?_
        · (refine zo2 _ _ rfl rfl ?_ ?_ <;> (repeat' (first | exact TmOk.nil | exact RwOk.nil | refine TmOk.cons ?_ ?_ | refine RwOk.cons ?_ ?_ | rfl | (refine rnV_id' rfl ?_; (first | rfl | (simp [cloV, cloL, clo, zj, zf, zk, zg, zd]; done))) | (refine zd3 ?_; first | rfl | omega | (rw [zb2 (by omega) (by omega)]; omega)) | (refine zi2 rfl ?_; (first | rfl | (simp [cloV, cloL, clo, zj, zf, zk, zg, zd]; done))) | exact zj4 rfl rfl | (refine ze3 (by rfl) (by rfl) ?_ ?_ <;> (first | rfl | (simp [cloV, cloL, clo, zj, zf, zk, zg, zd]; done))) | (refine rw_rn' rfl rfl ?_; simp; done))))
        rintro N j ⟨hN, hj⟩
        by_cases hjw : j < w
        · have hlt2 : j < s.size := by omega
          have hne := g3 j hj hjw
          repeat' (first | ((apply f_wo); first | ((apply f_gs); first | refine n_sk ?_) | ((apply f_mv); first | (refine zw1 ?_ ?_ <;> intro hG <;> (try cases hG)) | refine zg1 (v := .c _) ?_ | refine za ?_) | ((apply f_as); first | refine zf1 (v := .c _) ?_ | refine za ?_) | ((apply f_fa); first | refine n_fa ?_ | refine zk1 ?_) | ((apply f_ld); first | refine zp1 ?_ | refine zb1 ?_ | refine zw ?_ | refine zi1 ?_ | refine n_ld ?_) | ((apply f_bi); first | refine zd1 ?_ | refine zc1 ?_ | refine ze1 ?_ | refine za ?_) | ((apply f_st); first | refine n_st ?_ | refine zt1 ?_) | ((apply zz1); first | refine zd2 ?_ | refine za ?_) | ((apply zy2); first | refine zy1 ?_ | refine za ?_) | ((apply za2); first | refine zq ?_ | refine za ?_) | ((apply zs3); first | refine zo1 ?_ | refine za ?_) | ((apply zs1); first | refine zo ?_ | refine zr1 ?_ | refine za ?_) | ((apply f_no); first | refine zj2 ?_ | refine za ?_) | ((apply f_pk); first | refine zu1 (v := .c _) ?_ | refine za ?_) | ((apply f_cv); first | refine zp4 ?_ | refine zj5 ?_ | refine zk5 ?_ | refine za ?_) | refine n_al ?_ | refine n_bs ?_ | refine zx3 ?_ | refine zg5 ?_ | refine zh5 ?_ | refine zi5 ?_ | refine za ?_ | refine n_mv ?_) | ((apply f_w); first | refine zy ?_ | refine zc ?_) | ((apply d_wo); first | ((apply d_gs); first | refine o_sk ?_ | refine za4 ?_) | ((apply d_bo); (refine o_gm ?_ ?_ <;> intro hG <;> (try cases hG))) | ((apply d_mv); refine zr ?_) | ((apply d_as); refine zr ?_) | ((apply d_fa); first | refine o_fa ?_ | refine zb4 ?_) | ((apply d_ld); first | refine zc4 ?_ | refine zz2 ?_ | refine za3 ?_ | refine zd4 ?_ | refine zr ?_ | refine o_ld ?_) | ((apply d_bi); first | refine zn3 ?_ | refine zm3 ?_ | refine zo3 ?_ | refine zw2 ?_ | refine zw2 (hnu := zl _) ?_ | refine zx1 ?_ | refine zx1 (hnu := zl _) ?_ | refine zr ?_) | ((apply d_st); first | refine o_st ?_ | refine zq4 ?_) | ((apply d_bb); first | refine zl1 ?_ | refine zm1 ?_ | refine zn1 ?_ | refine zw3 ?_ | refine zr ?_) | ((apply d_cv); first | refine zc3 ?_ | refine zn4 ?_ | refine ze5 ?_ | refine zf5 ?_ | refine zr ?_) | refine o_al ?_ | refine o_bs ?_ | refine zo4 ?_ | refine zb5 ?_ | refine zc5 ?_ | refine zd5 ?_ | refine zr ?_ | refine o_mv ?_) | ((apply d_w); first | refine zy ?_ | refine zc ?_) | refine zb fun C => ?_ | refine zp (by kernel_rfl) (by kernel_rfl) fun C => ?_ | refine zn ?_ | refine ze ?_ | refine zh ?_ | refine zi ?_)
          · refine zt (by rfl) (fun hC => ?_) fun hC => absurd (bne_eq_false_iff_eq.1 hC) (by omega)
            repeat' (first | ((apply f_wo); first | ((apply f_gs); first | refine n_sk ?_) | ((apply f_mv); first | (refine zw1 ?_ ?_ <;> intro hG <;> (try cases hG)) | refine zg1 (v := .c _) ?_ | refine za ?_) | ((apply f_as); first | refine zf1 (v := .c _) ?_ | refine za ?_) | ((apply f_fa); first | refine n_fa ?_ | refine zk1 ?_) | ((apply f_ld); first | refine zp1 ?_ | refine zb1 ?_ | refine zw ?_ | refine zi1 ?_ | refine n_ld ?_) | ((apply f_bi); first | refine zd1 ?_ | refine zc1 ?_ | refine ze1 ?_ | refine za ?_) | ((apply f_st); first | refine n_st ?_ | refine zt1 ?_) | ((apply zz1); first | refine zd2 ?_ | refine za ?_) | ((apply zy2); first | refine zy1 ?_ | refine za ?_) | ((apply za2); first | refine zq ?_ | refine za ?_) | ((apply zs3); first | refine zo1 ?_ | refine za ?_) | ((apply zs1); first | refine zo ?_ | refine zr1 ?_ | refine za ?_) | ((apply f_no); first | refine zj2 ?_ | refine za ?_) | ((apply f_pk); first | refine zu1 (v := .c _) ?_ | refine za ?_) | ((apply f_cv); first | refine zp4 ?_ | refine zj5 ?_ | refine zk5 ?_ | refine za ?_) | refine n_al ?_ | refine n_bs ?_ | refine zx3 ?_ | refine zg5 ?_ | refine zh5 ?_ | refine zi5 ?_ | refine za ?_ | refine n_mv ?_) | ((apply f_w); first | refine zy ?_ | refine zc ?_) | ((apply d_wo); first | ((apply d_gs); first | refine o_sk ?_ | refine za4 ?_) | ((apply d_bo); (refine o_gm ?_ ?_ <;> intro hG <;> (try cases hG))) | ((apply d_mv); refine zr ?_) | ((apply d_as); refine zr ?_) | ((apply d_fa); first | refine o_fa ?_ | refine zb4 ?_) | ((apply d_ld); first | refine zc4 ?_ | refine zz2 ?_ | refine za3 ?_ | refine zd4 ?_ | refine zr ?_ | refine o_ld ?_) | ((apply d_bi); first | refine zn3 ?_ | refine zm3 ?_ | refine zo3 ?_ | refine zw2 ?_ | refine zw2 (hnu := zl _) ?_ | refine zx1 ?_ | refine zx1 (hnu := zl _) ?_ | refine zr ?_) | ((apply d_st); first | refine o_st ?_ | refine zq4 ?_) | ((apply d_bb); first | refine zl1 ?_ | refine zm1 ?_ | refine zn1 ?_ | refine zw3 ?_ | refine zr ?_) | ((apply d_cv); first | refine zc3 ?_ | refine zn4 ?_ | refine ze5 ?_ | refine zf5 ?_ | refine zr ?_) | refine o_al ?_ | refine o_bs ?_ | refine zo4 ?_ | refine zb5 ?_ | refine zc5 ?_ | refine zd5 ?_ | refine zr ?_ | refine o_mv ?_) | ((apply d_w); first | refine zy ?_ | refine zc ?_) | refine zb fun C => ?_ | refine zp (by kernel_rfl) (by kernel_rfl) fun C => ?_ | refine zn ?_ | refine ze ?_ | refine zh ?_ | refine zi ?_ | refine zx rfl ?_ | refine zv rfl ?_)
            refine ⟨N - 1, j + 1, by omega, ⟨by omega, by omega⟩, ?_⟩
            (refine zo2 _ _ rfl rfl ?_ ?_ <;> (repeat' (first | exact TmOk.nil | exact RwOk.nil | refine TmOk.cons ?_ ?_ | refine RwOk.cons ?_ ?_ | rfl | (refine rnV_id' rfl ?_; (first | rfl | (simp [cloV, cloL, clo, zj, zf, zk, zg, zd]; done))) | (refine zd3 ?_; first | rfl | omega | (rw [zb2 (by omega) (by omega)]; omega)) | (refine zi2 rfl ?_; (first | rfl | (simp [cloV, cloL, clo, zj, zf, zk, zg, zd]; done))) | exact zj4 rfl rfl | (refine ze3 (by rfl) (by rfl) ?_ ?_ <;> (first | rfl | (simp [cloV, cloL, clo, zj, zf, zk, zg, zd]; done))) | (refine rw_rn' rfl rfl ?_; simp; done))))
          · exfalso; simp only [decide_eq_false_iff_not] at hG; omega
        · obtain rfl : j = w := by omega
          by_cases hws : j < s.size
          · have hb93 := g4 hws
            have hi : isB s 93 ⟨j, d, false⟩ = true := by unfold isB; rw [decide_eq_true hws, hb93]; rfl
            rw [zj7 hi, hi] at hisb
            rw [if_pos hi]
            unfold rdrS at hisb
            dsimp only [PS.go] at hisb ⊢
            repeat' (first | ((apply f_wo); first | ((apply f_gs); first | refine n_sk ?_) | ((apply f_mv); first | (refine zw1 ?_ ?_ <;> intro hG <;> (try cases hG)) | refine zg1 (v := .c _) ?_ | refine za ?_) | ((apply f_as); first | refine zf1 (v := .c _) ?_ | refine za ?_) | ((apply f_fa); first | refine n_fa ?_ | refine zk1 ?_) | ((apply f_ld); first | refine zp1 ?_ | refine zb1 ?_ | refine zw ?_ | refine zi1 ?_ | refine n_ld ?_) | ((apply f_bi); first | refine zd1 ?_ | refine zc1 ?_ | refine ze1 ?_ | refine za ?_) | ((apply f_st); first | refine n_st ?_ | refine zt1 ?_) | ((apply zz1); first | refine zd2 ?_ | refine za ?_) | ((apply zy2); first | refine zy1 ?_ | refine za ?_) | ((apply za2); first | refine zq ?_ | refine za ?_) | ((apply zs3); first | refine zo1 ?_ | refine za ?_) | ((apply zs1); first | refine zo ?_ | refine zr1 ?_ | refine za ?_) | ((apply f_no); first | refine zj2 ?_ | refine za ?_) | ((apply f_pk); first | refine zu1 (v := .c _) ?_ | refine za ?_) | ((apply f_cv); first | refine zp4 ?_ | refine zj5 ?_ | refine zk5 ?_ | refine za ?_) | refine n_al ?_ | refine n_bs ?_ | refine zx3 ?_ | refine zg5 ?_ | refine zh5 ?_ | refine zi5 ?_ | refine za ?_ | refine n_mv ?_) | ((apply f_w); first | refine zy ?_ | refine zc ?_) | ((apply d_wo); first | ((apply d_gs); first | refine o_sk ?_ | refine za4 ?_) | ((apply d_bo); (refine o_gm ?_ ?_ <;> intro hG <;> (try cases hG))) | ((apply d_mv); refine zr ?_) | ((apply d_as); refine zr ?_) | ((apply d_fa); first | refine o_fa ?_ | refine zb4 ?_) | ((apply d_ld); first | refine zc4 ?_ | refine zz2 ?_ | refine za3 ?_ | refine zd4 ?_ | refine zr ?_ | refine o_ld ?_) | ((apply d_bi); first | refine zn3 ?_ | refine zm3 ?_ | refine zo3 ?_ | refine zw2 ?_ | refine zw2 (hnu := zl _) ?_ | refine zx1 ?_ | refine zx1 (hnu := zl _) ?_ | refine zr ?_) | ((apply d_st); first | refine o_st ?_ | refine zq4 ?_) | ((apply d_bb); first | refine zl1 ?_ | refine zm1 ?_ | refine zn1 ?_ | refine zw3 ?_ | refine zr ?_) | ((apply d_cv); first | refine zc3 ?_ | refine zn4 ?_ | refine ze5 ?_ | refine zf5 ?_ | refine zr ?_) | refine o_al ?_ | refine o_bs ?_ | refine zo4 ?_ | refine zb5 ?_ | refine zc5 ?_ | refine zd5 ?_ | refine zr ?_ | refine o_mv ?_) | ((apply d_w); first | refine zy ?_ | refine zc ?_) | refine zb fun C => ?_ | refine zp (by kernel_rfl) (by kernel_rfl) fun C => ?_ | refine zn ?_ | refine ze ?_ | refine zh ?_ | refine zi ?_)
            · rw [hb93]
              repeat' (first | ((apply f_wo); first | ((apply f_gs); first | refine n_sk ?_) | ((apply f_mv); first | (refine zw1 ?_ ?_ <;> intro hG <;> (try cases hG)) | refine zg1 (v := .c _) ?_ | refine za ?_) | ((apply f_as); first | refine zf1 (v := .c _) ?_ | refine za ?_) | ((apply f_fa); first | refine n_fa ?_ | refine zk1 ?_) | ((apply f_ld); first | refine zp1 ?_ | refine zb1 ?_ | refine zw ?_ | refine zi1 ?_ | refine n_ld ?_) | ((apply f_ca); first | refine zl2 0 (hisb) ?_) | ((apply f_bi); first | refine zd1 ?_ | refine zc1 ?_ | refine ze1 ?_ | refine za ?_) | ((apply f_st); first | refine n_st ?_ | refine zt1 ?_) | ((apply zz1); first | refine zd2 ?_ | refine za ?_) | ((apply zy2); first | refine zy1 ?_ | refine za ?_) | ((apply za2); first | refine zq ?_ | refine za ?_) | ((apply zs3); first | refine zo1 ?_ | refine za ?_) | ((apply zs1); first | refine zo ?_ | refine zr1 ?_ | refine za ?_) | ((apply f_no); first | refine zj2 ?_ | refine za ?_) | ((apply f_pk); first | refine zu1 (v := .c _) ?_ | refine za ?_) | ((apply f_cv); first | refine zp4 ?_ | refine zj5 ?_ | refine zk5 ?_ | refine za ?_) | refine n_al ?_ | refine n_bs ?_ | refine zx3 ?_ | refine zg5 ?_ | refine zh5 ?_ | refine zi5 ?_ | refine za ?_ | refine n_mv ?_) | ((apply f_w); first | refine zy ?_ | refine zc ?_) | ((apply d_wo); first | ((apply d_gs); first | refine o_sk ?_ | refine za4 ?_) | ((apply d_bo); (refine o_gm ?_ ?_ <;> intro hG <;> (try cases hG))) | ((apply d_mv); refine zr ?_) | ((apply d_as); refine zr ?_) | ((apply d_fa); first | refine o_fa ?_ | refine zb4 ?_) | ((apply d_ld); first | refine zc4 ?_ | refine zz2 ?_ | refine za3 ?_ | refine zd4 ?_ | refine zr ?_ | refine o_ld ?_) | ((apply d_ca); first | refine zv4 0 (hisb) ?_) | ((apply d_bi); first | refine zn3 ?_ | refine zm3 ?_ | refine zo3 ?_ | refine zw2 ?_ | refine zw2 (hnu := zl _) ?_ | refine zx1 ?_ | refine zx1 (hnu := zl _) ?_ | refine zr ?_) | ((apply d_st); first | refine o_st ?_ | refine zq4 ?_) | ((apply d_bb); first | refine zl1 ?_ | refine zm1 ?_ | refine zn1 ?_ | refine zw3 ?_ | refine zr ?_) | ((apply d_cv); first | refine zc3 ?_ | refine zn4 ?_ | refine ze5 ?_ | refine zf5 ?_ | refine zr ?_) | refine o_al ?_ | refine o_bs ?_ | refine zo4 ?_ | refine zb5 ?_ | refine zc5 ?_ | refine zd5 ?_ | refine zr ?_ | refine o_mv ?_) | ((apply d_w); first | refine zy ?_ | refine zc ?_) | refine zb fun C => ?_ | refine zp (by kernel_rfl) (by kernel_rfl) fun C => ?_ | refine zn ?_ | refine ze ?_ | refine zh ?_ | refine zi ?_ | refine zx rfl ?_ | refine zv rfl ?_)
              refine zm4 (ze6 900 (i := 2) 86 3 rfl rfl (pre := [_, _]) (post := []) rfl) ?_; refine zu ?_; refine ret1 rfl (zl3 (zu2 rfl (zu2 rfl (zk3 rfl rfl rfl (by first | exact zg _ | exact zf _ | exact bytC_clo _ | (simp [cloL, clo, zg, zf, zk, zj, zd]; done) | (simp [cloL, clo, opC, opL, zg, zf, zk, zj, zd]; done)) zs2)))) rfl (by first | rfl | (simp [cloL, clo, zg, zf, zk, zj, zd]; done)) rfl ⟨?_, ?_⟩ <;> rfl
            · exfalso; simp only [decide_eq_false_iff_not] at hG; omega
          · have hi : isB s 93 ⟨j, d, false⟩ = false := by unfold isB; rw [decide_eq_false hws]; rfl
            rw [zq10 hi, hi] at hisb
            rw [if_neg (by rw [hi]; simp)]
            unfold rdrS at hisb hbadw
            dsimp only [PS.bad] at hisb hbadw ⊢
            repeat' (first | ((apply f_wo); first | ((apply f_gs); first | refine n_sk ?_) | ((apply f_mv); first | (refine zw1 ?_ ?_ <;> intro hG <;> (try cases hG)) | refine zg1 (v := .c _) ?_ | refine za ?_) | ((apply f_as); first | refine zf1 (v := .c _) ?_ | refine za ?_) | ((apply f_fa); first | refine n_fa ?_ | refine zk1 ?_) | ((apply f_ld); first | refine zp1 ?_ | refine zb1 ?_ | refine zw ?_ | refine zi1 ?_ | refine n_ld ?_) | ((apply f_bi); first | refine zd1 ?_ | refine zc1 ?_ | refine ze1 ?_ | refine za ?_) | ((apply f_st); first | refine n_st ?_ | refine zt1 ?_) | ((apply zz1); first | refine zd2 ?_ | refine za ?_) | ((apply zy2); first | refine zy1 ?_ | refine za ?_) | ((apply za2); first | refine zq ?_ | refine za ?_) | ((apply zs3); first | refine zo1 ?_ | refine za ?_) | ((apply zs1); first | refine zo ?_ | refine zr1 ?_ | refine za ?_) | ((apply f_no); first | refine zj2 ?_ | refine za ?_) | ((apply f_pk); first | refine zu1 (v := .c _) ?_ | refine za ?_) | ((apply f_cv); first | refine zp4 ?_ | refine zj5 ?_ | refine zk5 ?_ | refine za ?_) | refine n_al ?_ | refine n_bs ?_ | refine zx3 ?_ | refine zg5 ?_ | refine zh5 ?_ | refine zi5 ?_ | refine za ?_ | refine n_mv ?_) | ((apply f_w); first | refine zy ?_ | refine zc ?_) | ((apply d_wo); first | ((apply d_gs); first | refine o_sk ?_ | refine za4 ?_) | ((apply d_bo); (refine o_gm ?_ ?_ <;> intro hG <;> (try cases hG))) | ((apply d_mv); refine zr ?_) | ((apply d_as); refine zr ?_) | ((apply d_fa); first | refine o_fa ?_ | refine zb4 ?_) | ((apply d_ld); first | refine zc4 ?_ | refine zz2 ?_ | refine za3 ?_ | refine zd4 ?_ | refine zr ?_ | refine o_ld ?_) | ((apply d_bi); first | refine zn3 ?_ | refine zm3 ?_ | refine zo3 ?_ | refine zw2 ?_ | refine zw2 (hnu := zl _) ?_ | refine zx1 ?_ | refine zx1 (hnu := zl _) ?_ | refine zr ?_) | ((apply d_st); first | refine o_st ?_ | refine zq4 ?_) | ((apply d_bb); first | refine zl1 ?_ | refine zm1 ?_ | refine zn1 ?_ | refine zw3 ?_ | refine zr ?_) | ((apply d_cv); first | refine zc3 ?_ | refine zn4 ?_ | refine ze5 ?_ | refine zf5 ?_ | refine zr ?_) | refine o_al ?_ | refine o_bs ?_ | refine zo4 ?_ | refine zb5 ?_ | refine zc5 ?_ | refine zd5 ?_ | refine zr ?_ | refine o_mv ?_) | ((apply d_w); first | refine zy ?_ | refine zc ?_) | refine zb fun C => ?_ | refine zp (by kernel_rfl) (by kernel_rfl) fun C => ?_ | refine zn ?_ | refine ze ?_ | refine zh ?_ | refine zi ?_)
            · exfalso; simp only [decide_eq_true_iff] at hG; omega
            · repeat' (first | ((apply f_wo); first | ((apply f_gs); first | refine n_sk ?_) | ((apply f_mv); first | (refine zw1 ?_ ?_ <;> intro hG <;> (try cases hG)) | refine zg1 (v := .c _) ?_ | refine za ?_) | ((apply f_as); first | refine zf1 (v := .c _) ?_ | refine za ?_) | ((apply f_fa); first | refine n_fa ?_ | refine zk1 ?_) | ((apply f_ld); first | refine zp1 ?_ | refine zb1 ?_ | refine zw ?_ | refine zi1 ?_ | refine n_ld ?_) | ((apply f_ca); first | refine zl2 0 (hisb) ?_ | refine zl2 0 (hbadw) ?_) | ((apply f_bi); first | refine zd1 ?_ | refine zc1 ?_ | refine ze1 ?_ | refine za ?_) | ((apply f_st); first | refine n_st ?_ | refine zt1 ?_) | ((apply zz1); first | refine zd2 ?_ | refine za ?_) | ((apply zy2); first | refine zy1 ?_ | refine za ?_) | ((apply za2); first | refine zq ?_ | refine za ?_) | ((apply zs3); first | refine zo1 ?_ | refine za ?_) | ((apply zs1); first | refine zo ?_ | refine zr1 ?_ | refine za ?_) | ((apply f_no); first | refine zj2 ?_ | refine za ?_) | ((apply f_pk); first | refine zu1 (v := .c _) ?_ | refine za ?_) | ((apply f_cv); first | refine zp4 ?_ | refine zj5 ?_ | refine zk5 ?_ | refine za ?_) | refine n_al ?_ | refine n_bs ?_ | refine zx3 ?_ | refine zg5 ?_ | refine zh5 ?_ | refine zi5 ?_ | refine za ?_ | refine n_mv ?_) | ((apply f_w); first | refine zy ?_ | refine zc ?_) | ((apply d_wo); first | ((apply d_gs); first | refine o_sk ?_ | refine za4 ?_) | ((apply d_bo); (refine o_gm ?_ ?_ <;> intro hG <;> (try cases hG))) | ((apply d_mv); refine zr ?_) | ((apply d_as); refine zr ?_) | ((apply d_fa); first | refine o_fa ?_ | refine zb4 ?_) | ((apply d_ld); first | refine zc4 ?_ | refine zz2 ?_ | refine za3 ?_ | refine zd4 ?_ | refine zr ?_ | refine o_ld ?_) | ((apply d_ca); first | refine zv4 0 (hisb) ?_ | refine zv4 0 (hbadw) ?_) | ((apply d_bi); first | refine zn3 ?_ | refine zm3 ?_ | refine zo3 ?_ | refine zw2 ?_ | refine zw2 (hnu := zl _) ?_ | refine zx1 ?_ | refine zx1 (hnu := zl _) ?_ | refine zr ?_) | ((apply d_st); first | refine o_st ?_ | refine zq4 ?_) | ((apply d_bb); first | refine zl1 ?_ | refine zm1 ?_ | refine zn1 ?_ | refine zw3 ?_ | refine zr ?_) | ((apply d_cv); first | refine zc3 ?_ | refine zn4 ?_ | refine ze5 ?_ | refine zf5 ?_ | refine zr ?_) | refine o_al ?_ | refine o_bs ?_ | refine zo4 ?_ | refine zb5 ?_ | refine zc5 ?_ | refine zd5 ?_ | refine zr ?_ | refine o_mv ?_) | ((apply d_w); first | refine zy ?_ | refine zc ?_) | refine zb fun C => ?_ | refine zp (by kernel_rfl) (by kernel_rfl) fun C => ?_ | refine zn ?_ | refine ze ?_ | refine zh ?_ | refine zi ?_ | refine zx rfl ?_ | refine zv rfl ?_)
              refine zu ?_; refine ret1 rfl (zl3 (zu2 rfl (zu2 rfl (zk3 rfl rfl rfl (by first | exact zg _ | exact zf _ | exact bytC_clo _ | (simp [cloL, clo, zg, zf, zk, zj, zd]; done) | (simp [cloL, clo, opC, opL, zg, zf, zk, zj, zd]; done)) zs2)))) rfl (by first | rfl | (simp [cloL, clo, zg, zf, zk, zj, zd]; done)) rfl ⟨?_, ?_⟩ <;> rfl
      · have hr : atomSc s alt c ⟨a + 1, d, false⟩ = (zeroR, ⟨a + 1, d, true⟩) := zx13 hl h46 h94 h36 h40 h91
        rw [hr]
        repeat' (first | ((apply f_wo); first | ((apply f_gs); first | refine n_sk ?_) | ((apply f_mv); first | (refine zw1 ?_ ?_ <;> intro hG <;> (try cases hG)) | refine zg1 (v := .c _) ?_ | refine za ?_) | ((apply f_as); first | refine zf1 (v := .c _) ?_ | refine za ?_) | ((apply f_fa); first | refine n_fa ?_ | refine zk1 ?_) | ((apply f_ld); first | refine zp1 ?_ | refine zb1 ?_ | refine zw ?_ | refine zi1 ?_ | refine n_ld ?_) | ((apply f_ca); first | refine zr2 (hlb) ?_ | refine zp2 (hlb) ?_) | ((apply f_bi); first | refine zd1 ?_ | refine zc1 ?_ | refine ze1 ?_ | refine za ?_) | ((apply f_st); first | refine n_st ?_ | refine zt1 ?_) | ((apply zz1); first | refine zd2 ?_ | refine za ?_) | ((apply zy2); first | refine zy1 ?_ | refine za ?_) | ((apply za2); first | refine zq ?_ | refine za ?_) | ((apply zs3); first | refine zo1 ?_ | refine za ?_) | ((apply zs1); first | refine zo ?_ | refine zr1 ?_ | refine za ?_) | ((apply f_no); first | refine zj2 ?_ | refine za ?_) | ((apply f_pk); first | refine zu1 (v := .c _) ?_ | refine za ?_) | ((apply f_cv); first | refine zp4 ?_ | refine zj5 ?_ | refine zk5 ?_ | refine za ?_) | refine n_al ?_ | refine n_bs ?_ | refine zx3 ?_ | refine zg5 ?_ | refine zh5 ?_ | refine zi5 ?_ | refine za ?_ | refine n_mv ?_) | ((apply f_w); first | refine zy ?_ | refine zc ?_) | ((apply d_wo); first | ((apply d_gs); first | refine o_sk ?_ | refine za4 ?_) | ((apply d_bo); (refine o_gm ?_ ?_ <;> intro hG <;> (try cases hG))) | ((apply d_mv); refine zr ?_) | ((apply d_as); refine zr ?_) | ((apply d_fa); first | refine o_fa ?_ | refine zb4 ?_) | ((apply d_ld); first | refine zc4 ?_ | refine zz2 ?_ | refine za3 ?_ | refine zd4 ?_ | refine zr ?_ | refine o_ld ?_) | ((apply d_ca); first | refine zn5 (hlb) ?_) | ((apply d_bi); first | refine zn3 ?_ | refine zm3 ?_ | refine zo3 ?_ | refine zw2 ?_ | refine zw2 (hnu := zl _) ?_ | refine zx1 ?_ | refine zx1 (hnu := zl _) ?_ | refine zr ?_) | ((apply d_st); first | refine o_st ?_ | refine zq4 ?_) | ((apply d_bb); first | refine zl1 ?_ | refine zm1 ?_ | refine zn1 ?_ | refine zw3 ?_ | refine zr ?_) | ((apply d_cv); first | refine zc3 ?_ | refine zn4 ?_ | refine ze5 ?_ | refine zf5 ?_ | refine zr ?_) | refine o_al ?_ | refine o_bs ?_ | refine zo4 ?_ | refine zb5 ?_ | refine zc5 ?_ | refine zd5 ?_ | refine zr ?_ | refine o_mv ?_) | ((apply d_w); first | refine zy ?_ | refine zc ?_) | refine zb fun C => ?_ | refine zp (by kernel_rfl) (by kernel_rfl) fun C => ?_ | refine zn ?_ | refine ze ?_ | refine zh ?_ | refine zi ?_ | refine zx rfl ?_ | refine zv rfl ?_)
        refine zt (by rfl) (fun hC => ?_) fun hC => absurd (bne_eq_false_iff_eq.1 hC) (by omega)
        repeat' (first | ((apply f_wo); first | ((apply f_gs); first | refine n_sk ?_) | ((apply f_mv); first | (refine zw1 ?_ ?_ <;> intro hG <;> (try cases hG)) | refine zg1 (v := .c _) ?_ | refine za ?_) | ((apply f_as); first | refine zf1 (v := .c _) ?_ | refine za ?_) | ((apply f_fa); first | refine n_fa ?_ | refine zk1 ?_) | ((apply f_ld); first | refine zp1 ?_ | refine zb1 ?_ | refine zw ?_ | refine zi1 ?_ | refine n_ld ?_) | ((apply f_ca); first | refine zr2 (hlb) ?_ | refine zp2 (hlb) ?_ | refine zl2 0 (hbad1) ?_) | ((apply f_bi); first | refine zd1 ?_ | refine zc1 ?_ | refine ze1 ?_ | refine za ?_) | ((apply f_st); first | refine n_st ?_ | refine zt1 ?_) | ((apply zz1); first | refine zd2 ?_ | refine za ?_) | ((apply zy2); first | refine zy1 ?_ | refine za ?_) | ((apply za2); first | refine zq ?_ | refine za ?_) | ((apply zs3); first | refine zo1 ?_ | refine za ?_) | ((apply zs1); first | refine zo ?_ | refine zr1 ?_ | refine za ?_) | ((apply f_no); first | refine zj2 ?_ | refine za ?_) | ((apply f_pk); first | refine zu1 (v := .c _) ?_ | refine za ?_) | ((apply f_cv); first | refine zp4 ?_ | refine zj5 ?_ | refine zk5 ?_ | refine za ?_) | refine n_al ?_ | refine n_bs ?_ | refine zx3 ?_ | refine zg5 ?_ | refine zh5 ?_ | refine zi5 ?_ | refine za ?_ | refine n_mv ?_) | ((apply f_w); first | refine zy ?_ | refine zc ?_) | ((apply d_wo); first | ((apply d_gs); first | refine o_sk ?_ | refine za4 ?_) | ((apply d_bo); (refine o_gm ?_ ?_ <;> intro hG <;> (try cases hG))) | ((apply d_mv); refine zr ?_) | ((apply d_as); refine zr ?_) | ((apply d_fa); first | refine o_fa ?_ | refine zb4 ?_) | ((apply d_ld); first | refine zc4 ?_ | refine zz2 ?_ | refine za3 ?_ | refine zd4 ?_ | refine zr ?_ | refine o_ld ?_) | ((apply d_ca); first | refine zn5 (hlb) ?_ | refine zv4 0 (hbad1) ?_) | ((apply d_bi); first | refine zn3 ?_ | refine zm3 ?_ | refine zo3 ?_ | refine zw2 ?_ | refine zw2 (hnu := zl _) ?_ | refine zx1 ?_ | refine zx1 (hnu := zl _) ?_ | refine zr ?_) | ((apply d_st); first | refine o_st ?_ | refine zq4 ?_) | ((apply d_bb); first | refine zl1 ?_ | refine zm1 ?_ | refine zn1 ?_ | refine zw3 ?_ | refine zr ?_) | ((apply d_cv); first | refine zc3 ?_ | refine zn4 ?_ | refine ze5 ?_ | refine zf5 ?_ | refine zr ?_) | refine o_al ?_ | refine o_bs ?_ | refine zo4 ?_ | refine zb5 ?_ | refine zc5 ?_ | refine zd5 ?_ | refine zr ?_ | refine o_mv ?_) | ((apply d_w); first | refine zy ?_ | refine zc ?_) | refine zb fun C => ?_ | refine zp (by kernel_rfl) (by kernel_rfl) fun C => ?_ | refine zn ?_ | refine ze ?_ | refine zh ?_ | refine zi ?_ | refine zx rfl ?_ | refine zv rfl ?_)
        refine zu ?_; refine ret1 rfl (zl3 (zu2 rfl (zu2 rfl (zk3 rfl rfl rfl (by first | exact zg _ | exact zf _ | exact bytC_clo _ | (simp [cloL, clo, zg, zf, zk, zj, zd]; done) | (simp [cloL, clo, opC, opL, zg, zf, zk, zj, zd]; done)) zs2)))) rfl (by first | rfl | (simp [cloL, clo, zg, zf, zk, zj, zd]; done)) rfl ⟨?_, ?_⟩ <;> rfl
  · have hr : atomS s alt ⟨a, d, false⟩ = (zeroR, ⟨a, d, true⟩) := by unfold atomS; rw [if_pos (.inr (by dsimp only; omega))]; rfl
    rw [hr]
    refine zm2 Try.func109 rfl rfl ?_
    unfold rdrS at hbad0 ⊢
    dsimp only [PS.bad] at hbad0 ⊢
    repeat' (first | ((apply f_wo); first | ((apply f_gs); first | refine n_sk ?_) | ((apply f_mv); first | (refine zw1 ?_ ?_ <;> intro hG <;> (try cases hG)) | refine zg1 (v := .c _) ?_ | refine za ?_) | ((apply f_as); first | refine zf1 (v := .c _) ?_ | refine za ?_) | ((apply f_fa); first | refine n_fa ?_ | refine zk1 ?_) | ((apply f_ld); first | refine zp1 ?_ | refine zb1 ?_ | refine zw ?_ | refine zi1 ?_ | refine n_ld ?_) | ((apply f_ca); first | refine zl2 0 (hbad0) ?_) | ((apply f_bi); first | refine zd1 ?_ | refine zc1 ?_ | refine ze1 ?_ | refine za ?_) | ((apply f_st); first | refine n_st ?_ | refine zt1 ?_) | ((apply zz1); first | refine zd2 ?_ | refine za ?_) | ((apply zy2); first | refine zy1 ?_ | refine za ?_) | ((apply za2); first | refine zq ?_ | refine za ?_) | ((apply zs3); first | refine zo1 ?_ | refine za ?_) | ((apply zs1); first | refine zo ?_ | refine zr1 ?_ | refine za ?_) | ((apply f_no); first | refine zj2 ?_ | refine za ?_) | ((apply f_pk); first | refine zu1 (v := .c _) ?_ | refine za ?_) | ((apply f_cv); first | refine zp4 ?_ | refine zj5 ?_ | refine zk5 ?_ | refine za ?_) | refine n_al ?_ | refine n_bs ?_ | refine zx3 ?_ | refine zg5 ?_ | refine zh5 ?_ | refine zi5 ?_ | refine za ?_ | refine n_mv ?_) | ((apply f_w); first | refine zy ?_ | refine zc ?_) | ((apply d_wo); first | ((apply d_gs); first | refine o_sk ?_ | refine za4 ?_) | ((apply d_bo); (refine o_gm ?_ ?_ <;> intro hG <;> (try cases hG))) | ((apply d_mv); refine zr ?_) | ((apply d_as); refine zr ?_) | ((apply d_fa); first | refine o_fa ?_ | refine zb4 ?_) | ((apply d_ld); first | refine zc4 ?_ | refine zz2 ?_ | refine za3 ?_ | refine zd4 ?_ | refine zr ?_ | refine o_ld ?_) | ((apply d_ca); first | refine zv4 0 (hbad0) ?_) | ((apply d_bi); first | refine zn3 ?_ | refine zm3 ?_ | refine zo3 ?_ | refine zw2 ?_ | refine zw2 (hnu := zl _) ?_ | refine zx1 ?_ | refine zx1 (hnu := zl _) ?_ | refine zr ?_) | ((apply d_st); first | refine o_st ?_ | refine zq4 ?_) | ((apply d_bb); first | refine zl1 ?_ | refine zm1 ?_ | refine zn1 ?_ | refine zw3 ?_ | refine zr ?_) | ((apply d_cv); first | refine zc3 ?_ | refine zn4 ?_ | refine ze5 ?_ | refine zf5 ?_ | refine zr ?_) | refine o_al ?_ | refine o_bs ?_ | refine zo4 ?_ | refine zb5 ?_ | refine zc5 ?_ | refine zd5 ?_ | refine zr ?_ | refine o_mv ?_) | ((apply d_w); first | refine zy ?_ | refine zc ?_) | refine zb fun C => ?_ | refine zp (by kernel_rfl) (by kernel_rfl) fun C => ?_ | refine zn ?_ | refine ze ?_ | refine zh ?_ | refine zi ?_)
    refine zt (by rfl) (fun hC => ?_) fun hC => by exfalso; simp only [decide_eq_false_iff_not] at hC; omega
    repeat' (first | ((apply f_wo); first | ((apply f_gs); first | refine n_sk ?_) | ((apply f_mv); first | (refine zw1 ?_ ?_ <;> intro hG <;> (try cases hG)) | refine zg1 (v := .c _) ?_ | refine za ?_) | ((apply f_as); first | refine zf1 (v := .c _) ?_ | refine za ?_) | ((apply f_fa); first | refine n_fa ?_ | refine zk1 ?_) | ((apply f_ld); first | refine zp1 ?_ | refine zb1 ?_ | refine zw ?_ | refine zi1 ?_ | refine n_ld ?_) | ((apply f_ca); first | refine zl2 0 (hbad0) ?_) | ((apply f_bi); first | refine zd1 ?_ | refine zc1 ?_ | refine ze1 ?_ | refine za ?_) | ((apply f_st); first | refine n_st ?_ | refine zt1 ?_) | ((apply zz1); first | refine zd2 ?_ | refine za ?_) | ((apply zy2); first | refine zy1 ?_ | refine za ?_) | ((apply za2); first | refine zq ?_ | refine za ?_) | ((apply zs3); first | refine zo1 ?_ | refine za ?_) | ((apply zs1); first | refine zo ?_ | refine zr1 ?_ | refine za ?_) | ((apply f_no); first | refine zj2 ?_ | refine za ?_) | ((apply f_pk); first | refine zu1 (v := .c _) ?_ | refine za ?_) | ((apply f_cv); first | refine zp4 ?_ | refine zj5 ?_ | refine zk5 ?_ | refine za ?_) | refine n_al ?_ | refine n_bs ?_ | refine zx3 ?_ | refine zg5 ?_ | refine zh5 ?_ | refine zi5 ?_ | refine za ?_ | refine n_mv ?_) | ((apply f_w); first | refine zy ?_ | refine zc ?_) | ((apply d_wo); first | ((apply d_gs); first | refine o_sk ?_ | refine za4 ?_) | ((apply d_bo); (refine o_gm ?_ ?_ <;> intro hG <;> (try cases hG))) | ((apply d_mv); refine zr ?_) | ((apply d_as); refine zr ?_) | ((apply d_fa); first | refine o_fa ?_ | refine zb4 ?_) | ((apply d_ld); first | refine zc4 ?_ | refine zz2 ?_ | refine za3 ?_ | refine zd4 ?_ | refine zr ?_ | refine o_ld ?_) | ((apply d_ca); first | refine zv4 0 (hbad0) ?_) | ((apply d_bi); first | refine zn3 ?_ | refine zm3 ?_ | refine zo3 ?_ | refine zw2 ?_ | refine zw2 (hnu := zl _) ?_ | refine zx1 ?_ | refine zx1 (hnu := zl _) ?_ | refine zr ?_) | ((apply d_st); first | refine o_st ?_ | refine zq4 ?_) | ((apply d_bb); first | refine zl1 ?_ | refine zm1 ?_ | refine zn1 ?_ | refine zw3 ?_ | refine zr ?_) | ((apply d_cv); first | refine zc3 ?_ | refine zn4 ?_ | refine ze5 ?_ | refine zf5 ?_ | refine zr ?_) | refine o_al ?_ | refine o_bs ?_ | refine zo4 ?_ | refine zb5 ?_ | refine zc5 ?_ | refine zd5 ?_ | refine zr ?_ | refine o_mv ?_) | ((apply d_w); first | refine zy ?_ | refine zc ?_) | refine zb fun C => ?_ | refine zp (by kernel_rfl) (by kernel_rfl) fun C => ?_ | refine zn ?_ | refine ze ?_ | refine zh ?_ | refine zi ?_ | refine zx rfl ?_ | refine zv rfl ?_)
    refine zu ?_; refine ret1 rfl (zl3 (zu2 rfl (zu2 rfl (zk3 rfl rfl rfl (by first | exact zg _ | exact zf _ | exact bytC_clo _ | (simp [cloL, clo, zg, zf, zk, zj, zd]; done) | (simp [cloL, clo, opC, opL, zg, zf, zk, zj, zd]; done)) zs2)))) rfl (by first | rfl | (simp [cloL, clo, zg, zf, zk, zj, zd]; done)) rfl ⟨?_, ?_⟩ <;> rfl
end Go.Proofs.Ytfdjognmechcfaa
