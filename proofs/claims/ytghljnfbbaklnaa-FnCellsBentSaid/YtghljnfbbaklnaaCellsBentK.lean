/- What many texts use: numbers within bounds, digits. -/
import Derived.Test.YtghljnfbbaklnaaCellsBentJ
namespace Go.Proofs.Ytghljnfbbaklnaa
open Go.RowKit
set_option maxRecDepth 100000
def inR (x a b : Int) : Bool := decide (a ≤ x) && decide (x ≤ b)
theorem zl16 (x a b : Int) : Ctr Try.prog 54 [.c (.v (.int .i64 x)), .c (.v (.int .i64 a)), .c (.v (.int .i64 b))] [] (.c (.v (.bool (inR x a b)))) [] := by
  refine zm1 Try.func54 rfl rfl ?_
  repeat' (first | refine zg ?_ | refine zd ?_ | refine ze ?_ | refine zf ?_ | refine zb fun C => ?_ | refine zl (by kernel_rfl) (by kernel_rfl) fun C => ?_ | refine zc ?_ | (refine x_gm ?_ ?_ <;> intro hG <;> (try cases hG)) | refine zf4 ?_ | refine x_bs ?_ | refine x_gr ?_ | refine x_st ?_ | refine x_mv ?_ | refine x_sk ?_ | refine zm7 ?_ | refine x_ix ?_ | refine zn7 ?_ | refine zo7 ?_ | refine zp7 ?_ | refine zm5 ?_ | refine x_ld ?_ | refine zu19 ?_ | (refine ze5 (by rfl) ?_ ?_ <;> intro hC <;> (try cases hC)))
  all_goals
    refine zh1 ?_
    refine ret0 rfl zl4 ⟨?_, rfl⟩
    refine congrArg (fun s => AV.c (AC.v (Value.bool s))) ?_
    simp at *
    simp [inR, *]
    try omega
def zVal : E := .agg [.int .i64 0, .int .i64 0, .str ByteArray.empty]
def vE (e : E) : E := match e with | .agg [_, v] => v | _ => zVal
def heldLE (l : List E) (k : Int) : Bool := decide (0 ≤ k) && (decide (k < l.length) && decide (0 < rfE (l[k.toNat]?.getD zVal)))
def holdLE (l : List E) (k : Int) : List E := if heldLE l k then l.set k.toNat (.agg [.int .i64 (IntKind.i64.wrap (rfE (l[k.toNat]?.getD zVal) + 1)), vE (l[k.toNat]?.getD zVal)]) else l
def letLE (l : List E) (k : Int) : List E := if heldLE l k then l.set k.toNat (.agg [.int .i64 (rfE (l[k.toNat]?.getD zVal) - 1), if rfE (l[k.toNat]?.getD zVal) - 1 = 0 then zVal else vE (l[k.toNat]?.getD zVal)]) else l
def heapE (l : List E) : E := .agg [.lst 4 46 none 0 l]
theorem zs10 {l : List E} {k : Int} (h : ¬ (0 ≤ k ∧ k < l.length)) : heldLE l k = false := by
  unfold heldLE
  by_cases h0 : 0 ≤ k
  · have h1 : ¬ k < l.length := fun h1 => h ⟨h0, h1⟩
    simp [h1]
  · simp [h0]
theorem zu5 {l : List E} {i : Nat} {r : Int} {v : E} (hx : l[i]? = some (.agg [.int .i64 r, v])) : heldLE l (i : Int) = decide (0 < r) := by
  have := (List.getElem?_eq_some_iff.1 hx).1
  unfold heldLE
  simp [hx, rfE]
  omega
theorem zu9 {e : E} (he : e.Ty Try.prog 39) (hsz : e.sz ≤ 1048576) (k : Int) : Ctr Try.prog 92 [.ag (acE e), .c (.v (.int .i64 k))] [] (.c (.v (.bool (heldLE (varsE e) k)))) [] := by
  obtain ⟨x0A, x0c, l, rfl, ⟨hl, hk⟩, -⟩ := zi1 he
  have hlen : l.length ≤ 1048576 := by simp only [E.sz, E.szL] at hsz; omega
  show Ctr _ _ _ _ (.c (.v (.bool (heldLE l k)))) _
  by_cases h : 0 ≤ k ∧ k < l.length
  · obtain ⟨i, rfl⟩ : ∃ i : Nat, k = (i : Int) := ⟨k.toNat, by omega⟩
    obtain ⟨x, hx⟩ : ∃ x, l[i]? = some x := ⟨_, List.getElem?_eq_getElem (by omega)⟩
    obtain ⟨r, y1, y2, y3, rfl, hy⟩ := zw2 (hl x (List.mem_of_getElem? hx))
    rw [zu5 hx]
    refine zm1 Try.func92 rfl rfl ?_
    repeat' (first | ((apply f_wo); first | ((apply f_gs); first | refine n_sk ?_) | ((apply f_mv); first | (refine zh4 ?_ ?_ <;> intro hG <;> (try cases hG)) | refine zv (v := .c _) ?_ | refine za ?_) | ((apply f_as); first | refine zl1 (v := .c _) ?_ | refine za ?_) | ((apply f_fa); first | refine n_fa ?_ | refine zz1 ?_) | ((apply f_ld); first | refine zu3 ?_ | refine zt2 ?_ | refine zy ?_ | refine zr1 ?_ | refine n_ld ?_) | ((apply f_bi); first | refine zg2 ?_ | refine zf2 ?_ | refine zh2 ?_ | refine za ?_) | ((apply f_ia); first | refine n_ix ?_ | refine zl2 ?_ | refine za ?_) | ((apply zm4); first | refine zt1 ?_ | refine za ?_) | ((apply zy5); first | refine zm2 ?_ | refine za ?_) | ((apply zg19); first | refine zn9 ?_ | refine za ?_) | ((apply f_pk); first | refine zv2 (v := .c _) ?_ | refine za ?_) | refine n_bo ?_ | refine za ?_) | ((apply f_w); first | refine zt ?_ | refine zc ?_) | refine zb fun C => ?_ | refine zg ?_ | refine zd ?_ | refine ze ?_ | refine zf ?_ | (refine zq1 (by rfl) ?_ ?_ <;> intro hC <;> (try cases hC)))
    all_goals first
      | (exfalso; simp only [decide_eq_true_iff, decide_eq_false_iff_not, ge_iff_le] at *; omega)
      | (refine zh1 ?_; refine ret0 rfl zl4 ⟨?_, rfl⟩; rfl)
  · rw [zs10 h]
    refine zm1 Try.func92 rfl rfl ?_
    repeat' (first | ((apply f_wo); first | ((apply f_gs); first | refine n_sk ?_) | ((apply f_mv); first | (refine zh4 ?_ ?_ <;> intro hG <;> (try cases hG)) | refine zv (v := .c _) ?_ | refine za ?_) | ((apply f_as); first | refine zl1 (v := .c _) ?_ | refine za ?_) | ((apply f_fa); first | refine n_fa ?_ | refine zz1 ?_) | ((apply f_ld); first | refine zu3 ?_ | refine zt2 ?_ | refine zy ?_ | refine zr1 ?_ | refine n_ld ?_) | ((apply f_bi); first | refine zg2 ?_ | refine zf2 ?_ | refine zh2 ?_ | refine za ?_) | ((apply f_ia); first | refine n_ix ?_ | refine zl2 ?_ | refine za ?_) | ((apply zm4); first | refine zt1 ?_ | refine za ?_) | ((apply zy5); first | refine zm2 ?_ | refine za ?_) | ((apply zg19); first | refine zn9 ?_ | refine za ?_) | ((apply f_pk); first | refine zv2 (v := .c _) ?_ | refine za ?_) | refine n_bo ?_ | refine za ?_) | ((apply f_w); first | refine zt ?_ | refine zc ?_) | refine zb fun C => ?_ | refine zg ?_ | refine zd ?_ | refine ze ?_ | refine zf ?_ | (refine zq1 (by rfl) ?_ ?_ <;> intro hC <;> (try cases hC)))
    all_goals first
      | (refine zh1 ?_; refine ret0 rfl zl4 ⟨?_, rfl⟩; rfl)
      | (exfalso; simp only [decide_eq_true_iff, decide_eq_false_iff_not, ge_iff_le] at *; omega)
theorem zw14 {x a b : Int} : inR x a b = true ↔ a ≤ x ∧ x ≤ b := by simp [inR]
theorem zm17 {e : E} (he : e.Ty Try.prog 39) (hsz : e.sz ≤ 1048576) (k : Int) : Ctr Try.prog 91 [.ag (acE e), .c (.v (.int .i64 k))] [] (.c (.v (.bool (heldLE (varsE e) k)))) [] := by
  obtain ⟨x0A, x0c, l, rfl, ⟨hl, hk⟩, -⟩ := zi1 he
  have hlen : l.length ≤ 1048576 := by simp only [E.sz, E.szL] at hsz; omega
  show Ctr _ _ _ _ (.c (.v (.bool (heldLE l k)))) _
  have hw := zl16 k 0 ((l.length : Int) - 1)
  by_cases h : 0 ≤ k ∧ k < l.length
  · rw [zw14.2 ⟨h.1, by omega⟩] at hw
    obtain ⟨i, rfl⟩ : ∃ i : Nat, k = (i : Int) := ⟨k.toNat, by omega⟩
    obtain ⟨x, hx⟩ : ∃ x, l[i]? = some x := ⟨_, List.getElem?_eq_getElem (by omega)⟩
    obtain ⟨r, y1, y2, y3, rfl, hy⟩ := zw2 (hl x (List.mem_of_getElem? hx))
    rw [zu5 hx]
    refine zm1 Try.func91 rfl rfl ?_
    repeat' (first | ((apply f_wo); first | ((apply f_gs); first | refine n_sk ?_) | ((apply f_mv); first | (refine zh4 ?_ ?_ <;> intro hG <;> (try cases hG)) | refine zv (v := .c _) ?_ | refine za ?_) | ((apply f_as); first | refine zl1 (v := .c _) ?_ | refine za ?_) | ((apply f_fa); first | refine n_fa ?_ | refine zz1 ?_) | ((apply f_ld); first | refine zu3 ?_ | refine zt2 ?_ | refine zy ?_ | refine zr1 ?_ | refine n_ld ?_) | ((apply f_ca); first | refine zj2 (hw) ?_ | refine ze2 (hw) ?_) | ((apply f_bi); first | refine zg2 ?_ | refine zf2 ?_ | refine zh2 ?_ | refine za ?_) | ((apply f_ia); first | refine n_ix ?_ | refine zl2 ?_ | refine za ?_) | ((apply zy5); first | refine zm2 ?_ | refine za ?_) | ((apply f_pk); first | refine zv2 (v := .c _) ?_ | refine za ?_) | ((apply f_bb); first | refine zd1 ?_ | refine ze1 ?_ | refine za ?_) | refine n_bo ?_ | refine za ?_) | ((apply f_w); first | refine zt ?_ | refine zc ?_) | refine zb fun C => ?_ | refine zg ?_ | refine zd ?_ | refine ze ?_ | refine zf ?_ | (refine zq1 (by rfl) ?_ ?_ <;> intro hC <;> (try cases hC)))
    all_goals (refine zh1 ?_; refine ret0 rfl zl4 ⟨?_, rfl⟩; rfl)
  · rw [zs10 h]
    have e0 : inR k 0 ((l.length : Int) - 1) = false := by
      cases hb : inR k 0 ((l.length : Int) - 1) with
      | false => rfl
      | true => exact absurd (zw14.1 hb) (by omega)
    rw [e0] at hw
    refine zm1 Try.func91 rfl rfl ?_
    repeat' (first | ((apply f_wo); first | ((apply f_gs); first | refine n_sk ?_) | ((apply f_mv); first | (refine zh4 ?_ ?_ <;> intro hG <;> (try cases hG)) | refine zv (v := .c _) ?_ | refine za ?_) | ((apply f_as); first | refine zl1 (v := .c _) ?_ | refine za ?_) | ((apply f_fa); first | refine n_fa ?_ | refine zz1 ?_) | ((apply f_ld); first | refine zu3 ?_ | refine zt2 ?_ | refine zy ?_ | refine zr1 ?_ | refine n_ld ?_) | ((apply f_ca); first | refine zj2 (hw) ?_ | refine ze2 (hw) ?_) | ((apply f_bi); first | refine zg2 ?_ | refine zf2 ?_ | refine zh2 ?_ | refine za ?_) | ((apply f_ia); first | refine n_ix ?_ | refine zl2 ?_ | refine za ?_) | ((apply zy5); first | refine zm2 ?_ | refine za ?_) | ((apply f_pk); first | refine zv2 (v := .c _) ?_ | refine za ?_) | ((apply f_bb); first | refine zd1 ?_ | refine ze1 ?_ | refine za ?_) | refine n_bo ?_ | refine za ?_) | ((apply f_w); first | refine zt ?_ | refine zc ?_) | refine zb fun C => ?_ | refine zg ?_ | refine zd ?_ | refine ze ?_ | refine zf ?_ | (refine zq1 (by rfl) ?_ ?_ <;> intro hC <;> (try cases hC)))
    all_goals (refine zh1 ?_; refine ret0 rfl zl4 ⟨?_, rfl⟩; rfl)
theorem zv5 {l : List E} {k : Int} (h : heldLE l k = false) : holdLE l k = l := by unfold holdLE; rw [h]; rfl
theorem zr6 {l : List E} {k : Int} (h : heldLE l k = false) : letLE l k = l := by unfold letLE; rw [h]; rfl
theorem zc4 {l : List E} (hl : ∀ e ∈ l, e.Ty Try.prog 46) {k : Int} (h : heldLE l k = true) : ∃ (i : Nat) (r v0 v1 : Int) (v2 : ByteArray), k = (i : Int) ∧ i < l.length ∧ l[i]? = some (.agg [.int .i64 r, .agg [.int .i64 v0, .int .i64 v1, .str v2]]) ∧ 0 < r ∧ r ≤ 9223372036854775807 := by
  by_cases h1 : 0 ≤ k ∧ k < l.length
  · obtain ⟨i, rfl⟩ : ∃ i : Nat, k = (i : Int) := ⟨k.toNat, by omega⟩
    obtain ⟨x, hx⟩ : ∃ x, l[i]? = some x := ⟨_, List.getElem?_eq_getElem (by omega)⟩
    obtain ⟨r, y1, y2, y3, rfl, hy, -⟩ := zw2 (hl x (List.mem_of_getElem? hx))
    rw [zu5 hx] at h
    exact ⟨i, r, y1, y2, y3, rfl, by omega, hx, of_decide_eq_true h, (zy11 hy).2⟩
  · rw [zs10 h1] at h; cases h
theorem zg5 {l : List E} {i : Nat} {r v0 v1 : Int} {v2 : ByteArray} (hx : l[i]? = some (.agg [.int .i64 r, .agg [.int .i64 v0, .int .i64 v1, .str v2]])) (h : 0 < r) : holdLE l (i : Int) = l.set i (.agg [.int .i64 (IntKind.i64.wrap (r + 1)), .agg [.int .i64 v0, .int .i64 v1, .str v2]]) := by
  unfold holdLE
  rw [zu5 hx, if_pos (by simpa using h)]
  simp [hx, rfE, vE]
theorem zw5 {l : List E} {i : Nat} {r v0 v1 : Int} {v2 : ByteArray} (hx : l[i]? = some (.agg [.int .i64 r, .agg [.int .i64 v0, .int .i64 v1, .str v2]])) (h : 0 < r) : letLE l (i : Int) = l.set i (.agg [.int .i64 (r - 1), if r - 1 = 0 then zVal else .agg [.int .i64 v0, .int .i64 v1, .str v2]]) := by
  unfold letLE
  rw [zu5 hx, if_pos (by simpa using h)]
  simp [hx, rfE, vE]
theorem zd4 {P : Program} {c : Code} {Q : Exit → AS → Prop} {σ : AS} (h : AWp P c (fun e σ' => ∃ τ, Gh σ' τ ∧ Q e τ) σ) : AWp P c Q σ := fun C a w hs => wp_mono (h C a w hs) fun _ a' w' ⟨_, ⟨τ, hg, hq⟩, hsim⟩ => ⟨τ, hq, hg C a' w' hsim⟩
theorem zv9 {e : E} (he : e.Ty Try.prog 39) (hsz : e.sz ≤ 1048576) (k : Int) : Ctr Try.prog 51 [.c (.pt 0 0), .c (.v (.int .i64 k))] [owE e] (.tu []) [owE (heapE (holdLE (varsE e) k))] := by
  have ch := zu9 he hsz k
  obtain ⟨x0A, x0c, l, rfl, ⟨hl, hk⟩, -⟩ := zi1 he
  have hlen : l.length ≤ 1048576 := by simp only [E.sz, E.szL] at hsz; omega
  rw [show varsE (E.agg [.lst 4 46 x0A x0c l]) = l from rfl] at ch ⊢
  cases hb : heldLE l k with
  | false =>
    rw [hb] at ch
    rw [zv5 hb]
    refine zm1 Try.func51 rfl rfl ?_
    refine za3 (zr5 100 (i := 0) rfl rfl (pre := []) (post := []) rfl) ?_
    refine zd4 ?_
    repeat' (first | ((apply f_wo); first | ((apply f_mv); first | refine zv (v := .c _) ?_ | refine za ?_) | ((apply f_fa); first | refine n_fa ?_ | refine zz1 ?_) | ((apply f_ld); first | refine zu3 ?_ | refine zt2 ?_ | refine zy ?_ | refine zr1 ?_ | refine n_ld ?_) | ((apply f_ca); first | refine zj2 (ch) ?_ | refine ze2 (ch) ?_) | ((apply f_st); first | refine n_st ?_ | refine zk1 ?_) | ((apply f_ia); first | refine n_ix ?_ | refine zl2 ?_ | refine za ?_) | ((apply zq2); first | refine zu ?_ | refine zp2 ?_ | refine za ?_) | refine za ?_) | ((apply f_w); first | refine zt ?_ | refine zc ?_) | ((apply d_wo); first | ((apply d_mv); refine zh ?_) | ((apply d_fa); first | refine o_fa ?_ | refine zl3 ?_) | ((apply d_ld); first | refine zm3 ?_ | refine za2 ?_ | refine zb2 ?_ | refine zn3 ?_ | refine zh ?_ | refine o_ld ?_) | ((apply d_ca); first | refine zg4 (ch) ?_) | ((apply d_st); first | refine o_st ?_ | refine zi3 ?_) | ((apply d_ia); first | refine o_ix ?_ | refine zj3 ?_ | refine zh ?_) | ((apply d_bb); first | refine za1 ?_ | refine zb1 ?_ | refine zc1 ?_ | refine zk3 ?_ | refine zh ?_) | refine zh ?_) | ((apply d_w); first | refine zt ?_ | refine zc ?_) | refine zb fun C => ?_ | refine zl (by kernel_rfl) (by kernel_rfl) fun C => ?_ | refine zg ?_ | refine zd ?_ | refine ze ?_ | refine zf ?_ | refine zm rfl ?_ | refine zn rfl ?_)
    refine ⟨_, zi5 (i := 0) (j := 100) rfl rfl rfl (pre := []) (post := []) rfl, ?_⟩
    refine retL (x := .tu []) rfl rfl rfl ?_ rfl ⟨rfl, rfl⟩
    first | rfl | (simp [cloV, cloL, clo, zo, zk, zp, zj, zi]; done)
  | true =>
    rw [hb] at ch
    obtain ⟨i, r, v0, v1, v2, rfl, hlt, hx, hr, -⟩ := zc4 hl hb
    rw [zg5 hx hr]
    have hs1 : subL (owL l) (i * 4 + 0) 1 = [.v (.int .i64 r)] := zf6 hk hx (by omega)
    have hle : i * 4 + 0 + 1 ≤ (owL l).length := zw4 (j := 0) hk hlt (by omega)
    have e1 : spl (owL l) (i * 4 + 0) [.v (.int .i64 (IntKind.i64.wrap (r + 1)))] = owL (l.set i (.agg [.int .i64 (IntKind.i64.wrap (r + 1)), .agg [.int .i64 v0, .int .i64 v1, .str v2]])) := zv4 hk hx (by simp) rfl
    refine zm1 Try.func51 rfl rfl ?_
    refine za3 (zr5 100 (i := 0) rfl rfl (pre := []) (post := []) rfl) ?_
    refine zd4 ?_
    repeat' (first | ((apply f_wo); first | ((apply f_mv); first | refine zv (v := .c _) ?_ | refine za ?_) | ((apply f_fa); first | refine n_fa ?_ | refine zz1 ?_) | ((apply f_ld); first | refine zu3 ?_ | refine zt2 ?_ | refine zy ?_ | refine zr1 ?_ | refine n_ld ?_) | ((apply f_ca); first | refine zj2 (ch) ?_ | refine ze2 (ch) ?_) | ((apply f_st); first | refine n_st ?_ | refine zk1 ?_) | ((apply f_ia); first | refine n_ix ?_ | refine zl2 ?_ | refine za ?_) | ((apply zq2); first | refine zu ?_ | refine zp2 ?_ | refine za ?_) | refine za ?_) | ((apply f_w); first | refine zt ?_ | refine zc ?_) | ((apply d_wo); first | ((apply d_mv); refine zh ?_) | ((apply d_fa); first | refine o_fa ?_ | refine zl3 ?_) | ((apply d_ld); first | refine zm3 ?_ | refine za2 ?_ | refine zb2 ?_ | refine zn3 ?_ | refine zh ?_ | refine o_ld ?_) | ((apply d_ca); first | refine zg4 (ch) ?_) | ((apply d_st); first | refine o_st ?_ | refine zi3 ?_) | ((apply d_ia); first | refine o_ix ?_ | refine zj3 ?_ | refine zh ?_) | ((apply d_bb); first | refine za1 ?_ | refine zb1 ?_ | refine zc1 ?_ | refine zk3 ?_ | refine zh ?_) | refine zh ?_) | ((apply d_w); first | refine zt ?_ | refine zc ?_) | refine zb fun C => ?_ | refine zl (by kernel_rfl) (by kernel_rfl) fun C => ?_ | refine zg ?_ | refine zd ?_ | refine ze ?_ | refine zf ?_ | refine zm rfl ?_ | refine zn rfl ?_)
    refine ⟨_, zi5 (i := 0) (j := 100) rfl rfl rfl (pre := []) (post := []) rfl, ?_⟩
    refine retL (x := .tu []) (cs := [.ow 46 l.length 4 (spl (owL l) (i * 4 + 0) [.v (.int .i64 (IntKind.i64.wrap (r + 1)))])]) rfl rfl rfl ?_ rfl ⟨rfl, ?_⟩
    · rw [e1]; first | rfl | (simp [cloV, cloL, clo, zo, zk, zp, zj, zi]; done)
    · rw [e1]; simp [heapE, owE, owL]
theorem zj19 {e : E} (he : e.Ty Try.prog 39) (hsz : e.sz ≤ 1048576) (k : Int) : Ctr Try.prog 48 [.c (.pt 0 0), .c (.v (.int .i64 k))] [owE e] (.tu []) [owE (heapE (holdLE (varsE e) k))] := by
  have ch := zm17 he hsz k
  obtain ⟨x0A, x0c, l, rfl, ⟨hl, hk⟩, -⟩ := zi1 he
  have hlen : l.length ≤ 1048576 := by simp only [E.sz, E.szL] at hsz; omega
  rw [show varsE (E.agg [.lst 4 46 x0A x0c l]) = l from rfl] at ch ⊢
  cases hb : heldLE l k with
  | false =>
    rw [hb] at ch
    rw [zv5 hb]
    refine zm1 Try.func48 rfl rfl ?_
    refine za3 (zr5 100 (i := 0) rfl rfl (pre := []) (post := []) rfl) ?_
    refine zd4 ?_
    repeat' (first | ((apply f_wo); first | ((apply f_mv); first | refine zv (v := .c _) ?_ | refine za ?_) | ((apply f_fa); first | refine n_fa ?_ | refine zz1 ?_) | ((apply f_ld); first | refine zu3 ?_ | refine zt2 ?_ | refine zy ?_ | refine zr1 ?_ | refine n_ld ?_) | ((apply f_ca); first | refine zj2 (ch) ?_ | refine ze2 (ch) ?_) | ((apply f_st); first | refine n_st ?_ | refine zk1 ?_) | ((apply f_ia); first | refine n_ix ?_ | refine zl2 ?_ | refine za ?_) | ((apply zq2); first | refine zu ?_ | refine zp2 ?_ | refine za ?_) | refine za ?_) | ((apply f_w); first | refine zt ?_ | refine zc ?_) | refine zb fun C => ?_ | refine zg ?_ | refine zd ?_ | refine ze ?_ | refine zf ?_ | refine zm rfl ?_ | refine zn rfl ?_)
    refine ⟨_, zi5 (i := 0) (j := 100) rfl rfl rfl (pre := []) (post := []) rfl, ?_⟩
    refine retL (x := .tu []) rfl rfl rfl ?_ rfl ⟨rfl, rfl⟩
    first | rfl | (simp [cloV, cloL, clo, zo, zk, zp, zj, zi]; done)
  | true =>
    rw [hb] at ch
    obtain ⟨i, r, v0, v1, v2, rfl, hlt, hx, hr, -⟩ := zc4 hl hb
    rw [zg5 hx hr]
    have hs1 : subL (owL l) (i * 4 + 0) 1 = [.v (.int .i64 r)] := zf6 hk hx (by omega)
    have hle : i * 4 + 0 + 1 ≤ (owL l).length := zw4 (j := 0) hk hlt (by omega)
    have e1 : spl (owL l) (i * 4 + 0) [.v (.int .i64 (IntKind.i64.wrap (r + 1)))] = owL (l.set i (.agg [.int .i64 (IntKind.i64.wrap (r + 1)), .agg [.int .i64 v0, .int .i64 v1, .str v2]])) := zv4 hk hx (by simp) rfl
    refine zm1 Try.func48 rfl rfl ?_
    refine za3 (zr5 100 (i := 0) rfl rfl (pre := []) (post := []) rfl) ?_
    refine zd4 ?_
    repeat' (first | ((apply f_wo); first | ((apply f_mv); first | refine zv (v := .c _) ?_ | refine za ?_) | ((apply f_fa); first | refine n_fa ?_ | refine zz1 ?_) | ((apply f_ld); first | refine zu3 ?_ | refine zt2 ?_ | refine zy ?_ | refine zr1 ?_ | refine n_ld ?_) | ((apply f_ca); first | refine zj2 (ch) ?_ | refine ze2 (ch) ?_) | ((apply f_st); first | refine n_st ?_ | refine zk1 ?_) | ((apply f_ia); first | refine n_ix ?_ | refine zl2 ?_ | refine za ?_) | ((apply zq2); first | refine zu ?_ | refine zp2 ?_ | refine za ?_) | refine za ?_) | ((apply f_w); first | refine zt ?_ | refine zc ?_) | refine zb fun C => ?_ | refine zg ?_ | refine zd ?_ | refine ze ?_ | refine zf ?_ | refine zm rfl ?_ | refine zn rfl ?_)
    refine ⟨_, zi5 (i := 0) (j := 100) rfl rfl rfl (pre := []) (post := []) rfl, ?_⟩
    refine retL (x := .tu []) (cs := [.ow 46 l.length 4 (spl (owL l) (i * 4 + 0) [.v (.int .i64 (IntKind.i64.wrap (r + 1)))])]) rfl rfl rfl ?_ rfl ⟨rfl, ?_⟩
    · rw [e1]; first | rfl | (simp [cloV, cloL, clo, zo, zk, zp, zj, zi]; done)
    · rw [e1]; simp [heapE, owE, owL]
theorem zt11 {e : E} (he : e.Ty Try.prog 39) (hsz : e.sz ≤ 1048576) (k : Int) : Ctr Try.prog 50 [.c (.pt 0 0), .c (.v (.int .i64 k))] [owE e] (.tu []) [owE (heapE (letLE (varsE e) k))] := by
  have ch := zu9 he hsz k
  obtain ⟨x0A, x0c, l, rfl, ⟨hl, hk⟩, -⟩ := zi1 he
  have hlen : l.length ≤ 1048576 := by simp only [E.sz, E.szL] at hsz; omega
  rw [show varsE (E.agg [.lst 4 46 x0A x0c l]) = l from rfl] at ch ⊢
  cases hb : heldLE l k with
  | false =>
    rw [hb] at ch
    rw [zr6 hb]
    refine zm1 Try.func50 rfl rfl ?_
    refine za3 (zr5 100 (i := 0) rfl rfl (pre := []) (post := []) rfl) ?_
    refine zd4 ?_
    repeat' (first | ((apply f_wo); first | ((apply f_mv); first | refine zv (v := .c _) ?_ | refine za ?_) | ((apply f_fa); first | refine n_fa ?_ | refine zz1 ?_) | ((apply f_ld); first | refine zu3 ?_ | refine zt2 ?_ | refine zy ?_ | refine zr1 ?_ | refine n_ld ?_) | ((apply f_ca); first | refine zj2 (ch) ?_ | refine ze2 (ch) ?_) | ((apply f_st); first | refine n_st ?_ | refine zk1 ?_) | ((apply f_ia); first | refine n_ix ?_ | refine zl2 ?_ | refine za ?_) | ((apply zk2); first | refine zg1 ?_ | refine za ?_) | ((apply f_no); first | refine zq7 ?_ | refine za ?_) | ((apply f_bb); first | refine zd1 ?_ | refine ze1 ?_ | refine za ?_) | refine za ?_) | ((apply f_w); first | refine zt ?_ | refine zc ?_) | ((apply d_wo); first | ((apply d_mv); refine zh ?_) | ((apply d_fa); first | refine o_fa ?_ | refine zl3 ?_) | ((apply d_ld); first | refine zm3 ?_ | refine za2 ?_ | refine zb2 ?_ | refine zn3 ?_ | refine zh ?_ | refine o_ld ?_) | ((apply d_ca); first | refine zg4 (ch) ?_) | ((apply d_st); first | refine o_st ?_ | refine zi3 ?_) | ((apply d_ia); first | refine o_ix ?_ | refine zj3 ?_ | refine zh ?_) | ((apply d_bb); first | refine za1 ?_ | refine zb1 ?_ | refine zc1 ?_ | refine zk3 ?_ | refine zh ?_) | refine zh ?_) | ((apply d_w); first | refine zt ?_ | refine zc ?_) | refine zb fun C => ?_ | refine zl (by kernel_rfl) (by kernel_rfl) fun C => ?_ | refine zg ?_ | refine zd ?_ | refine ze ?_ | refine zf ?_ | refine zm rfl ?_ | refine zn rfl ?_)
    refine zh1 ?_
    refine ⟨_, zi5 (i := 0) (j := 100) rfl rfl rfl (pre := []) (post := []) rfl, ?_⟩
    refine retL (x := .tu []) rfl rfl rfl ?_ rfl ⟨rfl, rfl⟩
    first | rfl | (simp [cloV, cloL, clo, zo, zk, zp, zj, zi]; done)
  | true =>
    rw [hb] at ch
    obtain ⟨i, r, v0, v1, v2, rfl, hlt, hx, hr, hr2⟩ := zc4 hl hb
    rw [zw5 hx hr]
    have hw : IntKind.i64.wrap (r - 1) = r - 1 := by rw [IntKind.wrap_i64]; omega
    have hs1 : subL (owL l) (i * 4 + 0) 1 = [.v (.int .i64 r)] := zf6 hk hx (by omega)
    have hle : i * 4 + 0 + 1 ≤ (owL l).length := zw4 (j := 0) hk hlt (by omega)
    have e1 : spl (owL l) (i * 4 + 0) [.v (.int .i64 (r - 1))] = owL (l.set i (.agg [.int .i64 (r - 1), .agg [.int .i64 v0, .int .i64 v1, .str v2]])) := zv4 hk hx (by simp) rfl
    have hk' : ∀ e ∈ l.set i (.agg [.int .i64 (r - 1), .agg [.int .i64 v0, .int .i64 v1, .str v2]]), e.enc.length = 4 := fun e he => by
      rcases List.mem_or_eq_of_mem_set he with h | rfl
      · exact hk e h
      · rfl
    have hx' : (l.set i (.agg [.int .i64 (r - 1), .agg [.int .i64 v0, .int .i64 v1, .str v2]]))[i]? = some (.agg [.int .i64 (r - 1), .agg [.int .i64 v0, .int .i64 v1, .str v2]]) := List.getElem?_set_self hlt
    have hs2 : subL (spl (owL l) (i * 4 + 0) [.v (.int .i64 (r - 1))]) (i * 4 + 0) 1 = [.v (.int .i64 (r - 1))] := by rw [e1]; exact zf6 hk' hx' (by omega)
    have hle2 : i * 4 + 1 + 3 ≤ (spl (owL l) (i * 4 + 0) [.v (.int .i64 (r - 1))]).length := by rw [e1]; exact zw4 (j := 1) hk' (by simpa using hlt) (by omega)
    have e2 : spl (spl (owL l) (i * 4 + 0) [.v (.int .i64 (r - 1))]) (i * 4 + 1) [.v (.int .i64 0), .v (.int .i64 0), .v (.string ByteArray.empty)] = owL (l.set i (.agg [.int .i64 (r - 1), zVal])) := by
      rw [e1, zv4 hk' hx' (x' := .agg [.int .i64 (r - 1), zVal]) (by simp) rfl, List.set_set]
    refine zm1 Try.func50 rfl rfl ?_
    refine za3 (zr5 100 (i := 0) rfl rfl (pre := []) (post := []) rfl) ?_
    refine zd4 ?_
    by_cases hz : r - 1 = 0
    · rw [if_pos hz]
      repeat' (first | ((apply f_wo); first | ((apply f_mv); first | refine zv (v := .c _) ?_ | refine za ?_) | ((apply f_fa); first | refine n_fa ?_ | refine zz1 ?_) | ((apply f_ld); first | refine zu3 ?_ | refine zt2 ?_ | refine zy ?_ | refine zr1 ?_ | refine n_ld ?_) | ((apply f_ca); first | refine zj2 (ch) ?_ | refine ze2 (ch) ?_) | ((apply f_st); first | refine n_st ?_ | refine zk1 ?_) | ((apply f_ia); first | refine n_ix ?_ | refine zl2 ?_ | refine za ?_) | ((apply zk2); first | refine zg1 ?_ | refine za ?_) | ((apply f_no); first | refine zq7 ?_ | refine za ?_) | ((apply f_bb); first | refine zd1 ?_ | refine ze1 ?_ | refine za ?_) | refine za ?_) | ((apply f_w); first | refine zt ?_ | refine zc ?_) | ((apply d_wo); first | ((apply d_mv); refine zh ?_) | ((apply d_fa); first | refine o_fa ?_ | refine zl3 ?_) | ((apply d_ld); first | refine zm3 ?_ | refine za2 ?_ | refine zb2 ?_ | refine zn3 ?_ | refine zh ?_ | refine o_ld ?_) | ((apply d_ca); first | refine zg4 (ch) ?_) | ((apply d_st); first | refine o_st ?_ | refine zi3 ?_) | ((apply d_ia); first | refine o_ix ?_ | refine zj3 ?_ | refine zh ?_) | ((apply d_bb); first | refine za1 ?_ | refine zb1 ?_ | refine zc1 ?_ | refine zk3 ?_ | refine zh ?_) | refine zh ?_) | ((apply d_w); first | refine zt ?_ | refine zc ?_) | refine zb fun C => ?_ | refine zl (by kernel_rfl) (by kernel_rfl) fun C => ?_ | refine zg ?_ | refine zd ?_ | refine ze ?_ | refine zf ?_ | refine zm rfl ?_ | refine zn rfl ?_)
      refine zq1 (by rfl) (fun hC => ?_) fun hC => absurd (ne_of_beq_false hC) (by omega)
      repeat' (first | ((apply f_wo); first | ((apply f_mv); first | refine zv (v := .c _) ?_ | refine za ?_) | ((apply f_fa); first | refine n_fa ?_ | refine zz1 ?_) | ((apply f_ld); first | refine zu3 ?_ | refine zt2 ?_ | refine zy ?_ | refine zr1 ?_ | refine n_ld ?_) | ((apply f_ca); first | refine zj2 (ch) ?_ | refine ze2 (ch) ?_) | ((apply f_st); first | refine n_st ?_ | refine zk1 ?_) | ((apply f_ia); first | refine n_ix ?_ | refine zl2 ?_ | refine za ?_) | ((apply zk2); first | refine zg1 ?_ | refine za ?_) | ((apply f_no); first | refine zq7 ?_ | refine za ?_) | ((apply f_bb); first | refine zd1 ?_ | refine ze1 ?_ | refine za ?_) | refine za ?_) | ((apply f_w); first | refine zt ?_ | refine zc ?_) | ((apply d_wo); first | ((apply d_mv); refine zh ?_) | ((apply d_fa); first | refine o_fa ?_ | refine zl3 ?_) | ((apply d_ld); first | refine zm3 ?_ | refine za2 ?_ | refine zb2 ?_ | refine zn3 ?_ | refine zh ?_ | refine o_ld ?_) | ((apply d_ca); first | refine zg4 (ch) ?_) | ((apply d_st); first | refine o_st ?_ | refine zi3 ?_) | ((apply d_ia); first | refine o_ix ?_ | refine zj3 ?_ | refine zh ?_) | ((apply d_bb); first | refine za1 ?_ | refine zb1 ?_ | refine zc1 ?_ | refine zk3 ?_ | refine zh ?_) | refine zh ?_) | ((apply d_w); first | refine zt ?_ | refine zc ?_) | refine zb fun C => ?_ | refine zl (by kernel_rfl) (by kernel_rfl) fun C => ?_ | refine zg ?_ | refine zd ?_ | refine ze ?_ | refine zf ?_ | refine zm rfl ?_ | refine zn rfl ?_)
      refine ⟨_, zi5 (i := 0) (j := 100) rfl rfl rfl (pre := []) (post := []) rfl, ?_⟩
      refine retL (x := .tu []) (cs := [.ow 46 l.length 4 (spl (spl (owL l) (i * 4 + 0) [.v (.int .i64 (r - 1))]) (i * 4 + 1) [.v (.int .i64 0), .v (.int .i64 0), .v (.string ByteArray.empty)])]) rfl rfl rfl ?_ rfl ⟨rfl, ?_⟩
      · rw [e2]; first | rfl | (simp [cloV, cloL, clo, zo, zk, zp, zj, zi]; done)
      · rw [e2]; simp [heapE, owE, owL]
    · rw [if_neg hz]
      repeat' (first | ((apply f_wo); first | ((apply f_mv); first | refine zv (v := .c _) ?_ | refine za ?_) | ((apply f_fa); first | refine n_fa ?_ | refine zz1 ?_) | ((apply f_ld); first | refine zu3 ?_ | refine zt2 ?_ | refine zy ?_ | refine zr1 ?_ | refine n_ld ?_) | ((apply f_ca); first | refine zj2 (ch) ?_ | refine ze2 (ch) ?_) | ((apply f_st); first | refine n_st ?_ | refine zk1 ?_) | ((apply f_ia); first | refine n_ix ?_ | refine zl2 ?_ | refine za ?_) | ((apply zk2); first | refine zg1 ?_ | refine za ?_) | ((apply f_no); first | refine zq7 ?_ | refine za ?_) | ((apply f_bb); first | refine zd1 ?_ | refine ze1 ?_ | refine za ?_) | refine za ?_) | ((apply f_w); first | refine zt ?_ | refine zc ?_) | ((apply d_wo); first | ((apply d_mv); refine zh ?_) | ((apply d_fa); first | refine o_fa ?_ | refine zl3 ?_) | ((apply d_ld); first | refine zm3 ?_ | refine za2 ?_ | refine zb2 ?_ | refine zn3 ?_ | refine zh ?_ | refine o_ld ?_) | ((apply d_ca); first | refine zg4 (ch) ?_) | ((apply d_st); first | refine o_st ?_ | refine zi3 ?_) | ((apply d_ia); first | refine o_ix ?_ | refine zj3 ?_ | refine zh ?_) | ((apply d_bb); first | refine za1 ?_ | refine zb1 ?_ | refine zc1 ?_ | refine zk3 ?_ | refine zh ?_) | refine zh ?_) | ((apply d_w); first | refine zt ?_ | refine zc ?_) | refine zb fun C => ?_ | refine zl (by kernel_rfl) (by kernel_rfl) fun C => ?_ | refine zg ?_ | refine zd ?_ | refine ze ?_ | refine zf ?_ | refine zm rfl ?_ | refine zn rfl ?_)
      refine zq1 (by rfl) (fun hC => absurd (eq_of_beq hC) hz) fun hC => ?_
      repeat' (first | ((apply f_wo); first | ((apply f_mv); first | refine zv (v := .c _) ?_ | refine za ?_) | ((apply f_fa); first | refine n_fa ?_ | refine zz1 ?_) | ((apply f_ld); first | refine zu3 ?_ | refine zt2 ?_ | refine zy ?_ | refine zr1 ?_ | refine n_ld ?_) | ((apply f_ca); first | refine zj2 (ch) ?_ | refine ze2 (ch) ?_) | ((apply f_st); first | refine n_st ?_ | refine zk1 ?_) | ((apply f_ia); first | refine n_ix ?_ | refine zl2 ?_ | refine za ?_) | ((apply zk2); first | refine zg1 ?_ | refine za ?_) | ((apply f_no); first | refine zq7 ?_ | refine za ?_) | ((apply f_bb); first | refine zd1 ?_ | refine ze1 ?_ | refine za ?_) | refine za ?_) | ((apply f_w); first | refine zt ?_ | refine zc ?_) | ((apply d_wo); first | ((apply d_mv); refine zh ?_) | ((apply d_fa); first | refine o_fa ?_ | refine zl3 ?_) | ((apply d_ld); first | refine zm3 ?_ | refine za2 ?_ | refine zb2 ?_ | refine zn3 ?_ | refine zh ?_ | refine o_ld ?_) | ((apply d_ca); first | refine zg4 (ch) ?_) | ((apply d_st); first | refine o_st ?_ | refine zi3 ?_) | ((apply d_ia); first | refine o_ix ?_ | refine zj3 ?_ | refine zh ?_) | ((apply d_bb); first | refine za1 ?_ | refine zb1 ?_ | refine zc1 ?_ | refine zk3 ?_ | refine zh ?_) | refine zh ?_) | ((apply d_w); first | refine zt ?_ | refine zc ?_) | refine zb fun C => ?_ | refine zl (by kernel_rfl) (by kernel_rfl) fun C => ?_ | refine zg ?_ | refine zd ?_ | refine ze ?_ | refine zf ?_ | refine zm rfl ?_ | refine zn rfl ?_)
      refine ⟨_, zi5 (i := 0) (j := 100) rfl rfl rfl (pre := []) (post := []) rfl, ?_⟩
      refine retL (x := .tu []) (cs := [.ow 46 l.length 4 (spl (owL l) (i * 4 + 0) [.v (.int .i64 (r - 1))])]) rfl rfl rfl ?_ rfl ⟨rfl, ?_⟩
      · rw [e1]; first | rfl | (simp [cloV, cloL, clo, zo, zk, zp, zj, zi]; done)
      · rw [e1]; simp [heapE, owE, owL]
theorem ze20 {e : E} (he : e.Ty Try.prog 39) (hsz : e.sz ≤ 1048576) (k : Int) : Ctr Try.prog 47 [.c (.pt 0 0), .c (.v (.int .i64 k))] [owE e] (.tu []) [owE (heapE (letLE (varsE e) k))] := by
  have ch := zm17 he hsz k
  obtain ⟨x0A, x0c, l, rfl, ⟨hl, hk⟩, -⟩ := zi1 he
  have hlen : l.length ≤ 1048576 := by simp only [E.sz, E.szL] at hsz; omega
  rw [show varsE (E.agg [.lst 4 46 x0A x0c l]) = l from rfl] at ch ⊢
  cases hb : heldLE l k with
  | false =>
    rw [hb] at ch
    rw [zr6 hb]
    refine zm1 Try.func47 rfl rfl ?_
    refine za3 (zr5 100 (i := 0) rfl rfl (pre := []) (post := []) rfl) ?_
    refine zd4 ?_
    repeat' (first | ((apply f_wo); first | ((apply f_mv); first | refine zv (v := .c _) ?_ | refine za ?_) | ((apply f_fa); first | refine n_fa ?_ | refine zz1 ?_) | ((apply f_ld); first | refine zu3 ?_ | refine zt2 ?_ | refine zy ?_ | refine zr1 ?_ | refine n_ld ?_) | ((apply f_ca); first | refine zj2 (ch) ?_ | refine ze2 (ch) ?_) | ((apply f_st); first | refine n_st ?_ | refine zk1 ?_) | ((apply f_ia); first | refine n_ix ?_ | refine zl2 ?_ | refine za ?_) | ((apply zk2); first | refine zg1 ?_ | refine za ?_) | ((apply f_no); first | refine zq7 ?_ | refine za ?_) | ((apply f_bb); first | refine zd1 ?_ | refine ze1 ?_ | refine za ?_) | refine za ?_) | ((apply f_w); first | refine zt ?_ | refine zc ?_) | refine zb fun C => ?_ | refine zg ?_ | refine zd ?_ | refine ze ?_ | refine zf ?_ | refine zm rfl ?_ | refine zn rfl ?_)
    refine zh1 ?_
    refine ⟨_, zi5 (i := 0) (j := 100) rfl rfl rfl (pre := []) (post := []) rfl, ?_⟩
    refine retL (x := .tu []) rfl rfl rfl ?_ rfl ⟨rfl, rfl⟩
    first | rfl | (simp [cloV, cloL, clo, zo, zk, zp, zj, zi]; done)
  | true =>
    rw [hb] at ch
    obtain ⟨i, r, v0, v1, v2, rfl, hlt, hx, hr, hr2⟩ := zc4 hl hb
    rw [zw5 hx hr]
    have hw : IntKind.i64.wrap (r - 1) = r - 1 := by rw [IntKind.wrap_i64]; omega
    have hs1 : subL (owL l) (i * 4 + 0) 1 = [.v (.int .i64 r)] := zf6 hk hx (by omega)
    have hle : i * 4 + 0 + 1 ≤ (owL l).length := zw4 (j := 0) hk hlt (by omega)
    have e1 : spl (owL l) (i * 4 + 0) [.v (.int .i64 (r - 1))] = owL (l.set i (.agg [.int .i64 (r - 1), .agg [.int .i64 v0, .int .i64 v1, .str v2]])) := zv4 hk hx (by simp) rfl
    have hk' : ∀ e ∈ l.set i (.agg [.int .i64 (r - 1), .agg [.int .i64 v0, .int .i64 v1, .str v2]]), e.enc.length = 4 := fun e he => by
      rcases List.mem_or_eq_of_mem_set he with h | rfl
      · exact hk e h
      · rfl
    have hx' : (l.set i (.agg [.int .i64 (r - 1), .agg [.int .i64 v0, .int .i64 v1, .str v2]]))[i]? = some (.agg [.int .i64 (r - 1), .agg [.int .i64 v0, .int .i64 v1, .str v2]]) := List.getElem?_set_self hlt
    have hs2 : subL (spl (owL l) (i * 4 + 0) [.v (.int .i64 (r - 1))]) (i * 4 + 0) 1 = [.v (.int .i64 (r - 1))] := by rw [e1]; exact zf6 hk' hx' (by omega)
    have hle2 : i * 4 + 1 + 3 ≤ (spl (owL l) (i * 4 + 0) [.v (.int .i64 (r - 1))]).length := by rw [e1]; exact zw4 (j := 1) hk' (by simpa using hlt) (by omega)
    have e2 : spl (spl (owL l) (i * 4 + 0) [.v (.int .i64 (r - 1))]) (i * 4 + 1) [.v (.int .i64 0), .v (.int .i64 0), .v (.string ByteArray.empty)] = owL (l.set i (.agg [.int .i64 (r - 1), zVal])) := by
      rw [e1, zv4 hk' hx' (x' := .agg [.int .i64 (r - 1), zVal]) (by simp) rfl, List.set_set]
    refine zm1 Try.func47 rfl rfl ?_
    refine za3 (zr5 100 (i := 0) rfl rfl (pre := []) (post := []) rfl) ?_
    refine zd4 ?_
    by_cases hz : r - 1 = 0
    · rw [if_pos hz]
      repeat' (first | ((apply f_wo); first | ((apply f_mv); first | refine zv (v := .c _) ?_ | refine za ?_) | ((apply f_fa); first | refine n_fa ?_ | refine zz1 ?_) | ((apply f_ld); first | refine zu3 ?_ | refine zt2 ?_ | refine zy ?_ | refine zr1 ?_ | refine n_ld ?_) | ((apply f_ca); first | refine zj2 (ch) ?_ | refine ze2 (ch) ?_) | ((apply f_st); first | refine n_st ?_ | refine zk1 ?_) | ((apply f_ia); first | refine n_ix ?_ | refine zl2 ?_ | refine za ?_) | ((apply zk2); first | refine zg1 ?_ | refine za ?_) | ((apply f_no); first | refine zq7 ?_ | refine za ?_) | ((apply f_bb); first | refine zd1 ?_ | refine ze1 ?_ | refine za ?_) | refine za ?_) | ((apply f_w); first | refine zt ?_ | refine zc ?_) | refine zb fun C => ?_ | refine zg ?_ | refine zd ?_ | refine ze ?_ | refine zf ?_ | refine zm rfl ?_ | refine zn rfl ?_)
      refine zq1 (by rfl) (fun hC => ?_) fun hC => absurd (ne_of_beq_false hC) (by omega)
      repeat' (first | ((apply f_wo); first | ((apply f_mv); first | refine zv (v := .c _) ?_ | refine za ?_) | ((apply f_fa); first | refine n_fa ?_ | refine zz1 ?_) | ((apply f_ld); first | refine zu3 ?_ | refine zt2 ?_ | refine zy ?_ | refine zr1 ?_ | refine n_ld ?_) | ((apply f_ca); first | refine zj2 (ch) ?_ | refine ze2 (ch) ?_) | ((apply f_st); first | refine n_st ?_ | refine zk1 ?_) | ((apply f_ia); first | refine n_ix ?_ | refine zl2 ?_ | refine za ?_) | ((apply zk2); first | refine zg1 ?_ | refine za ?_) | ((apply f_no); first | refine zq7 ?_ | refine za ?_) | ((apply f_bb); first | refine zd1 ?_ | refine ze1 ?_ | refine za ?_) | refine za ?_) | ((apply f_w); first | refine zt ?_ | refine zc ?_) | refine zb fun C => ?_ | refine zg ?_ | refine zd ?_ | refine ze ?_ | refine zf ?_ | refine zm rfl ?_ | refine zn rfl ?_)
      refine ⟨_, zi5 (i := 0) (j := 100) rfl rfl rfl (pre := []) (post := []) rfl, ?_⟩
      refine retL (x := .tu []) (cs := [.ow 46 l.length 4 (spl (spl (owL l) (i * 4 + 0) [.v (.int .i64 (r - 1))]) (i * 4 + 1) [.v (.int .i64 0), .v (.int .i64 0), .v (.string ByteArray.empty)])]) rfl rfl rfl ?_ rfl ⟨rfl, ?_⟩
      · rw [e2]; first | rfl | (simp [cloV, cloL, clo, zo, zk, zp, zj, zi]; done)
      · rw [e2]; simp [heapE, owE, owL]
    · rw [if_neg hz]
      repeat' (first | ((apply f_wo); first | ((apply f_mv); first | refine zv (v := .c _) ?_ | refine za ?_) | ((apply f_fa); first | refine n_fa ?_ | refine zz1 ?_) | ((apply f_ld); first | refine zu3 ?_ | refine zt2 ?_ | refine zy ?_ | refine zr1 ?_ | refine n_ld ?_) | ((apply f_ca); first | refine zj2 (ch) ?_ | refine ze2 (ch) ?_) | ((apply f_st); first | refine n_st ?_ | refine zk1 ?_) | ((apply f_ia); first | refine n_ix ?_ | refine zl2 ?_ | refine za ?_) | ((apply zk2); first | refine zg1 ?_ | refine za ?_) | ((apply f_no); first | refine zq7 ?_ | refine za ?_) | ((apply f_bb); first | refine zd1 ?_ | refine ze1 ?_ | refine za ?_) | refine za ?_) | ((apply f_w); first | refine zt ?_ | refine zc ?_) | refine zb fun C => ?_ | refine zg ?_ | refine zd ?_ | refine ze ?_ | refine zf ?_ | refine zm rfl ?_ | refine zn rfl ?_)
      refine zq1 (by rfl) (fun hC => absurd (eq_of_beq hC) hz) fun hC => ?_
      repeat' (first | ((apply f_wo); first | ((apply f_mv); first | refine zv (v := .c _) ?_ | refine za ?_) | ((apply f_fa); first | refine n_fa ?_ | refine zz1 ?_) | ((apply f_ld); first | refine zu3 ?_ | refine zt2 ?_ | refine zy ?_ | refine zr1 ?_ | refine n_ld ?_) | ((apply f_ca); first | refine zj2 (ch) ?_ | refine ze2 (ch) ?_) | ((apply f_st); first | refine n_st ?_ | refine zk1 ?_) | ((apply f_ia); first | refine n_ix ?_ | refine zl2 ?_ | refine za ?_) | ((apply zk2); first | refine zg1 ?_ | refine za ?_) | ((apply f_no); first | refine zq7 ?_ | refine za ?_) | ((apply f_bb); first | refine zd1 ?_ | refine ze1 ?_ | refine za ?_) | refine za ?_) | ((apply f_w); first | refine zt ?_ | refine zc ?_) | refine zb fun C => ?_ | refine zg ?_ | refine zd ?_ | refine ze ?_ | refine zf ?_ | refine zm rfl ?_ | refine zn rfl ?_)
      refine ⟨_, zi5 (i := 0) (j := 100) rfl rfl rfl (pre := []) (post := []) rfl, ?_⟩
      refine retL (x := .tu []) (cs := [.ow 46 l.length 4 (spl (owL l) (i * 4 + 0) [.v (.int .i64 (r - 1))])]) rfl rfl rfl ?_ rfl ⟨rfl, ?_⟩
      · rw [e1]; first | rfl | (simp [cloV, cloL, clo, zo, zk, zp, zj, zi]; done)
      · rw [e1]; simp [heapE, owE, owL]
theorem zm18 (l : List E) (v : E) : E.szL (allL l v) ≤ E.szL l + v.sz ∧ (allL l v).length ≤ l.length + 1 := by
  unfold allL
  split
  · rename_i k hk
    have h1 := zz7 l k (.agg [.int .i64 1, v])
    simp only [E.sz, E.szL, List.length_set] at h1 ⊢
    omega
  · rw [E.szL_app]
    simp only [E.sz, E.szL, List.length_append, List.length_cons, List.length_nil]
    omega
def cellD (r a b : Int) (s : ByteArray) : E := .agg [.int .i64 r, .agg [.int .i64 a, .int .i64 b, .str s]]
def CellOk (x : E) : Prop := ∃ (r a b : Int) (s : ByteArray), I64 r ∧ VOk a b s ∧ x = cellD r a b s
def HOk (n : Nat) (l : List E) : Prop := l.length ≤ n ∧ ∀ x ∈ l, CellOk x
theorem wf64 {z : Int} (h : I64 z) : (Lit.int .i64 z).wf = true := by
  unfold I64 at h
  simp [Lit.wf, IntKind.min, IntKind.max, IntKind.bits, IntKind.signed]
  omega
theorem VOk.ty {a b : Int} {s : ByteArray} (h : VOk a b s) : (E.agg [.int .i64 a, .int .i64 b, .str s]).Ty Try.prog 29 :=
  E.Ty.mk_agg Try.underlying29 (E.TyF.mk_cons (by simp only [E.Ty]; exact ⟨Try.underlying3, wf64 h.1⟩) (E.TyF.mk_cons (by simp only [E.Ty]; exact ⟨Try.underlying3, wf64 h.2.1⟩) (E.TyF.mk_cons (by simp only [E.Ty]; exact ⟨Try.underlying9, by have := h.2.2; unfold maxLen; omega⟩) E.TyF.mk_nil)))
theorem CellOk.ty {x : E} (h : CellOk x) : x.Ty Try.prog 46 ∧ x.enc.length = 4 ∧ x.sz ≤ 201 := by
  obtain ⟨r, a, b, s, hr, hv, rfl⟩ := h
  refine ⟨E.Ty.mk_agg Try.underlying46 (E.TyF.mk_cons (by simp only [E.Ty]; exact ⟨Try.underlying3, wf64 hr⟩) (E.TyF.mk_cons hv.ty E.TyF.mk_nil)), rfl, ?_⟩
  simp only [cellD, E.sz, E.szL]
  have := hv.2.2; omega
theorem zk19 {l : List E} {m : Nat} (h : ∀ x ∈ l, x.sz ≤ m) : E.szL l ≤ l.length * m := by
  induction l with
  | nil => simp [E.szL]
  | cons x r ih =>
    have h1 := h x List.mem_cons_self
    have h2 := ih fun y hy => h y (List.mem_cons_of_mem _ hy)
    simp only [E.szL, List.length_cons, Nat.succ_mul]; omega
theorem HOk.ty {n : Nat} {l : List E} (h : HOk n l) : (heapE l).Ty Try.prog 39 :=
  E.Ty.mk_agg Try.underlying39 (E.TyF.mk_cons (E.Ty.mk_lst Try.underlying37 (by kernel_rfl) (fun y hy => (h.2 y hy).ty.1) (fun y hy => (h.2 y hy).ty.2.1)) E.TyF.mk_nil)
theorem HOk.sz {n : Nat} {l : List E} (h : HOk n l) (hn : n ≤ 1000) : (heapE l).sz ≤ 1048576 := by
  have h1 := zk19 fun x hx => (h.2 x hx).ty.2.2
  have h2 := h.1
  simp only [heapE, E.sz, E.szL]; omega
theorem HOk.all {n : Nat} {l : List E} (h : HOk n l) {a b : Int} {s : ByteArray} (hv : VOk a b s) : HOk (n + 1) (allL l (.agg [.int .i64 a, .int .i64 b, .str s])) := by
  have hn : CellOk (.agg [.int .i64 1, .agg [.int .i64 a, .int .i64 b, .str s]]) := ⟨1, a, b, s, by unfold I64; decide, hv, rfl⟩
  refine ⟨by have := (zm18 l (.agg [.int .i64 a, .int .i64 b, .str s])).2; have := h.1; omega, fun x hx => ?_⟩
  unfold allL at hx
  split at hx
  · rcases List.mem_or_eq_of_mem_set hx with h1 | rfl
    · exact h.2 x h1
    · exact hn
  · rcases List.mem_append.1 hx with h1 | h1
    · exact h.2 x h1
    · rw [List.mem_singleton] at h1; subst h1; exact hn
theorem HOk.set {n : Nat} {l : List E} (h : HOk n l) {i : Nat} {x : E} (hx : CellOk x) : HOk n (l.set i x) := by
  refine ⟨by rw [List.length_set]; exact h.1, fun y hy => ?_⟩
  rcases List.mem_or_eq_of_mem_set hy with h1 | rfl
  · exact h.2 y h1
  · exact hx
theorem HOk.hold {n : Nat} {l : List E} (h : HOk n l) (k : Int) : HOk n (holdLE l k) := by
  cases hb : heldLE l k with
  | false => rw [zv5 hb]; exact h
  | true =>
    obtain ⟨i, r, v0, v1, v2, rfl, hlt, hx, hr, hr2⟩ := zc4 (fun y hy => (h.2 y hy).ty.1) hb
    rw [zg5 hx hr]
    obtain ⟨r', a, b, s, h1, h2, e⟩ := h.2 _ (List.mem_of_getElem? hx)
    simp only [cellD, E.agg.injEq, List.cons.injEq, E.int.injEq, E.str.injEq, true_and, and_true] at e
    obtain ⟨rfl, rfl, rfl, rfl⟩ := e
    refine h.set ⟨_, _, _, _, ?_, h2, rfl⟩
    unfold I64; rw [IntKind.wrap_i64]; omega
theorem HOk.let_ {n : Nat} {l : List E} (h : HOk n l) (k : Int) : HOk n (letLE l k) := by
  cases hb : heldLE l k with
  | false => rw [zr6 hb]; exact h
  | true =>
    obtain ⟨i, r, v0, v1, v2, rfl, hlt, hx, hr, hr2⟩ := zc4 (fun y hy => (h.2 y hy).ty.1) hb
    rw [zw5 hx hr]
    obtain ⟨r', a, b, s, h1, h2, e⟩ := h.2 _ (List.mem_of_getElem? hx)
    simp only [cellD, E.agg.injEq, List.cons.injEq, E.int.injEq, E.str.injEq, true_and, and_true] at e
    obtain ⟨rfl, rfl, rfl, rfl⟩ := e
    refine h.set ?_
    split
    · exact ⟨_, 0, 0, ByteArray.empty, by unfold I64; omega, ⟨by unfold I64; decide, by unfold I64; decide, by decide⟩, rfl⟩
    · exact ⟨_, _, _, _, by unfold I64; omega, h2, rfl⟩
def StepH (cs : List AC) (l : List E) (cs' : List AC) (l' : List E) : Prop := ∃ (k : Nat) (cs1 : List AC), Curs cs1 ∧ Ctr Try.prog 82 [.c (.pt 0 0), .c (.v (.int .i64 4))] [cs] (.c (.v (.int .i64 (k : Int)))) [cs1] ∧
  (((k = 0 ∨ k = 1) ∧ ∃ (a b : Int) (s : ByteArray), VOk a b s ∧ Ctr Try.prog 84 [.c (.pt 0 0)] [cs1] (.ag [.v (.int .i64 a), .v (.int .i64 b), .v (.string s)]) [cs'] ∧ l' = allL l (.agg [.int .i64 a, .int .i64 b, .str s])) ∨
   ((k = 2 ∨ k = 3) ∧ ∃ q : Nat, Ctr Try.prog 82 [.c (.pt 0 0), .c (.v (.int .i64 4))] [cs1] (.c (.v (.int .i64 (q : Int)))) [cs'] ∧ l' = if k = 2 then holdLE l q else letLE l q))
def RH : Nat → List AC → List E → List AC → List E → Prop
  | 0, cs, l, cs', l' => Curs cs ∧ HOk 8 l ∧ cs' = cs ∧ l' = l
  | n + 1, cs, l, cs', l' => Curs cs ∧ HOk 8 l ∧ ∃ cs1 l1, StepH cs l cs1 l1 ∧ RH n cs1 l1 cs' l'
theorem zl19 : ∀ (n m : Nat) (cs : List AC) (l : List E), Curs cs → HOk m l → m + n ≤ 8 → ∃ cs' l', Curs cs' ∧ HOk 8 l' ∧ RH n cs l cs' l'
  | 0, m, cs, l, hc, hl, hm => ⟨cs, l, hc, ⟨by have := hl.1; omega, hl.2⟩, hc, ⟨by have := hl.1; omega, hl.2⟩, rfl, rfl⟩
  | n + 1, m, cs, l, hc, hl, hm => by
    have h8 : HOk 8 l := ⟨by have := hl.1; omega, hl.2⟩
    obtain ⟨k, cs1, h1, hk, c1⟩ := zr2 hc 4 (by decide)
    have hk4 : k = 0 ∨ k = 1 ∨ k = 2 ∨ k = 3 := by omega
    have hst : ∃ cs2 l2, Curs cs2 ∧ HOk (m + 1) l2 ∧ StepH cs l cs2 l2 := by
      rcases (show (k = 0 ∨ k = 1) ∨ (k = 2 ∨ k = 3) by omega) with h | h
      · obtain ⟨a, b, s, cs2, h2, hv, c2⟩ := zs11 h1
        exact ⟨cs2, _, h2, hl.all hv, k, cs1, h1, c1, .inl ⟨h, a, b, s, hv, c2, rfl⟩⟩
      · obtain ⟨q, cs2, h2, hq, c2⟩ := zr2 h1 4 (by decide)
        refine ⟨cs2, _, h2, ?_, k, cs1, h1, c1, .inr ⟨h, q, c2, rfl⟩⟩
        split
        · exact ⟨by have := (hl.hold q).1; omega, (hl.hold q).2⟩
        · exact ⟨by have := (hl.let_ q).1; omega, (hl.let_ q).2⟩
    obtain ⟨cs2, l2, h2, h3, h4⟩ := hst
    obtain ⟨cs', l', h5, h6, h7⟩ := zl19 n (m + 1) cs2 l2 h2 h3 (by omega)
    exact ⟨cs', l', h5, h6, hc, h8, cs2, l2, h4, h7⟩
end Go.Proofs.Ytghljnfbbaklnaa
