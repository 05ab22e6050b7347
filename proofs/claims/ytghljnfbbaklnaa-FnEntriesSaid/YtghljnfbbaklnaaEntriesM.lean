/- Alloc of both sides, over data with places. -/
import Derived.Test.YtghljnfbbaklnaaEntriesL
namespace Go.Proofs.Ytghljnfbbaklnaa
open Go.RowKit
theorem zk20 (l : List E) (v : E) : E.szL (allL l v) ≤ E.szL l + v.sz ∧ (allL l v).length ≤ l.length + 1 := by
  unfold allL
  split
  · rename_i k hk
    have h1 := zx8 l k (.agg [.int .i64 1, v])
    simp only [E.sz, E.szL, List.length_set] at h1 ⊢
    omega
  · rw [E.szL_app]
    simp only [E.sz, E.szL, List.length_append, List.length_cons, List.length_nil]
    omega
set_option maxRecDepth 100000
def cellD (r a b : Int) (s : ByteArray) : E := .agg [.int .i64 r, .agg [.int .i64 a, .int .i64 b, .str s]]
def CellOk (x : E) : Prop := ∃ (r a b : Int) (s : ByteArray), I64 r ∧ VOk a b s ∧ x = cellD r a b s
def HOk (n : Nat) (l : List E) : Prop := l.length ≤ n ∧ ∀ x ∈ l, CellOk x
theorem wf64 {z : Int} (h : I64 z) : (Lit.int .i64 z).wf = true := by
  unfold I64 at h
  simp [Lit.wf, IntKind.min, IntKind.max, IntKind.bits, IntKind.signed]
  omega
theorem VOk.ty {a b : Int} {s : ByteArray} (h : VOk a b s) : (E.agg [.int .i64 a, .int .i64 b, .str s]).Ty Try.prog 29 :=
  E.Ty.mk_agg Try.underlying29 (E.TyF.mk_cons (by simp only [E.Ty]; exact ⟨Try.underlying3, wf64 h.1⟩) (E.TyF.mk_cons (by simp only [E.Ty]; exact ⟨Try.underlying3, wf64 h.2.1⟩) (E.TyF.mk_cons (by simp only [E.Ty]; exact ⟨Try.underlying9, by have := h.2.2; unfold maxLen; omega⟩) E.TyF.mk_nil)))
theorem CellOk.ty {x : E} (h : CellOk x) : x.Ty Try.prog 46 ∧ x.enc.length = 4 ∧ x.sz ≤ 201 := by
  obtain ⟨r, a, b, s, hr, hv, rfl⟩ := h
  refine ⟨E.Ty.mk_agg Try.underlying46 (E.TyF.mk_cons (by simp only [E.Ty]; exact ⟨Try.underlying3, wf64 hr⟩) (E.TyF.mk_cons hv.ty E.TyF.mk_nil)), rfl, ?_⟩
  simp only [cellD, E.sz, E.szL]
  have := hv.2.2; omega
theorem zt12 {l : List E} {m : Nat} (h : ∀ x ∈ l, x.sz ≤ m) : E.szL l ≤ l.length * m := by
  induction l with
  | nil => simp [E.szL]
  | cons x r ih =>
    have h1 := h x List.mem_cons_self
    have h2 := ih fun y hy => h y (List.mem_cons_of_mem _ hy)
    simp only [E.szL, List.length_cons, Nat.succ_mul]; omega
theorem HOk.ty {n : Nat} {l : List E} (h : HOk n l) : (heapE l).Ty Try.prog 39 :=
  E.Ty.mk_agg Try.underlying39 (E.TyF.mk_cons (E.Ty.mk_lst Try.underlying37 (by kernel_rfl) (fun y hy => (h.2 y hy).ty.1) (fun y hy => (h.2 y hy).ty.2.1)) E.TyF.mk_nil)
theorem HOk.sz {n : Nat} {l : List E} (h : HOk n l) (hn : n ≤ 1000) : (heapE l).sz ≤ 1048576 := by
  have h1 := zt12 fun x hx => (h.2 x hx).ty.2.2
  have h2 := h.1
  simp only [heapE, E.sz, E.szL]; omega
theorem HOk.all {n : Nat} {l : List E} (h : HOk n l) {a b : Int} {s : ByteArray} (hv : VOk a b s) : HOk (n + 1) (allL l (.agg [.int .i64 a, .int .i64 b, .str s])) := by
  have hn : CellOk (.agg [.int .i64 1, .agg [.int .i64 a, .int .i64 b, .str s]]) := ⟨1, a, b, s, by unfold I64; decide, hv, rfl⟩
  refine ⟨by have := (zk20 l (.agg [.int .i64 a, .int .i64 b, .str s])).2; have := h.1; omega, fun x hx => ?_⟩
  unfold allL at hx
  split at hx
  · rcases List.mem_or_eq_of_mem_set hx with h1 | rfl
    · exact h.2 x h1
    · exact hn
  · rcases List.mem_append.1 hx with h1 | h1
    · exact h.2 x h1
    · rw [List.mem_singleton] at h1; subst h1; exact hn
theorem HOk.set {n : Nat} {l : List E} (h : HOk n l) {i : Nat} {x : E} (hx : CellOk x) : HOk n (l.set i x) := by
  refine ⟨by rw [List.length_set]; exact h.1, fun y hy => ?_⟩
  rcases List.mem_or_eq_of_mem_set hy with h1 | rfl
  · exact h.2 y h1
  · exact hx
theorem HOk.hold {n : Nat} {l : List E} (h : HOk n l) (k : Int) : HOk n (holdLE l k) := by
  cases hb : heldLE l k with
  | false => rw [zj16 hb]; exact h
  | true =>
    obtain ⟨i, r, v0, v1, v2, rfl, hlt, hx, hr, hr2⟩ := zy17 (fun y hy => (h.2 y hy).ty.1) hb
    rw [zo13 hx hr]
    obtain ⟨r', a, b, s, h1, h2, e⟩ := h.2 _ (List.mem_of_getElem? hx)
    simp only [cellD, E.agg.injEq, List.cons.injEq, E.int.injEq, E.str.injEq, true_and, and_true] at e
    obtain ⟨rfl, rfl, rfl, rfl⟩ := e
    refine h.set ⟨_, _, _, _, ?_, h2, rfl⟩
    unfold I64; rw [IntKind.wrap_i64]; omega
theorem zz8 {e : E} (h : e.Ty Try.prog 34) : flatE e = true := by
  obtain ⟨y0, y1, y2, y3, rfl, _⟩ := zm7 h; rfl
theorem za9 {e : E} (h : e.Ty Try.prog 82) : flatE e = true := by
  obtain ⟨y0, y1, y2, y3, rfl, _⟩ := zh3 h; rfl
theorem zk16 {e : E} (he : e.Ty Try.prog 27) (hsz : e.sz ≤ 1048576) : Ctr Try.prog 42 [.ag (acE e)] [] (.ag (owE e)) [] := by
  obtain ⟨x0A, x0c, l, x1A, x1c, l2, rfl, ⟨hl, hk⟩, ⟨hl2, hk2⟩, -⟩ := zz2 he
  have hlen : l.length ≤ 1048576 := by simp only [E.sz, E.szL] at hsz; omega
  have hlen2 : l2.length ≤ 1048576 := by simp only [E.sz, E.szL] at hsz; omega
  refine zt1 Try.func42 rfl rfl ?_
  repeat (first | refine zi ?_ | refine ze ?_ | refine zg ?_ | refine zh ?_ | refine zq ?_ | refine za fun C => ?_ | refine zf (by kernel_rfl) (by kernel_rfl) fun C => ?_ | refine zd ?_ | refine zf1 ?_ | refine x_bs ?_ | refine x_gr ?_ | refine x_st ?_ | refine x_mv ?_ | refine x_sk ?_ | refine zh1 ?_ | refine x_ix ?_ | refine zi1 ?_ | refine zj1 ?_ | refine zg1 ?_ | refine zt ?_ | refine x_ld ?_)
  have fl : acL l = owL l := zl6 l (zz6 fun e h => zz8 (hl e h))
  refine zp3 (fun k : Nat => ⟨tmsF [(1, .c (.pt 1 0)), (2, .c (.pt 2 0)), (3, .c (.pt 3 0)), (4, .c (.v (.int .i64 k)))], hpsF [(1, 1, ⟨27, 0, 0, true, [.ro l.length 4 (acL l), .ro l2.length 2 (acL l2)]⟩), (2, 2, ⟨27, 0, 0, true, [.v (.slice none 0 0), .v (.slice none 0 0)]⟩), (3, 3, ⟨27, 0, 0, true, [.sl 8 l.length, .sl 9 k]⟩), (8, 8, ⟨34, 4, l.length, false, owL l⟩), (9, 9, ⟨80, 2, k, false, owL (l2.take k)⟩)], 0, [1, 2, 3, 8, 9], 38⟩)
    (fun N k => k + N = l2.length) l2.length 0 (by omega) ?_ ?_
  · refine (zg21 9 (i := 3) 80 2 rfl rfl (pre := [_]) (post := []) rfl).trans ?_
    (refine zx2 _ _ rfl rfl ?_ ?_ <;> (repeat' (first | exact TmOk.nil | exact RwOk.nil | refine TmOk.cons ?_ ?_ | refine RwOk.cons ?_ ?_ | rfl | (refine rnV_id' rfl ?_; (first | rfl | (simp [cloV, cloL, clo, zo, zn, zp, zl, zk]; done))) | (refine zf3 ?_; first | rfl | omega | (rw [zx1 (by omega) (by omega)]; omega)) | (refine zb2 rfl ?_; (first | rfl | (simp [cloV, cloL, clo, zo, zn, zp, zl, zk]; done))) | exact zl4 rfl rfl | (refine ze4 (by rfl) (by rfl) ?_ ?_ <;> (first | rfl | (simp [cloV, cloL, clo, zo, zn, zp, zl, zk]; done))) | (refine rw_rn' rfl rfl ?_; simp; done))))
    exact zo15 rfl (by rw [← fl]) (by first | rfl | (simp [cloV, cloL, clo, zo, zn, zp, zl, zk]; done))
  rintro N k hN
  repeat (first | refine zi ?_ | refine ze ?_ | refine zg ?_ | refine zh ?_ | refine zq ?_ | refine za fun C => ?_ | refine zf (by kernel_rfl) (by kernel_rfl) fun C => ?_ | refine zd ?_ | refine zf1 ?_ | refine x_bs ?_ | refine x_gr ?_ | refine x_st ?_ | refine x_mv ?_ | refine x_sk ?_ | refine zh1 ?_ | refine x_ix ?_ | refine zi1 ?_ | refine zj1 ?_ | refine zg1 ?_ | refine zt ?_ | refine x_ld ?_)
  refine zn1 (by rfl) (fun h1 => ?_) fun h1 => ?_
  · have hk' : k < l2.length := by simpa using h1
    obtain ⟨x, hx⟩ : ∃ x, l2[k]? = some x := ⟨_, List.getElem?_eq_getElem hk'⟩
    obtain ⟨y0, y1A, y1c, y1, rfl, hy0, ⟨hy1, hy1k⟩, -⟩ := zh2 (hl2 x (List.mem_of_getElem? hx))
    have hy1l : y1.length ≤ 1048576 := by
      have := E.szL_mem (List.mem_of_getElem? hx)
      simp only [E.sz, E.szL] at hsz this; omega
    have fl1 : acL y1 = owL y1 := zl6 y1 (zz6 fun e h => za9 (hy1 e h))
    repeat (first | refine zi ?_ | refine ze ?_ | refine zg ?_ | refine zh ?_ | refine zq ?_ | refine za fun C => ?_ | refine zf (by kernel_rfl) (by kernel_rfl) fun C => ?_ | refine zd ?_ | refine zf1 ?_ | refine x_bs ?_ | refine x_gr ?_ | refine x_st ?_ | refine x_mv ?_ | refine x_sk ?_ | refine zh1 ?_ | refine x_ix ?_ | refine zi1 ?_ | refine zj1 ?_ | refine zg1 ?_ | refine zt ?_ | refine x_ld ?_)
    refine ⟨N - 1, k + 1, by omega, by omega, ?_⟩
    refine (zn9 (i := 35) (j := 32) rfl rfl rfl rfl rfl (pre := owL (l2.take k) ++ [.v (.string y0)]) (post := []) (by rw [List.append_assoc]; rfl)).trans ?_
    (refine zg12 (fun j => if j = 9 then 35 else j) _ _ rfl rfl ?_ ?_ <;> (repeat' (first | exact TmOk.nil | exact RwOk.nil | refine TmOk.cons ?_ ?_ | refine RwOk.cons ?_ ?_ | rfl | (refine rnV_id' rfl ?_; (first | rfl | (simp [cloV, cloL, clo, zo, zn, zp, zl, zk]; done))) | (refine zf3 ?_; first | rfl | omega | (rw [zx1 (by omega) (by omega)]; omega)) | (refine zb2 rfl ?_; (first | rfl | (simp [cloV, cloL, clo, zo, zn, zp, zl, zk]; done))) | exact zl4 rfl rfl | (refine ze4 (by rfl) (by rfl) ?_ ?_ <;> (first | rfl | (simp [cloV, cloL, clo, zo, zn, zp, zl, zk]; done))) | (refine rw_rn' rfl rfl ?_; simp; done))))
    exact zo15 (r := ⟨80, 2, k + 1, false, (owL (l2.take k) ++ [.v (.string y0)]) ++ [.ow 82 y1.length 4 (acL y1)]⟩) rfl (by rw [zy5 hx, fl1, List.append_assoc]; rfl) (by first | rfl | (simp [cloV, cloL, clo, zo, zn, zp, zl, zk]; done))
  · have hk' : ¬ k < l2.length := by simpa using h1
    repeat (first | refine zi ?_ | refine ze ?_ | refine zg ?_ | refine zh ?_ | refine zq ?_ | refine za fun C => ?_ | refine zf (by kernel_rfl) (by kernel_rfl) fun C => ?_ | refine zd ?_ | refine zf1 ?_ | refine x_bs ?_ | refine x_gr ?_ | refine x_st ?_ | refine x_mv ?_ | refine x_sk ?_ | refine zh1 ?_ | refine x_ix ?_ | refine zi1 ?_ | refine zj1 ?_ | refine zg1 ?_ | refine zt ?_ | refine x_ld ?_)
    obtain rfl : k = l2.length := by omega
    refine ret0 (x := .ag [.ow 34 l.length 4 (owL l), .ow 80 l2.length 2 (owL (l2.take l2.length))]) rfl (zr3 (ze3 (rw := ⟨34, 4, l.length, false, owL l⟩) rfl rfl rfl (zl _) (ze3 (rw := ⟨80, 2, l2.length, false, owL (l2.take l2.length)⟩) rfl rfl rfl (zl _) zl2))) ⟨?_, rfl⟩
    rw [List.take_length]; rfl
set_option maxRecDepth 100000
theorem zp13 {x : E} (hx : x.Ty Try.prog 82) (s : ByteArray) : Ctr Try.prog 99 [.ag (acE x), .c (.pt 0 0)] [[.v (.string s)]] (.c (.v (.bool (isNm s x)))) [[.v (.string s)]] := by
  obtain ⟨y0, y1, y2, y3, rfl, hy⟩ := zh3 hx
  refine zt1 Try.func99 rfl rfl ?_
  repeat (first | refine zi ?_ | refine ze ?_ | refine zg ?_ | refine zh ?_ | refine zq ?_ | refine za fun C => ?_ | refine zf (by kernel_rfl) (by kernel_rfl) fun C => ?_ | refine zd ?_ | refine zf1 ?_ | refine x_bs ?_ | refine x_gr ?_ | refine x_st ?_ | refine x_mv ?_ | refine x_sk ?_ | refine zh1 ?_ | refine x_ix ?_ | refine zi1 ?_ | refine zj1 ?_ | refine zg1 ?_ | refine zt ?_ | refine x_ld ?_)
  exact ret1 (x := .c (.v (.bool (y0.toList == s.toList)))) (rw := ⟨0, 0, 0, true, [.v (.string s)]⟩) rfl rfl rfl rfl rfl ⟨rfl, rfl⟩
theorem zq13 {l : List E} (hl : ∀ e ∈ l, e.Ty Try.prog 82) (hk : ∀ e ∈ l, e.enc.length = 4) (s : ByteArray) (hlen : l.length ≤ 1073741824) : Ctr Try.prog 98 [.c (.ro l.length 4 (acL l)), .c (.fn 99 [.pt 0 0])] [[.v (.string s)]] (.c (.v (.int .i64 (idxF (isNm s) l)))) [[.v (.string s)]] := by
  refine zt1 Try.func98 rfl rfl ?_
  repeat (first | refine zi ?_ | refine ze ?_ | refine zg ?_ | refine zh ?_ | refine zq ?_ | refine za fun C => ?_ | refine zf (by kernel_rfl) (by kernel_rfl) fun C => ?_ | refine zd ?_ | refine zf1 ?_ | refine x_bs ?_ | refine x_gr ?_ | refine x_st ?_ | refine x_mv ?_ | refine x_sk ?_ | refine zh1 ?_ | refine x_ix ?_ | refine zi1 ?_ | refine zj1 ?_ | refine zg1 ?_ | refine zt ?_ | refine x_ld ?_)
  refine zp3 (fun k : Nat => ⟨tmsF [(0, .c (.ro l.length 4 (acL l))), (1, .c (.fn 99 [.pt 0 0])), (7, .c (.v (.int .i64 l.length))), (8, .c (.v (.int .i64 k)))], hpsF [(0, 0, ⟨0, 0, 0, true, [.v (.string s)]⟩)], 1, [0], 19⟩)
    (fun N k => k + N = l.length ∧ ∀ j y, j < k → l[j]? = some y → isNm s y = false) l.length 0 ⟨by omega, by omega⟩ ?_ ?_
  · (refine zx2 _ _ rfl rfl ?_ ?_ <;> (repeat' (first | exact TmOk.nil | exact RwOk.nil | refine TmOk.cons ?_ ?_ | refine RwOk.cons ?_ ?_ | rfl | (refine rnV_id' rfl ?_; (first | rfl | (simp [cloV, cloL, clo, zo, zn, zp, zl, zk]; done))) | (refine zf3 ?_; first | rfl | omega | (rw [zx1 (by omega) (by omega)]; omega)) | (refine zb2 rfl ?_; (first | rfl | (simp [cloV, cloL, clo, zo, zn, zp, zl, zk]; done))) | exact zl4 rfl rfl | (refine ze4 (by rfl) (by rfl) ?_ ?_ <;> (first | rfl | (simp [cloV, cloL, clo, zo, zn, zp, zl, zk]; done))) | (refine rw_rn' rfl rfl ?_; simp; done))))
  rintro N k ⟨hN, hno⟩
  repeat (first | refine zi ?_ | refine ze ?_ | refine zg ?_ | refine zh ?_ | refine zq ?_ | refine za fun C => ?_ | refine zf (by kernel_rfl) (by kernel_rfl) fun C => ?_ | refine zd ?_ | refine zf1 ?_ | refine x_bs ?_ | refine x_gr ?_ | refine x_st ?_ | refine x_mv ?_ | refine x_sk ?_ | refine zh1 ?_ | refine x_ix ?_ | refine zi1 ?_ | refine zj1 ?_ | refine zg1 ?_ | refine zt ?_ | refine x_ld ?_)
  refine zn1 (by rfl) (fun h1 => ?_) fun h1 => ?_
  · have hk' : k < l.length := by simpa using h1
    obtain ⟨x, hx⟩ : ∃ x, l[k]? = some x := ⟨_, List.getElem?_eq_getElem hk'⟩
    have hxt := hl x (List.mem_of_getElem? hx)
    have hc := zp13 hxt s
    obtain ⟨y0, y1, y2, y3, rfl, hy⟩ := zh3 hxt
    repeat (first | refine zi ?_ | refine ze ?_ | refine zg ?_ | refine zh ?_ | refine zq ?_ | refine za fun C => ?_ | refine zf (by kernel_rfl) (by kernel_rfl) fun C => ?_ | refine zd ?_ | refine zf1 ?_ | refine x_bs ?_ | refine x_gr ?_ | refine x_st ?_ | refine x_mv ?_ | refine x_sk ?_ | refine zh1 ?_ | refine x_ix ?_ | refine zi1 ?_ | refine zj1 ?_ | refine zg1 ?_ | refine zt ?_ | refine x_ld ?_)
    refine zg8 50 [0] hc ?_
    repeat (first | refine zi ?_ | refine ze ?_ | refine zg ?_ | refine zh ?_ | refine zq ?_ | refine za fun C => ?_ | refine zf (by kernel_rfl) (by kernel_rfl) fun C => ?_ | refine zd ?_ | refine zf1 ?_ | refine x_bs ?_ | refine x_gr ?_ | refine x_st ?_ | refine x_mv ?_ | refine x_sk ?_ | refine zh1 ?_ | refine x_ix ?_ | refine zi1 ?_ | refine zj1 ?_ | refine zg1 ?_ | refine zt ?_ | refine x_ld ?_)
    refine zn1 (by rfl) (fun h2 => ?_) fun h2 => ?_
    · repeat (first | refine zi ?_ | refine ze ?_ | refine zg ?_ | refine zh ?_ | refine zq ?_ | refine za fun C => ?_ | refine zf (by kernel_rfl) (by kernel_rfl) fun C => ?_ | refine zd ?_ | refine zf1 ?_ | refine x_bs ?_ | refine x_gr ?_ | refine x_st ?_ | refine x_mv ?_ | refine x_sk ?_ | refine zh1 ?_ | refine x_ix ?_ | refine zi1 ?_ | refine zj1 ?_ | refine zg1 ?_ | refine zt ?_ | refine x_ld ?_)
      refine ret1 (x := .c (.v (.int .i64 k))) (rw := ⟨0, 0, 0, true, [.v (.string s)]⟩) rfl rfl rfl rfl rfl ⟨?_, rfl⟩
      rw [zl9 hno hx h2]
    · repeat (first | refine zi ?_ | refine ze ?_ | refine zg ?_ | refine zh ?_ | refine zq ?_ | refine za fun C => ?_ | refine zf (by kernel_rfl) (by kernel_rfl) fun C => ?_ | refine zd ?_ | refine zf1 ?_ | refine x_bs ?_ | refine x_gr ?_ | refine x_st ?_ | refine x_mv ?_ | refine x_sk ?_ | refine zh1 ?_ | refine x_ix ?_ | refine zi1 ?_ | refine zj1 ?_ | refine zg1 ?_ | refine zt ?_ | refine x_ld ?_)
      refine ⟨N - 1, k + 1, by omega, ⟨by omega, fun j z hj hz => ?_⟩, ?_⟩
      · by_cases e : j = k
        · rw [e, hx] at hz; injection hz with hz; subst hz; exact h2
        · exact hno j z (by omega) hz
      · (refine zx2 _ _ rfl rfl ?_ ?_ <;> (repeat' (first | exact TmOk.nil | exact RwOk.nil | refine TmOk.cons ?_ ?_ | refine RwOk.cons ?_ ?_ | rfl | (refine rnV_id' rfl ?_; (first | rfl | (simp [cloV, cloL, clo, zo, zn, zp, zl, zk]; done))) | (refine zf3 ?_; first | rfl | omega | (rw [zx1 (by omega) (by omega)]; omega)) | (refine zb2 rfl ?_; (first | rfl | (simp [cloV, cloL, clo, zo, zn, zp, zl, zk]; done))) | exact zl4 rfl rfl | (refine ze4 (by rfl) (by rfl) ?_ ?_ <;> (first | rfl | (simp [cloV, cloL, clo, zo, zn, zp, zl, zk]; done))) | (refine rw_rn' rfl rfl ?_; simp; done))))
  · have hk' : ¬ k < l.length := by simpa using h1
    repeat (first | refine zi ?_ | refine ze ?_ | refine zg ?_ | refine zh ?_ | refine zq ?_ | refine za fun C => ?_ | refine zf (by kernel_rfl) (by kernel_rfl) fun C => ?_ | refine zd ?_ | refine zf1 ?_ | refine x_bs ?_ | refine x_gr ?_ | refine x_st ?_ | refine x_mv ?_ | refine x_sk ?_ | refine zh1 ?_ | refine x_ix ?_ | refine zi1 ?_ | refine zj1 ?_ | refine zg1 ?_ | refine zt ?_ | refine x_ld ?_)
    refine ret1 (x := .c (.v (.int .i64 (-1)))) (rw := ⟨0, 0, 0, true, [.v (.string s)]⟩) rfl rfl rfl rfl rfl ⟨?_, rfl⟩
    rw [zy6 fun j y hj hy => hno j y (by omega) hy]
theorem zr13 {x : E} (hx : x.Ty Try.prog 80) (s : ByteArray) : Ctr Try.prog 97 [.ag (acE x), .c (.pt 0 0)] [[.v (.string s)]] (.c (.v (.bool (isNm s x)))) [[.v (.string s)]] := by
  obtain ⟨y0, y1A, y1c, y1, rfl, hy⟩ := zh2 hx
  refine zt1 Try.func97 rfl rfl ?_
  repeat (first | refine zi ?_ | refine ze ?_ | refine zg ?_ | refine zh ?_ | refine zq ?_ | refine za fun C => ?_ | refine zf (by kernel_rfl) (by kernel_rfl) fun C => ?_ | refine zd ?_ | refine zf1 ?_ | refine x_bs ?_ | refine x_gr ?_ | refine x_st ?_ | refine x_mv ?_ | refine x_sk ?_ | refine zh1 ?_ | refine x_ix ?_ | refine zi1 ?_ | refine zj1 ?_ | refine zg1 ?_ | refine zt ?_ | refine x_ld ?_)
  exact ret1 (x := .c (.v (.bool (y0.toList == s.toList)))) (rw := ⟨0, 0, 0, true, [.v (.string s)]⟩) rfl rfl rfl rfl rfl ⟨rfl, rfl⟩
theorem zs13 {l : List E} (hl : ∀ e ∈ l, e.Ty Try.prog 80) (hk : ∀ e ∈ l, e.enc.length = 2) (s : ByteArray) (hlen : l.length ≤ 1073741824) : Ctr Try.prog 96 [.c (.ro l.length 2 (acL l)), .c (.fn 97 [.pt 0 0])] [[.v (.string s)]] (.c (.v (.int .i64 (idxF (isNm s) l)))) [[.v (.string s)]] := by
  refine zt1 Try.func96 rfl rfl ?_
  repeat (first | refine zi ?_ | refine ze ?_ | refine zg ?_ | refine zh ?_ | refine zq ?_ | refine za fun C => ?_ | refine zf (by kernel_rfl) (by kernel_rfl) fun C => ?_ | refine zd ?_ | refine zf1 ?_ | refine x_bs ?_ | refine x_gr ?_ | refine x_st ?_ | refine x_mv ?_ | refine x_sk ?_ | refine zh1 ?_ | refine x_ix ?_ | refine zi1 ?_ | refine zj1 ?_ | refine zg1 ?_ | refine zt ?_ | refine x_ld ?_)
  refine zp3 (fun k : Nat => ⟨tmsF [(0, .c (.ro l.length 2 (acL l))), (1, .c (.fn 97 [.pt 0 0])), (7, .c (.v (.int .i64 l.length))), (8, .c (.v (.int .i64 k)))], hpsF [(0, 0, ⟨0, 0, 0, true, [.v (.string s)]⟩)], 1, [0], 19⟩)
    (fun N k => k + N = l.length ∧ ∀ j y, j < k → l[j]? = some y → isNm s y = false) l.length 0 ⟨by omega, by omega⟩ ?_ ?_
  · (refine zx2 _ _ rfl rfl ?_ ?_ <;> (repeat' (first | exact TmOk.nil | exact RwOk.nil | refine TmOk.cons ?_ ?_ | refine RwOk.cons ?_ ?_ | rfl | (refine rnV_id' rfl ?_; (first | rfl | (simp [cloV, cloL, clo, zo, zn, zp, zl, zk]; done))) | (refine zf3 ?_; first | rfl | omega | (rw [zx1 (by omega) (by omega)]; omega)) | (refine zb2 rfl ?_; (first | rfl | (simp [cloV, cloL, clo, zo, zn, zp, zl, zk]; done))) | exact zl4 rfl rfl | (refine ze4 (by rfl) (by rfl) ?_ ?_ <;> (first | rfl | (simp [cloV, cloL, clo, zo, zn, zp, zl, zk]; done))) | (refine rw_rn' rfl rfl ?_; simp; done))))
  rintro N k ⟨hN, hno⟩
  repeat (first | refine zi ?_ | refine ze ?_ | refine zg ?_ | refine zh ?_ | refine zq ?_ | refine za fun C => ?_ | refine zf (by kernel_rfl) (by kernel_rfl) fun C => ?_ | refine zd ?_ | refine zf1 ?_ | refine x_bs ?_ | refine x_gr ?_ | refine x_st ?_ | refine x_mv ?_ | refine x_sk ?_ | refine zh1 ?_ | refine x_ix ?_ | refine zi1 ?_ | refine zj1 ?_ | refine zg1 ?_ | refine zt ?_ | refine x_ld ?_)
  refine zn1 (by rfl) (fun h1 => ?_) fun h1 => ?_
  · have hk' : k < l.length := by simpa using h1
    obtain ⟨x, hx⟩ : ∃ x, l[k]? = some x := ⟨_, List.getElem?_eq_getElem hk'⟩
    have hxt := hl x (List.mem_of_getElem? hx)
    have hc := zr13 hxt s
    obtain ⟨y0, y1A, y1c, y1, rfl, hy⟩ := zh2 hxt
    repeat (first | refine zi ?_ | refine ze ?_ | refine zg ?_ | refine zh ?_ | refine zq ?_ | refine za fun C => ?_ | refine zf (by kernel_rfl) (by kernel_rfl) fun C => ?_ | refine zd ?_ | refine zf1 ?_ | refine x_bs ?_ | refine x_gr ?_ | refine x_st ?_ | refine x_mv ?_ | refine x_sk ?_ | refine zh1 ?_ | refine x_ix ?_ | refine zi1 ?_ | refine zj1 ?_ | refine zg1 ?_ | refine zt ?_ | refine x_ld ?_)
    refine zg8 50 [0] hc ?_
    repeat (first | refine zi ?_ | refine ze ?_ | refine zg ?_ | refine zh ?_ | refine zq ?_ | refine za fun C => ?_ | refine zf (by kernel_rfl) (by kernel_rfl) fun C => ?_ | refine zd ?_ | refine zf1 ?_ | refine x_bs ?_ | refine x_gr ?_ | refine x_st ?_ | refine x_mv ?_ | refine x_sk ?_ | refine zh1 ?_ | refine x_ix ?_ | refine zi1 ?_ | refine zj1 ?_ | refine zg1 ?_ | refine zt ?_ | refine x_ld ?_)
    refine zn1 (by rfl) (fun h2 => ?_) fun h2 => ?_
    · repeat (first | refine zi ?_ | refine ze ?_ | refine zg ?_ | refine zh ?_ | refine zq ?_ | refine za fun C => ?_ | refine zf (by kernel_rfl) (by kernel_rfl) fun C => ?_ | refine zd ?_ | refine zf1 ?_ | refine x_bs ?_ | refine x_gr ?_ | refine x_st ?_ | refine x_mv ?_ | refine x_sk ?_ | refine zh1 ?_ | refine x_ix ?_ | refine zi1 ?_ | refine zj1 ?_ | refine zg1 ?_ | refine zt ?_ | refine x_ld ?_)
      refine ret1 (x := .c (.v (.int .i64 k))) (rw := ⟨0, 0, 0, true, [.v (.string s)]⟩) rfl rfl rfl rfl rfl ⟨?_, rfl⟩
      rw [zl9 hno hx h2]
    · repeat (first | refine zi ?_ | refine ze ?_ | refine zg ?_ | refine zh ?_ | refine zq ?_ | refine za fun C => ?_ | refine zf (by kernel_rfl) (by kernel_rfl) fun C => ?_ | refine zd ?_ | refine zf1 ?_ | refine x_bs ?_ | refine x_gr ?_ | refine x_st ?_ | refine x_mv ?_ | refine x_sk ?_ | refine zh1 ?_ | refine x_ix ?_ | refine zi1 ?_ | refine zj1 ?_ | refine zg1 ?_ | refine zt ?_ | refine x_ld ?_)
      refine ⟨N - 1, k + 1, by omega, ⟨by omega, fun j z hj hz => ?_⟩, ?_⟩
      · by_cases e : j = k
        · rw [e, hx] at hz; injection hz with hz; subst hz; exact h2
        · exact hno j z (by omega) hz
      · (refine zx2 _ _ rfl rfl ?_ ?_ <;> (repeat' (first | exact TmOk.nil | exact RwOk.nil | refine TmOk.cons ?_ ?_ | refine RwOk.cons ?_ ?_ | rfl | (refine rnV_id' rfl ?_; (first | rfl | (simp [cloV, cloL, clo, zo, zn, zp, zl, zk]; done))) | (refine zf3 ?_; first | rfl | omega | (rw [zx1 (by omega) (by omega)]; omega)) | (refine zb2 rfl ?_; (first | rfl | (simp [cloV, cloL, clo, zo, zn, zp, zl, zk]; done))) | exact zl4 rfl rfl | (refine ze4 (by rfl) (by rfl) ?_ ?_ <;> (first | rfl | (simp [cloV, cloL, clo, zo, zn, zp, zl, zk]; done))) | (refine rw_rn' rfl rfl ?_; simp; done))))
  · have hk' : ¬ k < l.length := by simpa using h1
    repeat (first | refine zi ?_ | refine ze ?_ | refine zg ?_ | refine zh ?_ | refine zq ?_ | refine za fun C => ?_ | refine zf (by kernel_rfl) (by kernel_rfl) fun C => ?_ | refine zd ?_ | refine zf1 ?_ | refine x_bs ?_ | refine x_gr ?_ | refine x_st ?_ | refine x_mv ?_ | refine x_sk ?_ | refine zh1 ?_ | refine x_ix ?_ | refine zi1 ?_ | refine zj1 ?_ | refine zg1 ?_ | refine zt ?_ | refine x_ld ?_)
    refine ret1 (x := .c (.v (.int .i64 (-1)))) (rw := ⟨0, 0, 0, true, [.v (.string s)]⟩) rfl rfl rfl rfl rfl ⟨?_, rfl⟩
    rw [zy6 fun j y hj hy => hno j y (by omega) hy]
theorem zb7 {e : E} (he : e.Ty Try.prog 27) (s : ByteArray) (hsz : e.sz ≤ 1048576) : Ctr Try.prog 57 [.ag (acE e), .c (.v (.string s))] [] (.c (.v (.int .i64 (idxF (isNm s) (tabsE e))))) [] := by
  obtain ⟨x0A, x0c, l, x1A, x1c, l2, rfl, ⟨hl, hk⟩, ⟨hl2, hk2⟩, -⟩ := zz2 he
  have hlen : l.length ≤ 1048576 := by simp only [E.sz, E.szL] at hsz; omega
  have hlen2 : l2.length ≤ 1048576 := by simp only [E.sz, E.szL] at hsz; omega
  have hc := zs13 hl2 hk2 s (by omega)
  refine zt1 Try.func57 rfl rfl ?_
  repeat (first | refine zi ?_ | refine ze ?_ | refine zg ?_ | refine zh ?_ | refine zq ?_ | refine za fun C => ?_ | refine zf (by kernel_rfl) (by kernel_rfl) fun C => ?_ | refine zd ?_ | refine zf1 ?_ | refine x_bs ?_ | refine x_gr ?_ | refine x_st ?_ | refine x_mv ?_ | refine x_sk ?_ | refine zh1 ?_ | refine x_ix ?_ | refine zi1 ?_ | refine zj1 ?_ | refine zg1 ?_ | refine zt ?_ | refine x_ld ?_)
  refine zg8 50 [3] hc ?_
  repeat (first | refine zi ?_ | refine ze ?_ | refine zg ?_ | refine zh ?_ | refine zq ?_ | refine za fun C => ?_ | refine zf (by kernel_rfl) (by kernel_rfl) fun C => ?_ | refine zd ?_ | refine zf1 ?_ | refine x_bs ?_ | refine x_gr ?_ | refine x_st ?_ | refine x_mv ?_ | refine x_sk ?_ | refine zh1 ?_ | refine x_ix ?_ | refine zi1 ?_ | refine zj1 ?_ | refine zg1 ?_ | refine zt ?_ | refine x_ld ?_)
  exact ret0 (x := .c (.v (.int .i64 (idxF (isNm s) l2)))) rfl rfl ⟨rfl, rfl⟩
theorem zs9 {l : List E} (hl : ∀ e ∈ l, e.Ty Try.prog 82) (hk : ∀ e ∈ l, e.enc.length = 4) (s : ByteArray) (hlen : l.length ≤ 1073741824) : Ctr Try.prog 58 [.c (.ro l.length 4 (acL l)), .c (.v (.string s))] [] (.c (.v (.int .i64 (idxF (isNm s) l)))) [] := by
  have hc := zq13 hl hk s hlen
  refine zt1 Try.func58 rfl rfl ?_
  repeat (first | refine zi ?_ | refine ze ?_ | refine zg ?_ | refine zh ?_ | refine zq ?_ | refine za fun C => ?_ | refine zf (by kernel_rfl) (by kernel_rfl) fun C => ?_ | refine zd ?_ | refine zf1 ?_ | refine x_bs ?_ | refine x_gr ?_ | refine x_st ?_ | refine x_mv ?_ | refine x_sk ?_ | refine zh1 ?_ | refine x_ix ?_ | refine zi1 ?_ | refine zj1 ?_ | refine zg1 ?_ | refine zt ?_ | refine x_ld ?_)
  refine zg8 50 [3] hc ?_
  repeat (first | refine zi ?_ | refine ze ?_ | refine zg ?_ | refine zh ?_ | refine zq ?_ | refine za fun C => ?_ | refine zf (by kernel_rfl) (by kernel_rfl) fun C => ?_ | refine zd ?_ | refine zf1 ?_ | refine x_bs ?_ | refine x_gr ?_ | refine x_st ?_ | refine x_mv ?_ | refine x_sk ?_ | refine zh1 ?_ | refine x_ix ?_ | refine zi1 ?_ | refine zj1 ?_ | refine zg1 ?_ | refine zt ?_ | refine x_ld ?_)
  exact ret0 (x := .c (.v (.int .i64 (idxF (isNm s) l)))) rfl rfl ⟨rfl, rfl⟩
theorem zs10 {e : E} (he : e.Ty Try.prog 27) (hsz : e.sz ≤ 1048576) : Ctr Try.prog 40 [.ag (acE e)] [] (.ag (owE e)) [] := by
  obtain ⟨x0A, x0c, l, x1A, x1c, l2, rfl, ⟨hl, hk⟩, ⟨hl2, hk2⟩, -⟩ := zz2 he
  have hlen : l.length ≤ 1048576 := by simp only [E.sz, E.szL] at hsz; omega
  have hlen2 : l2.length ≤ 1048576 := by simp only [E.sz, E.szL] at hsz; omega
  refine zt1 Try.func40 rfl rfl ?_
  repeat (first | refine zi ?_ | refine ze ?_ | refine zg ?_ | refine zh ?_ | refine zq ?_ | refine za fun C => ?_ | refine zf (by kernel_rfl) (by kernel_rfl) fun C => ?_ | refine zd ?_ | refine zf1 ?_ | refine x_bs ?_ | refine x_gr ?_ | refine x_st ?_ | refine x_mv ?_ | refine x_sk ?_ | refine zh1 ?_ | refine x_ix ?_ | refine zi1 ?_ | refine zj1 ?_ | refine zg1 ?_ | refine zt ?_ | refine x_ld ?_)
  have fl : acL l = owL l := zl6 l (zz6 fun e h => zz8 (hl e h))
  refine zp3 (fun k : Nat => ⟨tmsF [(2, .c (.pt 2 0)), (3, .c (.pt 3 0)), (11, .c (.ro l2.length 2 (acL l2))), (12, .c (.v (.int .i64 l2.length))), (13, .c (.v (.int .i64 k)))], hpsF [(2, 2, ⟨27, 0, 0, true, [.v (.slice none 0 0), .v (.slice none 0 0)]⟩), (3, 3, ⟨27, 0, 0, true, [.sl 8 l.length, .sl 9 k]⟩), (8, 8, ⟨34, 4, l.length, false, owL l⟩), (9, 9, ⟨80, 2, k, false, owL (l2.take k)⟩)], 0, [2, 3, 8, 9], 30⟩)
    (fun N k => k + N = l2.length) l2.length 0 (by omega) ?_ ?_
  · refine (zg21 9 (i := 3) 80 2 rfl rfl (pre := [_]) (post := []) rfl).trans ?_
    (refine zx2 _ _ rfl rfl ?_ ?_ <;> (repeat' (first | exact TmOk.nil | exact RwOk.nil | refine TmOk.cons ?_ ?_ | refine RwOk.cons ?_ ?_ | rfl | (refine rnV_id' rfl ?_; (first | rfl | (simp [cloV, cloL, clo, zo, zn, zp, zl, zk]; done))) | (refine zf3 ?_; first | rfl | omega | (rw [zx1 (by omega) (by omega)]; omega)) | (refine zb2 rfl ?_; (first | rfl | (simp [cloV, cloL, clo, zo, zn, zp, zl, zk]; done))) | exact zl4 rfl rfl | (refine ze4 (by rfl) (by rfl) ?_ ?_ <;> (first | rfl | (simp [cloV, cloL, clo, zo, zn, zp, zl, zk]; done))) | (refine rw_rn' rfl rfl ?_; simp; done))))
    exact zo15 rfl (by rw [← fl]) (by first | rfl | (simp [cloV, cloL, clo, zo, zn, zp, zl, zk]; done))
  rintro N k hN
  repeat (first | refine zi ?_ | refine ze ?_ | refine zg ?_ | refine zh ?_ | refine zq ?_ | refine za fun C => ?_ | refine zf (by kernel_rfl) (by kernel_rfl) fun C => ?_ | refine zd ?_ | refine zf1 ?_ | refine x_bs ?_ | refine x_gr ?_ | refine x_st ?_ | refine x_mv ?_ | refine x_sk ?_ | refine zh1 ?_ | refine x_ix ?_ | refine zi1 ?_ | refine zj1 ?_ | refine zg1 ?_ | refine zt ?_ | refine x_ld ?_)
  refine zn1 (by rfl) (fun h1 => ?_) fun h1 => ?_
  · have hk' : k < l2.length := by simpa using h1
    obtain ⟨x, hx⟩ : ∃ x, l2[k]? = some x := ⟨_, List.getElem?_eq_getElem hk'⟩
    obtain ⟨y0, y1A, y1c, y1, rfl, hy0, ⟨hy1, hy1k⟩, -⟩ := zh2 (hl2 x (List.mem_of_getElem? hx))
    have hy1l : y1.length ≤ 1048576 := by
      have := E.szL_mem (List.mem_of_getElem? hx)
      simp only [E.sz, E.szL] at hsz this; omega
    have fl1 : acL y1 = owL y1 := zl6 y1 (zz6 fun e h => za9 (hy1 e h))
    repeat (first | refine zi ?_ | refine ze ?_ | refine zg ?_ | refine zh ?_ | refine zq ?_ | refine za fun C => ?_ | refine zf (by kernel_rfl) (by kernel_rfl) fun C => ?_ | refine zd ?_ | refine zf1 ?_ | refine x_bs ?_ | refine x_gr ?_ | refine x_st ?_ | refine x_mv ?_ | refine x_sk ?_ | refine zh1 ?_ | refine x_ix ?_ | refine zi1 ?_ | refine zj1 ?_ | refine zg1 ?_ | refine zt ?_ | refine x_ld ?_)
    refine ⟨N - 1, k + 1, by omega, by omega, ?_⟩
    refine (zn9 (i := 26) (j := 23) rfl rfl rfl rfl rfl (pre := owL (l2.take k) ++ [.v (.string y0)]) (post := []) (by rw [List.append_assoc]; rfl)).trans ?_
    (refine zg12 (fun j => if j = 9 then 26 else j) _ _ rfl rfl ?_ ?_ <;> (repeat' (first | exact TmOk.nil | exact RwOk.nil | refine TmOk.cons ?_ ?_ | refine RwOk.cons ?_ ?_ | rfl | (refine rnV_id' rfl ?_; (first | rfl | (simp [cloV, cloL, clo, zo, zn, zp, zl, zk]; done))) | (refine zf3 ?_; first | rfl | omega | (rw [zx1 (by omega) (by omega)]; omega)) | (refine zb2 rfl ?_; (first | rfl | (simp [cloV, cloL, clo, zo, zn, zp, zl, zk]; done))) | exact zl4 rfl rfl | (refine ze4 (by rfl) (by rfl) ?_ ?_ <;> (first | rfl | (simp [cloV, cloL, clo, zo, zn, zp, zl, zk]; done))) | (refine rw_rn' rfl rfl ?_; simp; done))))
    exact zo15 (r := ⟨80, 2, k + 1, false, (owL (l2.take k) ++ [.v (.string y0)]) ++ [.ow 82 y1.length 4 (acL y1)]⟩) rfl (by rw [zy5 hx, fl1, List.append_assoc]; rfl) (by first | rfl | (simp [cloV, cloL, clo, zo, zn, zp, zl, zk]; done))
  · have hk' : ¬ k < l2.length := by simpa using h1
    repeat (first | refine zi ?_ | refine ze ?_ | refine zg ?_ | refine zh ?_ | refine zq ?_ | refine za fun C => ?_ | refine zf (by kernel_rfl) (by kernel_rfl) fun C => ?_ | refine zd ?_ | refine zf1 ?_ | refine x_bs ?_ | refine x_gr ?_ | refine x_st ?_ | refine x_mv ?_ | refine x_sk ?_ | refine zh1 ?_ | refine x_ix ?_ | refine zi1 ?_ | refine zj1 ?_ | refine zg1 ?_ | refine zt ?_ | refine x_ld ?_)
    obtain rfl : k = l2.length := by omega
    refine ret0 (x := .ag [.ow 34 l.length 4 (owL l), .ow 80 l2.length 2 (owL (l2.take l2.length))]) rfl (zr3 (ze3 (rw := ⟨34, 4, l.length, false, owL l⟩) rfl rfl rfl (zl _) (ze3 (rw := ⟨80, 2, l2.length, false, owL (l2.take l2.length)⟩) rfl rfl rfl (zl _) zl2))) ⟨?_, rfl⟩
    rw [List.take_length]; rfl
end Go.Proofs.Ytghljnfbbaklnaa
