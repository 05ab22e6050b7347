/- spec.l14Var, spec.l14At: by the abstract machine. -/
import Derived.Test.YtghljnfbbaklnaaVarsK
namespace Go.Proofs.Ytghljnfbbaklnaa
open Go.RowKit
set_option maxRecDepth 100000
def nmE (e : E) : ByteArray := match e with | .agg (.str s :: _) => s | _ => ByteArray.empty
def varsE (e : E) : List E := match e with | .agg (.lst _ _ _ _ l :: _) => l | _ => []
def tabsE (e : E) : List E := match e with | .agg (_ :: .lst _ _ _ _ l :: _) => l | _ => []
def isNm (s : ByteArray) (e : E) : Bool := (nmE e).toList == s.toList
theorem zq16 {e : E} (he : e.Ty Try.prog 27) (s : ByteArray) (hsz : e.sz ≤ 1048576) : Ctr Try.prog 43 [.ag (acE e), .c (.v (.string s))] [] (.c (.v (.int .i64 (idxF (isNm s) (varsE e))))) [] := by
  obtain ⟨x0A, x0c, l, x1A, x1c, l2, rfl, ⟨hl, hk⟩, ⟨hl2, hk2⟩, -⟩ := zi3 he
  have hlen : l.length ≤ 1048576 := by simp only [E.sz, E.szL] at hsz; omega
  refine zt1 Try.func43 rfl rfl ?_
  repeat (first | refine zl ?_ | refine zf ?_ | refine zh ?_ | refine zi ?_ | refine zu ?_ | refine zb fun C => ?_ | refine ze (by kernel_rfl) (by kernel_rfl) fun C => ?_ | refine zd ?_ | refine zp1 ?_ | refine x_bs ?_ | refine x_gr ?_ | refine x_st ?_ | refine x_mv ?_ | refine x_sk ?_ | refine zz1 ?_ | refine x_ix ?_ | refine za2 ?_ | refine zb2 ?_ | refine zs1 ?_ | refine ze1 ?_ | refine x_ld ?_)
  refine zw3 (fun k : Nat => ⟨tmsF [(0, .ag [.ro l.length 4 (acL l), .ro l2.length 2 (acL l2)]), (1, .c (.v (.string s))), (2, .c (.pt 2 0)), (5, .c (.v (.int .i64 k)))], hpsF [(2, 2, ⟨27, 0, 0, true, [.ro l.length 4 (acL l), .ro l2.length 2 (acL l2)]⟩)], 0, [2], 22⟩)
    (fun N k => k + N = l.length ∧ ∀ j y, j < k → l[j]? = some y → isNm s y = false) l.length 0 ⟨by omega, by omega⟩ (zv2 _ _ rfl rfl (by repeat' (first | exact TmOk.nil | exact RwOk.nil | refine TmOk.cons ?_ ?_ | refine RwOk.cons ?_ ?_ | rfl | (refine rnV_id' rfl ?_; (first | rfl | (simp [cloV, cloL, clo, zo, zn, zp, zm, zk]; done))) | (refine zd3 ?_; first | rfl | omega | (rw [zr1 (by omega) (by omega)]; omega)) | (refine ze2 rfl ?_; (first | rfl | (simp [cloV, cloL, clo, zo, zn, zp, zm, zk]; done))) | exact zd4 rfl rfl)) (by repeat' (first | exact TmOk.nil | exact RwOk.nil | refine TmOk.cons ?_ ?_ | refine RwOk.cons ?_ ?_ | rfl | (refine rnV_id' rfl ?_; (first | rfl | (simp [cloV, cloL, clo, zo, zn, zp, zm, zk]; done))) | (refine zd3 ?_; first | rfl | omega | (rw [zr1 (by omega) (by omega)]; omega)) | (refine ze2 rfl ?_; (first | rfl | (simp [cloV, cloL, clo, zo, zn, zp, zm, zk]; done))) | exact zd4 rfl rfl))) ?_
  rintro N k ⟨hN, hno⟩
  repeat (first | refine zl ?_ | refine zf ?_ | refine zh ?_ | refine zi ?_ | refine zu ?_ | refine zb fun C => ?_ | refine ze (by kernel_rfl) (by kernel_rfl) fun C => ?_ | refine zd ?_ | refine zp1 ?_ | refine x_bs ?_ | refine x_gr ?_ | refine x_st ?_ | refine x_mv ?_ | refine x_sk ?_ | refine zz1 ?_ | refine x_ix ?_ | refine za2 ?_ | refine zb2 ?_ | refine zs1 ?_ | refine ze1 ?_ | refine x_ld ?_)
  refine zd2 (by rfl) (fun h1 => ?_) fun h1 => ?_
  · have hk' : k < l.length := by simpa using h1
    obtain ⟨x, hx⟩ : ∃ x, l[k]? = some x := ⟨_, List.getElem?_eq_getElem hk'⟩
    obtain ⟨y0, y1, y2, y3, rfl, hy⟩ := zl3 (hl x (List.mem_of_getElem? hx))
    repeat (first | refine zl ?_ | refine zf ?_ | refine zh ?_ | refine zi ?_ | refine zu ?_ | refine zb fun C => ?_ | refine ze (by kernel_rfl) (by kernel_rfl) fun C => ?_ | refine zd ?_ | refine zp1 ?_ | refine x_bs ?_ | refine x_gr ?_ | refine x_st ?_ | refine x_mv ?_ | refine x_sk ?_ | refine zz1 ?_ | refine x_ix ?_ | refine za2 ?_ | refine zb2 ?_ | refine zs1 ?_ | refine ze1 ?_ | refine x_ld ?_)
    refine zd2 (by rfl) (fun ht => ?_) fun ht => ?_
    · repeat (first | refine zl ?_ | refine zf ?_ | refine zh ?_ | refine zi ?_ | refine zu ?_ | refine zb fun C => ?_ | refine ze (by kernel_rfl) (by kernel_rfl) fun C => ?_ | refine zd ?_ | refine zp1 ?_ | refine x_bs ?_ | refine x_gr ?_ | refine x_st ?_ | refine x_mv ?_ | refine x_sk ?_ | refine zz1 ?_ | refine x_ix ?_ | refine za2 ?_ | refine zb2 ?_ | refine zs1 ?_ | refine ze1 ?_ | refine x_ld ?_)
      refine ret0 (x := .c (.v (.int .i64 k))) rfl rfl ⟨?_, rfl⟩
      rw [show varsE _ = l from rfl, zn8 hno hx (by simpa [isNm, nmE] using ht)]
    · repeat (first | refine zl ?_ | refine zf ?_ | refine zh ?_ | refine zi ?_ | refine zu ?_ | refine zb fun C => ?_ | refine ze (by kernel_rfl) (by kernel_rfl) fun C => ?_ | refine zd ?_ | refine zp1 ?_ | refine x_bs ?_ | refine x_gr ?_ | refine x_st ?_ | refine x_mv ?_ | refine x_sk ?_ | refine zz1 ?_ | refine x_ix ?_ | refine za2 ?_ | refine zb2 ?_ | refine zs1 ?_ | refine ze1 ?_ | refine x_ld ?_)
      refine ⟨N - 1, k + 1, by omega, ⟨by omega, fun j z hj hz => ?_⟩, zv2 _ _ rfl rfl (by repeat' (first | exact TmOk.nil | exact RwOk.nil | refine TmOk.cons ?_ ?_ | refine RwOk.cons ?_ ?_ | rfl | (refine rnV_id' rfl ?_; (first | rfl | (simp [cloV, cloL, clo, zo, zn, zp, zm, zk]; done))) | (refine zd3 ?_; first | rfl | omega | (rw [zr1 (by omega) (by omega)]; omega)) | (refine ze2 rfl ?_; (first | rfl | (simp [cloV, cloL, clo, zo, zn, zp, zm, zk]; done))) | exact zd4 rfl rfl)) (by repeat' (first | exact TmOk.nil | exact RwOk.nil | refine TmOk.cons ?_ ?_ | refine RwOk.cons ?_ ?_ | rfl | (refine rnV_id' rfl ?_; (first | rfl | (simp [cloV, cloL, clo, zo, zn, zp, zm, zk]; done))) | (refine zd3 ?_; first | rfl | omega | (rw [zr1 (by omega) (by omega)]; omega)) | (refine ze2 rfl ?_; (first | rfl | (simp [cloV, cloL, clo, zo, zn, zp, zm, zk]; done))) | exact zd4 rfl rfl))⟩
      by_cases e : j = k
      · rw [e, hx] at hz; injection hz with hz; subst hz; simpa [isNm, nmE] using ht
      · exact hno j z (by omega) hz
  · have hk' : ¬ k < l.length := by simpa using h1
    repeat (first | refine zl ?_ | refine zf ?_ | refine zh ?_ | refine zi ?_ | refine zu ?_ | refine zb fun C => ?_ | refine ze (by kernel_rfl) (by kernel_rfl) fun C => ?_ | refine zd ?_ | refine zp1 ?_ | refine x_bs ?_ | refine x_gr ?_ | refine x_st ?_ | refine x_mv ?_ | refine x_sk ?_ | refine zz1 ?_ | refine x_ix ?_ | refine za2 ?_ | refine zb2 ?_ | refine zs1 ?_ | refine ze1 ?_ | refine x_ld ?_)
    refine ret0 (x := .c (.v (.int .i64 (-1)))) rfl rfl ⟨?_, rfl⟩
    rw [show varsE _ = l from rfl, zi6 fun j y hj hy => hno j y (by omega) hy]
def rfE (e : E) : Int := match e with | .agg (.int _ n :: _) => n | _ => 0
def isFree (e : E) : Bool := rfE e == 0
def allL (l : List E) (v : E) : List E := match l.findIdx? isFree with | some i => l.set i (.agg [.int .i64 1, v]) | none => l ++ [.agg [.int .i64 1, v]]
theorem zc7 {z : Int} (h0 : -9223372036854775808 ≤ z) (h : z ≤ 9223372036854775807) : IntKind.i64.wrap z = z := by
  rw [IntKind.wrap_i64]; omega
def zVal : E := .agg [.int .i64 0, .int .i64 0, .str ByteArray.empty]
def vE (e : E) : E := match e with | .agg [_, v] => v | _ => zVal
def heldLE (l : List E) (k : Int) : Bool := decide (0 ≤ k) && (decide (k < l.length) && decide (0 < rfE (l[k.toNat]?.getD zVal)))
def holdLE (l : List E) (k : Int) : List E := if heldLE l k then l.set k.toNat (.agg [.int .i64 (IntKind.i64.wrap (rfE (l[k.toNat]?.getD zVal) + 1)), vE (l[k.toNat]?.getD zVal)]) else l
def heapE (l : List E) : E := .agg [.lst 4 46 none 0 l]
theorem zy18 {l : List E} {k : Int} (h : ¬ (0 ≤ k ∧ k < l.length)) : heldLE l k = false := by
  unfold heldLE
  by_cases h0 : 0 ≤ k
  · have h1 : ¬ k < l.length := fun h1 => h ⟨h0, h1⟩
    simp [h1]
  · simp [h0]
theorem zy11 {l : List E} {i : Nat} {r : Int} {v : E} (hx : l[i]? = some (.agg [.int .i64 r, v])) : heldLE l (i : Int) = decide (0 < r) := by
  have := (List.getElem?_eq_some_iff.1 hx).1
  unfold heldLE
  simp [hx, rfE]
  omega
theorem zb15 {l : List E} {k : Int} (h : heldLE l k = false) : holdLE l k = l := by unfold holdLE; rw [h]; rfl
theorem zr16 {l : List E} (hl : ∀ e ∈ l, e.Ty Try.prog 46) {k : Int} (h : heldLE l k = true) : ∃ (i : Nat) (r v0 v1 : Int) (v2 : ByteArray), k = (i : Int) ∧ i < l.length ∧ l[i]? = some (.agg [.int .i64 r, .agg [.int .i64 v0, .int .i64 v1, .str v2]]) ∧ 0 < r ∧ r ≤ 9223372036854775807 := by
  by_cases h1 : 0 ≤ k ∧ k < l.length
  · obtain ⟨i, rfl⟩ : ∃ i : Nat, k = (i : Int) := ⟨k.toNat, by omega⟩
    obtain ⟨x, hx⟩ : ∃ x, l[i]? = some x := ⟨_, List.getElem?_eq_getElem (by omega)⟩
    obtain ⟨r, y1, y2, y3, rfl, hy, -⟩ := zq7 (hl x (List.mem_of_getElem? hx))
    rw [zy11 hx] at h
    exact ⟨i, r, y1, y2, y3, rfl, by omega, hx, of_decide_eq_true h, (ze12 hy).2⟩
  · rw [zy18 h1] at h; cases h
theorem zr12 {l : List E} {i : Nat} {r v0 v1 : Int} {v2 : ByteArray} (hx : l[i]? = some (.agg [.int .i64 r, .agg [.int .i64 v0, .int .i64 v1, .str v2]])) (h : 0 < r) : holdLE l (i : Int) = l.set i (.agg [.int .i64 (IntKind.i64.wrap (r + 1)), .agg [.int .i64 v0, .int .i64 v1, .str v2]]) := by
  unfold holdLE
  rw [zy11 hx, if_pos (by simpa using h)]
  simp [hx, rfE, vE]
theorem zz18 (l : List E) (v : E) : E.szL (allL l v) ≤ E.szL l + v.sz ∧ (allL l v).length ≤ l.length + 1 := by
  unfold allL
  split
  · rename_i k hk
    have h1 := za8 l k (.agg [.int .i64 1, v])
    simp only [E.sz, E.szL, List.length_set] at h1 ⊢
    omega
  · rw [E.szL_app]
    simp only [E.sz, E.szL, List.length_append, List.length_cons, List.length_nil]
    omega
def cellD (r a b : Int) (s : ByteArray) : E := .agg [.int .i64 r, .agg [.int .i64 a, .int .i64 b, .str s]]
def CellOk (x : E) : Prop := ∃ (r a b : Int) (s : ByteArray), I64 r ∧ VOk a b s ∧ x = cellD r a b s
def HOk (n : Nat) (l : List E) : Prop := l.length ≤ n ∧ ∀ x ∈ l, CellOk x
theorem wf64 {z : Int} (h : I64 z) : (Lit.int .i64 z).wf = true := by
  unfold I64 at h
  simp [Lit.wf, IntKind.min, IntKind.max, IntKind.bits, IntKind.signed]
  omega
theorem VOk.ty {a b : Int} {s : ByteArray} (h : VOk a b s) : (E.agg [.int .i64 a, .int .i64 b, .str s]).Ty Try.prog 29 :=
  E.Ty.mk_agg Try.underlying29 (E.TyF.mk_cons (by simp only [E.Ty]; exact ⟨Try.underlying3, wf64 h.1⟩) (E.TyF.mk_cons (by simp only [E.Ty]; exact ⟨Try.underlying3, wf64 h.2.1⟩) (E.TyF.mk_cons (by simp only [E.Ty]; exact ⟨Try.underlying9, by have := h.2.2; unfold maxLen; omega⟩) E.TyF.mk_nil)))
theorem CellOk.ty {x : E} (h : CellOk x) : x.Ty Try.prog 46 ∧ x.enc.length = 4 ∧ x.sz ≤ 201 := by
  obtain ⟨r, a, b, s, hr, hv, rfl⟩ := h
  refine ⟨E.Ty.mk_agg Try.underlying46 (E.TyF.mk_cons (by simp only [E.Ty]; exact ⟨Try.underlying3, wf64 hr⟩) (E.TyF.mk_cons hv.ty E.TyF.mk_nil)), rfl, ?_⟩
  simp only [cellD, E.sz, E.szL]
  have := hv.2.2; omega
theorem zz11 {l : List E} {m : Nat} (h : ∀ x ∈ l, x.sz ≤ m) : E.szL l ≤ l.length * m := by
  induction l with
  | nil => simp [E.szL]
  | cons x r ih =>
    have h1 := h x List.mem_cons_self
    have h2 := ih fun y hy => h y (List.mem_cons_of_mem _ hy)
    simp only [E.szL, List.length_cons, Nat.succ_mul]; omega
theorem HOk.ty {n : Nat} {l : List E} (h : HOk n l) : (heapE l).Ty Try.prog 39 :=
  E.Ty.mk_agg Try.underlying39 (E.TyF.mk_cons (E.Ty.mk_lst Try.underlying37 (by kernel_rfl) (fun y hy => (h.2 y hy).ty.1) (fun y hy => (h.2 y hy).ty.2.1)) E.TyF.mk_nil)
theorem HOk.sz {n : Nat} {l : List E} (h : HOk n l) (hn : n ≤ 1000) : (heapE l).sz ≤ 1048576 := by
  have h1 := zz11 fun x hx => (h.2 x hx).ty.2.2
  have h2 := h.1
  simp only [heapE, E.sz, E.szL]; omega
theorem HOk.all {n : Nat} {l : List E} (h : HOk n l) {a b : Int} {s : ByteArray} (hv : VOk a b s) : HOk (n + 1) (allL l (.agg [.int .i64 a, .int .i64 b, .str s])) := by
  have hn : CellOk (.agg [.int .i64 1, .agg [.int .i64 a, .int .i64 b, .str s]]) := ⟨1, a, b, s, by unfold I64; decide, hv, rfl⟩
  refine ⟨by have := (zz18 l (.agg [.int .i64 a, .int .i64 b, .str s])).2; have := h.1; omega, fun x hx => ?_⟩
  unfold allL at hx
  split at hx
  · rcases List.mem_or_eq_of_mem_set hx with h1 | rfl
    · exact h.2 x h1
    · exact hn
  · rcases List.mem_append.1 hx with h1 | h1
    · exact h.2 x h1
    · rw [List.mem_singleton] at h1; subst h1; exact hn
theorem HOk.set {n : Nat} {l : List E} (h : HOk n l) {i : Nat} {x : E} (hx : CellOk x) : HOk n (l.set i x) := by
  refine ⟨by rw [List.length_set]; exact h.1, fun y hy => ?_⟩
  rcases List.mem_or_eq_of_mem_set hy with h1 | rfl
  · exact h.2 y h1
  · exact hx
theorem HOk.hold {n : Nat} {l : List E} (h : HOk n l) (k : Int) : HOk n (holdLE l k) := by
  cases hb : heldLE l k with
  | false => rw [zb15 hb]; exact h
  | true =>
    obtain ⟨i, r, v0, v1, v2, rfl, hlt, hx, hr, hr2⟩ := zr16 (fun y hy => (h.2 y hy).ty.1) hb
    rw [zr12 hx hr]
    obtain ⟨r', a, b, s, h1, h2, e⟩ := h.2 _ (List.mem_of_getElem? hx)
    simp only [cellD, E.agg.injEq, List.cons.injEq, E.int.injEq, E.str.injEq, true_and, and_true] at e
    obtain ⟨rfl, rfl, rfl, rfl⟩ := e
    refine h.set ⟨_, _, _, _, ?_, h2, rfl⟩
    unfold I64; rw [IntKind.wrap_i64]; omega
theorem zc8 {e : E} (h : e.Ty Try.prog 34) : flatE e = true := by
  obtain ⟨y0, y1, y2, y3, rfl, _⟩ := zl3 h; rfl
theorem zd8 {e : E} (h : e.Ty Try.prog 82) : flatE e = true := by
  obtain ⟨y0, y1, y2, y3, rfl, _⟩ := zy4 h; rfl
theorem zr9 {e : E} (he : e.Ty Try.prog 27) (hsz : e.sz ≤ 1048576) : Ctr Try.prog 42 [.ag (acE e)] [] (.ag (owE e)) [] := by
  obtain ⟨x0A, x0c, l, x1A, x1c, l2, rfl, ⟨hl, hk⟩, ⟨hl2, hk2⟩, -⟩ := zi3 he
  have hlen : l.length ≤ 1048576 := by simp only [E.sz, E.szL] at hsz; omega
  have hlen2 : l2.length ≤ 1048576 := by simp only [E.sz, E.szL] at hsz; omega
  refine zt1 Try.func42 rfl rfl ?_
  repeat (first | refine zl ?_ | refine zf ?_ | refine zh ?_ | refine zi ?_ | refine zu ?_ | refine zb fun C => ?_ | refine ze (by kernel_rfl) (by kernel_rfl) fun C => ?_ | refine zd ?_ | refine zp1 ?_ | refine x_bs ?_ | refine x_gr ?_ | refine x_st ?_ | refine x_mv ?_ | refine x_sk ?_ | refine zz1 ?_ | refine x_ix ?_ | refine za2 ?_ | refine zb2 ?_ | refine zs1 ?_ | refine ze1 ?_ | refine x_ld ?_)
  have fl : acL l = owL l := zy5 l (zk6 fun e h => zc8 (hl e h))
  refine zw3 (fun k : Nat => ⟨tmsF [(1, .c (.pt 1 0)), (2, .c (.pt 2 0)), (3, .c (.pt 3 0)), (4, .c (.v (.int .i64 k)))], hpsF [(1, 1, ⟨27, 0, 0, true, [.ro l.length 4 (acL l), .ro l2.length 2 (acL l2)]⟩), (2, 2, ⟨27, 0, 0, true, [.v (.slice none 0 0), .v (.slice none 0 0)]⟩), (3, 3, ⟨27, 0, 0, true, [.sl 8 l.length, .sl 9 k]⟩), (8, 8, ⟨34, 4, l.length, false, owL l⟩), (9, 9, ⟨80, 2, k, false, owL (l2.take k)⟩)], 0, [1, 2, 3, 8, 9], 38⟩)
    (fun N k => k + N = l2.length) l2.length 0 (by omega) ?_ ?_
  · refine (zu19 9 (i := 3) 80 2 rfl rfl (pre := [_]) (post := []) rfl).trans ?_
    (refine zv2 _ _ rfl rfl ?_ ?_ <;> (repeat' (first | exact TmOk.nil | exact RwOk.nil | refine TmOk.cons ?_ ?_ | refine RwOk.cons ?_ ?_ | rfl | (refine rnV_id' rfl ?_; (first | rfl | (simp [cloV, cloL, clo, zo, zn, zp, zm, zk]; done))) | (refine zd3 ?_; first | rfl | omega | (rw [zr1 (by omega) (by omega)]; omega)) | (refine ze2 rfl ?_; (first | rfl | (simp [cloV, cloL, clo, zo, zn, zp, zm, zk]; done))) | exact zd4 rfl rfl | (refine ze4 (by rfl) (by rfl) ?_ ?_ <;> (first | rfl | (simp [cloV, cloL, clo, zo, zn, zp, zm, zk]; done))) | (refine rw_rn' rfl rfl ?_; simp; done))))
    exact ze16 rfl (by rw [← fl]) (by first | rfl | (simp [cloV, cloL, clo, zo, zn, zp, zm, zk]; done))
  rintro N k hN
  repeat (first | refine zl ?_ | refine zf ?_ | refine zh ?_ | refine zi ?_ | refine zu ?_ | refine zb fun C => ?_ | refine ze (by kernel_rfl) (by kernel_rfl) fun C => ?_ | refine zd ?_ | refine zp1 ?_ | refine x_bs ?_ | refine x_gr ?_ | refine x_st ?_ | refine x_mv ?_ | refine x_sk ?_ | refine zz1 ?_ | refine x_ix ?_ | refine za2 ?_ | refine zb2 ?_ | refine zs1 ?_ | refine ze1 ?_ | refine x_ld ?_)
  refine zd2 (by rfl) (fun h1 => ?_) fun h1 => ?_
  · have hk' : k < l2.length := by simpa using h1
    obtain ⟨x, hx⟩ : ∃ x, l2[k]? = some x := ⟨_, List.getElem?_eq_getElem hk'⟩
    obtain ⟨y0, y1A, y1c, y1, rfl, hy0, ⟨hy1, hy1k⟩, -⟩ := zz3 (hl2 x (List.mem_of_getElem? hx))
    have hy1l : y1.length ≤ 1048576 := by
      have := E.szL_mem (List.mem_of_getElem? hx)
      simp only [E.sz, E.szL] at hsz this; omega
    have fl1 : acL y1 = owL y1 := zy5 y1 (zk6 fun e h => zd8 (hy1 e h))
    repeat (first | refine zl ?_ | refine zf ?_ | refine zh ?_ | refine zi ?_ | refine zu ?_ | refine zb fun C => ?_ | refine ze (by kernel_rfl) (by kernel_rfl) fun C => ?_ | refine zd ?_ | refine zp1 ?_ | refine x_bs ?_ | refine x_gr ?_ | refine x_st ?_ | refine x_mv ?_ | refine x_sk ?_ | refine zz1 ?_ | refine x_ix ?_ | refine za2 ?_ | refine zb2 ?_ | refine zs1 ?_ | refine ze1 ?_ | refine x_ld ?_)
    refine ⟨N - 1, k + 1, by omega, by omega, ?_⟩
    refine (zp8 (i := 35) (j := 32) rfl rfl rfl rfl rfl (pre := owL (l2.take k) ++ [.v (.string y0)]) (post := []) (by rw [List.append_assoc]; rfl)).trans ?_
    (refine zr17 (fun j => if j = 9 then 35 else j) _ _ rfl rfl ?_ ?_ <;> (repeat' (first | exact TmOk.nil | exact RwOk.nil | refine TmOk.cons ?_ ?_ | refine RwOk.cons ?_ ?_ | rfl | (refine rnV_id' rfl ?_; (first | rfl | (simp [cloV, cloL, clo, zo, zn, zp, zm, zk]; done))) | (refine zd3 ?_; first | rfl | omega | (rw [zr1 (by omega) (by omega)]; omega)) | (refine ze2 rfl ?_; (first | rfl | (simp [cloV, cloL, clo, zo, zn, zp, zm, zk]; done))) | exact zd4 rfl rfl | (refine ze4 (by rfl) (by rfl) ?_ ?_ <;> (first | rfl | (simp [cloV, cloL, clo, zo, zn, zp, zm, zk]; done))) | (refine rw_rn' rfl rfl ?_; simp; done))))
    exact ze16 (r := ⟨80, 2, k + 1, false, (owL (l2.take k) ++ [.v (.string y0)]) ++ [.ow 82 y1.length 4 (acL y1)]⟩) rfl (by rw [zl6 hx, fl1, List.append_assoc]; rfl) (by first | rfl | (simp [cloV, cloL, clo, zo, zn, zp, zm, zk]; done))
  · have hk' : ¬ k < l2.length := by simpa using h1
    repeat (first | refine zl ?_ | refine zf ?_ | refine zh ?_ | refine zi ?_ | refine zu ?_ | refine zb fun C => ?_ | refine ze (by kernel_rfl) (by kernel_rfl) fun C => ?_ | refine zd ?_ | refine zp1 ?_ | refine x_bs ?_ | refine x_gr ?_ | refine x_st ?_ | refine x_mv ?_ | refine x_sk ?_ | refine zz1 ?_ | refine x_ix ?_ | refine za2 ?_ | refine zb2 ?_ | refine zs1 ?_ | refine ze1 ?_ | refine x_ld ?_)
    obtain rfl : k = l2.length := by omega
    refine ret0 (x := .ag [.ow 34 l.length 4 (owL l), .ow 80 l2.length 2 (owL (l2.take l2.length))]) rfl (zs3 (zr3 (rw := ⟨34, 4, l.length, false, owL l⟩) rfl rfl rfl (zm _) (zr3 (rw := ⟨80, 2, l2.length, false, owL (l2.take l2.length)⟩) rfl rfl rfl (zm _) zt2))) ⟨?_, rfl⟩
    rw [List.take_length]; rfl
def setVarL (l : List E) (s : ByteArray) (v : E) : List E := match l.findIdx? (isNm s) with | some k => l.set k (.agg [.str (nmE (l[k]?.getD v)), v]) | none => l
def setVarE (e : E) (s : ByteArray) (v : E) : E := .agg [.lst 4 34 none 0 (setVarL (varsE e) s v), .lst 2 80 none 0 (tabsE e)]
theorem zs9 {e v : E} (he : e.Ty Try.prog 27) (hv : v.Ty Try.prog 29) (s : ByteArray) (hsz : e.sz ≤ 1048576) : Ctr Try.prog 12 [.ag (acE e), .c (.v (.string s)), .ag (acE v)] [] (.ag (owE (setVarE e s v))) [] := by
  have he' := he
  obtain ⟨x0A, x0c, l, x1A, x1c, l2, rfl, ⟨hl, hk⟩, ⟨hl2, hk2⟩, -⟩ := zi3 he'
  obtain ⟨v0, v1, v2, rfl, -⟩ := za4 hv
  have cv := zq16 he s hsz
  rcases zn4 (isNm s) l with h0 | ⟨k, h0, hlt⟩
  · rw [show varsE _ = l from rfl, h0] at cv
    refine zt1 Try.func12 rfl rfl ?_
    repeat (first | refine zl ?_ | refine zf ?_ | refine zh ?_ | refine zi ?_ | refine zu ?_ | refine zb fun C => ?_ | refine ze (by kernel_rfl) (by kernel_rfl) fun C => ?_ | refine zd ?_ | refine zp1 ?_ | refine x_bs ?_ | refine x_gr ?_ | refine x_st ?_ | refine x_mv ?_ | refine x_sk ?_ | refine zz1 ?_ | refine x_ix ?_ | refine za2 ?_ | refine zb2 ?_ | refine zs1 ?_ | refine ze1 ?_ | refine x_ld ?_)
    refine za5 100 (zr9 he hsz) ?_
    repeat (first | refine zl ?_ | refine zf ?_ | refine zh ?_ | refine zi ?_ | refine zu ?_ | refine zb fun C => ?_ | refine ze (by kernel_rfl) (by kernel_rfl) fun C => ?_ | refine zd ?_ | refine zp1 ?_ | refine x_bs ?_ | refine x_gr ?_ | refine x_st ?_ | refine x_mv ?_ | refine x_sk ?_ | refine zz1 ?_ | refine x_ix ?_ | refine za2 ?_ | refine zb2 ?_ | refine zs1 ?_ | refine ze1 ?_ | refine x_ld ?_)
    refine za5 110 cv ?_
    repeat (first | refine zl ?_ | refine zf ?_ | refine zh ?_ | refine zi ?_ | refine zu ?_ | refine zb fun C => ?_ | refine ze (by kernel_rfl) (by kernel_rfl) fun C => ?_ | refine zd ?_ | refine zp1 ?_ | refine x_bs ?_ | refine x_gr ?_ | refine x_st ?_ | refine x_mv ?_ | refine x_sk ?_ | refine zz1 ?_ | refine x_ix ?_ | refine za2 ?_ | refine zb2 ?_ | refine zs1 ?_ | refine ze1 ?_ | refine x_ld ?_)
    refine zd2 (by rfl) (fun h1 => ?_) fun h1 => ?_
    · simp at h1
    · repeat (first | refine zl ?_ | refine zf ?_ | refine zh ?_ | refine zi ?_ | refine zu ?_ | refine zb fun C => ?_ | refine ze (by kernel_rfl) (by kernel_rfl) fun C => ?_ | refine zd ?_ | refine zp1 ?_ | refine x_bs ?_ | refine x_gr ?_ | refine x_st ?_ | refine x_mv ?_ | refine x_sk ?_ | refine zz1 ?_ | refine x_ix ?_ | refine za2 ?_ | refine zb2 ?_ | refine zs1 ?_ | refine ze1 ?_ | refine x_ld ?_)
      refine ret0 (x := .ag [.ow 34 l.length 4 (owL l), .ow 80 l2.length 2 (owL l2)]) rfl (zs3 (zr3 (rw := ⟨34, 4, l.length, false, owL l⟩) rfl rfl rfl (zm _) (zr3 (rw := ⟨80, 2, l2.length, false, owL l2⟩) rfl rfl rfl (zm _) zt2))) ⟨?_, rfl⟩
      simp [setVarE, setVarL, varsE, tabsE, zx5 h0, owE, owL]
  · rw [show varsE _ = l from rfl, h0] at cv
    have hle : k * 4 + 1 + 3 ≤ (owL l).length := zr10 hk hlt (by omega)
    refine zt1 Try.func12 rfl rfl ?_
    repeat (first | refine zl ?_ | refine zf ?_ | refine zh ?_ | refine zi ?_ | refine zu ?_ | refine zb fun C => ?_ | refine ze (by kernel_rfl) (by kernel_rfl) fun C => ?_ | refine zd ?_ | refine zp1 ?_ | refine x_bs ?_ | refine x_gr ?_ | refine x_st ?_ | refine x_mv ?_ | refine x_sk ?_ | refine zz1 ?_ | refine x_ix ?_ | refine za2 ?_ | refine zb2 ?_ | refine zs1 ?_ | refine ze1 ?_ | refine x_ld ?_)
    refine za5 100 (zr9 he hsz) ?_
    repeat (first | refine zl ?_ | refine zf ?_ | refine zh ?_ | refine zi ?_ | refine zu ?_ | refine zb fun C => ?_ | refine ze (by kernel_rfl) (by kernel_rfl) fun C => ?_ | refine zd ?_ | refine zp1 ?_ | refine x_bs ?_ | refine x_gr ?_ | refine x_st ?_ | refine x_mv ?_ | refine x_sk ?_ | refine zz1 ?_ | refine x_ix ?_ | refine za2 ?_ | refine zb2 ?_ | refine zs1 ?_ | refine ze1 ?_ | refine x_ld ?_)
    refine za5 110 cv ?_
    repeat (first | refine zl ?_ | refine zf ?_ | refine zh ?_ | refine zi ?_ | refine zu ?_ | refine zb fun C => ?_ | refine ze (by kernel_rfl) (by kernel_rfl) fun C => ?_ | refine zd ?_ | refine zp1 ?_ | refine x_bs ?_ | refine x_gr ?_ | refine x_st ?_ | refine x_mv ?_ | refine x_sk ?_ | refine zz1 ?_ | refine x_ix ?_ | refine za2 ?_ | refine zb2 ?_ | refine zs1 ?_ | refine ze1 ?_ | refine x_ld ?_)
    refine zd2 (by rfl) (fun h1 => ?_) fun h1 => ?_
    · repeat (first | refine zl ?_ | refine zf ?_ | refine zh ?_ | refine zi ?_ | refine zu ?_ | refine zb fun C => ?_ | refine ze (by kernel_rfl) (by kernel_rfl) fun C => ?_ | refine zd ?_ | refine zp1 ?_ | refine x_bs ?_ | refine x_gr ?_ | refine x_st ?_ | refine x_mv ?_ | refine x_sk ?_ | refine zz1 ?_ | refine x_ix ?_ | refine za2 ?_ | refine zb2 ?_ | refine zs1 ?_ | refine ze1 ?_ | refine x_ld ?_)
      obtain ⟨x, hx⟩ : ∃ x, l[k]? = some x := ⟨_, List.getElem?_eq_getElem hlt⟩
      obtain ⟨y0, y1, y2, y3, rfl, hy⟩ := zl3 (hl x (List.mem_of_getElem? hx))
      have e1 : spl (owL l) (k * 4 + 1) [.v (.int .i64 v0), .v (.int .i64 v1), .v (.string v2)] = owL (l.set k (.agg [.str y0, .agg [.int .i64 v0, .int .i64 v1, .str v2]])) := zq10 hk hx (by simp) rfl
      refine ret0 (x := .ag [.ow 34 l.length 4 (spl (owL l) (k * 4 + 1) [.v (.int .i64 v0), .v (.int .i64 v1), .v (.string v2)]), .ow 80 l2.length 2 (owL l2)]) rfl (zs3 (zr3 (rw := ⟨34, 4, l.length, false, spl (owL l) (k * 4 + 1) [.v (.int .i64 v0), .v (.int .i64 v1), .v (.string v2)]⟩) rfl rfl rfl (by rw [e1]; exact zm _) (zr3 (rw := ⟨80, 2, l2.length, false, owL l2⟩) rfl rfl rfl (zm _) zt2))) ⟨?_, rfl⟩
      rw [e1]
      simp [setVarE, setVarL, varsE, tabsE, zj6 h0, hx, nmE, owE, owL]
    · simp at h1
theorem zs12 {x : E} (hx : x.Ty Try.prog 34) (s : ByteArray) : Ctr Try.prog 87 [.ag (acE x), .c (.pt 0 0)] [[.v (.string s)]] (.c (.v (.bool (isNm s x)))) [[.v (.string s)]] := by
  obtain ⟨y0, y1, y2, y3, rfl, hy⟩ := zl3 hx
  refine zt1 Try.func87 rfl rfl ?_
  repeat (first | refine zl ?_ | refine zf ?_ | refine zh ?_ | refine zi ?_ | refine zu ?_ | refine zb fun C => ?_ | refine ze (by kernel_rfl) (by kernel_rfl) fun C => ?_ | refine zd ?_ | refine zp1 ?_ | refine x_bs ?_ | refine x_gr ?_ | refine x_st ?_ | refine x_mv ?_ | refine x_sk ?_ | refine zz1 ?_ | refine x_ix ?_ | refine za2 ?_ | refine zb2 ?_ | refine zs1 ?_ | refine ze1 ?_ | refine x_ld ?_)
  exact ret1 (x := .c (.v (.bool (y0.toList == s.toList)))) (rw := ⟨0, 0, 0, true, [.v (.string s)]⟩) rfl rfl rfl rfl rfl ⟨rfl, rfl⟩
theorem zt12 {l : List E} (hl : ∀ e ∈ l, e.Ty Try.prog 34) (hk : ∀ e ∈ l, e.enc.length = 4) (s : ByteArray) (hlen : l.length ≤ 1073741824) : Ctr Try.prog 86 [.c (.ro l.length 4 (acL l)), .c (.fn 87 [.pt 0 0])] [[.v (.string s)]] (.c (.v (.int .i64 (idxF (isNm s) l)))) [[.v (.string s)]] := by
  refine zt1 Try.func86 rfl rfl ?_
  repeat (first | refine zl ?_ | refine zf ?_ | refine zh ?_ | refine zi ?_ | refine zu ?_ | refine zb fun C => ?_ | refine ze (by kernel_rfl) (by kernel_rfl) fun C => ?_ | refine zd ?_ | refine zp1 ?_ | refine x_bs ?_ | refine x_gr ?_ | refine x_st ?_ | refine x_mv ?_ | refine x_sk ?_ | refine zz1 ?_ | refine x_ix ?_ | refine za2 ?_ | refine zb2 ?_ | refine zs1 ?_ | refine ze1 ?_ | refine x_ld ?_)
  refine zw3 (fun k : Nat => ⟨tmsF [(0, .c (.ro l.length 4 (acL l))), (1, .c (.fn 87 [.pt 0 0])), (7, .c (.v (.int .i64 l.length))), (8, .c (.v (.int .i64 k)))], hpsF [(0, 0, ⟨0, 0, 0, true, [.v (.string s)]⟩)], 1, [0], 19⟩)
    (fun N k => k + N = l.length ∧ ∀ j y, j < k → l[j]? = some y → isNm s y = false) l.length 0 ⟨by omega, by omega⟩ ?_ ?_
  · (refine zv2 _ _ rfl rfl ?_ ?_ <;> (repeat' (first | exact TmOk.nil | exact RwOk.nil | refine TmOk.cons ?_ ?_ | refine RwOk.cons ?_ ?_ | rfl | (refine rnV_id' rfl ?_; (first | rfl | (simp [cloV, cloL, clo, zo, zn, zp, zm, zk]; done))) | (refine zd3 ?_; first | rfl | omega | (rw [zr1 (by omega) (by omega)]; omega)) | (refine ze2 rfl ?_; (first | rfl | (simp [cloV, cloL, clo, zo, zn, zp, zm, zk]; done))) | exact zd4 rfl rfl | (refine ze4 (by rfl) (by rfl) ?_ ?_ <;> (first | rfl | (simp [cloV, cloL, clo, zo, zn, zp, zm, zk]; done))) | (refine rw_rn' rfl rfl ?_; simp; done))))
  rintro N k ⟨hN, hno⟩
  repeat (first | refine zl ?_ | refine zf ?_ | refine zh ?_ | refine zi ?_ | refine zu ?_ | refine zb fun C => ?_ | refine ze (by kernel_rfl) (by kernel_rfl) fun C => ?_ | refine zd ?_ | refine zp1 ?_ | refine x_bs ?_ | refine x_gr ?_ | refine x_st ?_ | refine x_mv ?_ | refine x_sk ?_ | refine zz1 ?_ | refine x_ix ?_ | refine za2 ?_ | refine zb2 ?_ | refine zs1 ?_ | refine ze1 ?_ | refine x_ld ?_)
  refine zd2 (by rfl) (fun h1 => ?_) fun h1 => ?_
  · have hk' : k < l.length := by simpa using h1
    obtain ⟨x, hx⟩ : ∃ x, l[k]? = some x := ⟨_, List.getElem?_eq_getElem hk'⟩
    have hxt := hl x (List.mem_of_getElem? hx)
    have hc := zs12 hxt s
    obtain ⟨y0, y1, y2, y3, rfl, hy⟩ := zl3 hxt
    repeat (first | refine zl ?_ | refine zf ?_ | refine zh ?_ | refine zi ?_ | refine zu ?_ | refine zb fun C => ?_ | refine ze (by kernel_rfl) (by kernel_rfl) fun C => ?_ | refine zd ?_ | refine zp1 ?_ | refine x_bs ?_ | refine x_gr ?_ | refine x_st ?_ | refine x_mv ?_ | refine x_sk ?_ | refine zz1 ?_ | refine x_ix ?_ | refine za2 ?_ | refine zb2 ?_ | refine zs1 ?_ | refine ze1 ?_ | refine x_ld ?_)
    refine zm14 50 [0] hc ?_
    repeat (first | refine zl ?_ | refine zf ?_ | refine zh ?_ | refine zi ?_ | refine zu ?_ | refine zb fun C => ?_ | refine ze (by kernel_rfl) (by kernel_rfl) fun C => ?_ | refine zd ?_ | refine zp1 ?_ | refine x_bs ?_ | refine x_gr ?_ | refine x_st ?_ | refine x_mv ?_ | refine x_sk ?_ | refine zz1 ?_ | refine x_ix ?_ | refine za2 ?_ | refine zb2 ?_ | refine zs1 ?_ | refine ze1 ?_ | refine x_ld ?_)
    refine zd2 (by rfl) (fun h2 => ?_) fun h2 => ?_
    · repeat (first | refine zl ?_ | refine zf ?_ | refine zh ?_ | refine zi ?_ | refine zu ?_ | refine zb fun C => ?_ | refine ze (by kernel_rfl) (by kernel_rfl) fun C => ?_ | refine zd ?_ | refine zp1 ?_ | refine x_bs ?_ | refine x_gr ?_ | refine x_st ?_ | refine x_mv ?_ | refine x_sk ?_ | refine zz1 ?_ | refine x_ix ?_ | refine za2 ?_ | refine zb2 ?_ | refine zs1 ?_ | refine ze1 ?_ | refine x_ld ?_)
      refine ret1 (x := .c (.v (.int .i64 k))) (rw := ⟨0, 0, 0, true, [.v (.string s)]⟩) rfl rfl rfl rfl rfl ⟨?_, rfl⟩
      rw [zn8 hno hx h2]
    · repeat (first | refine zl ?_ | refine zf ?_ | refine zh ?_ | refine zi ?_ | refine zu ?_ | refine zb fun C => ?_ | refine ze (by kernel_rfl) (by kernel_rfl) fun C => ?_ | refine zd ?_ | refine zp1 ?_ | refine x_bs ?_ | refine x_gr ?_ | refine x_st ?_ | refine x_mv ?_ | refine x_sk ?_ | refine zz1 ?_ | refine x_ix ?_ | refine za2 ?_ | refine zb2 ?_ | refine zs1 ?_ | refine ze1 ?_ | refine x_ld ?_)
      refine ⟨N - 1, k + 1, by omega, ⟨by omega, fun j z hj hz => ?_⟩, ?_⟩
      · by_cases e : j = k
        · rw [e, hx] at hz; injection hz with hz; subst hz; exact h2
        · exact hno j z (by omega) hz
      · (refine zv2 _ _ rfl rfl ?_ ?_ <;> (repeat' (first | exact TmOk.nil | exact RwOk.nil | refine TmOk.cons ?_ ?_ | refine RwOk.cons ?_ ?_ | rfl | (refine rnV_id' rfl ?_; (first | rfl | (simp [cloV, cloL, clo, zo, zn, zp, zm, zk]; done))) | (refine zd3 ?_; first | rfl | omega | (rw [zr1 (by omega) (by omega)]; omega)) | (refine ze2 rfl ?_; (first | rfl | (simp [cloV, cloL, clo, zo, zn, zp, zm, zk]; done))) | exact zd4 rfl rfl | (refine ze4 (by rfl) (by rfl) ?_ ?_ <;> (first | rfl | (simp [cloV, cloL, clo, zo, zn, zp, zm, zk]; done))) | (refine rw_rn' rfl rfl ?_; simp; done))))
  · have hk' : ¬ k < l.length := by simpa using h1
    repeat (first | refine zl ?_ | refine zf ?_ | refine zh ?_ | refine zi ?_ | refine zu ?_ | refine zb fun C => ?_ | refine ze (by kernel_rfl) (by kernel_rfl) fun C => ?_ | refine zd ?_ | refine zp1 ?_ | refine x_bs ?_ | refine x_gr ?_ | refine x_st ?_ | refine x_mv ?_ | refine x_sk ?_ | refine zz1 ?_ | refine x_ix ?_ | refine za2 ?_ | refine zb2 ?_ | refine zs1 ?_ | refine ze1 ?_ | refine x_ld ?_)
    refine ret1 (x := .c (.v (.int .i64 (-1)))) (rw := ⟨0, 0, 0, true, [.v (.string s)]⟩) rfl rfl rfl rfl rfl ⟨?_, rfl⟩
    rw [zi6 fun j y hj hy => hno j y (by omega) hy]
end Go.Proofs.Ytghljnfbbaklnaa
