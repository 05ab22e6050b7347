/- Lists of Ins: the first that .., whether one is among them: by the abstract machine. -/
import Derived.Test.YtghljnfbbaklnaaModuleOkV
namespace Go.Proofs.Ytghljnfbbaklnaa
open Go.RowKit
set_option maxRecDepth 100000
theorem zb22 {l : List E} (hl : ∀ e ∈ l, e.Ty Try.prog 111) (hk : ∀ e ∈ l, e.enc.length = 2) (hlen : l.length ≤ 1073741824) (p : E → Bool) (f : FuncId) (hc : ∀ x ∈ l, Ctr Try.prog f (.ag (acE x) :: []) [] (.c (.v (.bool (p x)))) []) : Ctr Try.prog 111 [.c (.ro l.length 2 (acL l)), .c (.fn f [])] [] (.c (.v (.int .i64 (idxF p l)))) [] := by
  refine zm2 Try.func111 rfl rfl ?_
  repeat (first | refine zn ?_ | refine ze ?_ | refine zh ?_ | refine zi ?_ | refine zu ?_ | refine zb fun C => ?_ | refine zp (by kernel_rfl) (by kernel_rfl) fun C => ?_ | refine zc ?_ | refine zr3 ?_ | refine x_bs ?_ | refine x_gr ?_ | refine x_st ?_ | refine x_mv ?_ | refine x_sk ?_ | refine ze4 ?_ | refine x_ix ?_ | refine zf4 ?_ | refine zg4 ?_ | refine zu3 ?_ | refine zv2 ?_ | refine x_ld ?_)
  refine zp3 (fun k : Nat => ⟨tmsF [(0, .c (.ro l.length 2 (acL l))), (1, .c (.fn f [])), (7, .c (.v (.int .i64 l.length))), (8, .c (.v (.int .i64 k)))], hpsF [], 0, [], 19⟩)
    (fun N k => k + N = l.length ∧ ∀ j y, j < k → l[j]? = some y → p y = false) l.length 0 ⟨by omega, by omega⟩ ?_ ?_
  · (refine zo2 _ _ rfl rfl ?_ ?_ <;> (repeat' (first | exact TmOk.nil | exact RwOk.nil | refine TmOk.cons ?_ ?_ | refine RwOk.cons ?_ ?_ | rfl | (refine rnV_id' rfl ?_; (first | rfl | (simp [cloV, cloL, clo, zj, zf, zk, zg, zd]; done))) | (refine zd3 ?_; first | rfl | omega | (rw [zb2 (by omega) (by omega)]; omega)) | (refine zi2 rfl ?_; (first | rfl | (simp [cloV, cloL, clo, zj, zf, zk, zg, zd]; done))) | exact zj4 rfl rfl | (refine ze3 (by rfl) (by rfl) ?_ ?_ <;> (first | rfl | (simp [cloV, cloL, clo, zj, zf, zk, zg, zd]; done))) | (refine rw_rn' rfl rfl ?_; simp; done))))
  rintro N k ⟨hN, hno⟩
  repeat (first | refine zn ?_ | refine ze ?_ | refine zh ?_ | refine zi ?_ | refine zu ?_ | refine zb fun C => ?_ | refine zp (by kernel_rfl) (by kernel_rfl) fun C => ?_ | refine zc ?_ | refine zr3 ?_ | refine x_bs ?_ | refine x_gr ?_ | refine x_st ?_ | refine x_mv ?_ | refine x_sk ?_ | refine ze4 ?_ | refine x_ix ?_ | refine zf4 ?_ | refine zg4 ?_ | refine zu3 ?_ | refine zv2 ?_ | refine x_ld ?_)
  refine zt3 (by rfl) (fun h1 => ?_) fun h1 => ?_
  · have hk' : k < l.length := by simpa using h1
    obtain ⟨x, hx⟩ : ∃ x, l[k]? = some x := ⟨_, List.getElem?_eq_getElem hk'⟩
    have hxt := hl x (List.mem_of_getElem? hx)
    have hcc := hc x (List.mem_of_getElem? hx)
    obtain ⟨y0, y1, rfl, gy0, gy1, -⟩ := zs4 hxt
    repeat (first | refine zn ?_ | refine ze ?_ | refine zh ?_ | refine zi ?_ | refine zu ?_ | refine zb fun C => ?_ | refine zp (by kernel_rfl) (by kernel_rfl) fun C => ?_ | refine zc ?_ | refine zr3 ?_ | refine x_bs ?_ | refine x_gr ?_ | refine x_st ?_ | refine x_mv ?_ | refine x_sk ?_ | refine ze4 ?_ | refine x_ix ?_ | refine zf4 ?_ | refine zg4 ?_ | refine zu3 ?_ | refine zv2 ?_ | refine x_ld ?_)
    refine zu6 hcc ?_
    repeat (first | refine zn ?_ | refine ze ?_ | refine zh ?_ | refine zi ?_ | refine zu ?_ | refine zb fun C => ?_ | refine zp (by kernel_rfl) (by kernel_rfl) fun C => ?_ | refine zc ?_ | refine zr3 ?_ | refine x_bs ?_ | refine x_gr ?_ | refine x_st ?_ | refine x_mv ?_ | refine x_sk ?_ | refine ze4 ?_ | refine x_ix ?_ | refine zf4 ?_ | refine zg4 ?_ | refine zu3 ?_ | refine zv2 ?_ | refine x_ld ?_)
    refine zt3 (by rfl) (fun h2 => ?_) fun h2 => ?_
    · repeat (first | refine zn ?_ | refine ze ?_ | refine zh ?_ | refine zi ?_ | refine zu ?_ | refine zb fun C => ?_ | refine zp (by kernel_rfl) (by kernel_rfl) fun C => ?_ | refine zc ?_ | refine zr3 ?_ | refine x_bs ?_ | refine x_gr ?_ | refine x_st ?_ | refine x_mv ?_ | refine x_sk ?_ | refine ze4 ?_ | refine x_ix ?_ | refine zf4 ?_ | refine zg4 ?_ | refine zu3 ?_ | refine zv2 ?_ | refine x_ld ?_)
      refine ret0 (x := .c (.v (.int .i64 k))) rfl zn2 ⟨?_, rfl⟩
      rw [zb10 hno hx h2]
    · repeat (first | refine zn ?_ | refine ze ?_ | refine zh ?_ | refine zi ?_ | refine zu ?_ | refine zb fun C => ?_ | refine zp (by kernel_rfl) (by kernel_rfl) fun C => ?_ | refine zc ?_ | refine zr3 ?_ | refine x_bs ?_ | refine x_gr ?_ | refine x_st ?_ | refine x_mv ?_ | refine x_sk ?_ | refine ze4 ?_ | refine x_ix ?_ | refine zf4 ?_ | refine zg4 ?_ | refine zu3 ?_ | refine zv2 ?_ | refine x_ld ?_)
      refine ⟨N - 1, k + 1, by omega, ⟨by omega, fun j z hj hz => ?_⟩, ?_⟩
      · by_cases e : j = k
        · rw [e, hx] at hz; injection hz with hz; subst hz; exact h2
        · exact hno j z (by omega) hz
      · (refine zo2 _ _ rfl rfl ?_ ?_ <;> (repeat' (first | exact TmOk.nil | exact RwOk.nil | refine TmOk.cons ?_ ?_ | refine RwOk.cons ?_ ?_ | rfl | (refine rnV_id' rfl ?_; (first | rfl | (simp [cloV, cloL, clo, zj, zf, zk, zg, zd]; done))) | (refine zd3 ?_; first | rfl | omega | (rw [zb2 (by omega) (by omega)]; omega)) | (refine zi2 rfl ?_; (first | rfl | (simp [cloV, cloL, clo, zj, zf, zk, zg, zd]; done))) | exact zj4 rfl rfl | (refine ze3 (by rfl) (by rfl) ?_ ?_ <;> (first | rfl | (simp [cloV, cloL, clo, zj, zf, zk, zg, zd]; done))) | (refine rw_rn' rfl rfl ?_; simp; done))))
  · have hk' : ¬ k < l.length := by simpa using h1
    repeat (first | refine zn ?_ | refine ze ?_ | refine zh ?_ | refine zi ?_ | refine zu ?_ | refine zb fun C => ?_ | refine zp (by kernel_rfl) (by kernel_rfl) fun C => ?_ | refine zc ?_ | refine zr3 ?_ | refine x_bs ?_ | refine x_gr ?_ | refine x_st ?_ | refine x_mv ?_ | refine x_sk ?_ | refine ze4 ?_ | refine x_ix ?_ | refine zf4 ?_ | refine zg4 ?_ | refine zu3 ?_ | refine zv2 ?_ | refine x_ld ?_)
    refine ret0 (x := .c (.v (.int .i64 (-1)))) rfl zn2 ⟨?_, rfl⟩
    rw [zp6 fun j y hj hy => hno j y (by omega) hy]
theorem zc22 {l : List E} (hl : ∀ e ∈ l, e.Ty Try.prog 111) (hk : ∀ e ∈ l, e.enc.length = 2) (hlen : l.length ≤ 1073741824) (p : E → Bool) (f : FuncId) (hc : ∀ x ∈ l, Ctr Try.prog f (.ag (acE x) :: []) [] (.c (.v (.bool (p x)))) []) : Ctr Try.prog 75 [.c (.ro l.length 2 (acL l)), .c (.fn f [])] [] (.c (.v (.bool (l.any p)))) [] := by
  refine zm2 Try.func75 rfl rfl ?_
  have hcc := zb22 hl hk hlen p f hc
  repeat (first | refine zn ?_ | refine ze ?_ | refine zh ?_ | refine zi ?_ | refine zu ?_ | refine zb fun C => ?_ | refine zp (by kernel_rfl) (by kernel_rfl) fun C => ?_ | refine zc ?_ | refine zr3 ?_ | refine x_bs ?_ | refine x_gr ?_ | refine x_st ?_ | refine x_mv ?_ | refine x_sk ?_ | refine ze4 ?_ | refine x_ix ?_ | refine zf4 ?_ | refine zg4 ?_ | refine zu3 ?_ | refine zv2 ?_ | refine x_ld ?_)
  refine zu6 hcc ?_
  repeat (first | refine zn ?_ | refine ze ?_ | refine zh ?_ | refine zi ?_ | refine zu ?_ | refine zb fun C => ?_ | refine zp (by kernel_rfl) (by kernel_rfl) fun C => ?_ | refine zc ?_ | refine zr3 ?_ | refine x_bs ?_ | refine x_gr ?_ | refine x_st ?_ | refine x_mv ?_ | refine x_sk ?_ | refine ze4 ?_ | refine x_ix ?_ | refine zf4 ?_ | refine zg4 ?_ | refine zu3 ?_ | refine zv2 ?_ | refine x_ld ?_)
  refine ret0 (x := .c (.v (.bool (decide (idxF p l ≥ 0))))) rfl zn2 ⟨?_, rfl⟩
  rw [zu7]
theorem zk14 {l : List E} (hl : ∀ e ∈ l, e.Ty Try.prog 9) (hk : ∀ e ∈ l, e.enc.length = 1) (hlen : l.length ≤ 1073741824) (p : E → Bool) (f : FuncId) (hc : ∀ x ∈ l, Ctr Try.prog f (.c (.v (.string (strB x))) :: []) [] (.c (.v (.bool (p x)))) []) : Ctr Try.prog 109 [.c (.ro l.length 1 (acL l)), .c (.fn f [])] [] (.c (.v (.int .i64 (idxF p l)))) [] := by
  refine zm2 Try.func109 rfl rfl ?_
  repeat (first | refine zn ?_ | refine ze ?_ | refine zh ?_ | refine zi ?_ | refine zu ?_ | refine zb fun C => ?_ | refine zp (by kernel_rfl) (by kernel_rfl) fun C => ?_ | refine zc ?_ | refine zr3 ?_ | refine x_bs ?_ | refine x_gr ?_ | refine x_st ?_ | refine x_mv ?_ | refine x_sk ?_ | refine ze4 ?_ | refine x_ix ?_ | refine zf4 ?_ | refine zg4 ?_ | refine zu3 ?_ | refine zv2 ?_ | refine x_ld ?_)
  refine zp3 (fun k : Nat => ⟨tmsF [(0, .c (.ro l.length 1 (acL l))), (1, .c (.fn f [])), (7, .c (.v (.int .i64 l.length))), (8, .c (.v (.int .i64 k)))], hpsF [], 0, [], 19⟩)
    (fun N k => k + N = l.length ∧ ∀ j y, j < k → l[j]? = some y → p y = false) l.length 0 ⟨by omega, by omega⟩ ?_ ?_
  · (refine zo2 _ _ rfl rfl ?_ ?_ <;> (repeat' (first | exact TmOk.nil | exact RwOk.nil | refine TmOk.cons ?_ ?_ | refine RwOk.cons ?_ ?_ | rfl | (refine rnV_id' rfl ?_; (first | rfl | (simp [cloV, cloL, clo, zj, zf, zk, zg, zd]; done))) | (refine zd3 ?_; first | rfl | omega | (rw [zb2 (by omega) (by omega)]; omega)) | (refine zi2 rfl ?_; (first | rfl | (simp [cloV, cloL, clo, zj, zf, zk, zg, zd]; done))) | exact zj4 rfl rfl | (refine ze3 (by rfl) (by rfl) ?_ ?_ <;> (first | rfl | (simp [cloV, cloL, clo, zj, zf, zk, zg, zd]; done))) | (refine rw_rn' rfl rfl ?_; simp; done))))
  rintro N k ⟨hN, hno⟩
  repeat (first | refine zn ?_ | refine ze ?_ | refine zh ?_ | refine zi ?_ | refine zu ?_ | refine zb fun C => ?_ | refine zp (by kernel_rfl) (by kernel_rfl) fun C => ?_ | refine zc ?_ | refine zr3 ?_ | refine x_bs ?_ | refine x_gr ?_ | refine x_st ?_ | refine x_mv ?_ | refine x_sk ?_ | refine ze4 ?_ | refine x_ix ?_ | refine zf4 ?_ | refine zg4 ?_ | refine zu3 ?_ | refine zv2 ?_ | refine x_ld ?_)
  refine zt3 (by rfl) (fun h1 => ?_) fun h1 => ?_
  · have hk' : k < l.length := by simpa using h1
    obtain ⟨x, hx⟩ : ∃ x, l[k]? = some x := ⟨_, List.getElem?_eq_getElem hk'⟩
    have hxt := hl x (List.mem_of_getElem? hx)
    have hcc := hc x (List.mem_of_getElem? hx)
    obtain ⟨y0, rfl, -⟩ := hxt.str_ Try.underlying9
    repeat (first | refine zn ?_ | refine ze ?_ | refine zh ?_ | refine zi ?_ | refine zu ?_ | refine zb fun C => ?_ | refine zp (by kernel_rfl) (by kernel_rfl) fun C => ?_ | refine zc ?_ | refine zr3 ?_ | refine x_bs ?_ | refine x_gr ?_ | refine x_st ?_ | refine x_mv ?_ | refine x_sk ?_ | refine ze4 ?_ | refine x_ix ?_ | refine zf4 ?_ | refine zg4 ?_ | refine zu3 ?_ | refine zv2 ?_ | refine x_ld ?_)
    refine zu6 hcc ?_
    repeat (first | refine zn ?_ | refine ze ?_ | refine zh ?_ | refine zi ?_ | refine zu ?_ | refine zb fun C => ?_ | refine zp (by kernel_rfl) (by kernel_rfl) fun C => ?_ | refine zc ?_ | refine zr3 ?_ | refine x_bs ?_ | refine x_gr ?_ | refine x_st ?_ | refine x_mv ?_ | refine x_sk ?_ | refine ze4 ?_ | refine x_ix ?_ | refine zf4 ?_ | refine zg4 ?_ | refine zu3 ?_ | refine zv2 ?_ | refine x_ld ?_)
    refine zt3 (by rfl) (fun h2 => ?_) fun h2 => ?_
    · repeat (first | refine zn ?_ | refine ze ?_ | refine zh ?_ | refine zi ?_ | refine zu ?_ | refine zb fun C => ?_ | refine zp (by kernel_rfl) (by kernel_rfl) fun C => ?_ | refine zc ?_ | refine zr3 ?_ | refine x_bs ?_ | refine x_gr ?_ | refine x_st ?_ | refine x_mv ?_ | refine x_sk ?_ | refine ze4 ?_ | refine x_ix ?_ | refine zf4 ?_ | refine zg4 ?_ | refine zu3 ?_ | refine zv2 ?_ | refine x_ld ?_)
      refine ret0 (x := .c (.v (.int .i64 k))) rfl zn2 ⟨?_, rfl⟩
      rw [zb10 hno hx h2]
    · repeat (first | refine zn ?_ | refine ze ?_ | refine zh ?_ | refine zi ?_ | refine zu ?_ | refine zb fun C => ?_ | refine zp (by kernel_rfl) (by kernel_rfl) fun C => ?_ | refine zc ?_ | refine zr3 ?_ | refine x_bs ?_ | refine x_gr ?_ | refine x_st ?_ | refine x_mv ?_ | refine x_sk ?_ | refine ze4 ?_ | refine x_ix ?_ | refine zf4 ?_ | refine zg4 ?_ | refine zu3 ?_ | refine zv2 ?_ | refine x_ld ?_)
      refine ⟨N - 1, k + 1, by omega, ⟨by omega, fun j z hj hz => ?_⟩, ?_⟩
      · by_cases e : j = k
        · rw [e, hx] at hz; injection hz with hz; subst hz; exact h2
        · exact hno j z (by omega) hz
      · (refine zo2 _ _ rfl rfl ?_ ?_ <;> (repeat' (first | exact TmOk.nil | exact RwOk.nil | refine TmOk.cons ?_ ?_ | refine RwOk.cons ?_ ?_ | rfl | (refine rnV_id' rfl ?_; (first | rfl | (simp [cloV, cloL, clo, zj, zf, zk, zg, zd]; done))) | (refine zd3 ?_; first | rfl | omega | (rw [zb2 (by omega) (by omega)]; omega)) | (refine zi2 rfl ?_; (first | rfl | (simp [cloV, cloL, clo, zj, zf, zk, zg, zd]; done))) | exact zj4 rfl rfl | (refine ze3 (by rfl) (by rfl) ?_ ?_ <;> (first | rfl | (simp [cloV, cloL, clo, zj, zf, zk, zg, zd]; done))) | (refine rw_rn' rfl rfl ?_; simp; done))))
  · have hk' : ¬ k < l.length := by simpa using h1
    repeat (first | refine zn ?_ | refine ze ?_ | refine zh ?_ | refine zi ?_ | refine zu ?_ | refine zb fun C => ?_ | refine zp (by kernel_rfl) (by kernel_rfl) fun C => ?_ | refine zc ?_ | refine zr3 ?_ | refine x_bs ?_ | refine x_gr ?_ | refine x_st ?_ | refine x_mv ?_ | refine x_sk ?_ | refine ze4 ?_ | refine x_ix ?_ | refine zf4 ?_ | refine zg4 ?_ | refine zu3 ?_ | refine zv2 ?_ | refine x_ld ?_)
    refine ret0 (x := .c (.v (.int .i64 (-1)))) rfl zn2 ⟨?_, rfl⟩
    rw [zp6 fun j y hj hy => hno j y (by omega) hy]
theorem zl14 {l : List E} (hl : ∀ e ∈ l, e.Ty Try.prog 9) (hk : ∀ e ∈ l, e.enc.length = 1) (hlen : l.length ≤ 1073741824) (p : E → Bool) (f : FuncId) (hc : ∀ x ∈ l, Ctr Try.prog f (.c (.v (.string (strB x))) :: []) [] (.c (.v (.bool (p x)))) []) : Ctr Try.prog 72 [.c (.ro l.length 1 (acL l)), .c (.fn f [])] [] (.c (.v (.bool (l.any p)))) [] := by
  refine zm2 Try.func72 rfl rfl ?_
  have hcc := zk14 hl hk hlen p f hc
  repeat (first | refine zn ?_ | refine ze ?_ | refine zh ?_ | refine zi ?_ | refine zu ?_ | refine zb fun C => ?_ | refine zp (by kernel_rfl) (by kernel_rfl) fun C => ?_ | refine zc ?_ | refine zr3 ?_ | refine x_bs ?_ | refine x_gr ?_ | refine x_st ?_ | refine x_mv ?_ | refine x_sk ?_ | refine ze4 ?_ | refine x_ix ?_ | refine zf4 ?_ | refine zg4 ?_ | refine zu3 ?_ | refine zv2 ?_ | refine x_ld ?_)
  refine zu6 hcc ?_
  repeat (first | refine zn ?_ | refine ze ?_ | refine zh ?_ | refine zi ?_ | refine zu ?_ | refine zb fun C => ?_ | refine zp (by kernel_rfl) (by kernel_rfl) fun C => ?_ | refine zc ?_ | refine zr3 ?_ | refine x_bs ?_ | refine x_gr ?_ | refine x_st ?_ | refine x_mv ?_ | refine x_sk ?_ | refine ze4 ?_ | refine x_ix ?_ | refine zf4 ?_ | refine zg4 ?_ | refine zu3 ?_ | refine zv2 ?_ | refine x_ld ?_)
  refine ret0 (x := .c (.v (.bool (decide (idxF p l ≥ 0))))) rfl zn2 ⟨?_, rfl⟩
  rw [zu7]
theorem zz5 {e : E} (h : e.Ty Try.prog 138) : ∃ (x0 : Int) (x1A : Option Addr) (x1c : Nat) (x1l : List E), e = (E.agg [.int .i64 x0, .lst 2 171 x1A x1c x1l]) ∧ ((Lit.int .i64 x0).wf = true) ∧ ((∀ y ∈ x1l, y.Ty Try.prog 171) ∧ (∀ y ∈ x1l, y.enc.length = 2)) ∧ True := by
  obtain ⟨fs, rfl, q0⟩ := h.agg_ Try.underlying138
  change E.TyF _ _ [3, 136] at q0
  obtain ⟨e0, r0, rfl, h0, q1⟩ := q0.cons_
  obtain ⟨e1, r1, rfl, h1, q2⟩ := q1.cons_
  obtain rfl := q2.nil_
  obtain ⟨x0, rfl, gx0⟩ := h0.int_ Try.underlying3
  obtain ⟨x1A, x1c, x1l, rfl, gx1, gx1'⟩ := h1.lst_ Try.underlying136 (k := 2) (by kernel_rfl)
  exact ⟨x0, x1A, x1c, x1l, rfl, gx0, ⟨gx1, gx1'⟩, trivial⟩
theorem zt4 {e : E} (h : e.Ty Try.prog 103) : ∃ (x0 : Int) (x1A : Option Addr) (x1c : Nat) (x1l : List E), e = (E.agg [.int .i64 x0, .lst 2 111 x1A x1c x1l]) ∧ ((Lit.int .i64 x0).wf = true) ∧ ((∀ y ∈ x1l, y.Ty Try.prog 111) ∧ (∀ y ∈ x1l, y.enc.length = 2)) ∧ True := by
  obtain ⟨fs, rfl, q0⟩ := h.agg_ Try.underlying103
  change E.TyF _ _ [3, 101] at q0
  obtain ⟨e0, r0, rfl, h0, q1⟩ := q0.cons_
  obtain ⟨e1, r1, rfl, h1, q2⟩ := q1.cons_
  obtain rfl := q2.nil_
  obtain ⟨x0, rfl, gx0⟩ := h0.int_ Try.underlying3
  obtain ⟨x1A, x1c, x1l, rfl, gx1, gx1'⟩ := h1.lst_ Try.underlying101 (k := 2) (by kernel_rfl)
  exact ⟨x0, x1A, x1c, x1l, rfl, gx0, ⟨gx1, gx1'⟩, trivial⟩
set_option maxRecDepth 100000 in
set_option maxHeartbeats 1000000 in
theorem zd22 {e : E} (ht : e.Ty Try.prog 138) : Sz 103 e := by
  obtain ⟨x0, x1A, x1c, x1l, rfl, gx0, gx1, -⟩ := zz5 ht
  intro left w hr h0 h1
  have HSZ : Hid ((E.agg [.int .i64 x0, .lst 2 171 x1A x1c x1l]).sz = (0 + ((E.lst 2 171 x1A x1c x1l).sz + 0))) := rfl
  change Calls _ _ #[.agg #[.int .i64 x0, .slice x1A x1l.length x1c], .int .i64 left] w _
  have hr1 := (hr.fld (i := 1) rfl).alloc (.cells #[.int .i64 x0, .slice x1A x1l.length x1c] 138)
  go_enter Try.func103, Try.ntmps103
  go_wp2_with fail
  go_at_call 119
  refine ((zx17 (E.Ty.mk_lst Try.underlying136 (by kernel_rfl) gx1.1 gx1.2)) _ _ hr1 (by omega) (by omega)).mono ?_; rintro e w1 ⟨r1, rfl, hr1s, hl1, hb1⟩
  have hz1 := hb1.size; (try simp only [World.size_alloc] at hz1)
  by_cases hn1 : r1 < 0
  · go_wp2
    go_ret
    exact ⟨-1, rfl, .inl (by omega), by omega, by exact (by repeat (first | (with_reducible refine Below.setCell ?_ (by first | omega | (· simp) | (· (simp; omega))) _) | (with_reducible refine Below.alloc ?_ (by first | omega | (· simp) | (· (simp; omega))) _) | (with_reducible refine Below.drew ?_) | (with_reducible refine zx2 ?_ _) | (with_reducible exact Below.refl _ _) | (with_reducible assumption) | (with_reducible refine Below.trans ?_ (Below.mono (by assumption) (by first | omega | (· simp) | (· (simp; omega))))) | (with_reducible refine Below.trans ?_ (Kp.below (by assumption) (by first | omega | (· simp) | (· (simp; omega))) (by first | omega | (· simp) | (· (simp; omega)))))))⟩
  have hq1 := hr1s.resolve_left hn1
  go_wp2
  go_ret
  refine ⟨_, rfl, .inr ?_, by omega, by exact (by repeat (first | (with_reducible refine Below.setCell ?_ (by first | omega | (· simp) | (· (simp; omega))) _) | (with_reducible refine Below.alloc ?_ (by first | omega | (· simp) | (· (simp; omega))) _) | (with_reducible refine Below.drew ?_) | (with_reducible refine zx2 ?_ _) | (with_reducible exact Below.refl _ _) | (with_reducible assumption) | (with_reducible refine Below.trans ?_ (Below.mono (by assumption) (by first | omega | (· simp) | (· (simp; omega))))) | (with_reducible refine Below.trans ?_ (Kp.below (by assumption) (by first | omega | (· simp) | (· (simp; omega))) (by first | omega | (· simp) | (· (simp; omega)))))))⟩
  show _ = _
  rw [HSZ.out]
  have e1 := hq1.out
  push_cast
  omega
set_option maxRecDepth 100000 in
set_option maxHeartbeats 1000000 in
theorem szMFnS_all' (A : Option Addr) (c : Nat) (l : List E) (ht : ∀ y ∈ l, y.Ty Try.prog 138) : Sz 63 (.lst 2 138 A c l) := by
  intro left w hr h0 h1
  have hs := hr.sl
  have hlen := hs.len_le
  have HSZ : Hid ((E.lst 2 138 A c l).sz = l.length + E.szL l) := rfl
  change Calls _ _ #[.slice A l.length c, .int .i64 left] w _
  by_cases hneg : left - l.length < 0
  · go_enter Try.func63, Try.ntmps63
    go_wp2
    go_ret
    exact ⟨-1, rfl, .inl (by omega), by omega, by exact (by repeat (first | (with_reducible refine Below.setCell ?_ (by first | omega | (· simp) | (· (simp; omega))) _) | (with_reducible refine Below.alloc ?_ (by first | omega | (· simp) | (· (simp; omega))) _) | (with_reducible refine Below.drew ?_) | (with_reducible refine zx2 ?_ _) | (with_reducible exact Below.refl _ _) | (with_reducible assumption) | (with_reducible refine Below.trans ?_ (Below.mono (by assumption) (by first | omega | (· simp) | (· (simp; omega))))) | (with_reducible refine Below.trans ?_ (Kp.below (by assumption) (by first | omega | (· simp) | (· (simp; omega))) (by first | omega | (· simp) | (· (simp; omega)))))))⟩
  go_enter Try.func63, Try.ntmps63
  go_wp2
  go_loopw [1, 5] (fun v i wr => ∃ (k : Nat) (cur : Int), k ≤ l.length ∧ i = .int .i64 k ∧ v = .int .i64 cur ∧ 0 ≤ cur ∧ cur ≤ left ∧ Hid (cur + E.szL (l.take k) + l.length = left) ∧ Below w.heap.size w wr) (fun _ i _ => l.length - (intOf i).toNat)
  case atStart => exact ⟨0, _, Nat.zero_le _, rfl, rfl, by omega, by omega, (by show _ = _; simp [E.szL]), Below.refl _ _⟩
  case round =>
    obtain ⟨k, cur, hk, rfl, rfl, hc0, hc1, HQ, hb⟩ := hrel
    have hzb := hb.size
    by_cases hlt : k < l.length
    · have hs' := hs.below hb (Nat.le_refl _)
      have HT := Lib.hid (E.szL_take l k hlt)
      obtain ⟨b, o, rfl, _, hc⟩ := hs'.at_ hlt
      have hin := (hr.el (List.getElem_mem hlt)).below hb (Nat.le_refl _)
      have H := zd22 (ht _ (List.getElem_mem hlt))
      obtain ⟨y0, y1A, y1c, y1l, ex, gy0, gy1, -⟩ := zz5 (ht _ (List.getElem_mem hlt))
      have HEX := Lib.hid ex
      rw [ex] at hc hin H
      clear ex
      have c0 := hc 0 _ rfl; have c1 := hc 1 _ rfl
      rw [Nat.add_zero] at c0
      clear hc
      go_wp2_with fail
      go_at_call 103
      refine (H _ _ hin hc0 (by omega)).mono ?_; rintro e w1 ⟨r, rfl, hrs, hrl, hb1⟩
      by_cases hn : r < 0
      · go_wp2
        go_ret
        exact ⟨-1, rfl, .inl (by omega), by omega, by exact (by repeat (first | (with_reducible refine Below.setCell ?_ (by first | omega | (· simp) | (· (simp; omega))) _) | (with_reducible refine Below.alloc ?_ (by first | omega | (· simp) | (· (simp; omega))) _) | (with_reducible refine Below.drew ?_) | (with_reducible refine zx2 ?_ _) | (with_reducible exact Below.refl _ _) | (with_reducible assumption) | (with_reducible refine Below.trans ?_ (Below.mono (by assumption) (by first | omega | (· simp) | (· (simp; omega))))) | (with_reducible refine Below.trans ?_ (Kp.below (by assumption) (by first | omega | (· simp) | (· (simp; omega))) (by first | omega | (· simp) | (· (simp; omega)))))))⟩
      · have HR := hrs.resolve_left hn
        clear hrs
        go_wp2
        go_roundw
        case rel => exact ⟨k + 1, r, by omega, by go_num, rfl, by omega, by omega, (by show _ = _; have e1 := HQ.out; have e2 := HT.out; have e3 := HR.out; rw [HEX.out] at e2; omega), by exact (by repeat (first | (with_reducible refine Below.setCell ?_ (by first | omega | (· simp) | (· (simp; omega))) _) | (with_reducible refine Below.alloc ?_ (by first | omega | (· simp) | (· (simp; omega))) _) | (with_reducible refine Below.drew ?_) | (with_reducible refine zx2 ?_ _) | (with_reducible exact Below.refl _ _) | (with_reducible assumption) | (with_reducible refine Below.trans ?_ (Below.mono (by assumption) (by first | omega | (· simp) | (· (simp; omega))))) | (with_reducible refine Below.trans ?_ (Kp.below (by assumption) (by first | omega | (· simp) | (· (simp; omega))) (by first | omega | (· simp) | (· (simp; omega)))))))⟩
        case measure => simp [intOf]; omega
    · have hk' : k = l.length := by omega
      subst hk'
      go_wp2
      go_ret
      refine ⟨_, rfl, .inr ?_, by omega, hb⟩
      show _ = _
      have e1 := HQ.out
      rw [List.take_length] at e1
      rw [HSZ.out]
      push_cast
      omega
theorem ze18 {e : E} (ht : e.Ty Try.prog 59) : Sz 63 e := by
  obtain ⟨A, c, l, rfl, h1, _⟩ := ht.lst_ Try.underlying59 (k := 2) (by kernel_rfl)
  exact szMFnS_all' A c l h1
set_option maxRecDepth 100000 in
set_option maxHeartbeats 1000000 in
theorem ze22 {e : E} (ht : e.Ty Try.prog 138) : To 107 103 e := by
  have HT0 := Lib.hid ht
  obtain ⟨x0, x1A, x1c, x1l, rfl, gx0, gx1, -⟩ := zz5 ht
  intro w hr hsz
  have hsz' : (0 + ((E.lst 2 171 x1A x1c x1l).sz + 0)) ≤ 1048576 := hsz
  have hs1 : (E.lst 2 171 x1A x1c x1l).sz ≤ 1048576 := by omega
  clear hsz hsz'
  have hr1 := hr.fld (i := 1) rfl
  have ty1 : (E.lst 2 171 x1A x1c x1l).Ty Try.prog 136 := E.Ty.mk_lst Try.underlying136 (by kernel_rfl) gx1.1 gx1.2
  have HC1 := Lib.hid (zy17 ty1)
  clear ty1
  change Calls _ _ #[.agg #[.int .i64 x0, .slice x1A x1l.length x1c]] w _
  go_enter Try.func107, Try.ntmps107
  go_wp2_with fail
  go_at_call 123
  refine (HC1.out _ (((hr1.alloc _).alloc _).alloc _) hs1).mono ?_; rintro e w1 ⟨v1, he, HD1, ht1, ho1, hn1, hb1⟩
  have HT1 := Lib.hid ht1
  have HN1 := Lib.hid hn1
  obtain ⟨A1, q1, l1, rfl, -, -⟩ := ht1.lst_ Try.underlying101 (k := 2) (by kernel_rfl)
  obtain rfl : e = .returned (.slice A1 l1.length q1) := he
  clear hn1 ht1
  have B0_1 : w1.heap[w.heap.size]? = some (.cells #[.int .i64 x0, .slice x1A x1l.length x1c] 138 (0, 0)) := (hb1.block (w.heap.size) (by simp; omega)).trans zz16.1
  have B1_1 : w1.heap[w.heap.size + 1]? = some (.cells #[.int .i64 0, .slice none 0 0] 103 (0, 0)) := (hb1.block (w.heap.size + 1) (by simp)).trans zz16.2.1
  have B2_1 : w1.heap[w.heap.size + 1 + 1]? = some (.cells #[.int .i64 x0, .slice none 0 0] 103 (0, 0)) := (hb1.block (w.heap.size + 1 + 1) (by simp)).trans zz16.2.2
  have hz1 := hb1.size; simp only [World.size_alloc] at hz1
  have hB1 : Below w.heap.size w w1 := (by exact (by repeat (first | (with_reducible refine Below.setCell ?_ (by first | omega | (· simp) | (· (simp; omega))) _) | (with_reducible refine Below.alloc ?_ (by first | omega | (· simp) | (· (simp; omega))) _) | (with_reducible refine Below.drew ?_) | (with_reducible refine zx2 ?_ _) | (with_reducible exact Below.refl _ _) | (with_reducible assumption) | (with_reducible refine Below.trans ?_ (Below.mono (by assumption) (by first | omega | (· simp) | (· (simp; omega))))) | (with_reducible refine Below.trans ?_ (Kp.below (by assumption) (by first | omega | (· simp) | (· (simp; omega))) (by first | omega | (· simp) | (· (simp; omega))))))) : Below w.heap.size w _).trans (hb1.mono (by simp; omega))
  have ho1 := ho1.wider (lo' := w.heap.size + 1 + 1 + 1) (by simp) (Nat.le_refl _)
  have c1_0 : w1.cell? ⟨w.heap.size, 0, none⟩ = some (.int .i64 x0) := zj1 B0_1 rfl
  have c1_1 : w1.cell? ⟨w.heap.size, 1, none⟩ = some (.slice x1A x1l.length x1c) := zj1 B0_1 rfl
  have d1_0 : w1.cell? ⟨w.heap.size + 1 + 1, 0, none⟩ = some (.int .i64 x0) := zj1 B2_1 rfl
  have d1_1 : w1.cell? ⟨w.heap.size + 1 + 1, 1, none⟩ = some (.slice none 0 0) := zj1 B2_1 rfl
  have f1 := zh11 B2_1
  have r0' := zj1 B1_1 (o := 0) rfl; have r1' := zj1 B1_1 (o := 1) rfl
  have fr' := zh11 B1_1
  go_wp2
  have OWN : Owns w1 (w.heap.size + 1 + 1 + 1) w1.heap.size [(E.int .i64 x0), (E.lst 2 111 A1 q1 l1)] := (Owns.leaf rfl (by simp only [E.Ho]) (Owns.cons (mid := w1.heap.size) ho1 HN1.out Owns.nil (by omega) (by omega)))
  refine bodyPost_ret (v := .agg #[.int .i64 x0, .slice A1 l1.length q1]) (zu15 (t := 103) (fr := (0, 0)) rfl rfl Try.underlying103 (by kernel_rfl) ?_) rfl ⟨(E.agg [(E.int .i64 x0), (E.lst 2 111 A1 q1 l1)]), rfl, ?_, E.Ty.mk_agg Try.underlying103 (E.TyF.mk_cons (show E.Ty _ _ _ from ⟨Try.underlying3, gx0⟩) (E.TyF.mk_cons HT1.out (E.TyF.mk_nil))), ?_, ?_, ?_⟩
  · simp only [zj9, B1_1, B2_1]; simp [setAt]
  · show E.d _ = E.d _
    simp only [E.d, E.dL]
    have y1 := HD1.out; simp only [E.d, E.dL] at y1
    simp only [E.agg.injEq, List.cons.injEq, E.lst.injEq, E.int.injEq, E.str.injEq, E.bool.injEq, true_and, and_true] at *
    simp [*]
  · exact ((E.Ho.mk_agg OWN.1).kp (lo' := w.heap.size + 1) (hi' := w.heap.size + 1 + 1 + 1) (by repeat (first | (with_reducible exact Kp.refl _ _ _) | (refine Kp.set ?_ (by first | omega | (dsimp only; omega) | (simp; omega)) (by first | omega | (dsimp only; omega) | (simp; omega)) _))) (.inr (by omega))).wider (by omega) (by simp)
  · exact OWN.2
  · exact hB1.trans (Kp.below (lo := w.heap.size + 1) (hi := w.heap.size + 1 + 1 + 1) (by repeat (first | (with_reducible exact Kp.refl _ _ _) | (refine Kp.set ?_ (by first | omega | (dsimp only; omega) | (simp; omega)) (by first | omega | (dsimp only; omega) | (simp; omega)) _))) (by omega) (by omega))
theorem einfoMFn : (Try.prog.info? 103).map (fun i => (i.zero, i.size, i.bytes)) = some (some (.agg #[.int .i64 0, .slice none 0 0]), 2, 32) := by kernel_rfl
set_option maxRecDepth 100000 in
set_option maxHeartbeats 1000000 in
theorem toMFnS_all' (A : Option Addr) (c : Nat) (l : List E) (h1 : ∀ y ∈ l, y.Ty Try.prog 138) : To 69 65 (.lst 2 138 A c l) := by
  intro w hr hsz
  have hs := hr.sl
  have eS : (E.lst 2 138 A c l).sz = l.length + E.szL l := rfl
  have hn : l.length ≤ 1048576 := by omega
  have HS := Lib.hid (show l.length + E.szL l ≤ 1048576 by omega)
  clear eS hsz
  have hmk := zi22 Try.underlying65 einfoMFn l.length (by omega) (by omega)
  have hF := Fill.new w 103 #[.int .i64 0, .slice none 0 0] (l.length * 2) ([] : List Value)
  change Calls _ _ #[.slice A l.length c] w _
  go_enter Try.func69, Try.ntmps69
  go_wp2
  go_loopw [4] (fun i wr => ∃ (k : Nat) (us : List E), k ≤ l.length ∧ i = .int .i64 k ∧ Hid (us.length = k) ∧ Hid (us.map E.d = (l.take k).map E.d) ∧ Hid (∀ u ∈ us, u.Ty Try.prog 103 ∧ u.enc.length = 2) ∧ Fill wr w.heap.size 103 (l.length * 2) (k * 2) (E.encL us) ∧ w.heap.size + 1 ≤ wr.heap.size ∧ Hid (∀ u ∈ us, u.Ho wr (w.heap.size + 1) wr.heap.size) ∧ Hid ((E.fpL us).Nodup) ∧ Below w.heap.size w wr) (fun i _ => l.length - (intOf i).toNat)
  case atStart => exact ⟨0, [], Nat.zero_le _, rfl, rfl, rfl, (fun u hu => absurd hu List.not_mem_nil), by exact hF, by simp, (fun u hu => absurd hu List.not_mem_nil), (by show List.Nodup _; simp [E.fpL]), by exact (by repeat (first | (with_reducible refine Below.setCell ?_ (by first | omega | (· simp) | (· (simp; omega))) _) | (with_reducible refine Below.alloc ?_ (by first | omega | (· simp) | (· (simp; omega))) _) | (with_reducible refine Below.drew ?_) | (with_reducible refine zx2 ?_ _) | (with_reducible exact Below.refl _ _) | (with_reducible assumption) | (with_reducible refine Below.trans ?_ (Below.mono (by assumption) (by first | omega | (· simp) | (· (simp; omega))))) | (with_reducible refine Below.trans ?_ (Kp.below (by assumption) (by first | omega | (· simp) | (· (simp; omega))) (by first | omega | (· simp) | (· (simp; omega)))))))⟩
  case round =>
    obtain ⟨k, us, hk, rfl, HL, HD, HT, hf, hge, HO, HN, hb⟩ := hrel
    by_cases hlt : k < l.length
    · have hs' := hs.below hb (Nat.le_refl _)
      have hzb := hb.size
      have hmem := List.getElem_mem hlt
      have hin := (hr.el hmem).below hb (Nat.le_refl _)
      have H := ze22 (h1 _ hmem)
      have hsk : l[k].sz ≤ 1048576 := by have := E.szL_mem hmem; have := HS.out; omega
      obtain ⟨b, o, rfl, _, hc⟩ := hs'.at_ hlt
      obtain ⟨y0, y1A, y1c, y1l, ex, gy0, gy1, -⟩ := zz5 (h1 _ hmem)
      have HEX := Lib.hid ex
      rw [ex] at hc hin H hsk
      clear ex
      have c0 := hc 0 _ rfl; have c1 := hc 1 _ rfl
      rw [Nat.add_zero] at c0
      clear hc
      have HF := Lib.hid hf
      clear hf
      go_wp2_with fail
      go_at_call 107
      refine (H _ hin hsk).mono ?_; rintro e w1 ⟨x, he, HDX, htx, hox, hnx, hb1⟩
      have HTX := Lib.hid htx
      obtain ⟨z0, z1A, z1c, z1l, rfl, gz0, gz1, -⟩ := zt4 htx
      obtain rfl : e = .returned (.agg #[.int .i64 z0, .slice z1A z1l.length z1c]) := he
      have hf1 := HF.out.below hb1 HF.out.lt
      obtain ⟨u0, c0'⟩ := hf1.cell (j := k * 2) (by omega); obtain ⟨u1, c1'⟩ := hf1.cell (j := k * 2 + 1) (by omega)
      have zfr := hf1.frozen
      have hz1 := hb1.size
      have HOX := Lib.hid hox
      have HNX := Lib.hid hnx
      have HF1 := Lib.hid hf1
      clear hox hnx hf1 htx
      go_wp2
      go_roundw
      case rel =>
        have hl := HL.out
        have hf1 := HF1.out
        have hT : ∀ u ∈ us ++ [(E.agg [.int .i64 z0, .lst 2 111 z1A z1c z1l])], u.Ty Try.prog 103 ∧ u.enc.length = 2 := fun u hu => by
          rcases List.mem_append.1 hu with hu | hu
          · exact HT.out u hu
          · obtain rfl := List.mem_singleton.1 hu
            exact ⟨HTX.out, rfl⟩
        have hlen := E.encL_len fun u hu => (HT.out u hu).2
        have hk2 : k < (us ++ [(E.agg [.int .i64 z0, .lst 2 111 z1A z1c z1l])]).length := by simp; omega
        have ev := fun j hj => E.encL_at (fun u hu => (hT u hu).2) k hk2 j hj
        have eT : (us ++ [(E.agg [.int .i64 z0, .lst 2 111 z1A z1c z1l])])[k] = (E.agg [.int .i64 z0, .lst 2 111 z1A z1c z1l]) := by rw [List.getElem_append_right (by omega)]; simp [hl]
        simp only [eT] at ev
        have hf2 : Fill w1 w.heap.size 103 (l.length * 2) (k * 2) (E.encL (us ++ [(E.agg [.int .i64 z0, .lst 2 111 z1A z1c z1l])])) := hf1.swap' fun j hj => E.encL_app_lt us _ j (by rw [hlen, hl]; exact hj)
        have K := fun (W : World) (h : Kp w.heap.size (w.heap.size + 1) w1 W) (u : E) (hu : u ∈ us) => ((HO.out u hu).below hb1 (Nat.le_refl _)).kp h (.inr (by omega))
        refine ⟨k + 1, us ++ [(E.agg [.int .i64 z0, .lst 2 111 z1A z1c z1l])], by omega, by go_num, by show _ = _; simp [hl], zl18 hlt HD.out (HDX.out.trans (by rw [← HEX.out])), hT, by rw [Nat.add_mul]; exact ((hf2.set (by omega) (ev 0 (by omega))).set (by omega) (ev 1 (by omega))), by simp; omega, ?_, ?_, by exact (by repeat (first | (with_reducible refine Below.setCell ?_ (by first | omega | (· simp) | (· (simp; omega))) _) | (with_reducible refine Below.alloc ?_ (by first | omega | (· simp) | (· (simp; omega))) _) | (with_reducible refine Below.drew ?_) | (with_reducible refine zx2 ?_ _) | (with_reducible exact Below.refl _ _) | (with_reducible assumption) | (with_reducible refine Below.trans ?_ (Below.mono (by assumption) (by first | omega | (· simp) | (· (simp; omega))))) | (with_reducible refine Below.trans ?_ (Kp.below (by assumption) (by first | omega | (· simp) | (· (simp; omega))) (by first | omega | (· simp) | (· (simp; omega)))))))⟩
        · intro u hu
          rcases List.mem_append.1 hu with hu | hu
          · exact (K _ (by repeat (first | (with_reducible exact Kp.refl _ _ _) | (refine Kp.set ?_ (by first | omega | (dsimp only; omega) | (simp; omega)) (by first | omega | (dsimp only; omega) | (simp; omega)) _))) u hu).wider (Nat.le_refl _) (by simp; omega)
          · obtain rfl := List.mem_singleton.1 hu
            exact (HOX.out.kp (lo' := w.heap.size) (hi' := w.heap.size + 1) (by repeat (first | (with_reducible exact Kp.refl _ _ _) | (refine Kp.set ?_ (by first | omega | (dsimp only; omega) | (simp; omega)) (by first | omega | (dsimp only; omega) | (simp; omega)) _))) (.inr (by omega))).wider (by omega) (by simp)
        · refine zb8 HN.out HNX.out fun g hg hg2 => ?_
          obtain ⟨u, hu, hg⟩ := E.mem_fpL.1 hg
          have := (HO.out u hu).lt g hg
          have := HOX.out.lt g hg2
          omega
      case measure => simp [intOf]; omega
    · have hk' : k = l.length := by omega
      subst hk'
      go_wp2
      go_ret
      have hl := HL.out
      have hTy := HT.out
      have own : wr.ownsRow w.heap.size 103 2 (.slice (some ⟨w.heap.size, 0, none⟩) l.length l.length) l.length (E.encL us) := hf.owns (Nat.le_refl _) rfl (by rw [E.encL_len fun u hu => (hTy u hu).2, hl]) (by unfold maxLen; omega)
      rw [← hl] at own
      refine ⟨.lst 2 103 (some ⟨w.heap.size, 0, none⟩) us.length us, by rw [← hl]; rfl, ?_, E.Ty.mk_lst Try.underlying65 (by kernel_rfl) (fun u hu => (hTy u hu).1) (fun u hu => (hTy u hu).2), E.Ho.mk (Ow.of_owns own (Nat.le_refl _)) (fun u hu => (hTy u hu).2) (fun u hu => (HO.out u hu).wider (by omega) (Nat.le_refl _)), ?_, hb⟩
      · show E.d _ = E.d _
        rw [zz12]
        have h := HD.out
        rwa [List.take_length] at h
      · simp only [E.fp, List.singleton_append, List.nodup_cons]
        refine ⟨fun hm => ?_, HN.out⟩
        obtain ⟨u, hu, hg⟩ := E.mem_fpL.1 hm
        have := (HO.out u hu).lt _ hg
        omega
theorem zf18 {e : E} (ht : e.Ty Try.prog 59) : To 69 65 e := by
  obtain ⟨A, c, l, rfl, h1, _⟩ := ht.lst_ Try.underlying59 (k := 2) (by kernel_rfl)
  exact toMFnS_all' A c l h1
set_option maxRecDepth 100000 in
set_option maxHeartbeats 1000000 in
theorem zf22 {e e' : E} (ht : e.Ty Try.prog 103) (ht' : e'.Ty Try.prog 103) : Eq 114 e e' := by
  obtain ⟨x0, x1A, x1c, x1l, rfl, gx0, gx1, -⟩ := zt4 ht
  obtain ⟨y0, y1A, y1c, y1l, rfl, gy0, gy1, -⟩ := zt4 ht'
  intro hd w hr hr'
  simp only [E.d, E.dL, E.agg.injEq, List.cons.injEq, E.int.injEq, E.str.injEq, E.bool.injEq, E.lst.injEq, true_and, and_true] at hd
  obtain ⟨rfl, hd1⟩ := hd
  have hr1 := ((hr.fld (i := 1) rfl).alloc (.cells #[.int .i64 x0, .slice x1A x1l.length x1c] 103)).alloc (.cells #[.int .i64 x0, .slice y1A y1l.length y1c] 103)
  have hs1 := ((hr'.fld (i := 1) rfl).alloc (.cells #[.int .i64 x0, .slice x1A x1l.length x1c] 103)).alloc (.cells #[.int .i64 x0, .slice y1A y1l.length y1c] 103)
  have t1 : (E.lst 2 111 x1A x1c x1l).Ty Try.prog 101 := E.Ty.mk_lst Try.underlying101 (by kernel_rfl) gx1.1 gx1.2
  have u1 : (E.lst 2 111 y1A y1c y1l).Ty Try.prog 101 := E.Ty.mk_lst Try.underlying101 (by kernel_rfl) gy1.1 gy1.2
  have HC1 := Lib.hid (zz17 t1 u1 (by simp only [E.d, E.dL, E.agg.injEq, List.cons.injEq, E.int.injEq, E.str.injEq, E.bool.injEq, E.lst.injEq, true_and, and_true]; exact hd1))
  clear t1 u1
  clear hd1
  change Calls _ _ #[.agg #[.int .i64 x0, .slice x1A x1l.length x1c], .agg #[.int .i64 x0, .slice y1A y1l.length y1c]] w _
  go_enter Try.func114, Try.ntmps114
  go_wp2_with fail
  go_at_call 127
  refine (HC1.out _ hr1 hs1).mono ?_; rintro e w1 ⟨rfl, hb1⟩
  have hz1 := hb1.size; (try simp only [World.size_alloc] at hz1)
  go_wp2
  go_ret
  exact ⟨rfl, (by repeat (first | (with_reducible refine Below.setCell ?_ (by first | omega | (· simp) | (· (simp; omega))) _) | (with_reducible refine Below.alloc ?_ (by first | omega | (· simp) | (· (simp; omega))) _) | (with_reducible refine Below.drew ?_) | (with_reducible refine zx2 ?_ _) | (with_reducible exact Below.refl _ _) | (with_reducible assumption) | (with_reducible refine Below.trans ?_ (Below.mono (by assumption) (by first | omega | (· simp) | (· (simp; omega))))) | (with_reducible refine Below.trans ?_ (Kp.below (by assumption) (by first | omega | (· simp) | (· (simp; omega))) (by first | omega | (· simp) | (· (simp; omega)))))))⟩
set_option maxRecDepth 100000 in
set_option maxHeartbeats 1000000 in
theorem eqMFnS_all' (A B : Option Addr) (c c' : Nat) (l m : List E) (h1 : ∀ y ∈ l, y.Ty Try.prog 103) (h2 : ∀ y ∈ m, y.Ty Try.prog 103) : Eq 80 (.lst 2 103 A c l) (.lst 2 103 B c' m) := by
  intro hd w hr hr'
  rw [zz12] at hd
  have hs := hr.sl
  have hs' := hr'.sl
  have hml := zk22 hd
  have HD := Lib.hid hd
  clear hd
  have hlen := hs.len_le
  change Calls _ _ #[.slice A l.length c, .slice B m.length c'] w _
  obtain ⟨N, HN⟩ : ∃ N, Hid (m.length = N) := ⟨_, rfl⟩
  have hN : N = l.length := by have := HN.out; omega
  subst hN
  rw [HN.out]
  clear hml
  go_enter Try.func80, Try.ntmps80
  go_wp2
  go_loopw [5] (fun i wr => ∃ (k : Nat), k ≤ l.length ∧ i = .int .i64 k ∧ Below w.heap.size w wr) (fun i _ => l.length - (intOf i).toNat)
  case atStart => exact ⟨0, Nat.zero_le _, rfl, Below.refl _ _⟩
  case round =>
    obtain ⟨k, hk, rfl, hb⟩ := hrel
    by_cases hlt : k < l.length
    · have hltm : k < m.length := by have := HN.out; omega
      have hsb := hs.below hb (Nat.le_refl _)
      have hsb' := hs'.below hb (Nat.le_refl _)
      have hdk := d_at HD.out hlt hltm
      obtain ⟨b, o, rfl, _, hc⟩ := hsb.at_ hlt
      obtain ⟨b', o', rfl, _, hd⟩ := hsb'.at_ hltm
      have hin := (hr.el (List.getElem_mem hlt)).below hb (Nat.le_refl _)
      have hin' := (hr'.el (List.getElem_mem hltm)).below hb (Nat.le_refl _)
      have H := zf22 (h1 _ (List.getElem_mem hlt)) (h2 _ (List.getElem_mem hltm)) hdk
      obtain ⟨x0, x1A, x1c, x1l, ex, gx0, gx1, -⟩ := zt4 (h1 _ (List.getElem_mem hlt))
      obtain ⟨y0, y1A, y1c, y1l, ey, gy0, gy1, -⟩ := zt4 (h2 _ (List.getElem_mem hltm))
      rw [ex] at hc hin
      rw [ey] at hd hin'
      rw [ex, ey] at H
      clear ex ey hdk
      have c0 := hc 0 _ rfl; have c1 := hc 1 _ rfl
      have d0 := hd 0 _ rfl; have d1 := hd 1 _ rfl
      rw [Nat.add_zero] at c0 d0
      clear hc hd
      have hzb := hb.size
      have HH := Lib.hid H
      clear H
      go_wp2
      go_region_held3 (fun w' => w'.cell? ⟨b, o + k * 2, none⟩ = some (.int .i64 x0) ∧ w'.cell? ⟨b, o + k * 2 + 1, none⟩ = some (.slice x1A x1l.length x1c) ∧ w'.cell? ⟨b', o' + k * 2, none⟩ = some (.int .i64 y0) ∧ w'.cell? ⟨b', o' + k * 2 + 1, none⟩ = some (.slice y1A y1l.length y1c))
        (first | exact ⟨c0, c1, d0, d1⟩ | skip)
        ((go_at_call 114; refine (HH.out _ (by repeat (first | (with_reducible assumption) | (with_reducible refine E.In.drew ?_) | (with_reducible refine E.In.drewN ?_ _) | (with_reducible refine E.In.alloc ?_ _) | (refine E.In.below ?_ (by with_reducible assumption) ?_) | omega | (· simp) | (· (simp; omega)))) (by repeat (first | (with_reducible assumption) | (with_reducible refine E.In.drew ?_) | (with_reducible refine E.In.drewN ?_ _) | (with_reducible refine E.In.alloc ?_ _) | (refine E.In.below ?_ (by with_reducible assumption) ?_) | omega | (· simp) | (· (simp; omega))))).mono ?_; rintro e w1 ⟨rfl, hb1⟩; have c0 := zf2 hb1 c0 (by first | omega | (· simp) | (· (simp; omega))); have c1 := zf2 hb1 c1 (by first | omega | (· simp) | (· (simp; omega))); have d0 := zf2 hb1 d0 (by first | omega | (· simp) | (· (simp; omega))); have d1 := zf2 hb1 d1 (by first | omega | (· simp) | (· (simp; omega)))))
      go_wp2
      go_roundw
      case rel => exact ⟨k + 1, by omega, by go_num, by exact (by repeat (first | (with_reducible refine Below.setCell ?_ (by first | omega | (· simp) | (· (simp; omega))) _) | (with_reducible refine Below.alloc ?_ (by first | omega | (· simp) | (· (simp; omega))) _) | (with_reducible refine Below.drew ?_) | (with_reducible refine zx2 ?_ _) | (with_reducible exact Below.refl _ _) | (with_reducible assumption) | (with_reducible refine Below.trans ?_ (Below.mono (by assumption) (by first | omega | (· simp) | (· (simp; omega))))) | (with_reducible refine Below.trans ?_ (Kp.below (by assumption) (by first | omega | (· simp) | (· (simp; omega))) (by first | omega | (· simp) | (· (simp; omega)))))))⟩
      case measure => simp [intOf]; omega
    · go_wp2
      go_ret
      exact ⟨rfl, hb⟩
theorem zg18 {e e' : E} (ht : e.Ty Try.prog 65) (ht' : e'.Ty Try.prog 65) : Eq 80 e e' := by
  obtain ⟨A, c, l, rfl, h1, _⟩ := ht.lst_ Try.underlying65 (k := 2) (by kernel_rfl)
  obtain ⟨B, c', m, rfl, h2, _⟩ := ht'.lst_ Try.underlying65 (k := 2) (by kernel_rfl)
  exact eqMFnS_all' A B c c' l m h1 h2
end Go.Proofs.Ytghljnfbbaklnaa
