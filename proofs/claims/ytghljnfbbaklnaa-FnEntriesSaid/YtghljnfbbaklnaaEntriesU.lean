/- impl.DropEntry: by the abstract machine. -/
import Derived.Test.YtghljnfbbaklnaaEntriesT
namespace Go.Proofs.Ytghljnfbbaklnaa
open Go.RowKit
set_option maxRecDepth 100000
theorem zi18 : ∀ l : List E, (owL l).all noUn = true := by
  intro l
  have : ∀ e : E, (owE e).all noUn = true := by
    intro e
    induction e using E.ind with
    | h1 | h2 | h3 => rfl
    | h4 fs ih =>
      simp only [owE]
      induction fs with
      | nil => rfl
      | cons x r ihr => simp only [owL, List.all_append, ih x List.mem_cons_self, ihr fun e he => ih e (List.mem_cons_of_mem _ he)]; rfl
    | h5 => rfl
  induction l with
  | nil => rfl
  | cons x r ih => simp only [owL, List.all_append, this x, ih]; rfl
theorem zv10 {k : Nat} : ∀ {l : List E} {i : Nat}, (∀ e ∈ l, e.enc.length = k) → i < l.length → owL (l.eraseIdx i) = (owL l).take (i * k) ++ (owL l).drop ((i + 1) * k)
  | [], _, _, h => absurd h (by simp)
  | x :: r, 0, hk, _ => by
    have hx : (owE x).length = k := by rw [ze8, hk x List.mem_cons_self]
    simp only [List.eraseIdx_cons_zero, owL, Nat.zero_mul, List.take_zero, List.nil_append, Nat.zero_add, Nat.one_mul]
    rw [List.drop_left' hx]
  | x :: r, i + 1, hk, h => by
    have hx : (owE x).length = k := by rw [ze8, hk x List.mem_cons_self]
    have ih := zv10 (l := r) (i := i) (fun e he => hk e (List.mem_cons_of_mem _ he)) (by simpa using h)
    have e1 : (i + 1) * k = (owE x).length + i * k := by rw [hx, Nat.add_mul]; omega
    have e2 : (i + 1 + 1) * k = (owE x).length + (i + 1) * k := by rw [hx, Nat.add_mul (i + 1)]; omega
    simp only [List.eraseIdx_cons_succ, owL, ih]
    rw [e2, e1, List.take_length_add_append, List.drop_length_add_append, ← e1, List.append_assoc]
theorem zv16 {m : List E} {n i : Nat} {z : Int} (hz : z = (i : Int) + 1) (hn : n = m.length) (hk : ∀ e ∈ m, e.enc.length = 4) (hi : i < m.length) : CtrT Try.prog 60 [.c .un, .c (.v (.int .i64 i)), .c (.v (.int .i64 z))] 0 82 4 n (owL m) (.c (.ow 82 (n - 1) 4 (owL (m.eraseIdx i)))) none := by
  subst hn
  rw [zv10 hk hi]
  exact za18 hz (by rw [zf8, E.encL_len hk]) (zi18 m) hi
theorem zc9 {s : ByteArray} : ∀ {m : List E} {i : Nat} {x : E}, m[i]? = some x → isNm s x = true → (m.eraseIdx i).filter (notNm s) = m.filter (notNm s)
  | [], _, _, h, _ => by simp at h
  | y :: r, 0, x, h, hx => by
    obtain rfl : y = x := by simpa using h
    simp [List.filter_cons, notNm, hx]
  | y :: r, i + 1, x, h, hx => by
    simp only [List.eraseIdx_cons_succ, List.filter_cons, zc9 (m := r) (by simpa using h) hx]
theorem zj18 {s : ByteArray} {m : List E} (h : idxF (isNm s) m = -1) : m.filter (notNm s) = m := by
  rw [List.filter_eq_self]
  intro x hx
  have := List.findIdx?_eq_none_iff.1 (zo5 h) x hx
  simp [notNm, this]
set_option maxHeartbeats 600000 in
theorem zk18 {x0A x1A : Option Addr} {x0c x1c : Nat} {l l2 : List E} {nm s : ByteArray} (hlen : l.length ≤ 1048576) (hlen2 : l2.length ≤ 1048576) (cc : Ctr Try.prog 40 [.ag (acE (E.agg [.lst 4 34 x0A x0c l, .lst 2 80 x1A x1c l2]))] [] (.ag (owE (E.agg [.lst 4 34 x0A x0c l, .lst 2 80 x1A x1c l2]))) []) (ca : Ctr Try.prog 57 [.ag (acE (E.agg [.lst 4 34 x0A x0c l, .lst 2 80 x1A x1c l2])), .c (.v (.string nm))] [] (.c (.v (.int .i64 (-1)))) []) : Ctr Try.prog 28 [.ag (acE (E.agg [.lst 4 34 x0A x0c l, .lst 2 80 x1A x1c l2])), .c (.v (.string nm)), .c (.v (.string s))] [] (.ag [.ow 34 l.length 4 (owL l), .ow 80 l2.length 2 (owL l2)]) [] := by
  refine zt1 Try.func28 rfl rfl ?_
  repeat (first | refine zi ?_ | refine ze ?_ | refine zg ?_ | refine zh ?_ | refine za fun C => ?_ | refine zf (by kernel_rfl) (by kernel_rfl) fun C => ?_ | refine zd ?_ | refine zf1 ?_ | refine x_bs ?_ | refine x_gr ?_ | refine x_st ?_ | refine x_mv ?_ | refine x_sk ?_ | refine zh1 ?_ | refine x_ix ?_ | refine zi1 ?_ | refine zj1 ?_ | refine zg1 ?_ | refine zt ?_ | refine x_ld ?_)
  refine zb4 100 cc ?_
  repeat (first | refine zi ?_ | refine ze ?_ | refine zg ?_ | refine zh ?_ | refine za fun C => ?_ | refine zf (by kernel_rfl) (by kernel_rfl) fun C => ?_ | refine zd ?_ | refine zf1 ?_ | refine x_bs ?_ | refine x_gr ?_ | refine x_st ?_ | refine x_mv ?_ | refine x_sk ?_ | refine zh1 ?_ | refine x_ix ?_ | refine zi1 ?_ | refine zj1 ?_ | refine zg1 ?_ | refine zt ?_ | refine x_ld ?_)
  refine zb4 110 ca ?_
  repeat (first | refine zi ?_ | refine ze ?_ | refine zg ?_ | refine zh ?_ | refine za fun C => ?_ | refine zf (by kernel_rfl) (by kernel_rfl) fun C => ?_ | refine zd ?_ | refine zf1 ?_ | refine x_bs ?_ | refine x_gr ?_ | refine x_st ?_ | refine x_mv ?_ | refine x_sk ?_ | refine zh1 ?_ | refine x_ix ?_ | refine zi1 ?_ | refine zj1 ?_ | refine zg1 ?_ | refine zt ?_ | refine x_ld ?_)
  refine zn1 (by rfl) (fun h1 => ?_) fun h1 => ?_
  · simp at h1
  repeat (first | refine zi ?_ | refine ze ?_ | refine zg ?_ | refine zh ?_ | refine zq ?_ | refine za fun C => ?_ | refine zf (by kernel_rfl) (by kernel_rfl) fun C => ?_ | refine zd ?_ | refine zf1 ?_ | refine x_bs ?_ | refine x_gr ?_ | refine x_st ?_ | refine x_mv ?_ | refine x_sk ?_ | refine zh1 ?_ | refine x_ix ?_ | refine zi1 ?_ | refine zj1 ?_ | refine zg1 ?_ | refine zt ?_ | refine x_ld ?_)
  refine ret0 (x := .ag [.ow 34 l.length 4 (owL l), .ow 80 l2.length 2 (owL l2)]) rfl (zr3 (ze3 (rw := ⟨34, 4, l.length, false, owL l⟩) rfl rfl rfl (zl _) (ze3 (rw := ⟨80, 2, l2.length, false, owL l2⟩) rfl rfl rfl (zl _) zl2))) ⟨rfl, rfl⟩
set_option maxHeartbeats 1000000 in
theorem zl18 {x0A x1A y1A : Option Addr} {x0c x1c y1c : Nat} {l l2 y1 : List E} {y0 nm s : ByteArray} {k : Nat} (hk2 : ∀ e ∈ l2, e.enc.length = 2) (hk1 : ∀ e ∈ y1, e.enc.length = 4) (hy1 : ∀ e ∈ y1, e.Ty Try.prog 82) (hlen : l.length ≤ 1048576) (hlen2 : l2.length ≤ 1048576) (hy1l : y1.length ≤ 1048576) (hlt : k < l2.length) (hx : l2[k]? = some (.agg [.str y0, .lst 4 82 y1A y1c y1])) (cc : Ctr Try.prog 40 [.ag (acE (E.agg [.lst 4 34 x0A x0c l, .lst 2 80 x1A x1c l2]))] [] (.ag (owE (E.agg [.lst 4 34 x0A x0c l, .lst 2 80 x1A x1c l2]))) []) (ca : Ctr Try.prog 57 [.ag (acE (E.agg [.lst 4 34 x0A x0c l, .lst 2 80 x1A x1c l2])), .c (.v (.string nm))] [] (.c (.v (.int .i64 (k)))) []) :
    Ctr Try.prog 28 [.ag (acE (E.agg [.lst 4 34 x0A x0c l, .lst 2 80 x1A x1c l2])), .c (.v (.string nm)), .c (.v (.string s))] [] (.ag [.ow 34 l.length 4 (owL l), .ow 80 l2.length 2 ((owL (l2.take k) ++ [.v (.string y0)]) ++ .ow 82 (y1.filter (notNm s)).length 4 (owL (y1.filter (notNm s))) :: owL (l2.drop (k + 1)))]) [] := by
  have hP := zk4 (k := k) hk2 (Nat.le_of_lt hlt)
  have hs2 : subL ((owL (l2.take k) ++ [.v (.string y0)]) ++ .sl 102 y1.length :: owL (l2.drop (k + 1))) (k * 2 + 1) 1 = [.sl 102 y1.length] := zc5 hP
  have ck0 := zs9 hy1 hk1 s (by omega)
  refine zt1 Try.func28 rfl rfl ?_
  repeat (first | refine zi ?_ | refine ze ?_ | refine zg ?_ | refine zh ?_ | refine za fun C => ?_ | refine zf (by kernel_rfl) (by kernel_rfl) fun C => ?_ | refine zd ?_ | refine zf1 ?_ | refine x_bs ?_ | refine x_gr ?_ | refine x_st ?_ | refine x_mv ?_ | refine x_sk ?_ | refine zh1 ?_ | refine x_ix ?_ | refine zi1 ?_ | refine zj1 ?_ | refine zg1 ?_ | refine zt ?_ | refine x_ld ?_)
  refine zb4 100 cc ?_
  repeat (first | refine zi ?_ | refine ze ?_ | refine zg ?_ | refine zh ?_ | refine za fun C => ?_ | refine zf (by kernel_rfl) (by kernel_rfl) fun C => ?_ | refine zd ?_ | refine zf1 ?_ | refine x_bs ?_ | refine x_gr ?_ | refine x_st ?_ | refine x_mv ?_ | refine x_sk ?_ | refine zh1 ?_ | refine x_ix ?_ | refine zi1 ?_ | refine zj1 ?_ | refine zg1 ?_ | refine zt ?_ | refine x_ld ?_)
  refine zb4 110 ca ?_
  repeat (first | refine zi ?_ | refine ze ?_ | refine zg ?_ | refine zh ?_ | refine za fun C => ?_ | refine zf (by kernel_rfl) (by kernel_rfl) fun C => ?_ | refine zd ?_ | refine zf1 ?_ | refine x_bs ?_ | refine x_gr ?_ | refine x_st ?_ | refine x_mv ?_ | refine x_sk ?_ | refine zh1 ?_ | refine x_ix ?_ | refine zi1 ?_ | refine zj1 ?_ | refine zg1 ?_ | refine zt ?_ | refine x_ld ?_)
  refine zn1 (by rfl) (fun h1 => ?_) fun h1 => ?_
  rotate_left
  · exact absurd (of_decide_eq_false h1) (by omega)
  refine za2 (zf5 102 (i := 101) rfl rfl (pre := (owL (l2.take k) ++ [.v (.string y0)])) (post := owL (l2.drop (k + 1))) (zj8 hx)) ?_
  repeat (first | refine zi ?_ | refine ze ?_ | refine zg ?_ | refine zh ?_ | refine za fun C => ?_ | refine zf (by kernel_rfl) (by kernel_rfl) fun C => ?_ | refine zd ?_ | refine zf1 ?_ | refine x_bs ?_ | refine x_gr ?_ | refine x_st ?_ | refine x_mv ?_ | refine x_sk ?_ | refine zh1 ?_ | refine x_ix ?_ | refine zi1 ?_ | refine zj1 ?_ | refine zg1 ?_ | refine zt ?_ | refine x_ld ?_)
  refine zb4 120 ck0 ?_
  repeat (first | refine zi ?_ | refine ze ?_ | refine zg ?_ | refine zh ?_ | refine za fun C => ?_ | refine zf (by kernel_rfl) (by kernel_rfl) fun C => ?_ | refine zd ?_ | refine zf1 ?_ | refine x_bs ?_ | refine x_gr ?_ | refine x_st ?_ | refine x_mv ?_ | refine x_sk ?_ | refine zh1 ?_ | refine x_ix ?_ | refine zi1 ?_ | refine zj1 ?_ | refine zg1 ?_ | refine zt ?_ | refine x_ld ?_)
  refine zp3 (fun d : List E × Nat => ⟨tmsF [(2, .c (.v (.string s))), (6, .c (.pt 6 0)), (7, .c (.pt 7 0)), (9, .c (.pt 101 (k * 2))), (10, .c (.v (.int .i64 (idxF (isNm s) d.1))))], hpsF [(6, 6, ⟨27, 0, 0, true, [.v (.slice none 0 0), .v (.slice none 0 0)]⟩), (7, 7, ⟨27, 0, 0, true, [.sl 100 l.length, .sl 101 l2.length]⟩), (100, 100, ⟨34, 4, l.length, false, owL l⟩), (101, 101, ⟨80, 2, l2.length, false, (owL (l2.take k) ++ [.v (.string y0)]) ++ .sl 102 d.2 :: owL (l2.drop (k + 1))⟩), (102, 102, ⟨82, 4, d.2, false, owL d.1⟩)], 0, [6, 7, 100, 101, 102], 48⟩)
    (fun N d => d.2 = d.1.length ∧ N = d.1.length ∧ (∀ e ∈ d.1, e.Ty Try.prog 82) ∧ (∀ e ∈ d.1, e.enc.length = 4) ∧ d.1.filter (notNm s) = y1.filter (notNm s) ∧ d.1.length ≤ 1048576) y1.length (y1, y1.length) ⟨rfl, rfl, hy1, hk1, rfl, hy1l⟩ ?_ ?_
  · (refine zx2 _ _ rfl rfl ?_ ?_ <;> (repeat' (first | exact TmOk.nil | exact RwOk.nil | refine TmOk.cons ?_ ?_ | refine RwOk.cons ?_ ?_ | rfl | (refine rnV_id' rfl ?_; (first | rfl | (simp [cloV, cloL, clo, zo, zn, zp, zl, zk]; done))) | (refine zf3 ?_; first | rfl | omega | (rw [zx1 (by omega) (by omega)]; omega)) | (refine zb2 rfl ?_; (first | rfl | (simp [cloV, cloL, clo, zo, zn, zp, zl, zk]; done))) | exact zl4 rfl rfl | (refine ze4 (by rfl) (by rfl) ?_ ?_ <;> (first | rfl | (simp [cloV, cloL, clo, zo, zn, zp, zl, zk]; done))) | (refine rw_rn' rfl rfl ?_; simp; done))))
  rintro N ⟨m, n⟩ ⟨hn, hN, hm, hmk, hmf, hml⟩
  dsimp only at hn hN hm hmk hmf hml
  dsimp only
  have hs3 : subL ((owL (l2.take k) ++ [.v (.string y0)]) ++ .sl 102 n :: owL (l2.drop (k + 1))) (k * 2 + 1) 1 = [.sl 102 n] := zc5 hP
  have hs4 : subL ((owL (l2.take k) ++ [.v (.string y0)]) ++ .sl 503 (n - 1) :: owL (l2.drop (k + 1))) (k * 2 + 1) 1 = [.sl 503 (n - 1)] := zc5 hP
  have hle : k * 2 + 1 + 1 ≤ ((owL (l2.take k) ++ [AC.v (.string y0)]) ++ AC.sl 102 n :: owL (l2.drop (k + 1))).length := by simp [hP]; omega
  rcases zu3 (isNm s) m with h0 | ⟨i, h0, hit⟩
  · rw [h0]
    repeat (first | refine zi ?_ | refine ze ?_ | refine zg ?_ | refine zh ?_ | refine za fun C => ?_ | refine zf (by kernel_rfl) (by kernel_rfl) fun C => ?_ | refine zd ?_ | refine zf1 ?_ | refine x_bs ?_ | refine x_gr ?_ | refine x_st ?_ | refine x_mv ?_ | refine x_sk ?_ | refine zh1 ?_ | refine x_ix ?_ | refine zi1 ?_ | refine zj1 ?_ | refine zg1 ?_ | refine zt ?_ | refine x_ld ?_)
    refine zn1 (by rfl) (fun h2 => ?_) fun h2 => ?_
    · simp at h2
    repeat (first | refine zi ?_ | refine ze ?_ | refine zg ?_ | refine zh ?_)
    refine za2 (ze5 (i := 101) (j := 102) rfl rfl rfl (pre := (owL (l2.take k) ++ [.v (.string y0)])) (post := owL (l2.drop (k + 1))) rfl) ?_
    repeat (first | refine zi ?_ | refine ze ?_ | refine zg ?_ | refine zh ?_ | refine zq ?_ | refine za fun C => ?_ | refine zf (by kernel_rfl) (by kernel_rfl) fun C => ?_ | refine zd ?_ | refine zf1 ?_ | refine x_bs ?_ | refine x_gr ?_ | refine x_st ?_ | refine x_mv ?_ | refine x_sk ?_ | refine zh1 ?_ | refine x_ix ?_ | refine zi1 ?_ | refine zj1 ?_ | refine zg1 ?_ | refine zt ?_ | refine x_ld ?_)
    rw [zj18 h0] at hmf
    refine ret0 (x := .ag [.ow 34 l.length 4 (owL l), .ow 80 l2.length 2 ((owL (l2.take k) ++ [.v (.string y0)]) ++ .ow 82 n 4 (owL m) :: owL (l2.drop (k + 1)))]) rfl (zr3 (ze3 (rw := ⟨34, 4, l.length, false, owL l⟩) rfl rfl rfl (zl _) (ze3 (rw := ⟨80, 2, l2.length, false, (owL (l2.take k) ++ [.v (.string y0)]) ++ .ow 82 n 4 (owL m) :: owL (l2.drop (k + 1))⟩) rfl rfl rfl ?_ zl2))) ⟨?_, rfl⟩
    · first | rfl | (simp [cloV, cloL, clo, zo, zn, zp, zl, zk]; done)
    · rw [hn, hmf]
  · rw [h0]
    obtain ⟨x, hxm, hxn⟩ := zj10 h0
    have hdl := zv16 (z := IntKind.i64.wrap ((i : Int) + 1)) (zx1 (by omega) (by omega)) hn hmk hit
    have hml' : (m.eraseIdx i).length = n - 1 := by rw [List.length_eraseIdx_of_lt hit, hn]
    have hmem : ∀ e ∈ m.eraseIdx i, e ∈ m := fun e he => List.mem_of_mem_eraseIdx he
    have ck := zs9 (fun e he => hm e (hmem e he)) (fun e he => hmk e (hmem e he)) s (by omega)
    rw [hml'] at ck
    repeat (first | refine zi ?_ | refine ze ?_ | refine zg ?_ | refine zh ?_ | refine za fun C => ?_ | refine zf (by kernel_rfl) (by kernel_rfl) fun C => ?_ | refine zd ?_ | refine zf1 ?_ | refine x_bs ?_ | refine x_gr ?_ | refine x_st ?_ | refine x_mv ?_ | refine x_sk ?_ | refine zh1 ?_ | refine x_ix ?_ | refine zi1 ?_ | refine zj1 ?_ | refine zg1 ?_ | refine zt ?_ | refine x_ld ?_)
    refine zn1 (by rfl) (fun h2 => ?_) fun h2 => ?_
    rotate_left
    · exact absurd (of_decide_eq_false h2) (by omega)
    repeat (first | refine zi ?_ | refine ze ?_ | refine zg ?_ | refine zh ?_ | refine za fun C => ?_ | refine zf (by kernel_rfl) (by kernel_rfl) fun C => ?_ | refine zd ?_ | refine zf1 ?_ | refine x_bs ?_ | refine x_gr ?_ | refine x_st ?_ | refine x_mv ?_ | refine x_sk ?_ | refine zh1 ?_ | refine x_ix ?_ | refine zi1 ?_ | refine zj1 ?_ | refine zg1 ?_ | refine zt ?_ | refine x_ld ?_)
    refine zz19 500 0 hdl ?_
    repeat (first | refine zd ?_ | refine zf1 ?_ | refine x_bs ?_ | refine x_gr ?_ | refine x_st ?_ | refine x_mv ?_ | refine x_sk ?_ | refine zh1 ?_ | refine x_ix ?_ | refine zi1 ?_ | refine zj1 ?_ | refine zg1 ?_ | refine zt ?_ | refine x_ld ?_)
    repeat (first | refine zi ?_ | refine ze ?_ | refine zg ?_ | refine zh ?_)
    refine za2 (ze5 (i := 101) (j := 500) rfl rfl rfl (pre := (owL (l2.take k) ++ [.v (.string y0)])) (post := owL (l2.drop (k + 1))) (zk11 hP)) ?_
    refine za2 (zf5 503 (i := 101) rfl rfl (pre := (owL (l2.take k) ++ [.v (.string y0)])) (post := owL (l2.drop (k + 1))) rfl) ?_
    repeat (first | refine zi ?_ | refine ze ?_ | refine zg ?_ | refine zh ?_ | refine za fun C => ?_ | refine zf (by kernel_rfl) (by kernel_rfl) fun C => ?_ | refine zd ?_ | refine zf1 ?_ | refine x_bs ?_ | refine x_gr ?_ | refine x_st ?_ | refine x_mv ?_ | refine x_sk ?_ | refine zh1 ?_ | refine x_ix ?_ | refine zi1 ?_ | refine zj1 ?_ | refine zg1 ?_ | refine zt ?_ | refine x_ld ?_)
    refine zb4 600 ck ?_
    repeat (first | refine zi ?_ | refine ze ?_ | refine zg ?_ | refine zh ?_ | refine za fun C => ?_ | refine zf (by kernel_rfl) (by kernel_rfl) fun C => ?_ | refine zd ?_ | refine zf1 ?_ | refine x_bs ?_ | refine x_gr ?_ | refine x_st ?_ | refine x_mv ?_ | refine x_sk ?_ | refine zh1 ?_ | refine x_ix ?_ | refine zi1 ?_ | refine zj1 ?_ | refine zg1 ?_ | refine zt ?_ | refine x_ld ?_)
    refine ⟨N - 1, (m.eraseIdx i, n - 1), by omega, ⟨hml'.symm, by simp only; omega, fun e he => hm e (hmem e he), fun e he => hmk e (hmem e he), ?_, by simp only; omega⟩, ?_⟩
    · exact (zc9 hxm hxn).trans hmf
    · (refine zg12 (fun j => if j = 102 then 503 else j) _ _ rfl rfl ?_ ?_ <;> (repeat' (first | exact TmOk.nil | exact RwOk.nil | refine TmOk.cons ?_ ?_ | refine RwOk.cons ?_ ?_ | rfl | (refine rnV_id' rfl ?_; (first | rfl | (simp [cloV, cloL, clo, zo, zn, zp, zl, zk]; done))) | (refine zf3 ?_; first | rfl | omega | (rw [zx1 (by omega) (by omega)]; omega)) | (refine zb2 rfl ?_; (first | rfl | (simp [cloV, cloL, clo, zo, zn, zp, zl, zk]; done))) | exact zl4 rfl rfl | (refine ze4 (by rfl) (by rfl) ?_ ?_ <;> (first | rfl | (simp [cloV, cloL, clo, zo, zn, zp, zl, zk]; done))) | (refine rw_rn' rfl rfl ?_; simp; done))))
end Go.Proofs.Ytghljnfbbaklnaa
namespace Go.Proofs.Ytghljnfbbaklnaa
open Go.RowKit
end Go.Proofs.Ytghljnfbbaklnaa
namespace Go.Proofs.Ytghljnfbbaklnaa
open Go.RowKit
end Go.Proofs.Ytghljnfbbaklnaa
namespace Go.Proofs.Ytghljnfbbaklnaa
open Go.RowKit
theorem zl8 {e : E} (he : e.Ty Try.prog 27) (nm s : ByteArray) (hsz : e.sz ≤ 1048576) : Ctr Try.prog 28 [.ag (acE e), .c (.v (.string nm)), .c (.v (.string s))] [] (.ag (owE (dropE e nm s))) [] := by
  have ca := zb7 he nm hsz
  have cc := zs10 he hsz
  obtain ⟨x0A, x0c, l, x1A, x1c, l2, rfl, ⟨hl, hk⟩, ⟨hl2, hk2⟩, -⟩ := zz2 he
  have hlen : l.length ≤ 1048576 := by simp only [E.sz, E.szL] at hsz; omega
  have hlen2 : l2.length ≤ 1048576 := by simp only [E.sz, E.szL] at hsz; omega
  rcases zu3 (isNm nm) l2 with h0 | ⟨k, h0, hlt⟩
  · rw [show tabsE _ = l2 from rfl, h0] at ca
    rw [zu13 h0]
    exact zk18 hlen hlen2 cc ca
  · rw [show tabsE _ = l2 from rfl, h0] at ca
    obtain ⟨x, hx⟩ : ∃ x, l2[k]? = some x := ⟨_, List.getElem?_eq_getElem hlt⟩
    have hxt := hl2 x (List.mem_of_getElem? hx)
    have hxs : x.sz ≤ 1048576 := by
      have := E.szL_mem (List.mem_of_getElem? hx)
      simp only [E.sz, E.szL] at hsz; omega
    obtain ⟨y0, y1A, y1c, y1, rfl, hy0, ⟨hy1, hy1k⟩, -⟩ := zh2 hxt
    have hy1l : y1.length ≤ 1048576 := by simp only [E.sz, E.szL] at hxs; omega
    rw [zb9 h0 hx]
    have hr : ∀ m : List E, owE (.agg [.lst 4 34 none 0 l, .lst 2 80 none 0 (l2.set k (.agg [.str y0, .lst 4 82 none 0 m]))]) = [.ow 34 l.length 4 (owL l), .ow 80 l2.length 2 ((owL (l2.take k) ++ [.v (.string y0)]) ++ .ow 82 m.length 4 (owL m) :: owL (l2.drop (k + 1)))] := by
      intro m
      simp only [owE, owL, List.length_set, List.append_nil]
      rw [zp11 hlt]; rfl
    rw [hr]
    exact zl18 hk2 hy1k hy1 hlen hlen2 hy1l hlt hx cc ca
end Go.Proofs.Ytghljnfbbaklnaa
-- MVP
namespace Go.Proofs.Ytghljnfbbaklnaa
open Go.RowKit
set_option maxRecDepth 100000
theorem zm18 {p : E → Bool} {l : List E} {i : Nat} {x : E} (hx : l[i]? = some x) : (l.take (i + 1)).any p = ((l.take i).any p || p x) := by
  rw [List.take_add_one, hx, List.any_append]; simp
end Go.Proofs.Ytghljnfbbaklnaa
