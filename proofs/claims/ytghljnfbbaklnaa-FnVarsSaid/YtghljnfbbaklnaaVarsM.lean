/- impl.varAt, tableAt, keyAt, copyEnv, SetVar: by the abstract machine. -/
import Derived.Test.YtghljnfbbaklnaaVarsL
namespace Go.Proofs.Ytghljnfbbaklnaa
open Go.RowKit
set_option maxRecDepth 100000
theorem zc15 {e : E} (he : e.Ty Try.prog 27) (s : ByteArray) (hsz : e.sz ≤ 1048576) : Ctr Try.prog 41 [.ag (acE e), .c (.v (.string s))] [] (.c (.v (.int .i64 (idxF (isNm s) (varsE e))))) [] := by
  obtain ⟨x0A, x0c, l, x1A, x1c, l2, rfl, ⟨hl, hk⟩, ⟨hl2, hk2⟩, -⟩ := zi3 he
  have hlen : l.length ≤ 1048576 := by simp only [E.sz, E.szL] at hsz; omega
  have hlen2 : l2.length ≤ 1048576 := by simp only [E.sz, E.szL] at hsz; omega
  have hc := zt12 hl hk s (by omega)
  refine zt1 Try.func41 rfl rfl ?_
  repeat (first | refine zl ?_ | refine zf ?_ | refine zh ?_ | refine zi ?_ | refine zu ?_ | refine zb fun C => ?_ | refine ze (by kernel_rfl) (by kernel_rfl) fun C => ?_ | refine zd ?_ | refine zp1 ?_ | refine x_bs ?_ | refine x_gr ?_ | refine x_st ?_ | refine x_mv ?_ | refine x_sk ?_ | refine zz1 ?_ | refine x_ix ?_ | refine za2 ?_ | refine zb2 ?_ | refine zs1 ?_ | refine ze1 ?_ | refine x_ld ?_)
  refine zm14 50 [3] hc ?_
  repeat (first | refine zl ?_ | refine zf ?_ | refine zh ?_ | refine zi ?_ | refine zu ?_ | refine zb fun C => ?_ | refine ze (by kernel_rfl) (by kernel_rfl) fun C => ?_ | refine zd ?_ | refine zp1 ?_ | refine x_bs ?_ | refine x_gr ?_ | refine x_st ?_ | refine x_mv ?_ | refine x_sk ?_ | refine zz1 ?_ | refine x_ix ?_ | refine za2 ?_ | refine zb2 ?_ | refine zs1 ?_ | refine ze1 ?_ | refine x_ld ?_)
  exact ret0 (x := .c (.v (.int .i64 (idxF (isNm s) l)))) rfl rfl ⟨rfl, rfl⟩
theorem zt9 {e : E} (he : e.Ty Try.prog 27) (hsz : e.sz ≤ 1048576) : Ctr Try.prog 40 [.ag (acE e)] [] (.ag (owE e)) [] := by
  obtain ⟨x0A, x0c, l, x1A, x1c, l2, rfl, ⟨hl, hk⟩, ⟨hl2, hk2⟩, -⟩ := zi3 he
  have hlen : l.length ≤ 1048576 := by simp only [E.sz, E.szL] at hsz; omega
  have hlen2 : l2.length ≤ 1048576 := by simp only [E.sz, E.szL] at hsz; omega
  refine zt1 Try.func40 rfl rfl ?_
  repeat (first | refine zl ?_ | refine zf ?_ | refine zh ?_ | refine zi ?_ | refine zu ?_ | refine zb fun C => ?_ | refine ze (by kernel_rfl) (by kernel_rfl) fun C => ?_ | refine zd ?_ | refine zp1 ?_ | refine x_bs ?_ | refine x_gr ?_ | refine x_st ?_ | refine x_mv ?_ | refine x_sk ?_ | refine zz1 ?_ | refine x_ix ?_ | refine za2 ?_ | refine zb2 ?_ | refine zs1 ?_ | refine ze1 ?_ | refine x_ld ?_)
  have fl : acL l = owL l := zy5 l (zk6 fun e h => zc8 (hl e h))
  refine zw3 (fun k : Nat => ⟨tmsF [(2, .c (.pt 2 0)), (3, .c (.pt 3 0)), (11, .c (.ro l2.length 2 (acL l2))), (12, .c (.v (.int .i64 l2.length))), (13, .c (.v (.int .i64 k)))], hpsF [(2, 2, ⟨27, 0, 0, true, [.v (.slice none 0 0), .v (.slice none 0 0)]⟩), (3, 3, ⟨27, 0, 0, true, [.sl 8 l.length, .sl 9 k]⟩), (8, 8, ⟨34, 4, l.length, false, owL l⟩), (9, 9, ⟨80, 2, k, false, owL (l2.take k)⟩)], 0, [2, 3, 8, 9], 30⟩)
    (fun N k => k + N = l2.length) l2.length 0 (by omega) ?_ ?_
  · refine (zu19 9 (i := 3) 80 2 rfl rfl (pre := [_]) (post := []) rfl).trans ?_
    (refine zv2 _ _ rfl rfl ?_ ?_ <;> (repeat' (first | exact TmOk.nil | exact RwOk.nil | refine TmOk.cons ?_ ?_ | refine RwOk.cons ?_ ?_ | rfl | (refine rnV_id' rfl ?_; (first | rfl | (simp [cloV, cloL, clo, zo, zn, zp, zm, zk]; done))) | (refine zd3 ?_; first | rfl | omega | (rw [zr1 (by omega) (by omega)]; omega)) | (refine ze2 rfl ?_; (first | rfl | (simp [cloV, cloL, clo, zo, zn, zp, zm, zk]; done))) | exact zd4 rfl rfl | (refine ze4 (by rfl) (by rfl) ?_ ?_ <;> (first | rfl | (simp [cloV, cloL, clo, zo, zn, zp, zm, zk]; done))) | (refine rw_rn' rfl rfl ?_; simp; done))))
    exact ze16 rfl (by rw [← fl]) (by first | rfl | (simp [cloV, cloL, clo, zo, zn, zp, zm, zk]; done))
  rintro N k hN
  repeat (first | refine zl ?_ | refine zf ?_ | refine zh ?_ | refine zi ?_ | refine zu ?_ | refine zb fun C => ?_ | refine ze (by kernel_rfl) (by kernel_rfl) fun C => ?_ | refine zd ?_ | refine zp1 ?_ | refine x_bs ?_ | refine x_gr ?_ | refine x_st ?_ | refine x_mv ?_ | refine x_sk ?_ | refine zz1 ?_ | refine x_ix ?_ | refine za2 ?_ | refine zb2 ?_ | refine zs1 ?_ | refine ze1 ?_ | refine x_ld ?_)
  refine zd2 (by rfl) (fun h1 => ?_) fun h1 => ?_
  · have hk' : k < l2.length := by simpa using h1
    obtain ⟨x, hx⟩ : ∃ x, l2[k]? = some x := ⟨_, List.getElem?_eq_getElem hk'⟩
    obtain ⟨y0, y1A, y1c, y1, rfl, hy0, ⟨hy1, hy1k⟩, -⟩ := zz3 (hl2 x (List.mem_of_getElem? hx))
    have hy1l : y1.length ≤ 1048576 := by
      have := E.szL_mem (List.mem_of_getElem? hx)
      simp only [E.sz, E.szL] at hsz this; omega
    have fl1 : acL y1 = owL y1 := zy5 y1 (zk6 fun e h => zd8 (hy1 e h))
    repeat (first | refine zl ?_ | refine zf ?_ | refine zh ?_ | refine zi ?_ | refine zu ?_ | refine zb fun C => ?_ | refine ze (by kernel_rfl) (by kernel_rfl) fun C => ?_ | refine zd ?_ | refine zp1 ?_ | refine x_bs ?_ | refine x_gr ?_ | refine x_st ?_ | refine x_mv ?_ | refine x_sk ?_ | refine zz1 ?_ | refine x_ix ?_ | refine za2 ?_ | refine zb2 ?_ | refine zs1 ?_ | refine ze1 ?_ | refine x_ld ?_)
    refine ⟨N - 1, k + 1, by omega, by omega, ?_⟩
    refine (zp8 (i := 26) (j := 23) rfl rfl rfl rfl rfl (pre := owL (l2.take k) ++ [.v (.string y0)]) (post := []) (by rw [List.append_assoc]; rfl)).trans ?_
    (refine zr17 (fun j => if j = 9 then 26 else j) _ _ rfl rfl ?_ ?_ <;> (repeat' (first | exact TmOk.nil | exact RwOk.nil | refine TmOk.cons ?_ ?_ | refine RwOk.cons ?_ ?_ | rfl | (refine rnV_id' rfl ?_; (first | rfl | (simp [cloV, cloL, clo, zo, zn, zp, zm, zk]; done))) | (refine zd3 ?_; first | rfl | omega | (rw [zr1 (by omega) (by omega)]; omega)) | (refine ze2 rfl ?_; (first | rfl | (simp [cloV, cloL, clo, zo, zn, zp, zm, zk]; done))) | exact zd4 rfl rfl | (refine ze4 (by rfl) (by rfl) ?_ ?_ <;> (first | rfl | (simp [cloV, cloL, clo, zo, zn, zp, zm, zk]; done))) | (refine rw_rn' rfl rfl ?_; simp; done))))
    exact ze16 (r := ⟨80, 2, k + 1, false, (owL (l2.take k) ++ [.v (.string y0)]) ++ [.ow 82 y1.length 4 (acL y1)]⟩) rfl (by rw [zl6 hx, fl1, List.append_assoc]; rfl) (by first | rfl | (simp [cloV, cloL, clo, zo, zn, zp, zm, zk]; done))
  · have hk' : ¬ k < l2.length := by simpa using h1
    repeat (first | refine zl ?_ | refine zf ?_ | refine zh ?_ | refine zi ?_ | refine zu ?_ | refine zb fun C => ?_ | refine ze (by kernel_rfl) (by kernel_rfl) fun C => ?_ | refine zd ?_ | refine zp1 ?_ | refine x_bs ?_ | refine x_gr ?_ | refine x_st ?_ | refine x_mv ?_ | refine x_sk ?_ | refine zz1 ?_ | refine x_ix ?_ | refine za2 ?_ | refine zb2 ?_ | refine zs1 ?_ | refine ze1 ?_ | refine x_ld ?_)
    obtain rfl : k = l2.length := by omega
    refine ret0 (x := .ag [.ow 34 l.length 4 (owL l), .ow 80 l2.length 2 (owL (l2.take l2.length))]) rfl (zs3 (zr3 (rw := ⟨34, 4, l.length, false, owL l⟩) rfl rfl rfl (zm _) (zr3 (rw := ⟨80, 2, l2.length, false, owL (l2.take l2.length)⟩) rfl rfl rfl (zm _) zt2))) ⟨?_, rfl⟩
    rw [List.take_length]; rfl
theorem zu9 {e v : E} (he : e.Ty Try.prog 27) (hv : v.Ty Try.prog 29) (s : ByteArray) (hsz : e.sz ≤ 1048576) : Ctr Try.prog 9 [.ag (acE e), .c (.v (.string s)), .ag (acE v)] [] (.ag (owE (setVarE e s v))) [] := by
  have he' := he
  obtain ⟨x0A, x0c, l, x1A, x1c, l2, rfl, ⟨hl, hk⟩, ⟨hl2, hk2⟩, -⟩ := zi3 he'
  obtain ⟨v0, v1, v2, rfl, -⟩ := za4 hv
  have cv := zc15 he s hsz
  rcases zn4 (isNm s) l with h0 | ⟨k, h0, hlt⟩
  · rw [show varsE _ = l from rfl, h0] at cv
    refine zt1 Try.func9 rfl rfl ?_
    repeat (first | refine zl ?_ | refine zf ?_ | refine zh ?_ | refine zi ?_ | refine zu ?_ | refine zb fun C => ?_ | refine ze (by kernel_rfl) (by kernel_rfl) fun C => ?_ | refine zd ?_ | refine zp1 ?_ | refine x_bs ?_ | refine x_gr ?_ | refine x_st ?_ | refine x_mv ?_ | refine x_sk ?_ | refine zz1 ?_ | refine x_ix ?_ | refine za2 ?_ | refine zb2 ?_ | refine zs1 ?_ | refine ze1 ?_ | refine x_ld ?_)
    refine za5 100 (zt9 he hsz) ?_
    repeat (first | refine zl ?_ | refine zf ?_ | refine zh ?_ | refine zi ?_ | refine zu ?_ | refine zb fun C => ?_ | refine ze (by kernel_rfl) (by kernel_rfl) fun C => ?_ | refine zd ?_ | refine zp1 ?_ | refine x_bs ?_ | refine x_gr ?_ | refine x_st ?_ | refine x_mv ?_ | refine x_sk ?_ | refine zz1 ?_ | refine x_ix ?_ | refine za2 ?_ | refine zb2 ?_ | refine zs1 ?_ | refine ze1 ?_ | refine x_ld ?_)
    refine za5 110 cv ?_
    repeat (first | refine zl ?_ | refine zf ?_ | refine zh ?_ | refine zi ?_ | refine zu ?_ | refine zb fun C => ?_ | refine ze (by kernel_rfl) (by kernel_rfl) fun C => ?_ | refine zd ?_ | refine zp1 ?_ | refine x_bs ?_ | refine x_gr ?_ | refine x_st ?_ | refine x_mv ?_ | refine x_sk ?_ | refine zz1 ?_ | refine x_ix ?_ | refine za2 ?_ | refine zb2 ?_ | refine zs1 ?_ | refine ze1 ?_ | refine x_ld ?_)
    refine zd2 (by rfl) (fun h1 => ?_) fun h1 => ?_
    · simp at h1
    · repeat (first | refine zl ?_ | refine zf ?_ | refine zh ?_ | refine zi ?_ | refine zu ?_ | refine zb fun C => ?_ | refine ze (by kernel_rfl) (by kernel_rfl) fun C => ?_ | refine zd ?_ | refine zp1 ?_ | refine x_bs ?_ | refine x_gr ?_ | refine x_st ?_ | refine x_mv ?_ | refine x_sk ?_ | refine zz1 ?_ | refine x_ix ?_ | refine za2 ?_ | refine zb2 ?_ | refine zs1 ?_ | refine ze1 ?_ | refine x_ld ?_)
      refine ret0 (x := .ag [.ow 34 l.length 4 (owL l), .ow 80 l2.length 2 (owL l2)]) rfl (zs3 (zr3 (rw := ⟨34, 4, l.length, false, owL l⟩) rfl rfl rfl (zm _) (zr3 (rw := ⟨80, 2, l2.length, false, owL l2⟩) rfl rfl rfl (zm _) zt2))) ⟨?_, rfl⟩
      simp [setVarE, setVarL, varsE, tabsE, zx5 h0, owE, owL]
  · rw [show varsE _ = l from rfl, h0] at cv
    have hle : k * 4 + 1 + 3 ≤ (owL l).length := zr10 hk hlt (by omega)
    refine zt1 Try.func9 rfl rfl ?_
    repeat (first | refine zl ?_ | refine zf ?_ | refine zh ?_ | refine zi ?_ | refine zu ?_ | refine zb fun C => ?_ | refine ze (by kernel_rfl) (by kernel_rfl) fun C => ?_ | refine zd ?_ | refine zp1 ?_ | refine x_bs ?_ | refine x_gr ?_ | refine x_st ?_ | refine x_mv ?_ | refine x_sk ?_ | refine zz1 ?_ | refine x_ix ?_ | refine za2 ?_ | refine zb2 ?_ | refine zs1 ?_ | refine ze1 ?_ | refine x_ld ?_)
    refine za5 100 (zt9 he hsz) ?_
    repeat (first | refine zl ?_ | refine zf ?_ | refine zh ?_ | refine zi ?_ | refine zu ?_ | refine zb fun C => ?_ | refine ze (by kernel_rfl) (by kernel_rfl) fun C => ?_ | refine zd ?_ | refine zp1 ?_ | refine x_bs ?_ | refine x_gr ?_ | refine x_st ?_ | refine x_mv ?_ | refine x_sk ?_ | refine zz1 ?_ | refine x_ix ?_ | refine za2 ?_ | refine zb2 ?_ | refine zs1 ?_ | refine ze1 ?_ | refine x_ld ?_)
    refine za5 110 cv ?_
    repeat (first | refine zl ?_ | refine zf ?_ | refine zh ?_ | refine zi ?_ | refine zu ?_ | refine zb fun C => ?_ | refine ze (by kernel_rfl) (by kernel_rfl) fun C => ?_ | refine zd ?_ | refine zp1 ?_ | refine x_bs ?_ | refine x_gr ?_ | refine x_st ?_ | refine x_mv ?_ | refine x_sk ?_ | refine zz1 ?_ | refine x_ix ?_ | refine za2 ?_ | refine zb2 ?_ | refine zs1 ?_ | refine ze1 ?_ | refine x_ld ?_)
    refine zd2 (by rfl) (fun h1 => ?_) fun h1 => ?_
    · repeat (first | refine zl ?_ | refine zf ?_ | refine zh ?_ | refine zi ?_ | refine zu ?_ | refine zb fun C => ?_ | refine ze (by kernel_rfl) (by kernel_rfl) fun C => ?_ | refine zd ?_ | refine zp1 ?_ | refine x_bs ?_ | refine x_gr ?_ | refine x_st ?_ | refine x_mv ?_ | refine x_sk ?_ | refine zz1 ?_ | refine x_ix ?_ | refine za2 ?_ | refine zb2 ?_ | refine zs1 ?_ | refine ze1 ?_ | refine x_ld ?_)
      obtain ⟨x, hx⟩ : ∃ x, l[k]? = some x := ⟨_, List.getElem?_eq_getElem hlt⟩
      obtain ⟨y0, y1, y2, y3, rfl, hy⟩ := zl3 (hl x (List.mem_of_getElem? hx))
      have e1 : spl (owL l) (k * 4 + 1) [.v (.int .i64 v0), .v (.int .i64 v1), .v (.string v2)] = owL (l.set k (.agg [.str y0, .agg [.int .i64 v0, .int .i64 v1, .str v2]])) := zq10 hk hx (by simp) rfl
      refine ret0 (x := .ag [.ow 34 l.length 4 (spl (owL l) (k * 4 + 1) [.v (.int .i64 v0), .v (.int .i64 v1), .v (.string v2)]), .ow 80 l2.length 2 (owL l2)]) rfl (zs3 (zr3 (rw := ⟨34, 4, l.length, false, spl (owL l) (k * 4 + 1) [.v (.int .i64 v0), .v (.int .i64 v1), .v (.string v2)]⟩) rfl rfl rfl (by rw [e1]; exact zm _) (zr3 (rw := ⟨80, 2, l2.length, false, owL l2⟩) rfl rfl rfl (zm _) zt2))) ⟨?_, rfl⟩
      rw [e1]
      simp [setVarE, setVarL, varsE, tabsE, zj6 h0, hx, nmE, owE, owL]
    · simp at h1
theorem za19 {e : E} (he : e.Ty Try.prog 27) (s : ByteArray) (hsz : e.sz ≤ 1048576) : Ctr Try.prog 100 [.ag (acE e), .c (.v (.string s))] [] (.c (.v (.int .i64 (idxF (isNm s) (tabsE e))))) [] := by
  obtain ⟨x0A, x0c, l2, x1A, x1c, l, rfl, ⟨hl2, hk2⟩, ⟨hl, hk⟩, -⟩ := zi3 he
  have hlen : l.length ≤ 1048576 := by simp only [E.sz, E.szL] at hsz; omega
  refine zt1 Try.func100 rfl rfl ?_
  repeat (first | refine zl ?_ | refine zf ?_ | refine zh ?_ | refine zi ?_ | refine zu ?_ | refine zb fun C => ?_ | refine ze (by kernel_rfl) (by kernel_rfl) fun C => ?_ | refine zd ?_ | refine zp1 ?_ | refine x_bs ?_ | refine x_gr ?_ | refine x_st ?_ | refine x_mv ?_ | refine x_sk ?_ | refine zz1 ?_ | refine x_ix ?_ | refine za2 ?_ | refine zb2 ?_ | refine zs1 ?_ | refine ze1 ?_ | refine x_ld ?_)
  refine zw3 (fun k : Nat => ⟨tmsF [(0, .ag [.ro l2.length 4 (acL l2), .ro l.length 2 (acL l)]), (1, .c (.v (.string s))), (2, .c (.pt 2 0)), (5, .c (.v (.int .i64 k)))], hpsF [(2, 2, ⟨27, 0, 0, true, [.ro l2.length 4 (acL l2), .ro l.length 2 (acL l)]⟩)], 0, [2], 22⟩)
    (fun N k => k + N = l.length ∧ ∀ j y, j < k → l[j]? = some y → isNm s y = false) l.length 0 ⟨by omega, by omega⟩ (zv2 _ _ rfl rfl (by repeat' (first | exact TmOk.nil | exact RwOk.nil | refine TmOk.cons ?_ ?_ | refine RwOk.cons ?_ ?_ | rfl | (refine rnV_id' rfl ?_; (first | rfl | (simp [cloV, cloL, clo, zo, zn, zp, zm, zk]; done))) | (refine zd3 ?_; first | rfl | omega | (rw [zr1 (by omega) (by omega)]; omega)) | (refine ze2 rfl ?_; (first | rfl | (simp [cloV, cloL, clo, zo, zn, zp, zm, zk]; done))) | exact zd4 rfl rfl)) (by repeat' (first | exact TmOk.nil | exact RwOk.nil | refine TmOk.cons ?_ ?_ | refine RwOk.cons ?_ ?_ | rfl | (refine rnV_id' rfl ?_; (first | rfl | (simp [cloV, cloL, clo, zo, zn, zp, zm, zk]; done))) | (refine zd3 ?_; first | rfl | omega | (rw [zr1 (by omega) (by omega)]; omega)) | (refine ze2 rfl ?_; (first | rfl | (simp [cloV, cloL, clo, zo, zn, zp, zm, zk]; done))) | exact zd4 rfl rfl))) ?_
  rintro N k ⟨hN, hno⟩
  repeat (first | refine zl ?_ | refine zf ?_ | refine zh ?_ | refine zi ?_ | refine zu ?_ | refine zb fun C => ?_ | refine ze (by kernel_rfl) (by kernel_rfl) fun C => ?_ | refine zd ?_ | refine zp1 ?_ | refine x_bs ?_ | refine x_gr ?_ | refine x_st ?_ | refine x_mv ?_ | refine x_sk ?_ | refine zz1 ?_ | refine x_ix ?_ | refine za2 ?_ | refine zb2 ?_ | refine zs1 ?_ | refine ze1 ?_ | refine x_ld ?_)
  refine zd2 (by rfl) (fun h1 => ?_) fun h1 => ?_
  · have hk' : k < l.length := by simpa using h1
    obtain ⟨x, hx⟩ : ∃ x, l[k]? = some x := ⟨_, List.getElem?_eq_getElem hk'⟩
    obtain ⟨y0, y1A, y1c, y1, rfl, hy⟩ := zz3 (hl x (List.mem_of_getElem? hx))
    repeat (first | refine zl ?_ | refine zf ?_ | refine zh ?_ | refine zi ?_ | refine zu ?_ | refine zb fun C => ?_ | refine ze (by kernel_rfl) (by kernel_rfl) fun C => ?_ | refine zd ?_ | refine zp1 ?_ | refine x_bs ?_ | refine x_gr ?_ | refine x_st ?_ | refine x_mv ?_ | refine x_sk ?_ | refine zz1 ?_ | refine x_ix ?_ | refine za2 ?_ | refine zb2 ?_ | refine zs1 ?_ | refine ze1 ?_ | refine x_ld ?_)
    refine zd2 (by rfl) (fun ht => ?_) fun ht => ?_
    · repeat (first | refine zl ?_ | refine zf ?_ | refine zh ?_ | refine zi ?_ | refine zu ?_ | refine zb fun C => ?_ | refine ze (by kernel_rfl) (by kernel_rfl) fun C => ?_ | refine zd ?_ | refine zp1 ?_ | refine x_bs ?_ | refine x_gr ?_ | refine x_st ?_ | refine x_mv ?_ | refine x_sk ?_ | refine zz1 ?_ | refine x_ix ?_ | refine za2 ?_ | refine zb2 ?_ | refine zs1 ?_ | refine ze1 ?_ | refine x_ld ?_)
      refine ret0 (x := .c (.v (.int .i64 k))) rfl rfl ⟨?_, rfl⟩
      rw [show tabsE _ = l from rfl, zn8 hno hx (by simpa [isNm, nmE] using ht)]
    · repeat (first | refine zl ?_ | refine zf ?_ | refine zh ?_ | refine zi ?_ | refine zu ?_ | refine zb fun C => ?_ | refine ze (by kernel_rfl) (by kernel_rfl) fun C => ?_ | refine zd ?_ | refine zp1 ?_ | refine x_bs ?_ | refine x_gr ?_ | refine x_st ?_ | refine x_mv ?_ | refine x_sk ?_ | refine zz1 ?_ | refine x_ix ?_ | refine za2 ?_ | refine zb2 ?_ | refine zs1 ?_ | refine ze1 ?_ | refine x_ld ?_)
      refine ⟨N - 1, k + 1, by omega, ⟨by omega, fun j z hj hz => ?_⟩, zv2 _ _ rfl rfl (by repeat' (first | exact TmOk.nil | exact RwOk.nil | refine TmOk.cons ?_ ?_ | refine RwOk.cons ?_ ?_ | rfl | (refine rnV_id' rfl ?_; (first | rfl | (simp [cloV, cloL, clo, zo, zn, zp, zm, zk]; done))) | (refine zd3 ?_; first | rfl | omega | (rw [zr1 (by omega) (by omega)]; omega)) | (refine ze2 rfl ?_; (first | rfl | (simp [cloV, cloL, clo, zo, zn, zp, zm, zk]; done))) | exact zd4 rfl rfl)) (by repeat' (first | exact TmOk.nil | exact RwOk.nil | refine TmOk.cons ?_ ?_ | refine RwOk.cons ?_ ?_ | rfl | (refine rnV_id' rfl ?_; (first | rfl | (simp [cloV, cloL, clo, zo, zn, zp, zm, zk]; done))) | (refine zd3 ?_; first | rfl | omega | (rw [zr1 (by omega) (by omega)]; omega)) | (refine ze2 rfl ?_; (first | rfl | (simp [cloV, cloL, clo, zo, zn, zp, zm, zk]; done))) | exact zd4 rfl rfl))⟩
      by_cases e : j = k
      · rw [e, hx] at hz; injection hz with hz; subst hz; simpa [isNm, nmE] using ht
      · exact hno j z (by omega) hz
  · have hk' : ¬ k < l.length := by simpa using h1
    repeat (first | refine zl ?_ | refine zf ?_ | refine zh ?_ | refine zi ?_ | refine zu ?_ | refine zb fun C => ?_ | refine ze (by kernel_rfl) (by kernel_rfl) fun C => ?_ | refine zd ?_ | refine zp1 ?_ | refine x_bs ?_ | refine x_gr ?_ | refine x_st ?_ | refine x_mv ?_ | refine x_sk ?_ | refine zz1 ?_ | refine x_ix ?_ | refine za2 ?_ | refine zb2 ?_ | refine zs1 ?_ | refine ze1 ?_ | refine x_ld ?_)
    refine ret0 (x := .c (.v (.int .i64 (-1)))) rfl rfl ⟨?_, rfl⟩
    rw [show tabsE _ = l from rfl, zi6 fun j y hj hy => hno j y (by omega) hy]
set_option maxRecDepth 100000
theorem zs16 {e : E} (he : e.Ty Try.prog 80) (s : ByteArray) (hsz : e.sz ≤ 1048576) : Ctr Try.prog 101 [.ag (acE e), .c (.v (.string s))] [] (.c (.v (.int .i64 (idxF (isNm s) (tabsE e))))) [] := by
  obtain ⟨q0, x1A, x1c, l, rfl, hq0, ⟨hl, hk⟩, -⟩ := zz3 he
  have hlen : l.length ≤ 1048576 := by simp only [E.sz, E.szL] at hsz; omega
  refine zt1 Try.func101 rfl rfl ?_
  repeat (first | refine zl ?_ | refine zf ?_ | refine zh ?_ | refine zi ?_ | refine zu ?_ | refine zb fun C => ?_ | refine ze (by kernel_rfl) (by kernel_rfl) fun C => ?_ | refine zd ?_ | refine zp1 ?_ | refine x_bs ?_ | refine x_gr ?_ | refine x_st ?_ | refine x_mv ?_ | refine x_sk ?_ | refine zz1 ?_ | refine x_ix ?_ | refine za2 ?_ | refine zb2 ?_ | refine zs1 ?_ | refine ze1 ?_ | refine x_ld ?_)
  refine zw3 (fun k : Nat => ⟨tmsF [(0, .ag [.v (.string q0), .ro l.length 4 (acL l)]), (1, .c (.v (.string s))), (2, .c (.pt 2 0)), (5, .c (.v (.int .i64 k)))], hpsF [(2, 2, ⟨80, 0, 0, true, [.v (.string q0), .ro l.length 4 (acL l)]⟩)], 0, [2], 22⟩)
    (fun N k => k + N = l.length ∧ ∀ j y, j < k → l[j]? = some y → isNm s y = false) l.length 0 ⟨by omega, by omega⟩ (zv2 _ _ rfl rfl (by repeat' (first | exact TmOk.nil | exact RwOk.nil | refine TmOk.cons ?_ ?_ | refine RwOk.cons ?_ ?_ | rfl | (refine rnV_id' rfl ?_; (first | rfl | (simp [cloV, cloL, clo, zo, zn, zp, zm, zk]; done))) | (refine zd3 ?_; first | rfl | omega | (rw [zr1 (by omega) (by omega)]; omega)) | (refine ze2 rfl ?_; (first | rfl | (simp [cloV, cloL, clo, zo, zn, zp, zm, zk]; done))) | exact zd4 rfl rfl)) (by repeat' (first | exact TmOk.nil | exact RwOk.nil | refine TmOk.cons ?_ ?_ | refine RwOk.cons ?_ ?_ | rfl | (refine rnV_id' rfl ?_; (first | rfl | (simp [cloV, cloL, clo, zo, zn, zp, zm, zk]; done))) | (refine zd3 ?_; first | rfl | omega | (rw [zr1 (by omega) (by omega)]; omega)) | (refine ze2 rfl ?_; (first | rfl | (simp [cloV, cloL, clo, zo, zn, zp, zm, zk]; done))) | exact zd4 rfl rfl))) ?_
  rintro N k ⟨hN, hno⟩
  repeat (first | refine zl ?_ | refine zf ?_ | refine zh ?_ | refine zi ?_ | refine zu ?_ | refine zb fun C => ?_ | refine ze (by kernel_rfl) (by kernel_rfl) fun C => ?_ | refine zd ?_ | refine zp1 ?_ | refine x_bs ?_ | refine x_gr ?_ | refine x_st ?_ | refine x_mv ?_ | refine x_sk ?_ | refine zz1 ?_ | refine x_ix ?_ | refine za2 ?_ | refine zb2 ?_ | refine zs1 ?_ | refine ze1 ?_ | refine x_ld ?_)
  refine zd2 (by rfl) (fun h1 => ?_) fun h1 => ?_
  · have hk' : k < l.length := by simpa using h1
    obtain ⟨x, hx⟩ : ∃ x, l[k]? = some x := ⟨_, List.getElem?_eq_getElem hk'⟩
    obtain ⟨y0, y1, y2, y3, rfl, hy⟩ := zy4 (hl x (List.mem_of_getElem? hx))
    repeat (first | refine zl ?_ | refine zf ?_ | refine zh ?_ | refine zi ?_ | refine zu ?_ | refine zb fun C => ?_ | refine ze (by kernel_rfl) (by kernel_rfl) fun C => ?_ | refine zd ?_ | refine zp1 ?_ | refine x_bs ?_ | refine x_gr ?_ | refine x_st ?_ | refine x_mv ?_ | refine x_sk ?_ | refine zz1 ?_ | refine x_ix ?_ | refine za2 ?_ | refine zb2 ?_ | refine zs1 ?_ | refine ze1 ?_ | refine x_ld ?_)
    refine zd2 (by rfl) (fun ht => ?_) fun ht => ?_
    · repeat (first | refine zl ?_ | refine zf ?_ | refine zh ?_ | refine zi ?_ | refine zu ?_ | refine zb fun C => ?_ | refine ze (by kernel_rfl) (by kernel_rfl) fun C => ?_ | refine zd ?_ | refine zp1 ?_ | refine x_bs ?_ | refine x_gr ?_ | refine x_st ?_ | refine x_mv ?_ | refine x_sk ?_ | refine zz1 ?_ | refine x_ix ?_ | refine za2 ?_ | refine zb2 ?_ | refine zs1 ?_ | refine ze1 ?_ | refine x_ld ?_)
      refine ret0 (x := .c (.v (.int .i64 k))) rfl rfl ⟨?_, rfl⟩
      rw [show tabsE _ = l from rfl, zn8 hno hx (by simpa [isNm, nmE] using ht)]
    · repeat (first | refine zl ?_ | refine zf ?_ | refine zh ?_ | refine zi ?_ | refine zu ?_ | refine zb fun C => ?_ | refine ze (by kernel_rfl) (by kernel_rfl) fun C => ?_ | refine zd ?_ | refine zp1 ?_ | refine x_bs ?_ | refine x_gr ?_ | refine x_st ?_ | refine x_mv ?_ | refine x_sk ?_ | refine zz1 ?_ | refine x_ix ?_ | refine za2 ?_ | refine zb2 ?_ | refine zs1 ?_ | refine ze1 ?_ | refine x_ld ?_)
      refine ⟨N - 1, k + 1, by omega, ⟨by omega, fun j z hj hz => ?_⟩, zv2 _ _ rfl rfl (by repeat' (first | exact TmOk.nil | exact RwOk.nil | refine TmOk.cons ?_ ?_ | refine RwOk.cons ?_ ?_ | rfl | (refine rnV_id' rfl ?_; (first | rfl | (simp [cloV, cloL, clo, zo, zn, zp, zm, zk]; done))) | (refine zd3 ?_; first | rfl | omega | (rw [zr1 (by omega) (by omega)]; omega)) | (refine ze2 rfl ?_; (first | rfl | (simp [cloV, cloL, clo, zo, zn, zp, zm, zk]; done))) | exact zd4 rfl rfl)) (by repeat' (first | exact TmOk.nil | exact RwOk.nil | refine TmOk.cons ?_ ?_ | refine RwOk.cons ?_ ?_ | rfl | (refine rnV_id' rfl ?_; (first | rfl | (simp [cloV, cloL, clo, zo, zn, zp, zm, zk]; done))) | (refine zd3 ?_; first | rfl | omega | (rw [zr1 (by omega) (by omega)]; omega)) | (refine ze2 rfl ?_; (first | rfl | (simp [cloV, cloL, clo, zo, zn, zp, zm, zk]; done))) | exact zd4 rfl rfl))⟩
      by_cases e : j = k
      · rw [e, hx] at hz; injection hz with hz; subst hz; simpa [isNm, nmE] using ht
      · exact hno j z (by omega) hz
  · have hk' : ¬ k < l.length := by simpa using h1
    repeat (first | refine zl ?_ | refine zf ?_ | refine zh ?_ | refine zi ?_ | refine zu ?_ | refine zb fun C => ?_ | refine ze (by kernel_rfl) (by kernel_rfl) fun C => ?_ | refine zd ?_ | refine zp1 ?_ | refine x_bs ?_ | refine x_gr ?_ | refine x_st ?_ | refine x_mv ?_ | refine x_sk ?_ | refine zz1 ?_ | refine x_ix ?_ | refine za2 ?_ | refine zb2 ?_ | refine zs1 ?_ | refine ze1 ?_ | refine x_ld ?_)
    refine ret0 (x := .c (.v (.int .i64 (-1)))) rfl rfl ⟨?_, rfl⟩
    rw [show tabsE _ = l from rfl, zi6 fun j y hj hy => hno j y (by omega) hy]
def vlE (x : E) : E := match x with | .agg [_, v] => v | _ => x
end Go.Proofs.Ytghljnfbbaklnaa
