/- KeysOf of both sides: by the abstract machine. -/
import Derived.Test.YtghljnfbbaklnaaEntriesM
namespace Go.Proofs.Ytghljnfbbaklnaa
open Go.RowKit
set_option maxRecDepth 100000
theorem zl20 {e : E} (he : e.Ty Try.prog 27) (s : ByteArray) (hsz : e.sz ≤ 1048576) : Ctr Try.prog 100 [.ag (acE e), .c (.v (.string s))] [] (.c (.v (.int .i64 (idxF (isNm s) (tabsE e))))) [] := by
  obtain ⟨x0A, x0c, l2, x1A, x1c, l, rfl, ⟨hl2, hk2⟩, ⟨hl, hk⟩, -⟩ := zz2 he
  have hlen : l.length ≤ 1048576 := by simp only [E.sz, E.szL] at hsz; omega
  refine zt1 Try.func100 rfl rfl ?_
  repeat (first | refine zi ?_ | refine ze ?_ | refine zg ?_ | refine zh ?_ | refine zq ?_ | refine za fun C => ?_ | refine zf (by kernel_rfl) (by kernel_rfl) fun C => ?_ | refine zd ?_ | refine zf1 ?_ | refine x_bs ?_ | refine x_gr ?_ | refine x_st ?_ | refine x_mv ?_ | refine x_sk ?_ | refine zh1 ?_ | refine x_ix ?_ | refine zi1 ?_ | refine zj1 ?_ | refine zg1 ?_ | refine zt ?_ | refine x_ld ?_)
  refine zp3 (fun k : Nat => ⟨tmsF [(0, .ag [.ro l2.length 4 (acL l2), .ro l.length 2 (acL l)]), (1, .c (.v (.string s))), (2, .c (.pt 2 0)), (5, .c (.v (.int .i64 k)))], hpsF [(2, 2, ⟨27, 0, 0, true, [.ro l2.length 4 (acL l2), .ro l.length 2 (acL l)]⟩)], 0, [2], 22⟩)
    (fun N k => k + N = l.length ∧ ∀ j y, j < k → l[j]? = some y → isNm s y = false) l.length 0 ⟨by omega, by omega⟩ (zx2 _ _ rfl rfl (by repeat' (first | exact TmOk.nil | exact RwOk.nil | refine TmOk.cons ?_ ?_ | refine RwOk.cons ?_ ?_ | rfl | (refine rnV_id' rfl ?_; (first | rfl | (simp [cloV, cloL, clo, zo, zn, zp, zl, zk]; done))) | (refine zf3 ?_; first | rfl | omega | (rw [zx1 (by omega) (by omega)]; omega)) | (refine zb2 rfl ?_; (first | rfl | (simp [cloV, cloL, clo, zo, zn, zp, zl, zk]; done))) | exact zl4 rfl rfl)) (by repeat' (first | exact TmOk.nil | exact RwOk.nil | refine TmOk.cons ?_ ?_ | refine RwOk.cons ?_ ?_ | rfl | (refine rnV_id' rfl ?_; (first | rfl | (simp [cloV, cloL, clo, zo, zn, zp, zl, zk]; done))) | (refine zf3 ?_; first | rfl | omega | (rw [zx1 (by omega) (by omega)]; omega)) | (refine zb2 rfl ?_; (first | rfl | (simp [cloV, cloL, clo, zo, zn, zp, zl, zk]; done))) | exact zl4 rfl rfl))) ?_
  rintro N k ⟨hN, hno⟩
  repeat (first | refine zi ?_ | refine ze ?_ | refine zg ?_ | refine zh ?_ | refine zq ?_ | refine za fun C => ?_ | refine zf (by kernel_rfl) (by kernel_rfl) fun C => ?_ | refine zd ?_ | refine zf1 ?_ | refine x_bs ?_ | refine x_gr ?_ | refine x_st ?_ | refine x_mv ?_ | refine x_sk ?_ | refine zh1 ?_ | refine x_ix ?_ | refine zi1 ?_ | refine zj1 ?_ | refine zg1 ?_ | refine zt ?_ | refine x_ld ?_)
  refine zn1 (by rfl) (fun h1 => ?_) fun h1 => ?_
  · have hk' : k < l.length := by simpa using h1
    obtain ⟨x, hx⟩ : ∃ x, l[k]? = some x := ⟨_, List.getElem?_eq_getElem hk'⟩
    obtain ⟨y0, y1A, y1c, y1, rfl, hy⟩ := zh2 (hl x (List.mem_of_getElem? hx))
    repeat (first | refine zi ?_ | refine ze ?_ | refine zg ?_ | refine zh ?_ | refine zq ?_ | refine za fun C => ?_ | refine zf (by kernel_rfl) (by kernel_rfl) fun C => ?_ | refine zd ?_ | refine zf1 ?_ | refine x_bs ?_ | refine x_gr ?_ | refine x_st ?_ | refine x_mv ?_ | refine x_sk ?_ | refine zh1 ?_ | refine x_ix ?_ | refine zi1 ?_ | refine zj1 ?_ | refine zg1 ?_ | refine zt ?_ | refine x_ld ?_)
    refine zn1 (by rfl) (fun ht => ?_) fun ht => ?_
    · repeat (first | refine zi ?_ | refine ze ?_ | refine zg ?_ | refine zh ?_ | refine zq ?_ | refine za fun C => ?_ | refine zf (by kernel_rfl) (by kernel_rfl) fun C => ?_ | refine zd ?_ | refine zf1 ?_ | refine x_bs ?_ | refine x_gr ?_ | refine x_st ?_ | refine x_mv ?_ | refine x_sk ?_ | refine zh1 ?_ | refine x_ix ?_ | refine zi1 ?_ | refine zj1 ?_ | refine zg1 ?_ | refine zt ?_ | refine x_ld ?_)
      refine ret0 (x := .c (.v (.int .i64 k))) rfl rfl ⟨?_, rfl⟩
      rw [show tabsE _ = l from rfl, zl9 hno hx (by simpa [isNm, nmE] using ht)]
    · repeat (first | refine zi ?_ | refine ze ?_ | refine zg ?_ | refine zh ?_ | refine zq ?_ | refine za fun C => ?_ | refine zf (by kernel_rfl) (by kernel_rfl) fun C => ?_ | refine zd ?_ | refine zf1 ?_ | refine x_bs ?_ | refine x_gr ?_ | refine x_st ?_ | refine x_mv ?_ | refine x_sk ?_ | refine zh1 ?_ | refine x_ix ?_ | refine zi1 ?_ | refine zj1 ?_ | refine zg1 ?_ | refine zt ?_ | refine x_ld ?_)
      refine ⟨N - 1, k + 1, by omega, ⟨by omega, fun j z hj hz => ?_⟩, zx2 _ _ rfl rfl (by repeat' (first | exact TmOk.nil | exact RwOk.nil | refine TmOk.cons ?_ ?_ | refine RwOk.cons ?_ ?_ | rfl | (refine rnV_id' rfl ?_; (first | rfl | (simp [cloV, cloL, clo, zo, zn, zp, zl, zk]; done))) | (refine zf3 ?_; first | rfl | omega | (rw [zx1 (by omega) (by omega)]; omega)) | (refine zb2 rfl ?_; (first | rfl | (simp [cloV, cloL, clo, zo, zn, zp, zl, zk]; done))) | exact zl4 rfl rfl)) (by repeat' (first | exact TmOk.nil | exact RwOk.nil | refine TmOk.cons ?_ ?_ | refine RwOk.cons ?_ ?_ | rfl | (refine rnV_id' rfl ?_; (first | rfl | (simp [cloV, cloL, clo, zo, zn, zp, zl, zk]; done))) | (refine zf3 ?_; first | rfl | omega | (rw [zx1 (by omega) (by omega)]; omega)) | (refine zb2 rfl ?_; (first | rfl | (simp [cloV, cloL, clo, zo, zn, zp, zl, zk]; done))) | exact zl4 rfl rfl))⟩
      by_cases e : j = k
      · rw [e, hx] at hz; injection hz with hz; subst hz; simpa [isNm, nmE] using ht
      · exact hno j z (by omega) hz
  · have hk' : ¬ k < l.length := by simpa using h1
    repeat (first | refine zi ?_ | refine ze ?_ | refine zg ?_ | refine zh ?_ | refine zq ?_ | refine za fun C => ?_ | refine zf (by kernel_rfl) (by kernel_rfl) fun C => ?_ | refine zd ?_ | refine zf1 ?_ | refine x_bs ?_ | refine x_gr ?_ | refine x_st ?_ | refine x_mv ?_ | refine x_sk ?_ | refine zh1 ?_ | refine x_ix ?_ | refine zi1 ?_ | refine zj1 ?_ | refine zg1 ?_ | refine zt ?_ | refine x_ld ?_)
    refine ret0 (x := .c (.v (.int .i64 (-1)))) rfl rfl ⟨?_, rfl⟩
    rw [show tabsE _ = l from rfl, zy6 fun j y hj hy => hno j y (by omega) hy]
def keyE (x : E) : E := .str (nmE x)
def keysL (e : E) (s : ByteArray) : List E := match (tabsE e).findIdx? (isNm s) with | some k => (tabsE ((tabsE e)[k]?.getD e)).map keyE | none => []
theorem zh6 {e : E} (he : e.Ty Try.prog 27) (s : ByteArray) (hsz : e.sz ≤ 1048576) : Ctr Try.prog 29 [.ag (acE e), .c (.v (.string s))] [] (.c (.ow 9 (keysL e s).length 1 (owL (keysL e s)))) [] := by
  have cv := zb7 he s hsz
  obtain ⟨x0A, x0c, l2, x1A, x1c, l, rfl, ⟨hl2, hk2⟩, ⟨hl, hk⟩, -⟩ := zz2 he
  have hlen : l.length ≤ 1048576 := by simp only [E.sz, E.szL] at hsz; omega
  rcases zu3 (isNm s) l with h0 | ⟨k, h0, hlt⟩
  · rw [show tabsE _ = l from rfl, h0] at cv
    have e0 : keysL (.agg [.lst 4 34 x0A x0c l2, .lst 2 80 x1A x1c l]) s = [] := by simp [keysL, tabsE, zo5 h0]
    rw [e0]
    refine zt1 Try.func29 rfl rfl ?_
    repeat (first | refine zi ?_ | refine ze ?_ | refine zg ?_ | refine zh ?_ | refine zq ?_ | refine za fun C => ?_ | refine zf (by kernel_rfl) (by kernel_rfl) fun C => ?_ | refine zd ?_ | refine zf1 ?_ | refine x_bs ?_ | refine x_gr ?_ | refine x_st ?_ | refine x_mv ?_ | refine x_sk ?_ | refine zh1 ?_ | refine x_ix ?_ | refine zi1 ?_ | refine zj1 ?_ | refine zg1 ?_ | refine zt ?_ | refine x_ld ?_)
    refine zb4 110 cv ?_
    repeat (first | refine zi ?_ | refine ze ?_ | refine zg ?_ | refine zh ?_ | refine zq ?_ | refine za fun C => ?_ | refine zf (by kernel_rfl) (by kernel_rfl) fun C => ?_ | refine zd ?_ | refine zf1 ?_ | refine x_bs ?_ | refine x_gr ?_ | refine x_st ?_ | refine x_mv ?_ | refine x_sk ?_ | refine zh1 ?_ | refine x_ix ?_ | refine zi1 ?_ | refine zj1 ?_ | refine zg1 ?_ | refine zt ?_ | refine x_ld ?_)
    refine za2 (zc19 90 (t := 5) 9 1 rfl rfl) ?_
    refine zn1 (by rfl) (fun h1 => ?_) fun h1 => ?_
    · simp at h1
    · repeat (first | refine zi ?_ | refine ze ?_ | refine zg ?_ | refine zh ?_ | refine zq ?_ | refine za fun C => ?_ | refine zf (by kernel_rfl) (by kernel_rfl) fun C => ?_ | refine zd ?_ | refine zf1 ?_ | refine x_bs ?_ | refine x_gr ?_ | refine x_st ?_ | refine x_mv ?_ | refine x_sk ?_ | refine zh1 ?_ | refine x_ix ?_ | refine zi1 ?_ | refine zj1 ?_ | refine zg1 ?_ | refine zt ?_ | refine x_ld ?_)
      exact ret0 (x := .c (.ow 9 0 1 (owL []))) rfl (zd21 (ze3 (rw := ⟨9, 1, 0, false, []⟩) rfl rfl rfl (zl []) zl2)) ⟨rfl, rfl⟩
  · rw [show tabsE _ = l from rfl, h0] at cv
    obtain ⟨x, hx⟩ : ∃ x, l[k]? = some x := ⟨_, List.getElem?_eq_getElem hlt⟩
    obtain ⟨y0, y1A, y1c, y1, rfl, hy0, ⟨hy1, hy1k⟩, -⟩ := zh2 (hl x (List.mem_of_getElem? hx))
    have hy1l : y1.length ≤ 1048576 := by
      have := E.szL_mem (List.mem_of_getElem? hx)
      simp only [E.sz, E.szL] at hsz this; omega
    have e0 : keysL (.agg [.lst 4 34 x0A x0c l2, .lst 2 80 x1A x1c l]) s = y1.map keyE := by simp [keysL, tabsE, zp5 h0, hx]
    rw [e0]
    refine zt1 Try.func29 rfl rfl ?_
    repeat (first | refine zi ?_ | refine ze ?_ | refine zg ?_ | refine zh ?_ | refine zq ?_ | refine za fun C => ?_ | refine zf (by kernel_rfl) (by kernel_rfl) fun C => ?_ | refine zd ?_ | refine zf1 ?_ | refine x_bs ?_ | refine x_gr ?_ | refine x_st ?_ | refine x_mv ?_ | refine x_sk ?_ | refine zh1 ?_ | refine x_ix ?_ | refine zi1 ?_ | refine zj1 ?_ | refine zg1 ?_ | refine zt ?_ | refine x_ld ?_)
    refine zb4 110 cv ?_
    repeat (first | refine zi ?_ | refine ze ?_ | refine zg ?_ | refine zh ?_ | refine zq ?_ | refine za fun C => ?_ | refine zf (by kernel_rfl) (by kernel_rfl) fun C => ?_ | refine zd ?_ | refine zf1 ?_ | refine x_bs ?_ | refine x_gr ?_ | refine x_st ?_ | refine x_mv ?_ | refine x_sk ?_ | refine zh1 ?_ | refine x_ix ?_ | refine zi1 ?_ | refine zj1 ?_ | refine zg1 ?_ | refine zt ?_ | refine x_ld ?_)
    refine za2 (zc19 90 (t := 5) 9 1 rfl rfl) ?_
    refine zn1 (by rfl) (fun h1 => ?_) fun h1 => ?_
    · repeat (first | refine zi ?_ | refine ze ?_ | refine zg ?_ | refine zh ?_ | refine zq ?_ | refine za fun C => ?_ | refine zf (by kernel_rfl) (by kernel_rfl) fun C => ?_ | refine zd ?_ | refine zf1 ?_ | refine x_bs ?_ | refine x_gr ?_ | refine x_st ?_ | refine x_mv ?_ | refine x_sk ?_ | refine zh1 ?_ | refine x_ix ?_ | refine zi1 ?_ | refine zj1 ?_ | refine zg1 ?_ | refine zt ?_ | refine x_ld ?_)
      refine zp3 (fun i : Nat => ⟨tmsF [(5, .c (.sl 90 i)), (19, .c (.ro y1.length 4 (acL y1))), (20, .c (.v (.int .i64 y1.length))), (21, .c (.v (.int .i64 i)))], hpsF [(90, 90, ⟨9, 1, i, false, owL ((y1.map keyE).take i)⟩)], 0, [90], 32⟩)
        (fun N i => i + N = y1.length) y1.length 0 (by omega) ?_ ?_
      · (refine zx2 _ _ rfl rfl ?_ ?_ <;> (repeat' (first | exact TmOk.nil | exact RwOk.nil | refine TmOk.cons ?_ ?_ | refine RwOk.cons ?_ ?_ | rfl | (refine rnV_id' rfl ?_; (first | rfl | (simp [cloV, cloL, clo, zo, zn, zp, zl, zk]; done))) | (refine zf3 ?_; first | rfl | omega | (rw [zx1 (by omega) (by omega)]; omega)) | (refine zb2 rfl ?_; (first | rfl | (simp [cloV, cloL, clo, zo, zn, zp, zl, zk]; done))) | exact zl4 rfl rfl | (refine ze4 (by rfl) (by rfl) ?_ ?_ <;> (first | rfl | (simp [cloV, cloL, clo, zo, zn, zp, zl, zk]; done))) | (refine rw_rn' rfl rfl ?_; simp; done))))
      rintro N i hN
      repeat (first | refine zi ?_ | refine ze ?_ | refine zg ?_ | refine zh ?_ | refine zq ?_ | refine za fun C => ?_ | refine zf (by kernel_rfl) (by kernel_rfl) fun C => ?_ | refine zd ?_ | refine zf1 ?_ | refine x_bs ?_ | refine x_gr ?_ | refine x_st ?_ | refine x_mv ?_ | refine x_sk ?_ | refine zh1 ?_ | refine x_ix ?_ | refine zi1 ?_ | refine zj1 ?_ | refine zg1 ?_ | refine zt ?_ | refine x_ld ?_)
      refine zn1 (by rfl) (fun h1 => ?_) fun h1 => ?_
      · have hi' : i < y1.length := by simpa using h1
        obtain ⟨z, hz⟩ : ∃ z, y1[i]? = some z := ⟨_, List.getElem?_eq_getElem hi'⟩
        obtain ⟨z0, z1, z2, z3, rfl, hz0⟩ := zh3 (hy1 z (List.mem_of_getElem? hz))
        have hz' : (y1.map keyE)[i]? = some (.str z0) := by rw [List.getElem?_map, hz]; rfl
        repeat (first | refine zi ?_ | refine ze ?_ | refine zg ?_ | refine zh ?_ | refine zq ?_ | refine za fun C => ?_ | refine zf (by kernel_rfl) (by kernel_rfl) fun C => ?_ | refine zd ?_ | refine zf1 ?_ | refine x_bs ?_ | refine x_gr ?_ | refine x_st ?_ | refine x_mv ?_ | refine x_sk ?_ | refine zh1 ?_ | refine x_ix ?_ | refine zi1 ?_ | refine zj1 ?_ | refine zg1 ?_ | refine zt ?_ | refine x_ld ?_)
        refine ⟨N - 1, i + 1, by omega, by omega, ?_⟩
        (refine zg12 (fun j => if j = 90 then 29 else j) _ _ rfl rfl ?_ ?_ <;> (repeat' (first | exact TmOk.nil | exact RwOk.nil | refine TmOk.cons ?_ ?_ | refine RwOk.cons ?_ ?_ | rfl | (refine rnV_id' rfl ?_; (first | rfl | (simp [cloV, cloL, clo, zo, zn, zp, zl, zk]; done))) | (refine zf3 ?_; first | rfl | omega | (rw [zx1 (by omega) (by omega)]; omega)) | (refine zb2 rfl ?_; (first | rfl | (simp [cloV, cloL, clo, zo, zn, zp, zl, zk]; done))) | exact zl4 rfl rfl | (refine ze4 (by rfl) (by rfl) ?_ ?_ <;> (first | rfl | (simp [cloV, cloL, clo, zo, zn, zp, zl, zk]; done))) | (refine rw_rn' rfl rfl ?_; simp; done))))
        exact zo15 (r := ⟨9, 1, i + 1, false, owL ((y1.map keyE).take i) ++ [.v (.string z0)]⟩) rfl (by rw [zy5 hz']; rfl) (by first | rfl | (simp [cloV, cloL, clo, zo, zn, zp, zl, zk]; done))
      · have hi' : ¬ i < y1.length := by simpa using h1
        repeat (first | refine zi ?_ | refine ze ?_ | refine zg ?_ | refine zh ?_ | refine zq ?_ | refine za fun C => ?_ | refine zf (by kernel_rfl) (by kernel_rfl) fun C => ?_ | refine zd ?_ | refine zf1 ?_ | refine x_bs ?_ | refine x_gr ?_ | refine x_st ?_ | refine x_mv ?_ | refine x_sk ?_ | refine zh1 ?_ | refine x_ix ?_ | refine zi1 ?_ | refine zj1 ?_ | refine zg1 ?_ | refine zt ?_ | refine x_ld ?_)
        obtain rfl : i = y1.length := by omega
        refine ret0 (x := .c (.ow 9 y1.length 1 (owL ((y1.map keyE).take y1.length)))) rfl (zd21 (ze3 (rw := ⟨9, 1, y1.length, false, owL ((y1.map keyE).take y1.length)⟩) rfl rfl rfl (zl _) zl2)) ⟨?_, rfl⟩
        rw [List.take_of_length_le (by simp), List.length_map]
    · simp at h1
set_option maxRecDepth 100000
theorem zz17 {e : E} (he : e.Ty Try.prog 80) (s : ByteArray) (hsz : e.sz ≤ 1048576) : Ctr Try.prog 101 [.ag (acE e), .c (.v (.string s))] [] (.c (.v (.int .i64 (idxF (isNm s) (tabsE e))))) [] := by
  obtain ⟨q0, x1A, x1c, l, rfl, hq0, ⟨hl, hk⟩, -⟩ := zh2 he
  have hlen : l.length ≤ 1048576 := by simp only [E.sz, E.szL] at hsz; omega
  refine zt1 Try.func101 rfl rfl ?_
  repeat (first | refine zi ?_ | refine ze ?_ | refine zg ?_ | refine zh ?_ | refine zq ?_ | refine za fun C => ?_ | refine zf (by kernel_rfl) (by kernel_rfl) fun C => ?_ | refine zd ?_ | refine zf1 ?_ | refine x_bs ?_ | refine x_gr ?_ | refine x_st ?_ | refine x_mv ?_ | refine x_sk ?_ | refine zh1 ?_ | refine x_ix ?_ | refine zi1 ?_ | refine zj1 ?_ | refine zg1 ?_ | refine zt ?_ | refine x_ld ?_)
  refine zp3 (fun k : Nat => ⟨tmsF [(0, .ag [.v (.string q0), .ro l.length 4 (acL l)]), (1, .c (.v (.string s))), (2, .c (.pt 2 0)), (5, .c (.v (.int .i64 k)))], hpsF [(2, 2, ⟨80, 0, 0, true, [.v (.string q0), .ro l.length 4 (acL l)]⟩)], 0, [2], 22⟩)
    (fun N k => k + N = l.length ∧ ∀ j y, j < k → l[j]? = some y → isNm s y = false) l.length 0 ⟨by omega, by omega⟩ (zx2 _ _ rfl rfl (by repeat' (first | exact TmOk.nil | exact RwOk.nil | refine TmOk.cons ?_ ?_ | refine RwOk.cons ?_ ?_ | rfl | (refine rnV_id' rfl ?_; (first | rfl | (simp [cloV, cloL, clo, zo, zn, zp, zl, zk]; done))) | (refine zf3 ?_; first | rfl | omega | (rw [zx1 (by omega) (by omega)]; omega)) | (refine zb2 rfl ?_; (first | rfl | (simp [cloV, cloL, clo, zo, zn, zp, zl, zk]; done))) | exact zl4 rfl rfl)) (by repeat' (first | exact TmOk.nil | exact RwOk.nil | refine TmOk.cons ?_ ?_ | refine RwOk.cons ?_ ?_ | rfl | (refine rnV_id' rfl ?_; (first | rfl | (simp [cloV, cloL, clo, zo, zn, zp, zl, zk]; done))) | (refine zf3 ?_; first | rfl | omega | (rw [zx1 (by omega) (by omega)]; omega)) | (refine zb2 rfl ?_; (first | rfl | (simp [cloV, cloL, clo, zo, zn, zp, zl, zk]; done))) | exact zl4 rfl rfl))) ?_
  rintro N k ⟨hN, hno⟩
  repeat (first | refine zi ?_ | refine ze ?_ | refine zg ?_ | refine zh ?_ | refine zq ?_ | refine za fun C => ?_ | refine zf (by kernel_rfl) (by kernel_rfl) fun C => ?_ | refine zd ?_ | refine zf1 ?_ | refine x_bs ?_ | refine x_gr ?_ | refine x_st ?_ | refine x_mv ?_ | refine x_sk ?_ | refine zh1 ?_ | refine x_ix ?_ | refine zi1 ?_ | refine zj1 ?_ | refine zg1 ?_ | refine zt ?_ | refine x_ld ?_)
  refine zn1 (by rfl) (fun h1 => ?_) fun h1 => ?_
  · have hk' : k < l.length := by simpa using h1
    obtain ⟨x, hx⟩ : ∃ x, l[k]? = some x := ⟨_, List.getElem?_eq_getElem hk'⟩
    obtain ⟨y0, y1, y2, y3, rfl, hy⟩ := zh3 (hl x (List.mem_of_getElem? hx))
    repeat (first | refine zi ?_ | refine ze ?_ | refine zg ?_ | refine zh ?_ | refine zq ?_ | refine za fun C => ?_ | refine zf (by kernel_rfl) (by kernel_rfl) fun C => ?_ | refine zd ?_ | refine zf1 ?_ | refine x_bs ?_ | refine x_gr ?_ | refine x_st ?_ | refine x_mv ?_ | refine x_sk ?_ | refine zh1 ?_ | refine x_ix ?_ | refine zi1 ?_ | refine zj1 ?_ | refine zg1 ?_ | refine zt ?_ | refine x_ld ?_)
    refine zn1 (by rfl) (fun ht => ?_) fun ht => ?_
    · repeat (first | refine zi ?_ | refine ze ?_ | refine zg ?_ | refine zh ?_ | refine zq ?_ | refine za fun C => ?_ | refine zf (by kernel_rfl) (by kernel_rfl) fun C => ?_ | refine zd ?_ | refine zf1 ?_ | refine x_bs ?_ | refine x_gr ?_ | refine x_st ?_ | refine x_mv ?_ | refine x_sk ?_ | refine zh1 ?_ | refine x_ix ?_ | refine zi1 ?_ | refine zj1 ?_ | refine zg1 ?_ | refine zt ?_ | refine x_ld ?_)
      refine ret0 (x := .c (.v (.int .i64 k))) rfl rfl ⟨?_, rfl⟩
      rw [show tabsE _ = l from rfl, zl9 hno hx (by simpa [isNm, nmE] using ht)]
    · repeat (first | refine zi ?_ | refine ze ?_ | refine zg ?_ | refine zh ?_ | refine zq ?_ | refine za fun C => ?_ | refine zf (by kernel_rfl) (by kernel_rfl) fun C => ?_ | refine zd ?_ | refine zf1 ?_ | refine x_bs ?_ | refine x_gr ?_ | refine x_st ?_ | refine x_mv ?_ | refine x_sk ?_ | refine zh1 ?_ | refine x_ix ?_ | refine zi1 ?_ | refine zj1 ?_ | refine zg1 ?_ | refine zt ?_ | refine x_ld ?_)
      refine ⟨N - 1, k + 1, by omega, ⟨by omega, fun j z hj hz => ?_⟩, zx2 _ _ rfl rfl (by repeat' (first | exact TmOk.nil | exact RwOk.nil | refine TmOk.cons ?_ ?_ | refine RwOk.cons ?_ ?_ | rfl | (refine rnV_id' rfl ?_; (first | rfl | (simp [cloV, cloL, clo, zo, zn, zp, zl, zk]; done))) | (refine zf3 ?_; first | rfl | omega | (rw [zx1 (by omega) (by omega)]; omega)) | (refine zb2 rfl ?_; (first | rfl | (simp [cloV, cloL, clo, zo, zn, zp, zl, zk]; done))) | exact zl4 rfl rfl)) (by repeat' (first | exact TmOk.nil | exact RwOk.nil | refine TmOk.cons ?_ ?_ | refine RwOk.cons ?_ ?_ | rfl | (refine rnV_id' rfl ?_; (first | rfl | (simp [cloV, cloL, clo, zo, zn, zp, zl, zk]; done))) | (refine zf3 ?_; first | rfl | omega | (rw [zx1 (by omega) (by omega)]; omega)) | (refine zb2 rfl ?_; (first | rfl | (simp [cloV, cloL, clo, zo, zn, zp, zl, zk]; done))) | exact zl4 rfl rfl))⟩
      by_cases e : j = k
      · rw [e, hx] at hz; injection hz with hz; subst hz; simpa [isNm, nmE] using ht
      · exact hno j z (by omega) hz
  · have hk' : ¬ k < l.length := by simpa using h1
    repeat (first | refine zi ?_ | refine ze ?_ | refine zg ?_ | refine zh ?_ | refine zq ?_ | refine za fun C => ?_ | refine zf (by kernel_rfl) (by kernel_rfl) fun C => ?_ | refine zd ?_ | refine zf1 ?_ | refine x_bs ?_ | refine x_gr ?_ | refine x_st ?_ | refine x_mv ?_ | refine x_sk ?_ | refine zh1 ?_ | refine x_ix ?_ | refine zi1 ?_ | refine zj1 ?_ | refine zg1 ?_ | refine zt ?_ | refine x_ld ?_)
    refine ret0 (x := .c (.v (.int .i64 (-1)))) rfl rfl ⟨?_, rfl⟩
    rw [show tabsE _ = l from rfl, zy6 fun j y hj hy => hno j y (by omega) hy]
def vlE (x : E) : E := match x with | .agg [_, v] => v | _ => x
end Go.Proofs.Ytghljnfbbaklnaa
