/- What the law of instructions draws. -/
import Derived.Shelf.LaysM
import Derived.Shelf.Strconv.Itoa3
import Derived.Test.YtfemkmnkofgaaaaDoorInsR
namespace Go.Proofs.YtfemkmnkofgaaaaDoor
open Go.RowKit
set_option maxRecDepth 100000
theorem zf10 : ∀ (bs : List UInt8) (m : Nat) (b : UInt8), m < bs.length → spl (bytC bs) m [.v (.int .u8 (b.toNat : Int))] = bytC (bs.set m b)
  | [], m, b, h => absurd h (Nat.not_lt_zero m)
  | c :: r, 0, b, h => by simp [spl, bytC]
  | c :: r, m + 1, b, h => by
    have ih := zf10 r m b (by simpa using h)
    simp only [spl, bytC, List.map_cons, List.set_cons_succ, List.take_succ_cons, List.cons_append, List.length_singleton] at ih ⊢
    rw [← ih, show m + 1 + 1 = (m + 1) + 1 from rfl, List.drop_succ_cons]
theorem zd18 {cs : List AC} (hc : Curs cs) (bs : List UInt8) (h0 : 0 < bs.length) (hl : bs.length ≤ 1048576) : ∃ (out : List UInt8) (cs' : List AC), Curs cs' ∧ out.length ≤ bs.length + 1 ∧ CtrU Tryd.prog 37 [.c (.pt 0 0), .c .un] [cs] 1 5 1 bs.length (bytC bs) (.c (.ow 5 out.length 1 (bytC out))) [cs'] := by
  have cc := zu hc
  obtain ⟨k, cs1, h1, hk, c1⟩ := zk3 hc 4 (by decide)
  have cc1 := zu h1
  obtain ⟨m, cs2, h2, hm, c2⟩ := zk3 h1 (bs.length : Int) (by omega)
  have cc2 := zu h2
  obtain ⟨z, cs3, h3, hz, c3⟩ := zb10 h2 [0, 63, 64, 127, 128, 255] (by simp)
  have cc3 := zu h3
  have hz2 : 0 ≤ z ∧ z < 256 := by
    simp only [List.mem_cons, List.not_mem_nil, or_false] at hz
    omega
  have hcl := zw1 bs
  have hk2 : k = 0 ∨ k = 1 ∨ 2 ≤ k := by omega
  rcases hk2 with rfl | rfl | hk2
  · refine ⟨bs.set m (b8 z), cs3, h3, by rw [List.length_set]; omega, za12 50 Tryd.func37 rfl rfl (by simp) ?_⟩
    rw [List.length_set]
    have hbl : (bytC bs).length = bs.length := by simp [bytC]
    have hle : m * 1 + 1 ≤ (bytC bs).length := by omega
    have hle2 : m + 1 ≤ (bytC bs).length := by omega
    repeat' (first | ((apply f_wo); first | ((apply f_gs); first | refine n_sk ?_ | refine zv15 ?_) | ((apply f_mv); first | (refine zy8 ?_ ?_ <;> intro hG <;> (try cases hG)) | refine zx (v := .c _) ?_ | refine zx (v := .ag _) ?_ | refine zx (v := .tu _) ?_ | refine za ?_) | ((apply f_as); first | refine zg1 (v := .c _) ?_ | refine zg1 (v := .ag _) ?_ | refine zg1 (v := .tu _) ?_ | refine za ?_) | ((apply f_fa); first | refine n_fa ?_ | refine zo3 ?_) | ((apply f_ld); first | refine zj3 ?_ | refine zs1 ?_ | refine zv1 ?_ | refine zm3 ?_ | refine n_ld ?_) | ((apply f_ca); first | refine zi2 0 (c1) ?_ (hl := zm1 (by rfl) cc) | refine zi2 0 (c2) ?_ (hl := zm1 (by rfl) cc1) | refine zw17 0 [15] (c3) ?_ (hl := zm1 (by rfl) cc2)) | ((apply f_bi); first | refine za3 ?_ | refine zz2 ?_ | refine zb3 ?_ | refine zg5 ?_ | refine zg5 (hnu := ze _) ?_ | refine zw3 ?_ | refine zw3 (hnu := ze _) ?_ | refine za ?_) | ((apply f_st); first | refine n_st ?_ | refine zs2 ?_) | ((apply f_ia); first | refine n_ix ?_ | refine zt5 ?_ | refine za ?_) | ((apply zn3); first | refine zt ?_ | refine zf6 ?_ | refine zt4 ?_ | refine ze8 ?_ | refine za ?_) | ((apply zu5); first | refine zc3 ?_ | refine zu3 ?_ | refine zu4 ?_ | refine zv4 ?_ | refine za ?_) | ((apply za5); first | refine zj1 ?_ | refine zg6 ?_ | refine za ?_) | ((apply zt6); first | refine zm2 ?_ | refine zh6 ?_ | refine za ?_) | ((apply zt13); first | refine zy4 ?_ | refine zi6 ?_ | refine za ?_) | ((apply zg16); first | refine zj5 ?_ | refine zj6 ?_ | refine za ?_) | ((apply zd2); first | refine zm ?_ | refine zc2 ?_ | refine za ?_) | ((apply f_no); first | refine zz8 ?_ | refine za ?_) | ((apply f_pk); first | refine zc4 (v := .c _) ?_ | refine zc4 (v := .ag _) ?_ | refine zc4 (v := .tu _) ?_ | refine za ?_) | ((apply f_ex); first | refine zd4 (v := .c _) ?_ | refine zd4 (v := .ag _) ?_ | refine zd4 (v := .tu _) ?_ | refine za ?_) | ((apply f_bb); first | refine zo1 ?_ | refine zp1 ?_ | refine za ?_) | ((apply f_cv); first | refine zf4 ?_ | refine zf16 ?_ | refine zb11 ?_ | refine zx15 ?_ | refine zy15 ?_ | refine za ?_) | refine n_al ?_ | refine n_bo ?_ | refine n_bs ?_ | refine zw15 ?_ | refine zv8 ?_ | refine zw8 ?_ | refine zx8 ?_ | refine za ?_ | refine n_mv ?_) | ((apply f_w); first | refine zw ?_ | refine zc ?_) | ((apply d_wo); first | ((apply d_gs); first | refine o_sk ?_ | refine za8 ?_) | ((apply d_bo); (refine o_gm ?_ ?_ <;> intro hG <;> (try cases hG))) | ((apply d_mv); refine zk ?_) | ((apply d_as); refine zk ?_) | ((apply d_fa); first | refine o_fa ?_ | refine zu8 ?_) | ((apply d_ld); first | refine zr4 ?_ | refine ze3 ?_ | refine zf3 ?_ | refine zs4 ?_ | refine zk ?_ | refine o_ld ?_) | ((apply d_ca); first | refine zs15 0 (c1) ?_ (hl := zm1 (by rfl) cc) | refine zs15 0 (c2) ?_ (hl := zm1 (by rfl) cc1) | refine zb21 0 [15] (c3) ?_ (hl := zm1 (by rfl) cc2)) | ((apply d_bi); first | refine zh3 ?_ | refine zg3 ?_ | refine zi3 ?_ | refine zl2 ?_ | refine zl2 (hnu := ze _) ?_ | refine zi1 ?_ | refine zi1 (hnu := ze _) ?_ | refine zk ?_) | ((apply d_st); first | refine o_st ?_ | refine zx5 ?_) | ((apply d_ia); first | refine o_ix ?_ | refine zs5 ?_ | refine zk ?_) | ((apply d_bb); first | refine zc1 ?_ | refine zd1 ?_ | refine ze1 ?_ | refine zq4 ?_ | refine zk ?_) | ((apply d_cv); first | refine zz3 ?_ | refine zv5 ?_ | refine zs8 ?_ | refine zt8 ?_ | refine zk ?_) | refine o_al ?_ | refine o_bo ?_ | refine o_bs ?_ | refine zq13 ?_ | refine zb8 ?_ | refine zc8 ?_ | refine zd8 ?_ | refine zk ?_ | refine o_mv ?_) | ((apply d_w); first | refine zw ?_ | refine zc ?_) | refine zb fun C => ?_ | refine zj (by kernel_rfl) (by kernel_rfl) fun C => ?_ | refine zh ?_ | refine zd ?_ | refine zf ?_ | refine zg ?_ | refine zu1 rfl ?_ | refine zn2 rfl ?_)
    refine zv ?_
    refine ret1 rfl (zt9 (zx6 (rw := ⟨5, 1, bs.length, false, spl (bytC bs) (m * 1) [.v (.int .u8 (IntKind.u8.wrap z))]⟩) rfl rfl rfl (by rw [Nat.mul_one, u8b hz2.1 hz2.2, zf10 _ _ _ (by omega)]; exact zw1 _) zy2)) rfl cc3 (zj2 h3 hc) ⟨?_, rfl⟩
    rw [Nat.mul_one, u8b hz2.1 hz2.2, zf10 _ _ _ (by omega)]
  · refine ⟨bs ++ [3], cs1, h1, by simp, za12 50 Tryd.func37 rfl rfl (by simp) ?_⟩
    repeat' (first | ((apply f_wo); first | ((apply f_gs); first | refine n_sk ?_ | refine zv15 ?_) | ((apply f_mv); first | (refine zy8 ?_ ?_ <;> intro hG <;> (try cases hG)) | refine zx (v := .c _) ?_ | refine zx (v := .ag _) ?_ | refine zx (v := .tu _) ?_ | refine za ?_) | ((apply f_as); first | refine zg1 (v := .c _) ?_ | refine zg1 (v := .ag _) ?_ | refine zg1 (v := .tu _) ?_ | refine za ?_) | ((apply f_fa); first | refine n_fa ?_ | refine zo3 ?_) | ((apply f_ld); first | refine zj3 ?_ | refine zs1 ?_ | refine zv1 ?_ | refine zm3 ?_ | refine n_ld ?_) | ((apply f_ca); first | refine zi2 0 (c1) ?_ (hl := zm1 (by rfl) cc)) | ((apply f_bi); first | refine za3 ?_ | refine zz2 ?_ | refine zb3 ?_ | refine zg5 ?_ | refine zg5 (hnu := ze _) ?_ | refine zw3 ?_ | refine zw3 (hnu := ze _) ?_ | refine za ?_) | ((apply f_st); first | refine n_st ?_ | refine zs2 ?_) | ((apply f_ia); first | refine n_ix ?_ | refine zt5 ?_ | refine za ?_) | ((apply zn3); first | refine zt ?_ | refine zf6 ?_ | refine zt4 ?_ | refine ze8 ?_ | refine za ?_) | ((apply zu5); first | refine zc3 ?_ | refine zu3 ?_ | refine zu4 ?_ | refine zv4 ?_ | refine za ?_) | ((apply za5); first | refine zj1 ?_ | refine zg6 ?_ | refine za ?_) | ((apply zt6); first | refine zm2 ?_ | refine zh6 ?_ | refine za ?_) | ((apply zt13); first | refine zy4 ?_ | refine zi6 ?_ | refine za ?_) | ((apply zg16); first | refine zj5 ?_ | refine zj6 ?_ | refine za ?_) | ((apply zd2); first | refine zm ?_ | refine zc2 ?_ | refine za ?_) | ((apply f_no); first | refine zz8 ?_ | refine za ?_) | ((apply f_pk); first | refine zc4 (v := .c _) ?_ | refine zc4 (v := .ag _) ?_ | refine zc4 (v := .tu _) ?_ | refine za ?_) | ((apply f_ex); first | refine zd4 (v := .c _) ?_ | refine zd4 (v := .ag _) ?_ | refine zd4 (v := .tu _) ?_ | refine za ?_) | ((apply f_bb); first | refine zo1 ?_ | refine zp1 ?_ | refine za ?_) | ((apply f_cv); first | refine zf4 ?_ | refine zf16 ?_ | refine zb11 ?_ | refine zx15 ?_ | refine zy15 ?_ | refine za ?_) | refine n_al ?_ | refine n_bo ?_ | refine n_bs ?_ | refine zw15 ?_ | refine zv8 ?_ | refine zw8 ?_ | refine zx8 ?_ | refine za ?_ | refine n_mv ?_) | ((apply f_w); first | refine zw ?_ | refine zc ?_) | ((apply d_wo); first | ((apply d_gs); first | refine o_sk ?_ | refine za8 ?_) | ((apply d_bo); (refine o_gm ?_ ?_ <;> intro hG <;> (try cases hG))) | ((apply d_mv); refine zk ?_) | ((apply d_as); refine zk ?_) | ((apply d_fa); first | refine o_fa ?_ | refine zu8 ?_) | ((apply d_ld); first | refine zr4 ?_ | refine ze3 ?_ | refine zf3 ?_ | refine zs4 ?_ | refine zk ?_ | refine o_ld ?_) | ((apply d_ca); first | refine zs15 0 (c1) ?_ (hl := zm1 (by rfl) cc)) | ((apply d_bi); first | refine zh3 ?_ | refine zg3 ?_ | refine zi3 ?_ | refine zl2 ?_ | refine zl2 (hnu := ze _) ?_ | refine zi1 ?_ | refine zi1 (hnu := ze _) ?_ | refine zk ?_) | ((apply d_st); first | refine o_st ?_ | refine zx5 ?_) | ((apply d_ia); first | refine o_ix ?_ | refine zs5 ?_ | refine zk ?_) | ((apply d_bb); first | refine zc1 ?_ | refine zd1 ?_ | refine ze1 ?_ | refine zq4 ?_ | refine zk ?_) | ((apply d_cv); first | refine zz3 ?_ | refine zv5 ?_ | refine zs8 ?_ | refine zt8 ?_ | refine zk ?_) | refine o_al ?_ | refine o_bo ?_ | refine o_bs ?_ | refine zq13 ?_ | refine zb8 ?_ | refine zc8 ?_ | refine zd8 ?_ | refine zk ?_ | refine o_mv ?_) | ((apply d_w); first | refine zw ?_ | refine zc ?_) | refine zb fun C => ?_ | refine zj (by kernel_rfl) (by kernel_rfl) fun C => ?_ | refine zh ?_ | refine zd ?_ | refine zf ?_ | refine zg ?_ | refine zu1 rfl ?_ | refine zn2 rfl ?_)
    refine zv ?_
    refine ret1 rfl (zt9 (zx6 rfl rfl rfl (by show cloL (bytC bs ++ [.v (.int .u8 3)]) = true; rw [show bytC bs ++ [AC.v (.int .u8 3)] = bytC (bs ++ [3]) from (zi8 bs 3).symm]; exact zw1 _) zy2)) rfl cc1 (zj2 h1 hc) ⟨?_, rfl⟩
    rw [zi8, List.length_append]; rfl
  · refine ⟨bs, cs1, h1, by omega, za12 50 Tryd.func37 rfl rfl (by simp) ?_⟩
    repeat' (first | ((apply f_wo); first | ((apply f_gs); first | refine n_sk ?_ | refine zv15 ?_) | ((apply f_mv); first | (refine zy8 ?_ ?_ <;> intro hG <;> (try cases hG)) | refine zx (v := .c _) ?_ | refine zx (v := .ag _) ?_ | refine zx (v := .tu _) ?_ | refine za ?_) | ((apply f_as); first | refine zg1 (v := .c _) ?_ | refine zg1 (v := .ag _) ?_ | refine zg1 (v := .tu _) ?_ | refine za ?_) | ((apply f_fa); first | refine n_fa ?_ | refine zo3 ?_) | ((apply f_ld); first | refine zj3 ?_ | refine zs1 ?_ | refine zv1 ?_ | refine zm3 ?_ | refine n_ld ?_) | ((apply f_ca); first | refine zi2 0 (c1) ?_ (hl := zm1 (by rfl) cc)) | ((apply f_bi); first | refine za3 ?_ | refine zz2 ?_ | refine zb3 ?_ | refine zg5 ?_ | refine zg5 (hnu := ze _) ?_ | refine zw3 ?_ | refine zw3 (hnu := ze _) ?_ | refine za ?_) | ((apply f_st); first | refine n_st ?_ | refine zs2 ?_) | ((apply f_ia); first | refine n_ix ?_ | refine zt5 ?_ | refine za ?_) | ((apply zn3); first | refine zt ?_ | refine zf6 ?_ | refine zt4 ?_ | refine ze8 ?_ | refine za ?_) | ((apply zu5); first | refine zc3 ?_ | refine zu3 ?_ | refine zu4 ?_ | refine zv4 ?_ | refine za ?_) | ((apply za5); first | refine zj1 ?_ | refine zg6 ?_ | refine za ?_) | ((apply zt6); first | refine zm2 ?_ | refine zh6 ?_ | refine za ?_) | ((apply zt13); first | refine zy4 ?_ | refine zi6 ?_ | refine za ?_) | ((apply zg16); first | refine zj5 ?_ | refine zj6 ?_ | refine za ?_) | ((apply zd2); first | refine zm ?_ | refine zc2 ?_ | refine za ?_) | ((apply f_no); first | refine zz8 ?_ | refine za ?_) | ((apply f_pk); first | refine zc4 (v := .c _) ?_ | refine zc4 (v := .ag _) ?_ | refine zc4 (v := .tu _) ?_ | refine za ?_) | ((apply f_ex); first | refine zd4 (v := .c _) ?_ | refine zd4 (v := .ag _) ?_ | refine zd4 (v := .tu _) ?_ | refine za ?_) | ((apply f_bb); first | refine zo1 ?_ | refine zp1 ?_ | refine za ?_) | ((apply f_cv); first | refine zf4 ?_ | refine zf16 ?_ | refine zb11 ?_ | refine zx15 ?_ | refine zy15 ?_ | refine za ?_) | refine n_al ?_ | refine n_bo ?_ | refine n_bs ?_ | refine zw15 ?_ | refine zv8 ?_ | refine zw8 ?_ | refine zx8 ?_ | refine za ?_ | refine n_mv ?_) | ((apply f_w); first | refine zw ?_ | refine zc ?_) | ((apply d_wo); first | ((apply d_gs); first | refine o_sk ?_ | refine za8 ?_) | ((apply d_bo); (refine o_gm ?_ ?_ <;> intro hG <;> (try cases hG))) | ((apply d_mv); refine zk ?_) | ((apply d_as); refine zk ?_) | ((apply d_fa); first | refine o_fa ?_ | refine zu8 ?_) | ((apply d_ld); first | refine zr4 ?_ | refine ze3 ?_ | refine zf3 ?_ | refine zs4 ?_ | refine zk ?_ | refine o_ld ?_) | ((apply d_ca); first | refine zs15 0 (c1) ?_ (hl := zm1 (by rfl) cc)) | ((apply d_bi); first | refine zh3 ?_ | refine zg3 ?_ | refine zi3 ?_ | refine zl2 ?_ | refine zl2 (hnu := ze _) ?_ | refine zi1 ?_ | refine zi1 (hnu := ze _) ?_ | refine zk ?_) | ((apply d_st); first | refine o_st ?_ | refine zx5 ?_) | ((apply d_ia); first | refine o_ix ?_ | refine zs5 ?_ | refine zk ?_) | ((apply d_bb); first | refine zc1 ?_ | refine zd1 ?_ | refine ze1 ?_ | refine zq4 ?_ | refine zk ?_) | ((apply d_cv); first | refine zz3 ?_ | refine zv5 ?_ | refine zs8 ?_ | refine zt8 ?_ | refine zk ?_) | refine o_al ?_ | refine o_bo ?_ | refine o_bs ?_ | refine zq13 ?_ | refine zb8 ?_ | refine zc8 ?_ | refine zd8 ?_ | refine zk ?_ | refine o_mv ?_) | ((apply d_w); first | refine zw ?_ | refine zc ?_) | refine zb fun C => ?_ | refine zj (by kernel_rfl) (by kernel_rfl) fun C => ?_ | refine zh ?_ | refine zd ?_ | refine zf ?_ | refine zg ?_)
    refine zy (by rfl) (fun hC => absurd (eq_of_beq hC) (by omega)) fun hC => ?_
    repeat' (first | ((apply f_wo); first | ((apply f_gs); first | refine n_sk ?_ | refine zv15 ?_) | ((apply f_mv); first | (refine zy8 ?_ ?_ <;> intro hG <;> (try cases hG)) | refine zx (v := .c _) ?_ | refine zx (v := .ag _) ?_ | refine zx (v := .tu _) ?_ | refine za ?_) | ((apply f_as); first | refine zg1 (v := .c _) ?_ | refine zg1 (v := .ag _) ?_ | refine zg1 (v := .tu _) ?_ | refine za ?_) | ((apply f_fa); first | refine n_fa ?_ | refine zo3 ?_) | ((apply f_ld); first | refine zj3 ?_ | refine zs1 ?_ | refine zv1 ?_ | refine zm3 ?_ | refine n_ld ?_) | ((apply f_bi); first | refine za3 ?_ | refine zz2 ?_ | refine zb3 ?_ | refine zg5 ?_ | refine zg5 (hnu := ze _) ?_ | refine zw3 ?_ | refine zw3 (hnu := ze _) ?_ | refine za ?_) | ((apply f_st); first | refine n_st ?_ | refine zs2 ?_) | ((apply f_ia); first | refine n_ix ?_ | refine zt5 ?_ | refine za ?_) | ((apply zn3); first | refine zt ?_ | refine zf6 ?_ | refine zt4 ?_ | refine ze8 ?_ | refine za ?_) | ((apply zu5); first | refine zc3 ?_ | refine zu3 ?_ | refine zu4 ?_ | refine zv4 ?_ | refine za ?_) | ((apply za5); first | refine zj1 ?_ | refine zg6 ?_ | refine za ?_) | ((apply zt6); first | refine zm2 ?_ | refine zh6 ?_ | refine za ?_) | ((apply zt13); first | refine zy4 ?_ | refine zi6 ?_ | refine za ?_) | ((apply zg16); first | refine zj5 ?_ | refine zj6 ?_ | refine za ?_) | ((apply zd2); first | refine zm ?_ | refine zc2 ?_ | refine za ?_) | ((apply f_no); first | refine zz8 ?_ | refine za ?_) | ((apply f_pk); first | refine zc4 (v := .c _) ?_ | refine zc4 (v := .ag _) ?_ | refine zc4 (v := .tu _) ?_ | refine za ?_) | ((apply f_ex); first | refine zd4 (v := .c _) ?_ | refine zd4 (v := .ag _) ?_ | refine zd4 (v := .tu _) ?_ | refine za ?_) | ((apply f_bb); first | refine zo1 ?_ | refine zp1 ?_ | refine za ?_) | ((apply f_cv); first | refine zf4 ?_ | refine zf16 ?_ | refine zb11 ?_ | refine zx15 ?_ | refine zy15 ?_ | refine za ?_) | refine n_al ?_ | refine n_bo ?_ | refine n_bs ?_ | refine zw15 ?_ | refine zv8 ?_ | refine zw8 ?_ | refine zx8 ?_ | refine za ?_ | refine n_mv ?_) | ((apply f_w); first | refine zw ?_ | refine zc ?_) | ((apply d_wo); first | ((apply d_gs); first | refine o_sk ?_ | refine za8 ?_) | ((apply d_bo); (refine o_gm ?_ ?_ <;> intro hG <;> (try cases hG))) | ((apply d_mv); refine zk ?_) | ((apply d_as); refine zk ?_) | ((apply d_fa); first | refine o_fa ?_ | refine zu8 ?_) | ((apply d_ld); first | refine zr4 ?_ | refine ze3 ?_ | refine zf3 ?_ | refine zs4 ?_ | refine zk ?_ | refine o_ld ?_) | ((apply d_bi); first | refine zh3 ?_ | refine zg3 ?_ | refine zi3 ?_ | refine zl2 ?_ | refine zl2 (hnu := ze _) ?_ | refine zi1 ?_ | refine zi1 (hnu := ze _) ?_ | refine zk ?_) | ((apply d_st); first | refine o_st ?_ | refine zx5 ?_) | ((apply d_ia); first | refine o_ix ?_ | refine zs5 ?_ | refine zk ?_) | ((apply d_bb); first | refine zc1 ?_ | refine zd1 ?_ | refine ze1 ?_ | refine zq4 ?_ | refine zk ?_) | ((apply d_cv); first | refine zz3 ?_ | refine zv5 ?_ | refine zs8 ?_ | refine zt8 ?_ | refine zk ?_) | refine o_al ?_ | refine o_bo ?_ | refine o_bs ?_ | refine zq13 ?_ | refine zb8 ?_ | refine zc8 ?_ | refine zd8 ?_ | refine zk ?_ | refine o_mv ?_) | ((apply d_w); first | refine zw ?_ | refine zc ?_) | refine zb fun C => ?_ | refine zj (by kernel_rfl) (by kernel_rfl) fun C => ?_ | refine zh ?_ | refine zd ?_ | refine zf ?_ | refine zg ?_)
    refine zy (by rfl) (fun hC => absurd (eq_of_beq hC) (by omega)) fun hC => ?_
    repeat' (first | ((apply f_wo); first | ((apply f_gs); first | refine n_sk ?_ | refine zv15 ?_) | ((apply f_mv); first | (refine zy8 ?_ ?_ <;> intro hG <;> (try cases hG)) | refine zx (v := .c _) ?_ | refine zx (v := .ag _) ?_ | refine zx (v := .tu _) ?_ | refine za ?_) | ((apply f_as); first | refine zg1 (v := .c _) ?_ | refine zg1 (v := .ag _) ?_ | refine zg1 (v := .tu _) ?_ | refine za ?_) | ((apply f_fa); first | refine n_fa ?_ | refine zo3 ?_) | ((apply f_ld); first | refine zj3 ?_ | refine zs1 ?_ | refine zv1 ?_ | refine zm3 ?_ | refine n_ld ?_) | ((apply f_bi); first | refine za3 ?_ | refine zz2 ?_ | refine zb3 ?_ | refine zg5 ?_ | refine zg5 (hnu := ze _) ?_ | refine zw3 ?_ | refine zw3 (hnu := ze _) ?_ | refine za ?_) | ((apply f_st); first | refine n_st ?_ | refine zs2 ?_) | ((apply f_ia); first | refine n_ix ?_ | refine zt5 ?_ | refine za ?_) | ((apply zn3); first | refine zt ?_ | refine zf6 ?_ | refine zt4 ?_ | refine ze8 ?_ | refine za ?_) | ((apply zu5); first | refine zc3 ?_ | refine zu3 ?_ | refine zu4 ?_ | refine zv4 ?_ | refine za ?_) | ((apply za5); first | refine zj1 ?_ | refine zg6 ?_ | refine za ?_) | ((apply zt6); first | refine zm2 ?_ | refine zh6 ?_ | refine za ?_) | ((apply zt13); first | refine zy4 ?_ | refine zi6 ?_ | refine za ?_) | ((apply zg16); first | refine zj5 ?_ | refine zj6 ?_ | refine za ?_) | ((apply zd2); first | refine zm ?_ | refine zc2 ?_ | refine za ?_) | ((apply f_no); first | refine zz8 ?_ | refine za ?_) | ((apply f_pk); first | refine zc4 (v := .c _) ?_ | refine zc4 (v := .ag _) ?_ | refine zc4 (v := .tu _) ?_ | refine za ?_) | ((apply f_ex); first | refine zd4 (v := .c _) ?_ | refine zd4 (v := .ag _) ?_ | refine zd4 (v := .tu _) ?_ | refine za ?_) | ((apply f_bb); first | refine zo1 ?_ | refine zp1 ?_ | refine za ?_) | ((apply f_cv); first | refine zf4 ?_ | refine zf16 ?_ | refine zb11 ?_ | refine zx15 ?_ | refine zy15 ?_ | refine za ?_) | refine n_al ?_ | refine n_bo ?_ | refine n_bs ?_ | refine zw15 ?_ | refine zv8 ?_ | refine zw8 ?_ | refine zx8 ?_ | refine za ?_ | refine n_mv ?_) | ((apply f_w); first | refine zw ?_ | refine zc ?_) | ((apply d_wo); first | ((apply d_gs); first | refine o_sk ?_ | refine za8 ?_) | ((apply d_bo); (refine o_gm ?_ ?_ <;> intro hG <;> (try cases hG))) | ((apply d_mv); refine zk ?_) | ((apply d_as); refine zk ?_) | ((apply d_fa); first | refine o_fa ?_ | refine zu8 ?_) | ((apply d_ld); first | refine zr4 ?_ | refine ze3 ?_ | refine zf3 ?_ | refine zs4 ?_ | refine zk ?_ | refine o_ld ?_) | ((apply d_bi); first | refine zh3 ?_ | refine zg3 ?_ | refine zi3 ?_ | refine zl2 ?_ | refine zl2 (hnu := ze _) ?_ | refine zi1 ?_ | refine zi1 (hnu := ze _) ?_ | refine zk ?_) | ((apply d_st); first | refine o_st ?_ | refine zx5 ?_) | ((apply d_ia); first | refine o_ix ?_ | refine zs5 ?_ | refine zk ?_) | ((apply d_bb); first | refine zc1 ?_ | refine zd1 ?_ | refine ze1 ?_ | refine zq4 ?_ | refine zk ?_) | ((apply d_cv); first | refine zz3 ?_ | refine zv5 ?_ | refine zs8 ?_ | refine zt8 ?_ | refine zk ?_) | refine o_al ?_ | refine o_bo ?_ | refine o_bs ?_ | refine zq13 ?_ | refine zb8 ?_ | refine zc8 ?_ | refine zd8 ?_ | refine zk ?_ | refine o_mv ?_) | ((apply d_w); first | refine zw ?_ | refine zc ?_) | refine zb fun C => ?_ | refine zj (by kernel_rfl) (by kernel_rfl) fun C => ?_ | refine zh ?_ | refine zd ?_ | refine zf ?_ | refine zg ?_)
    refine zv ?_
    exact ret1 rfl (zt9 (zx6 rfl rfl rfl hcl zy2)) rfl cc1 (zj2 h1 hc) ⟨rfl, rfl⟩
theorem DrawPutIns_c {bs : List UInt8} (hl : bs.length ≤ 1048576) : ∃ (b : List UInt8) (o n : Int), b.length ≤ 9 ∧ I64 o ∧ I64 n ∧ Ctr Tryd.prog 8 [.c (.ro bs.length 1 (acL (bE8 bs)))] [] (.tu [.c (.ow 5 b.length 1 (bytC b)), .ag [.v (.int .i64 o), .v (.int .i64 n)]]) [] := by
  obtain ⟨h, hnew⟩ := zc13 bs
  have hc := zj8 (h := h) hl
  have cc := zu hc
  obtain ⟨b, cs1, h1, hb, c1⟩ := zb18 hc
  have cc1 := zu h1
  obtain ⟨o, n, cs2, h2, ho, hn, c2⟩ := zc18 h1
  have cc2 := zu h2
  refine ⟨b, o, n, hb, ho, hn, zh1 Tryd.func8 rfl rfl ?_⟩
  repeat' (first | ((apply f_wo); first | ((apply f_mv); first | refine zx (v := .c _) ?_ | refine za ?_) | ((apply f_as); first | refine zg1 (v := .c _) ?_ | refine za ?_) | ((apply f_st); first | refine n_st ?_ | refine zs2 ?_) | refine n_al ?_ | refine za ?_) | ((apply f_w); first | refine zw ?_ | refine zc ?_) | refine zb fun C => ?_ | refine zh ?_ | refine zd ?_ | refine zf ?_ | refine zg ?_)
  refine zl21 hnew ?_
  repeat' (first | ((apply f_wo); first | ((apply f_mv); first | refine zx (v := .c _) ?_ | refine za ?_) | ((apply f_as); first | refine zg1 (v := .c _) ?_ | refine za ?_) | ((apply f_ca); first | refine zi2 6 (c1) ?_ (hl := zm1 (by rfl) cc) | refine zi2 6 (c2) ?_ (hl := zm1 (by rfl) cc1)) | ((apply f_st); first | refine n_st ?_ | refine zs2 ?_) | refine n_al ?_ | refine za ?_) | ((apply f_w); first | refine zw ?_ | refine zc ?_) | refine zb fun C => ?_ | refine zh ?_ | refine zd ?_ | refine zf ?_ | refine zg ?_)
  refine zv ?_
  exact ret0 rfl (zt18 (zd6 (zt9 (zx6 rfl rfl rfl (zw1 _) zy2)) (zd6 (zy6 (zi5 rfl (zi5 rfl zy2))) zk12))) ⟨rfl, rfl⟩
theorem ze13 : ∀ f n : Nat, 0 < (put7 f n).length
  | 0, n => by simp [put7]
  | f + 1, n => by
    unfold put7
    split <;> simp
theorem zr5 (o n : Int) : 0 < (putIns o n).length ∧ (putIns o n).length ≤ 12 := by
  have h1 := ze13 5 (clampU o)
  have h2 := zk7 o
  have h3 := zk7 n
  unfold putIns
  rw [List.length_append]
  have h4 : (putU o).length = (put7 5 (clampU o)).length := rfl
  split
  · omega
  · simp only [List.length_nil]; omega
theorem DrawGetIns_c {bs : List UInt8} (hl : bs.length ≤ 1048576) : ∃ (c : List UInt8) (z : Int), c.length ≤ 13 ∧ I64 z ∧ Ctr Tryd.prog 9 [.c (.ro bs.length 1 (acL (bE8 bs)))] [] (.tu [.c (.ro c.length 1 (acL (bI c))), .c (.v (.int .i64 z))]) [] := by
  obtain ⟨h, hnew⟩ := zc13 bs
  have hc := zj8 (h := h) hl
  have cc := zu hc
  obtain ⟨o, n, cs1, h1, ho, hn, c1⟩ := zl11 hc
  have cc1 := zu h1
  have c2 := zj11 (bs := []) o n (by simp)
  have hp := zr5 o n
  obtain ⟨c, cs2, h2, hcl, c3⟩ := zd18 h1 ([] ++ putIns o n) hp.1 (by show (putIns o n).length ≤ _; omega)
  have cc2 := zu h2
  have hcl' : c.length ≤ 13 := by have : ([] ++ putIns o n).length = (putIns o n).length := rfl; omega
  obtain ⟨z, cs3, h3, hz, c4⟩ := zj21 h2 c (by omega)
  have cc3 := zu h3
  refine ⟨c, z, hcl', hz, zh1 Tryd.func9 rfl rfl ?_⟩
  refine zh ?_
  refine zb fun C => ?_
  repeat' (first | ((apply f_wo); first | ((apply f_mv); first | refine zx (v := .c _) ?_ | refine za ?_) | ((apply f_as); first | refine zg1 (v := .c _) ?_ | refine za ?_) | refine n_bs ?_ | refine za ?_) | ((apply f_w); first | refine zw ?_ | refine zc ?_))
  refine zh ?_
  refine zb fun C => ?_
  repeat' (first | ((apply f_wo); first | ((apply f_mv); first | refine zx (v := .c _) ?_ | refine za ?_) | ((apply f_as); first | refine zg1 (v := .c _) ?_ | refine za ?_) | refine n_bs ?_ | refine za ?_) | ((apply f_w); first | refine zw ?_ | refine zc ?_))
  refine zl21 hnew ?_
  repeat' (first | ((apply f_wo); first | ((apply f_mv); first | refine zx (v := .c _) ?_ | refine za ?_) | ((apply f_as); first | refine zg1 (v := .c _) ?_ | refine za ?_) | refine n_bs ?_ | refine za ?_) | ((apply f_w); first | refine zw ?_ | refine zc ?_))
  refine zh ?_
  refine zb fun C => ?_
  repeat' (first | ((apply f_wo); refine zc22 7 1300 1 c3 ?_ (zm1 (by rfl) cc1) (by rfl) (zw1 _)) | ((apply f_wo); first | ((apply f_mv); first | refine zx (v := .c _) ?_ | refine za ?_) | ((apply f_as); first | refine zg1 (v := .c _) ?_ | refine za ?_) | ((apply f_ca); first | refine zi2 7 (c1) ?_ (hl := zm1 (by rfl) cc) | refine zl6 (c2) ?_ | refine zm6 (c2) ?_) | refine n_bs ?_ | refine za ?_) | ((apply f_w); first | refine zw ?_ | refine zc ?_))
  refine zu18 (ze21 (t := 5) (j := 1400) rfl rfl ((zb13 c).trans (zq5 c))) ?_
  repeat' (first | ((apply f_wo); first | ((apply f_mv); first | refine zx (v := .c _) ?_ | refine za ?_) | ((apply f_as); first | refine zg1 (v := .c _) ?_ | refine za ?_) | ((apply f_ca); first | refine zi2 7 (c4) ?_ (hl := zm1 (by rfl) cc2)) | refine n_bs ?_ | refine za ?_) | ((apply f_w); first | refine zw ?_ | refine zc ?_) | refine zb fun C => ?_ | refine zh ?_ | refine zd ?_ | refine zf ?_ | refine zg ?_)
  refine zv ?_
  exact ret0 rfl (zt18 (zd6 (zt9 (zi5 (by simp [clo, zl]) zy2)) (zd6 zs3 zk12))) ⟨rfl, rfl⟩
end Go.Proofs.YtfemkmnkofgaaaaDoor
namespace Go.Proofs.YtfemkmnkofgaaaaDoor
open Go.RowKit Go.Shelf
set_option maxRecDepth 100000
def laysM171_ren : Go.Shelf.Ren := ⟨fun | 171 => 91 | 243 => 130 | 246 => 152 | 283 => 172 | 284 => 173 | 285 => 174 | 286 => 175 | 129 => 180 | 317 => 179 | 318 => 181 | 319 => 182 | 320 => 183 | 337 => 186 | 338 => 187 | n => n, fun | 3 => 3 | 9 => 9 | 2 => 2 | 4 => 4 | 171 => 230 | 0 => 0 | 53 => 231 | 37 => 22 | 5 => 5 | 173 => 234 | 212 => 243 | 51 => 244 | 20 => 20 | 213 => 245 | 46 => 125 | 232 => 252 | 233 => 253 | n => n, fun | 17 => 3 | 18 => 4 | 19 => 5 | n => n⟩
theorem ze18 : Go.Proofs.LaysM.n171 Tryd.prog laysM171_ren := {
  mixed := by kernel_rfl
  f129 := Tryd.func180.trans (congrArg some (by kernel_rfl))
  f171 := Tryd.func91.trans (congrArg some (by kernel_rfl))
  f243 := Tryd.func130.trans (congrArg some (by kernel_rfl))
  f246 := Tryd.func152.trans (congrArg some (by kernel_rfl))
  f283 := Tryd.func172.trans (congrArg some (by kernel_rfl))
  f284 := Tryd.func173.trans (congrArg some (by kernel_rfl))
  f285 := Tryd.func174.trans (congrArg some (by kernel_rfl))
  f286 := Tryd.func175.trans (congrArg some (by kernel_rfl))
  f317 := Tryd.func179.trans (congrArg some (by kernel_rfl))
  f318 := Tryd.func181.trans (congrArg some (by kernel_rfl))
  f319 := Tryd.func182.trans (congrArg some (by kernel_rfl))
  f320 := Tryd.func183.trans (congrArg some (by kernel_rfl))
  f337 := Tryd.func186.trans (congrArg some (by kernel_rfl))
  f338 := Tryd.func187.trans (congrArg some (by kernel_rfl))
  t0 := Tryd.underlying0
  a0 := Tryd.isAgg0
  z0 := Tryd.sizeOf0
  v0 := Tryd.zeroValue0
  t2 := Tryd.underlying2
  a2 := Tryd.isAgg2
  z2 := Tryd.sizeOf2
  v2 := Tryd.zeroValue2
  t3 := Tryd.underlying3
  a3 := Tryd.isAgg3
  z3 := Tryd.sizeOf3
  v3 := Tryd.zeroValue3
  t4 := Tryd.underlying4
  a4 := Tryd.isAgg4
  z4 := Tryd.sizeOf4
  v4 := Tryd.zeroValue4
  t5 := Tryd.underlying5
  a5 := Tryd.isAgg5
  z5 := Tryd.sizeOf5
  v5 := Tryd.zeroValue5
  t9 := Tryd.underlying9
  a9 := Tryd.isAgg9
  z9 := Tryd.sizeOf9
  v9 := Tryd.zeroValue9
  t20 := Tryd.underlying20
  a20 := Tryd.isAgg20
  z20 := Tryd.sizeOf20
  v20 := Tryd.zeroValue20
  t37 := Tryd.underlying22
  a37 := Tryd.isAgg22
  z37 := Tryd.sizeOf22
  v37 := Tryd.zeroValue22
  t46 := Tryd.underlying125
  a46 := Tryd.isAgg125
  z46 := Tryd.sizeOf125
  v46 := Tryd.zeroValue125
  t51 := Tryd.underlying244
  a51 := Tryd.isAgg244
  z51 := Tryd.sizeOf244
  v51 := Tryd.zeroValue244
  t53 := Tryd.underlying231
  a53 := Tryd.isAgg231
  z53 := Tryd.sizeOf231
  v53 := Tryd.zeroValue231
  t171 := Tryd.underlying230
  a171 := Tryd.isAgg230
  z171 := Tryd.sizeOf230
  v171 := Tryd.zeroValue230
  t173 := Tryd.underlying234
  a173 := Tryd.isAgg234
  z173 := Tryd.sizeOf234
  v173 := Tryd.zeroValue234
  t212 := Tryd.underlying243
  a212 := Tryd.isAgg243
  z212 := Tryd.sizeOf243
  v212 := Tryd.zeroValue243
  t213 := Tryd.underlying245
  a213 := Tryd.isAgg245
  z213 := Tryd.sizeOf245
  t232 := Tryd.underlying252
  a232 := Tryd.isAgg252
  z232 := Tryd.sizeOf252
  v232 := Tryd.zeroValue252
  t233 := Tryd.underlying253
  a233 := Tryd.isAgg253
  z233 := Tryd.sizeOf253
  v233 := Tryd.zeroValue253
  g17 := by kernel_rfl
  g18 := by kernel_rfl
  g19 := by kernel_rfl
  i0 := by kernel_rfl
  i2 := by kernel_rfl
  i3 := by kernel_rfl
  i4 := by kernel_rfl
  i5 := by kernel_rfl
  i9 := by kernel_rfl
  i20 := by kernel_rfl
  i37 := by kernel_rfl
  i46 := by kernel_rfl
  i51 := by kernel_rfl
  i53 := by kernel_rfl
  i171 := by kernel_rfl
  i173 := by kernel_rfl
  i212 := by kernel_rfl
  i232 := by kernel_rfl
  i233 := by kernel_rfl
  m17 := by kernel_rfl
  m18 := by kernel_rfl
  m19 := by kernel_rfl }
theorem zl8 {P : Program} {f : FuncId} {ins : List AV} {us : List Value} {v : Value} (he : entB P f = true) (hv : scal v = true) (hin : ∀ (w : World) (St : Nat → Prop) (φ : Nat → Lc) (K : Nat → Prop) (us' : List Value), VRL w St φ K ins us' → us' = us)
    (hc : ∀ w, Gl w → Calls P f us.toArray w fun e w' => e = .returned v ∧ Below w.heap.size w w') : Ctr P f ins [] (.c (.v v)) [] := by
  refine ⟨he, fun w St φ F us' hent => ?_⟩
  obtain rfl := hin _ _ _ _ _ hent.args
  refine (hc w hent.gl.1).mono ?_
  rintro e w' ⟨rfl, hb⟩
  refine ⟨_, _, v, fun _ => False, fun _ => [], [], ⟨rfl, rfl⟩, rfl, ⟨⟨hb.os, hb.tape, hb.output, hb.size, fun b hlt _ => .inl (hb.block b hlt)⟩, ?_, by simp, rfl, fun i cs hi => by simp at hi, fun i hi => by simp at hi, fun i hi => by simp at hi, fun i j hi => by simp at hi, fun i b lo hi => by simp at hi, fun b hb => by simp at hb, fun b hb => hb.elim⟩⟩
  simp only [VRF, CR]
  exact ⟨trivial, hv, trivial⟩
def numT (n : Int) : ByteArray := ⟨(Lib.itoa n).toArray⟩
theorem zp16 {n : Int} (h0 : -9223372036854775808 ≤ n) (h1 : n ≤ 9223372036854775807) : Ctr Tryd.prog 91 [.c (.v (.int .i64 n))] [] (.c (.v (.string (numT n)))) [] := by
  refine zl8 (us := [.int .i64 n]) (by kernel_rfl) rfl (fun w St φ K us' h => ?_) fun w gw => ?_
  · simp only [VRL, VR, CR] at h
    obtain ⟨u, us1, rfl, ⟨rfl, -⟩, rfl⟩ := h
    rfl
  · refine (Go.Proofs.Any.strconv_Itoa ze18 n h0 h1 w (zc14 gw)).mono ?_
    rintro e w' ⟨rfl, k, os, rfl⟩
    refine ⟨rfl, rfl, rfl, rfl, by simp [Sort.grow], fun j hj => ?_⟩
    simp only [Sort.grow, World.heap_drewN]
    rw [Array.getElem?_append_left hj]
theorem zf18 {n : Int} (h0 : -9223372036854775808 ≤ n) (h1 : n ≤ 9223372036854775807) : Ctr Tryd.prog 47 [.c (.v (.int .i64 n))] [] (.c (.v (.string (numT n)))) [] := by
  have hc := zp16 h0 h1
  refine zh1 Tryd.func47 rfl rfl ?_
  repeat' (first | refine zh ?_ | refine zd ?_ | refine zf ?_ | refine zg ?_ | refine zb fun C => ?_ | refine zj (by kernel_rfl) (by kernel_rfl) fun C => ?_ | refine zc ?_ | (refine x_gm ?_ ?_ <;> intro hG <;> (try cases hG)) | refine zr3 ?_ | refine x_bs ?_ | refine x_gr ?_ | refine x_st ?_ | refine x_mv ?_ | refine x_sk ?_ | refine zd5 ?_ | refine x_ix ?_ | refine ze5 ?_ | refine zf5 ?_ | refine zb4 ?_ | refine zo2 ?_ | refine x_ld ?_ | refine zr6 ?_ | (refine zr1 (by rfl) ?_ ?_ <;> intro hC <;> (try cases hC)))
  refine zv ?_
  exact ret0 rfl zs3 ⟨rfl, rfl⟩
end Go.Proofs.YtfemkmnkofgaaaaDoor
