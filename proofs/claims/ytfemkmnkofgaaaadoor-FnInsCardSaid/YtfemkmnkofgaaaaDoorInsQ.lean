/- What is drawn for instructions: contracts. -/
import Derived.Test.YtfemkmnkofgaaaaDoorInsP
namespace Go.Proofs.YtfemkmnkofgaaaaDoor
open Go.RowKit
set_option maxRecDepth 100000
theorem zn16 {cs : List AC} (hc : Curs cs) (n : Nat) (hn : n ≤ 9) : ∃ (bs : List UInt8) (cs' : List AC), Curs cs' ∧ bs.length = n ∧ Ctr Tryd.prog 86 [.c (.pt 0 0), .c (.v (.int .i64 (n : Int)))] [cs] (.c (.ow 5 bs.length 1 (bytC bs))) [cs'] := by
  obtain ⟨S, X, hS0, hS⟩ := zx13 (P := Curs) (R := fun c (x : Int) c' => (0 ≤ x ∧ x < 256) ∧ Ctr Tryd.prog 129 [.c (.pt 0 0)] [c] (.c (.v (.int .i64 x))) [c']) (fun c h => by obtain ⟨x, c', h1, h2, h3⟩ := zj7 h; exact ⟨x, c', h1, h2, h3⟩) hc
  have hB : ∀ k, ((List.range k).map fun i => b8 (X i)).length = k := fun k => by simp
  refine ⟨(List.range n).map fun i => b8 (X i), S n, (hS n).1, hB n, ?_⟩
  rw [hB n, ← hS0]
  refine zh1 Tryd.func86 rfl rfl ?_
  repeat' (first | ((apply f_wo); first | ((apply f_mv); first | refine zx (v := .c _) ?_ | refine za ?_) | ((apply f_as); first | refine zg1 (v := .c _) ?_ | refine za ?_) | ((apply f_bi); first | refine zg5 ?_ | refine zg5 (hnu := ze _) ?_ | refine zw3 ?_ | refine zw3 (hnu := ze _) ?_ | refine za ?_) | ((apply za5); first | refine zj1 ?_ | refine za ?_) | ((apply zd2); first | refine zm ?_ | refine zc2 ?_ | refine za ?_) | ((apply f_cv); first | refine za ?_) | refine n_bs ?_ | refine za ?_) | ((apply f_w); first | refine zw ?_ | refine zc ?_) | refine zb fun C => ?_ | refine zh ?_ | refine zd ?_ | refine zf ?_ | refine zg ?_)
  refine zz10 (fun k : Nat => ⟨tmsF [(0, .c (.pt 0 0)), (1, .c (.v (.int .i64 (n : Int)))), (5, .c (.sl 7 k)), (6, .c (.v (.int .i64 (k : Int))))], hpsF [(0, 0, ⟨0, 0, 0, true, S k⟩), (7, 7, ⟨5, 1, k, false, bytC ((List.range k).map fun i => b8 (X i))⟩)], 1, [0, 7], 20⟩)
    (fun N k => k + N = n) n 0 (by omega) ?_ ?_
  · have hcl := zu (hS 0).1
    (refine zu9 _ _ rfl rfl ?_ ?_ <;> (repeat' (first | exact TmOk.nil | exact RwOk.nil | refine TmOk.cons ?_ ?_ | refine RwOk.cons ?_ ?_ | rfl | exact zq6 rfl (by assumption) | (refine rnV_id' rfl ?_; (first | rfl | (simp [cloV, cloL, clo, zo, zl, zp, zn, zi]; done))) | (refine zn12 ?_; first | rfl | omega | (rw [zi7 (by omega) (by omega)]; omega)) | (refine zq6 rfl ?_; (first | rfl | (simp [cloV, cloL, clo, zo, zl, zp, zn, zi]; done))) | exact zk17 rfl rfl | (refine zo12 (by rfl) (by rfl) ?_ ?_ <;> (first | rfl | (simp [cloV, cloL, clo, zo, zl, zp, zn, zi]; done))) | (refine rw_rn' rfl rfl ?_; simp; done))))
  rintro N k hN
  try dsimp only
  repeat' (first | ((apply f_wo); first | ((apply f_mv); first | refine zx (v := .c _) ?_ | refine za ?_) | ((apply f_as); first | refine zg1 (v := .c _) ?_ | refine za ?_) | ((apply f_bi); first | refine zg5 ?_ | refine zg5 (hnu := ze _) ?_ | refine zw3 ?_ | refine zw3 (hnu := ze _) ?_ | refine za ?_) | ((apply za5); first | refine zj1 ?_ | refine za ?_) | ((apply zd2); first | refine zm ?_ | refine zc2 ?_ | refine za ?_) | ((apply f_cv); first | refine za ?_) | refine n_bs ?_ | refine za ?_) | ((apply f_w); first | refine zw ?_ | refine zc ?_) | refine zb fun C => ?_ | refine zh ?_ | refine zd ?_ | refine zf ?_ | refine zg ?_)
  refine zy (by rfl) (fun h1 => ?_) fun h1 => ?_
  · have hk' : k < n := by simpa using h1
    obtain ⟨g1, ⟨g2, g3⟩, g4⟩ := hS k
    have cc := zu g1
    repeat' (first | ((apply f_wo); first | ((apply f_mv); first | refine zx (v := .c _) ?_ | refine za ?_) | ((apply f_as); first | refine zg1 (v := .c _) ?_ | refine za ?_) | ((apply f_ca); first | refine zi2 0 (g4) ?_ (hl := zm1 (by rfl) cc)) | ((apply f_bi); first | refine zg5 ?_ | refine zg5 (hnu := ze _) ?_ | refine zw3 ?_ | refine zw3 (hnu := ze _) ?_ | refine za ?_) | ((apply za5); first | refine zj1 ?_ | refine za ?_) | ((apply zd2); first | refine zm ?_ | refine zc2 ?_ | refine za ?_) | ((apply f_cv); first | refine za ?_) | refine n_bs ?_ | refine za ?_) | ((apply f_w); first | refine zw ?_ | refine zc ?_) | refine zb fun C => ?_ | refine zh ?_ | refine zd ?_ | refine zf ?_ | refine zg ?_)
    refine ⟨N - 1, k + 1, by omega, by omega, ?_⟩
    have hcl := zu (hS (k + 1)).1
    refine (zv20 (fun j => if j = 7 then 18 else j) _ _ rfl rfl ?_ ?_) <;> (repeat' (first | exact TmOk.nil | exact RwOk.nil | refine TmOk.cons ?_ ?_ | refine RwOk.cons ?_ ?_ | rfl | exact zq6 rfl (by assumption) | (refine rnV_id' rfl ?_; (first | rfl | (simp [cloV, cloL, clo, zo, zl, zp, zn, zi]; done))) | (refine zn12 ?_; first | rfl | omega | (rw [zi7 (by omega) (by omega)]; omega)) | (refine zq6 rfl ?_; (first | rfl | (simp [cloV, cloL, clo, zo, zl, zp, zn, zi]; done))) | exact zk17 rfl rfl | (refine zo12 (by rfl) (by rfl) ?_ ?_ <;> (first | rfl | (simp [cloV, cloL, clo, zo, zl, zp, zn, zi]; done))) | (refine rw_rn' rfl rfl ?_; simp; done)))
    exact zs21 (r := ⟨5, 1, k + 1, false, bytC ((List.range k).map fun i => b8 (X i)) ++ [.v (.int .u8 (IntKind.u8.wrap (X k)))]⟩) rfl (by rw [u8b g2 g3, List.range_succ, List.map_append, ← zi8]; rfl) (zw1 _)
  · have hk' : ¬ k < n := by simpa using h1
    obtain rfl : k = n := by omega
    repeat' (first | ((apply f_wo); first | ((apply f_mv); first | refine zx (v := .c _) ?_ | refine za ?_) | ((apply f_as); first | refine zg1 (v := .c _) ?_ | refine za ?_) | ((apply f_bi); first | refine zg5 ?_ | refine zg5 (hnu := ze _) ?_ | refine zw3 ?_ | refine zw3 (hnu := ze _) ?_ | refine za ?_) | ((apply za5); first | refine zj1 ?_ | refine za ?_) | ((apply zd2); first | refine zm ?_ | refine zc2 ?_ | refine za ?_) | ((apply f_cv); first | refine za ?_) | refine n_bs ?_ | refine za ?_) | ((apply f_w); first | refine zw ?_ | refine zc ?_) | refine zb fun C => ?_ | refine zh ?_ | refine zd ?_ | refine zf ?_ | refine zg ?_ | refine zu1 rfl ?_ | refine zn2 rfl ?_)
    refine zv ?_
    exact ret1 rfl (zt9 (zx6 rfl rfl rfl (zw1 _) zy2)) rfl (zu (hS k).1) (zj2 (hS k).1 (hS 0).1) ⟨rfl, rfl⟩
theorem zb18 {cs : List AC} (hc : Curs cs) : ∃ (bs : List UInt8) (cs' : List AC), Curs cs' ∧ bs.length ≤ 9 ∧ Ctr Tryd.prog 35 [.c (.pt 0 0)] [cs] (.c (.ow 5 bs.length 1 (bytC bs))) [cs'] := by
  have cc := zu hc
  obtain ⟨z, cs1, h1, hz, c1⟩ := zb10 hc [0, 1, 2, 5, 9] (by simp)
  have cc1 := zu h1
  have hz2 : 0 ≤ z ∧ z ≤ 9 := by
    simp only [List.mem_cons, List.not_mem_nil, or_false] at hz
    omega
  obtain ⟨m, rfl⟩ : ∃ m : Nat, z = (m : Int) := ⟨z.toNat, by omega⟩
  obtain ⟨bs, cs2, h2, hb, c2⟩ := zn16 h1 m (by omega)
  have cc2 := zu h2
  refine ⟨bs, cs2, h2, by omega, zh1 Tryd.func35 rfl rfl ?_⟩
  repeat' (first | ((apply f_wo); first | ((apply f_mv); first | refine zx (v := .c _) ?_ | refine za ?_) | ((apply f_as); first | refine zg1 (v := .c _) ?_ | refine za ?_) | ((apply f_ca); first | refine zw17 0 [5] (c1) ?_ (hl := zm1 (by rfl) cc) | refine zi2 0 (c2) ?_ (hl := zm1 (by rfl) cc1)) | refine n_bs ?_ | refine za ?_) | ((apply f_w); first | refine zw ?_ | refine zc ?_) | refine zb fun C => ?_ | refine zh ?_ | refine zd ?_ | refine zf ?_ | refine zg ?_)
  refine zv ?_
  exact ret1 rfl (zt9 (zx6 rfl rfl rfl (zw1 _) zy2)) rfl cc2 (zj2 h2 hc) ⟨rfl, rfl⟩
theorem zj21 {cs : List AC} (hc : Curs cs) (bs : List UInt8) (hl : bs.length ≤ 1048576) : ∃ (z : Int) (cs' : List AC), Curs cs' ∧ I64 z ∧ Ctr Tryd.prog 40 [.c (.pt 0 0), .c (.ro bs.length 1 (acL (bI bs)))] [cs] (.c (.v (.int .i64 z))) [cs'] := by
  have cc := zu hc
  obtain ⟨k, cs1, h1, hk, c1⟩ := zk3 hc ((bs.length : Int) + 1) (by omega)
  have cc1 := zu h1
  obtain ⟨z, cs2, h2, hz, c2⟩ := zb10 h1 [0, 0, 0, (bs.length : Int), (k : Int), -1, 9223372036854775807] (by simp)
  have cc2 := zu h2
  have hz64 : I64 z := by
    simp only [List.mem_cons, List.not_mem_nil, or_false] at hz
    unfold I64; omega
  refine ⟨z, cs2, h2, hz64, zh1 Tryd.func40 rfl rfl ?_⟩
  repeat' (first | ((apply f_wo); first | ((apply f_mv); first | refine zx (v := .c _) ?_ | refine za ?_) | ((apply f_as); first | refine zg1 (v := .c _) ?_ | refine za ?_) | ((apply f_ca); first | refine zi2 0 (c1) ?_ (hl := zm1 (by rfl) cc) | refine zw17 0 [13] (c2) ?_ (hl := zm1 (by rfl) cc1)) | ((apply f_bi); first | refine za3 ?_ | refine zz2 ?_ | refine zb3 ?_ | refine za ?_) | ((apply zd2); first | refine zm ?_ | refine zc2 ?_ | refine za ?_) | refine n_bs ?_ | refine za ?_) | ((apply f_w); first | refine zw ?_ | refine zc ?_) | refine zb fun C => ?_ | refine zh ?_ | refine zd ?_ | refine zf ?_ | refine zg ?_)
  refine zv ?_
  exact ret1 rfl zs3 rfl cc2 (zj2 h2 hc) ⟨rfl, rfl⟩
theorem zl11 {cs : List AC} (hc : Curs cs) : ∃ (o n : Int) (cs' : List AC), Curs cs' ∧ (1 ≤ o ∧ o ≤ 41) ∧ (0 ≤ n ∧ n ≤ 2) ∧ Ctr Tryd.prog 39 [.c (.pt 0 0)] [cs] (.ag [.v (.int .i64 o), .v (.int .i64 n)]) [cs'] := by
  have cc := zu hc
  obtain ⟨k, cs1, h1, hk, c1⟩ := zk3 hc 41 (by decide)
  have cc1 := zu h1
  obtain ⟨m, cs2, h2, hm, c2⟩ := zk3 h1 3 (by decide)
  have cc2 := zu h2
  have ch := zc10 (1 + (k : Int))
  have key : ∀ (cs3 : List AC) (m' : Int), Curs cs3 → 0 ≤ m' → m' ≤ 2 → ∃ (n : Int) (cs' : List AC), Curs cs' ∧ (0 ≤ n ∧ n ≤ 2) ∧ True := fun cs3 m' h _ _ => ⟨m', cs3, h, ⟨by omega, by omega⟩, trivial⟩
  obtain ⟨m3, cs3, h3, hm3, c3⟩ := zk3 h1 2 (by decide)
  have cc3 := zu h3
  obtain ⟨m4, cs4, h4, hm4, c4⟩ := zk3 h2 2 (by decide)
  have cc4 := zu h4
  clear key
  cases hb : hasNum (1 + (k : Int)) with
  | true =>
    rw [hb] at ch
    by_cases e13 : 1 + (k : Int) = 13
    · refine ⟨13, m4, cs4, h4, by omega, by omega, zh1 Tryd.func39 rfl rfl ?_⟩
      repeat' (first | ((apply f_wo); first | ((apply f_mv); first | refine zx (v := .c _) ?_ | refine za ?_) | ((apply f_fa); first | refine n_fa ?_ | refine zo3 ?_) | ((apply f_ld); first | refine zj3 ?_ | refine zs1 ?_ | refine zv1 ?_ | refine zm3 ?_ | refine n_ld ?_) | ((apply f_ca); first | refine zi2 0 (c1) ?_ (hl := zm1 (by rfl) cc) | refine zi2 0 (c2) ?_ (hl := zm1 (by rfl) cc1) | refine zd3 (ch) ?_ | refine zw2 (ch) ?_ | refine zi2 0 (c4) ?_ (hl := zm1 (by rfl) cc2)) | ((apply f_st); first | refine n_st ?_ | refine zs2 ?_) | ((apply zn3); first | refine zt ?_ | refine za ?_) | ((apply zd2); first | refine zm ?_ | refine zc2 ?_ | refine za ?_) | refine n_al ?_ | refine za ?_) | ((apply f_w); first | refine zw ?_ | refine zc ?_) | refine zb fun C => ?_ | refine zh ?_ | refine zd ?_ | refine zf ?_ | refine zg ?_)
      refine zu1 rfl ?_
      repeat' (first | ((apply f_wo); first | ((apply f_mv); first | refine zx (v := .c _) ?_ | refine za ?_) | ((apply f_fa); first | refine n_fa ?_ | refine zo3 ?_) | ((apply f_ld); first | refine zj3 ?_ | refine zs1 ?_ | refine zv1 ?_ | refine zm3 ?_ | refine n_ld ?_) | ((apply f_ca); first | refine zi2 0 (c1) ?_ (hl := zm1 (by rfl) cc) | refine zi2 0 (c2) ?_ (hl := zm1 (by rfl) cc1) | refine zd3 (ch) ?_ | refine zw2 (ch) ?_ | refine zi2 0 (c4) ?_ (hl := zm1 (by rfl) cc2)) | ((apply f_st); first | refine n_st ?_ | refine zs2 ?_) | ((apply zn3); first | refine zt ?_ | refine za ?_) | ((apply zd2); first | refine zm ?_ | refine zc2 ?_ | refine za ?_) | refine n_al ?_ | refine za ?_) | ((apply f_w); first | refine zw ?_ | refine zc ?_) | refine zb fun C => ?_ | refine zh ?_ | refine zd ?_ | refine zf ?_ | refine zg ?_)
      refine zy (by rfl) (fun hC => ?_) fun hC => absurd (ne_of_beq_false hC) (by omega)
      repeat' (first | ((apply f_wo); first | ((apply f_mv); first | refine zx (v := .c _) ?_ | refine za ?_) | ((apply f_fa); first | refine n_fa ?_ | refine zo3 ?_) | ((apply f_ld); first | refine zj3 ?_ | refine zs1 ?_ | refine zv1 ?_ | refine zm3 ?_ | refine n_ld ?_) | ((apply f_ca); first | refine zi2 0 (c4) ?_ (hl := zm1 (by rfl) cc2)) | ((apply f_st); first | refine n_st ?_ | refine zs2 ?_) | ((apply zn3); first | refine zt ?_ | refine za ?_) | ((apply zd2); first | refine zm ?_ | refine zc2 ?_ | refine za ?_) | refine n_al ?_ | refine za ?_) | ((apply f_w); first | refine zw ?_ | refine zc ?_) | refine zb fun C => ?_ | refine zh ?_ | refine zd ?_ | refine zf ?_ | refine zg ?_)
      refine zy (by rfl) (fun hC => absurd (eq_of_beq hC) (by omega)) fun hC => ?_
      repeat' (first | ((apply f_wo); first | ((apply f_mv); first | refine zx (v := .c _) ?_ | refine za ?_) | ((apply f_fa); first | refine n_fa ?_ | refine zo3 ?_) | ((apply f_ld); first | refine zj3 ?_ | refine zs1 ?_ | refine zv1 ?_ | refine zm3 ?_ | refine n_ld ?_) | ((apply f_st); first | refine n_st ?_ | refine zs2 ?_) | ((apply zn3); first | refine zt ?_ | refine za ?_) | ((apply zd2); first | refine zm ?_ | refine zc2 ?_ | refine za ?_) | refine n_al ?_ | refine za ?_) | ((apply f_w); first | refine zw ?_ | refine zc ?_) | refine zb fun C => ?_ | refine zh ?_ | refine zd ?_ | refine zf ?_ | refine zg ?_)
      refine zv ?_
      refine ret1 rfl (zy6 (zi5 rfl (zi5 rfl zy2))) rfl cc4 (zj2 h4 hc) ⟨?_, rfl⟩
      rw [← e13]; rfl
    · by_cases e34 : 1 + (k : Int) = 34
      · refine ⟨34, 1 + m4, cs4, h4, by omega, by omega, zh1 Tryd.func39 rfl rfl ?_⟩
        repeat' (first | ((apply f_wo); first | ((apply f_mv); first | refine zx (v := .c _) ?_ | refine za ?_) | ((apply f_fa); first | refine n_fa ?_ | refine zo3 ?_) | ((apply f_ld); first | refine zj3 ?_ | refine zs1 ?_ | refine zv1 ?_ | refine zm3 ?_ | refine n_ld ?_) | ((apply f_ca); first | refine zi2 0 (c1) ?_ (hl := zm1 (by rfl) cc) | refine zi2 0 (c2) ?_ (hl := zm1 (by rfl) cc1) | refine zd3 (ch) ?_ | refine zw2 (ch) ?_ | refine zi2 0 (c4) ?_ (hl := zm1 (by rfl) cc2)) | ((apply f_st); first | refine n_st ?_ | refine zs2 ?_) | ((apply zn3); first | refine zt ?_ | refine za ?_) | ((apply zd2); first | refine zm ?_ | refine zc2 ?_ | refine za ?_) | refine n_al ?_ | refine za ?_) | ((apply f_w); first | refine zw ?_ | refine zc ?_) | refine zb fun C => ?_ | refine zh ?_ | refine zd ?_ | refine zf ?_ | refine zg ?_)
        refine zu1 rfl ?_
        repeat' (first | ((apply f_wo); first | ((apply f_mv); first | refine zx (v := .c _) ?_ | refine za ?_) | ((apply f_fa); first | refine n_fa ?_ | refine zo3 ?_) | ((apply f_ld); first | refine zj3 ?_ | refine zs1 ?_ | refine zv1 ?_ | refine zm3 ?_ | refine n_ld ?_) | ((apply f_ca); first | refine zi2 0 (c1) ?_ (hl := zm1 (by rfl) cc) | refine zi2 0 (c2) ?_ (hl := zm1 (by rfl) cc1) | refine zd3 (ch) ?_ | refine zw2 (ch) ?_ | refine zi2 0 (c4) ?_ (hl := zm1 (by rfl) cc2)) | ((apply f_st); first | refine n_st ?_ | refine zs2 ?_) | ((apply zn3); first | refine zt ?_ | refine za ?_) | ((apply zd2); first | refine zm ?_ | refine zc2 ?_ | refine za ?_) | refine n_al ?_ | refine za ?_) | ((apply f_w); first | refine zw ?_ | refine zc ?_) | refine zb fun C => ?_ | refine zh ?_ | refine zd ?_ | refine zf ?_ | refine zg ?_)
        refine zy (by rfl) (fun hC => absurd (eq_of_beq hC) (by omega)) fun hC => ?_
        repeat' (first | ((apply f_wo); first | ((apply f_mv); first | refine zx (v := .c _) ?_ | refine za ?_) | ((apply f_fa); first | refine n_fa ?_ | refine zo3 ?_) | ((apply f_ld); first | refine zj3 ?_ | refine zs1 ?_ | refine zv1 ?_ | refine zm3 ?_ | refine n_ld ?_) | ((apply f_st); first | refine n_st ?_ | refine zs2 ?_) | ((apply zn3); first | refine zt ?_ | refine za ?_) | ((apply zd2); first | refine zm ?_ | refine zc2 ?_ | refine za ?_) | refine n_al ?_ | refine za ?_) | ((apply f_w); first | refine zw ?_ | refine zc ?_) | refine zb fun C => ?_ | refine zh ?_ | refine zd ?_ | refine zf ?_ | refine zg ?_)
        refine zy (by rfl) (fun hC => ?_) fun hC => absurd (ne_of_beq_false hC) (by omega)
        repeat' (first | ((apply f_wo); first | ((apply f_mv); first | refine zx (v := .c _) ?_ | refine za ?_) | ((apply f_fa); first | refine n_fa ?_ | refine zo3 ?_) | ((apply f_ld); first | refine zj3 ?_ | refine zs1 ?_ | refine zv1 ?_ | refine zm3 ?_ | refine n_ld ?_) | ((apply f_ca); first | refine zi2 0 (c4) ?_ (hl := zm1 (by rfl) cc2)) | ((apply f_st); first | refine n_st ?_ | refine zs2 ?_) | ((apply zn3); first | refine zt ?_ | refine za ?_) | ((apply zd2); first | refine zm ?_ | refine zc2 ?_ | refine za ?_) | refine n_al ?_ | refine za ?_) | ((apply f_w); first | refine zw ?_ | refine zc ?_) | refine zb fun C => ?_ | refine zh ?_ | refine zd ?_ | refine zf ?_ | refine zg ?_)
        refine zv ?_
        refine ret1 rfl (zy6 (zi5 rfl (zi5 rfl zy2))) rfl cc4 (zj2 h4 hc) ⟨?_, rfl⟩
        rw [← e34]; rfl
      · refine ⟨1 + (k : Int), m, cs2, h2, by omega, by omega, zh1 Tryd.func39 rfl rfl ?_⟩
        repeat' (first | ((apply f_wo); first | ((apply f_mv); first | refine zx (v := .c _) ?_ | refine za ?_) | ((apply f_fa); first | refine n_fa ?_ | refine zo3 ?_) | ((apply f_ld); first | refine zj3 ?_ | refine zs1 ?_ | refine zv1 ?_ | refine zm3 ?_ | refine n_ld ?_) | ((apply f_ca); first | refine zi2 0 (c1) ?_ (hl := zm1 (by rfl) cc) | refine zi2 0 (c2) ?_ (hl := zm1 (by rfl) cc1) | refine zd3 (ch) ?_ | refine zw2 (ch) ?_) | ((apply f_st); first | refine n_st ?_ | refine zs2 ?_) | ((apply zn3); first | refine zt ?_ | refine za ?_) | ((apply zd2); first | refine zm ?_ | refine zc2 ?_ | refine za ?_) | refine n_al ?_ | refine za ?_) | ((apply f_w); first | refine zw ?_ | refine zc ?_) | refine zb fun C => ?_ | refine zh ?_ | refine zd ?_ | refine zf ?_ | refine zg ?_)
        refine zu1 rfl ?_
        repeat' (first | ((apply f_wo); first | ((apply f_mv); first | refine zx (v := .c _) ?_ | refine za ?_) | ((apply f_fa); first | refine n_fa ?_ | refine zo3 ?_) | ((apply f_ld); first | refine zj3 ?_ | refine zs1 ?_ | refine zv1 ?_ | refine zm3 ?_ | refine n_ld ?_) | ((apply f_ca); first | refine zi2 0 (c1) ?_ (hl := zm1 (by rfl) cc) | refine zi2 0 (c2) ?_ (hl := zm1 (by rfl) cc1) | refine zd3 (ch) ?_ | refine zw2 (ch) ?_) | ((apply f_st); first | refine n_st ?_ | refine zs2 ?_) | ((apply zn3); first | refine zt ?_ | refine za ?_) | ((apply zd2); first | refine zm ?_ | refine zc2 ?_ | refine za ?_) | refine n_al ?_ | refine za ?_) | ((apply f_w); first | refine zw ?_ | refine zc ?_) | refine zb fun C => ?_ | refine zh ?_ | refine zd ?_ | refine zf ?_ | refine zg ?_)
        refine zy (by rfl) (fun hC => absurd (eq_of_beq hC) (by omega)) fun hC => ?_
        repeat' (first | ((apply f_wo); first | ((apply f_mv); first | refine zx (v := .c _) ?_ | refine za ?_) | ((apply f_fa); first | refine n_fa ?_ | refine zo3 ?_) | ((apply f_ld); first | refine zj3 ?_ | refine zs1 ?_ | refine zv1 ?_ | refine zm3 ?_ | refine n_ld ?_) | ((apply f_st); first | refine n_st ?_ | refine zs2 ?_) | ((apply zn3); first | refine zt ?_ | refine za ?_) | ((apply zd2); first | refine zm ?_ | refine zc2 ?_ | refine za ?_) | refine n_al ?_ | refine za ?_) | ((apply f_w); first | refine zw ?_ | refine zc ?_) | refine zb fun C => ?_ | refine zh ?_ | refine zd ?_ | refine zf ?_ | refine zg ?_)
        refine zy (by rfl) (fun hC => absurd (eq_of_beq hC) (by omega)) fun hC => ?_
        repeat' (first | ((apply f_wo); first | ((apply f_mv); first | refine zx (v := .c _) ?_ | refine za ?_) | ((apply f_fa); first | refine n_fa ?_ | refine zo3 ?_) | ((apply f_ld); first | refine zj3 ?_ | refine zs1 ?_ | refine zv1 ?_ | refine zm3 ?_ | refine n_ld ?_) | ((apply f_st); first | refine n_st ?_ | refine zs2 ?_) | ((apply zn3); first | refine zt ?_ | refine za ?_) | ((apply zd2); first | refine zm ?_ | refine zc2 ?_ | refine za ?_) | refine n_al ?_ | refine za ?_) | ((apply f_w); first | refine zw ?_ | refine zc ?_) | refine zb fun C => ?_ | refine zh ?_ | refine zd ?_ | refine zf ?_ | refine zg ?_)
        refine zv ?_
        exact ret1 rfl (zy6 (zi5 rfl (zi5 rfl zy2))) rfl cc2 (zj2 h2 hc) ⟨rfl, rfl⟩
  | false =>
    rw [hb] at ch
    have e13 : ¬ 1 + (k : Int) = 13 := fun e => by rw [e] at hb; exact absurd hb (by decide)
    have e34 : ¬ 1 + (k : Int) = 34 := fun e => by rw [e] at hb; exact absurd hb (by decide)
    refine ⟨1 + (k : Int), 0, cs1, h1, by omega, by omega, zh1 Tryd.func39 rfl rfl ?_⟩
    repeat' (first | ((apply f_wo); first | ((apply f_mv); first | refine zx (v := .c _) ?_ | refine za ?_) | ((apply f_fa); first | refine n_fa ?_ | refine zo3 ?_) | ((apply f_ld); first | refine zj3 ?_ | refine zs1 ?_ | refine zv1 ?_ | refine zm3 ?_ | refine n_ld ?_) | ((apply f_ca); first | refine zi2 0 (c1) ?_ (hl := zm1 (by rfl) cc) | refine zd3 (ch) ?_ | refine zw2 (ch) ?_) | ((apply f_st); first | refine n_st ?_ | refine zs2 ?_) | ((apply zn3); first | refine zt ?_ | refine za ?_) | ((apply zd2); first | refine zm ?_ | refine zc2 ?_ | refine za ?_) | refine n_al ?_ | refine za ?_) | ((apply f_w); first | refine zw ?_ | refine zc ?_) | refine zb fun C => ?_ | refine zh ?_ | refine zd ?_ | refine zf ?_ | refine zg ?_)
    refine zn2 rfl ?_
    repeat' (first | ((apply f_wo); first | ((apply f_mv); first | refine zx (v := .c _) ?_ | refine za ?_) | ((apply f_fa); first | refine n_fa ?_ | refine zo3 ?_) | ((apply f_ld); first | refine zj3 ?_ | refine zs1 ?_ | refine zv1 ?_ | refine zm3 ?_ | refine n_ld ?_) | ((apply f_st); first | refine n_st ?_ | refine zs2 ?_) | ((apply zn3); first | refine zt ?_ | refine za ?_) | ((apply zd2); first | refine zm ?_ | refine zc2 ?_ | refine za ?_) | refine n_al ?_ | refine za ?_) | ((apply f_w); first | refine zw ?_ | refine zc ?_) | refine zb fun C => ?_ | refine zh ?_ | refine zd ?_ | refine zf ?_ | refine zg ?_)
    refine zy (by rfl) (fun hC => absurd (eq_of_beq hC) (by omega)) fun hC => ?_
    repeat' (first | ((apply f_wo); first | ((apply f_mv); first | refine zx (v := .c _) ?_ | refine za ?_) | ((apply f_fa); first | refine n_fa ?_ | refine zo3 ?_) | ((apply f_ld); first | refine zj3 ?_ | refine zs1 ?_ | refine zv1 ?_ | refine zm3 ?_ | refine n_ld ?_) | ((apply f_st); first | refine n_st ?_ | refine zs2 ?_) | ((apply zn3); first | refine zt ?_ | refine za ?_) | ((apply zd2); first | refine zm ?_ | refine zc2 ?_ | refine za ?_) | refine n_al ?_ | refine za ?_) | ((apply f_w); first | refine zw ?_ | refine zc ?_) | refine zb fun C => ?_ | refine zh ?_ | refine zd ?_ | refine zf ?_ | refine zg ?_)
    refine zy (by rfl) (fun hC => absurd (eq_of_beq hC) (by omega)) fun hC => ?_
    repeat' (first | ((apply f_wo); first | ((apply f_mv); first | refine zx (v := .c _) ?_ | refine za ?_) | ((apply f_fa); first | refine n_fa ?_ | refine zo3 ?_) | ((apply f_ld); first | refine zj3 ?_ | refine zs1 ?_ | refine zv1 ?_ | refine zm3 ?_ | refine n_ld ?_) | ((apply f_st); first | refine n_st ?_ | refine zs2 ?_) | ((apply zn3); first | refine zt ?_ | refine za ?_) | ((apply zd2); first | refine zm ?_ | refine zc2 ?_ | refine za ?_) | refine n_al ?_ | refine za ?_) | ((apply f_w); first | refine zw ?_ | refine zc ?_) | refine zb fun C => ?_ | refine zh ?_ | refine zd ?_ | refine zf ?_ | refine zg ?_)
    refine zv ?_
    exact ret1 rfl (zy6 (zi5 rfl (zi5 rfl zy2))) rfl cc1 (zj2 h1 hc) ⟨rfl, rfl⟩
theorem zc18 {cs : List AC} (hc : Curs cs) : ∃ (o n : Int) (cs' : List AC), Curs cs' ∧ I64 o ∧ I64 n ∧ Ctr Tryd.prog 36 [.c (.pt 0 0)] [cs] (.ag [.v (.int .i64 o), .v (.int .i64 n)]) [cs'] := by
  have cc := zu hc
  obtain ⟨o, n, cs1, h1, ho, hn, c1⟩ := zl11 hc
  have cc1 := zu h1
  obtain ⟨k, cs2, h2, hk, c2⟩ := zk3 h1 8 (by decide)
  have cc2 := zu h2
  obtain ⟨k3, cs3, h3, hk3, c3⟩ := zk3 h2 44 (by decide)
  have cc3 := zu h3
  obtain ⟨z, cs4, h4, hz, c4⟩ := zb10 h2 [-1, 0, 1, 5, 6, 11, 12, 10000, 10001] (by simp)
  have cc4 := zu h4
  have hz64 : I64 z := by
    simp only [List.mem_cons, List.not_mem_nil, or_false] at hz
    unfold I64; omega
  have hk2 : k = 0 ∨ k = 1 ∨ 2 ≤ k := by omega
  rcases hk2 with rfl | rfl | hk2
  · refine ⟨(k3 : Int), n, cs3, h3, by unfold I64; omega, by unfold I64; omega, zh1 Tryd.func36 rfl rfl ?_⟩
    repeat' (first | ((apply f_wo); first | ((apply f_mv); first | refine zx (v := .c _) ?_ | refine za ?_) | ((apply f_as); first | refine zg1 (v := .c _) ?_ | refine za ?_) | ((apply f_fa); first | refine n_fa ?_ | refine zo3 ?_) | ((apply f_ld); first | refine zv1 ?_ | refine zm3 ?_ | refine n_ld ?_) | ((apply f_ca); first | refine zi2 0 (c1) ?_ (hl := zm1 (by rfl) cc) | refine zi2 0 (c2) ?_ (hl := zm1 (by rfl) cc1) | refine zi2 0 (c3) ?_ (hl := zm1 (by rfl) cc2)) | ((apply f_st); first | refine n_st ?_ | refine zs2 ?_) | ((apply zn3); first | refine zt ?_ | refine za ?_) | refine n_al ?_ | refine n_bs ?_ | refine za ?_) | ((apply f_w); first | refine zw ?_ | refine zc ?_) | refine zb fun C => ?_ | refine zh ?_ | refine zd ?_ | refine zf ?_ | refine zg ?_ | refine zu1 rfl ?_ | refine zn2 rfl ?_)
    refine zv ?_
    exact ret1 rfl (zy6 (zi5 rfl (zi5 rfl zy2))) rfl cc3 (zj2 h3 hc) ⟨rfl, rfl⟩
  · refine ⟨o, z, cs4, h4, by unfold I64; omega, hz64, zh1 Tryd.func36 rfl rfl ?_⟩
    repeat' (first | ((apply f_wo); first | ((apply f_mv); first | refine zx (v := .c _) ?_ | refine za ?_) | ((apply f_as); first | refine zg1 (v := .c _) ?_ | refine za ?_) | ((apply f_fa); first | refine n_fa ?_ | refine zo3 ?_) | ((apply f_ld); first | refine zv1 ?_ | refine zm3 ?_ | refine n_ld ?_) | ((apply f_ca); first | refine zi2 0 (c1) ?_ (hl := zm1 (by rfl) cc) | refine zi2 0 (c2) ?_ (hl := zm1 (by rfl) cc1) | refine zw17 0 [16] (c4) ?_ (hl := zm1 (by rfl) cc2)) | ((apply f_st); first | refine n_st ?_ | refine zs2 ?_) | ((apply zn3); first | refine zt ?_ | refine za ?_) | refine n_al ?_ | refine n_bs ?_ | refine za ?_) | ((apply f_w); first | refine zw ?_ | refine zc ?_) | refine zb fun C => ?_ | refine zh ?_ | refine zd ?_ | refine zf ?_ | refine zg ?_ | refine zu1 rfl ?_ | refine zn2 rfl ?_)
    refine zv ?_
    exact ret1 rfl (zy6 (zi5 rfl (zi5 rfl zy2))) rfl cc4 (zj2 h4 hc) ⟨rfl, rfl⟩
  · refine ⟨o, n, cs2, h2, by unfold I64; omega, by unfold I64; omega, zh1 Tryd.func36 rfl rfl ?_⟩
    repeat' (first | ((apply f_wo); first | ((apply f_mv); first | refine zx (v := .c _) ?_ | refine za ?_) | ((apply f_as); first | refine zg1 (v := .c _) ?_ | refine za ?_) | ((apply f_fa); first | refine n_fa ?_ | refine zo3 ?_) | ((apply f_ld); first | refine zv1 ?_ | refine zm3 ?_ | refine n_ld ?_) | ((apply f_ca); first | refine zi2 0 (c1) ?_ (hl := zm1 (by rfl) cc) | refine zi2 0 (c2) ?_ (hl := zm1 (by rfl) cc1)) | ((apply f_st); first | refine n_st ?_ | refine zs2 ?_) | ((apply zn3); first | refine zt ?_ | refine za ?_) | refine n_al ?_ | refine n_bs ?_ | refine za ?_) | ((apply f_w); first | refine zw ?_ | refine zc ?_) | refine zb fun C => ?_ | refine zh ?_ | refine zd ?_ | refine zf ?_ | refine zg ?_)
    refine zy (by rfl) (fun hC => absurd (eq_of_beq hC) (by omega)) fun hC => ?_
    repeat' (first | ((apply f_wo); first | ((apply f_mv); first | refine zx (v := .c _) ?_ | refine za ?_) | ((apply f_as); first | refine zg1 (v := .c _) ?_ | refine za ?_) | ((apply f_fa); first | refine n_fa ?_ | refine zo3 ?_) | ((apply f_ld); first | refine zv1 ?_ | refine zm3 ?_ | refine n_ld ?_) | ((apply f_st); first | refine n_st ?_ | refine zs2 ?_) | ((apply zn3); first | refine zt ?_ | refine za ?_) | refine n_al ?_ | refine n_bs ?_ | refine za ?_) | ((apply f_w); first | refine zw ?_ | refine zc ?_) | refine zb fun C => ?_ | refine zh ?_ | refine zd ?_ | refine zf ?_ | refine zg ?_)
    refine zy (by rfl) (fun hC => absurd (eq_of_beq hC) (by omega)) fun hC => ?_
    repeat' (first | ((apply f_wo); first | ((apply f_mv); first | refine zx (v := .c _) ?_ | refine za ?_) | ((apply f_as); first | refine zg1 (v := .c _) ?_ | refine za ?_) | ((apply f_fa); first | refine n_fa ?_ | refine zo3 ?_) | ((apply f_ld); first | refine zv1 ?_ | refine zm3 ?_ | refine n_ld ?_) | ((apply f_st); first | refine n_st ?_ | refine zs2 ?_) | ((apply zn3); first | refine zt ?_ | refine za ?_) | refine n_al ?_ | refine n_bs ?_ | refine za ?_) | ((apply f_w); first | refine zw ?_ | refine zc ?_) | refine zb fun C => ?_ | refine zh ?_ | refine zd ?_ | refine zf ?_ | refine zg ?_)
    refine zv ?_
    exact ret1 rfl (zy6 (zi5 rfl (zi5 rfl zy2))) rfl cc2 (zj2 h2 hc) ⟨rfl, rfl⟩
end Go.Proofs.YtfemkmnkofgaaaaDoor
