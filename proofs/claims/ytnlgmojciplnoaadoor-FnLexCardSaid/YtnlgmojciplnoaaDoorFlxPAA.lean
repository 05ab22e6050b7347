/- What is drawn as a text of tokens, and as a token that is bent. -/
import Derived.Test.YtnlgmojciplnoaaDoorFlxPZ
-- MVP
namespace Go.Proofs.YtnlgmojciplnoaaDoor
open Go.RowKit
set_option maxRecDepth 100000
def bentT : List ByteArray := [⟨#[]⟩, ⟨#[97]⟩, ⟨#[65]⟩, ⟨#[61, 61, 61]⟩, ⟨#[97, 39, 98]⟩, ⟨#[97, 47, 98]⟩, ⟨#[38]⟩]
def behT : List ByteArray := [⟨#[32, 48, 49]⟩, ⟨#[255]⟩, ⟨#[32, 39, 97]⟩, ⟨#[32, 65]⟩, ⟨#[32, 35, 32, 101, 110, 100, 10, 32, 120]⟩, ⟨#[35]⟩, ⟨#[126, 47, 97]⟩, ⟨#[126, 47, 97, 47]⟩, ⟨#[32, 50, 49, 52, 55, 52, 56, 51, 54, 52, 56]⟩, ⟨#[32, 57, 57, 57, 57, 57, 57, 57, 57, 57, 57, 57]⟩, ⟨#[97, 38, 98]⟩, ⟨#[120, 57]⟩, ⟨#[32, 110, 105, 110, 101, 98, 121, 116, 101, 115]⟩, ⟨#[9, 13, 10]⟩, ⟨#[33, 61, 61]⟩, ⟨#[49, 97]⟩, ⟨#[39, 39]⟩]
def newT : List ByteArray := [⟨#[123, 112, 114, 105, 110, 116, 32, 36, 49, 59, 125]⟩, ⟨#[97, 35, 32, 98, 10, 99]⟩, ⟨#[49, 47, 50]⟩, ⟨#[40, 120, 32, 126, 32, 47, 98, 47, 41]⟩]
theorem lt5q {k : Nat} (h : (k : Int) < 5) : k = 0 ∨ k = 1 ∨ k = 2 ∨ k = 3 ∨ k = 4 := by omega
set_option maxHeartbeats 4000000 in
theorem zp19 {cs : List AC} (hc : Curs cs) : ∃ (a b : Int) (s : ByteArray) (cs' : List AC), Curs cs' ∧ s.size ≤ 7 ∧ Ctr Tryd.prog 40 [.c (.pt 0 0)] [cs] (.ag [.v (.int .i64 a), .v (.int .i64 b), .v (.string s)]) [cs'] := by
  have cc := zz1 hc
  obtain ⟨⟨t1, t2, t3⟩, cs1, h1, hf, c1⟩ := zr11 hc
  have hf3 : t3.size ≤ 7 := hf.2.2.2
  clear hf
  dsimp only at c1
  have cc1 := zz1 h1
  obtain ⟨k, cs2, h2, hk, c2⟩ := zb4 h1 5 (by omega)
  have cc2 := zz1 h2
  rcases lt5q hk with rfl | rfl | rfl | rfl | rfl
  · obtain ⟨z, cs3, h3, hz, c3⟩ := zs17 h2 [-1, 2147483648, 3] (by simp)
    have cc3 := zz1 h3
    refine ⟨t1, z, t3, cs3, h3, hf3, za2 Tryd.func40 rfl rfl ?_⟩
    repeat' (first | ((apply f_wo); first | ((apply f_mv); first | refine zv (v := .c _) ?_ | refine za ?_) | ((apply f_as); first | refine zt (v := .c _) ?_ | refine za ?_) | ((apply f_fa); first | refine n_fa ?_ | refine zx3 ?_) | ((apply f_ld); first | refine zq2 ?_ | refine zo3 ?_ | refine n_ld ?_) | ((apply f_ca); first | refine zt3 0 (c1) ?_ (hl := zc3 (by rfl) cc) | refine zt3 0 (c2) ?_ (hl := zc3 (by rfl) cc1) | refine ze9 0 [11] (c3) ?_ (hl := zc3 (by rfl) cc2)) | ((apply f_st); first | refine n_st ?_ | refine zr2 ?_) | ((apply zn1); first | refine zu ?_ | refine za ?_) | refine n_al ?_ | refine n_bs ?_ | refine za ?_) | ((apply f_w); first | refine zx ?_ | refine zd ?_) | refine zb fun C => ?_ | refine zj ?_ | refine zc ?_ | refine ze ?_ | refine zf ?_ | refine zp rfl ?_ | refine zq rfl ?_)
    refine zw ?_
    exact ret1 rfl (zm3 (zd2 rfl (zd2 rfl (zd2 rfl zm2)))) rfl cc3 (zf4 h3 hc) ⟨rfl, rfl⟩
  · obtain ⟨z, cs3, h3, hz, c3⟩ := zu6 h2 bentT (by simp [bentT])
    have cc3 := zz1 h3
    have hsz : z.size ≤ 7 := by
      have h9 : ∀ s ∈ bentT, s.size ≤ 7 := by decide
      exact h9 z hz
    refine ⟨t1, t2, z, cs3, h3, hsz, za2 Tryd.func40 rfl rfl ?_⟩
    repeat' (first | ((apply f_wo); first | ((apply f_mv); first | refine zv (v := .c _) ?_ | refine za ?_) | ((apply f_as); first | refine zt (v := .c _) ?_ | refine za ?_) | ((apply f_fa); first | refine n_fa ?_ | refine zx3 ?_) | ((apply f_ld); first | refine zq2 ?_ | refine zo3 ?_ | refine n_ld ?_) | ((apply f_ca); first | refine zt3 0 (c1) ?_ (hl := zc3 (by rfl) cc) | refine zt3 0 (c2) ?_ (hl := zc3 (by rfl) cc1) | refine ze9 0 [17] (c3) ?_ (hl := zc3 (by rfl) cc2)) | ((apply f_st); first | refine n_st ?_ | refine zr2 ?_) | ((apply zn1); first | refine zu ?_ | refine za ?_) | refine n_al ?_ | refine n_bs ?_ | refine za ?_) | ((apply f_w); first | refine zx ?_ | refine zd ?_) | refine zb fun C => ?_ | refine zj ?_ | refine zc ?_ | refine ze ?_ | refine zf ?_ | refine zp rfl ?_ | refine zq rfl ?_)
    refine zw ?_
    exact ret1 rfl (zm3 (zd2 rfl (zd2 rfl (zd2 rfl zm2)))) rfl cc3 (zf4 h3 hc) ⟨rfl, rfl⟩
  · obtain ⟨z, cs3, h3, hz, c3⟩ := zb4 h2 7 (by omega)
    have cc3 := zz1 h3
    refine ⟨(z : Int), t2, t3, cs3, h3, hf3, za2 Tryd.func40 rfl rfl ?_⟩
    repeat' (first | ((apply f_wo); first | ((apply f_mv); first | refine zv (v := .c _) ?_ | refine za ?_) | ((apply f_as); first | refine zt (v := .c _) ?_ | refine za ?_) | ((apply f_fa); first | refine n_fa ?_ | refine zx3 ?_) | ((apply f_ld); first | refine zq2 ?_ | refine zo3 ?_ | refine n_ld ?_) | ((apply f_ca); first | refine zt3 0 (c1) ?_ (hl := zc3 (by rfl) cc) | refine zt3 0 (c2) ?_ (hl := zc3 (by rfl) cc1) | refine zt3 0 (c3) ?_ (hl := zc3 (by rfl) cc2)) | ((apply f_st); first | refine n_st ?_ | refine zr2 ?_) | ((apply zn1); first | refine zu ?_ | refine za ?_) | refine n_al ?_ | refine n_bs ?_ | refine za ?_) | ((apply f_w); first | refine zx ?_ | refine zd ?_) | refine zb fun C => ?_ | refine zj ?_ | refine zc ?_ | refine ze ?_ | refine zf ?_ | refine zp rfl ?_ | refine zq rfl ?_)
    refine zw ?_
    exact ret1 rfl (zm3 (zd2 rfl (zd2 rfl (zd2 rfl zm2)))) rfl cc3 (zf4 h3 hc) ⟨rfl, rfl⟩
  all_goals
    refine ⟨t1, t2, t3, cs2, h2, hf3, za2 Tryd.func40 rfl rfl ?_⟩
    repeat' (first | ((apply f_wo); first | ((apply f_mv); first | refine zv (v := .c _) ?_ | refine za ?_) | ((apply f_as); first | refine zt (v := .c _) ?_ | refine za ?_) | ((apply f_fa); first | refine n_fa ?_ | refine zx3 ?_) | ((apply f_ld); first | refine zq2 ?_ | refine zo3 ?_ | refine n_ld ?_) | ((apply f_ca); first | refine zt3 0 (c1) ?_ (hl := zc3 (by rfl) cc) | refine zt3 0 (c2) ?_ (hl := zc3 (by rfl) cc1)) | ((apply f_st); first | refine n_st ?_ | refine zr2 ?_) | ((apply zn1); first | refine zu ?_ | refine za ?_) | refine n_al ?_ | refine n_bs ?_ | refine za ?_) | ((apply f_w); first | refine zx ?_ | refine zd ?_) | refine zb fun C => ?_ | refine zj ?_ | refine zc ?_ | refine ze ?_ | refine zf ?_ | refine zp rfl ?_ | refine zq rfl ?_)
    refine zw ?_
    exact ret1 rfl (zm3 (zd2 rfl (zd2 rfl (zd2 rfl zm2)))) rfl cc2 (zf4 h2 hc) ⟨rfl, rfl⟩
theorem DrawTokenText_c {bs : List UInt8} (hl : bs.length ≤ 1048576) : ∃ (a b : Int) (s : ByteArray), s.size ≤ 7 ∧ Ctr Tryd.prog 18 [.c (.ro bs.length 1 (acL (bE8 bs)))] [] (.ag [.v (.int .i64 a), .v (.int .i64 b), .v (.string s)]) [] := by
  obtain ⟨h, hnew⟩ := zc14 bs
  have hc := zf9 (h := h) hl
  have cc := zz1 hc
  obtain ⟨a, b, s, cs1, h1, hs, c1⟩ := zp19 hc
  refine ⟨a, b, s, hs, za2 Tryd.func18 rfl rfl ?_⟩
  repeat' (first | ((apply f_wo); first | ((apply f_mv); first | refine zv (v := .c _) ?_ | refine za ?_) | ((apply f_as); first | refine zt (v := .c _) ?_ | refine za ?_) | ((apply f_st); first | refine n_st ?_ | refine zr2 ?_) | refine n_al ?_ | refine za ?_) | ((apply f_w); first | refine zx ?_ | refine zd ?_) | refine zb fun C => ?_ | refine zj ?_ | refine zc ?_ | refine ze ?_ | refine zf ?_)
  refine zm10 hnew ?_
  repeat' (first | ((apply f_wo); first | ((apply f_mv); first | refine zv (v := .c _) ?_ | refine za ?_) | ((apply f_as); first | refine zt (v := .c _) ?_ | refine za ?_) | ((apply f_ca); first | refine zt3 5 (c1) ?_ (hl := zc3 (by rfl) cc)) | ((apply f_st); first | refine n_st ?_ | refine zr2 ?_) | refine n_al ?_ | refine za ?_) | ((apply f_w); first | refine zx ?_ | refine zd ?_) | refine zb fun C => ?_ | refine zj ?_ | refine zc ?_ | refine ze ?_ | refine zf ?_)
  refine zw ?_
  exact ret0 rfl (zm3 (zd2 rfl (zd2 rfl (zd2 rfl zm2)))) ⟨rfl, rfl⟩
def rpB : Nat → ByteArray
  | 0 => ⟨#[]⟩
  | k + 1 => rpB k ++ ⟨#[59]⟩
theorem zg5 : ∀ k, (rpB k).size = k
  | 0 => rfl
  | k + 1 => by
    show (rpB k ++ ⟨#[59]⟩).size = _
    rw [ByteArray.size_append', zg5 k]; rfl
set_option maxHeartbeats 8000000 in
theorem DrawLex_c {bs : List UInt8} (hl : bs.length ≤ 1048576) : ∃ s : ByteArray, s.size ≤ 1048576 ∧ Ctr Tryd.prog 17 [.c (.ro bs.length 1 (acL (bE8 bs)))] [] (.c (.v (.string s))) [] := by
  obtain ⟨h, hnew⟩ := zc14 bs
  have hc := zf9 (h := h) hl
  have cc := zz1 hc
  obtain ⟨l, cs1, h1, hch, hl2, -, c1⟩ := zu14 hc 8 (by omega) (by omega)
  have cc1 := zz1 h1
  have hok := zq12 hch
  have cJ := zy7 (l := l) (by omega) hok
  have hJ := zo10 hok (Nat.le_refl _)
  rw [List.take_of_length_le (by rw [List.length_map]; omega)] at hJ
  generalize joinB (l.map tStr) ⟨#[32]⟩ = J at cJ hJ
  have hJ2 : J.size ≤ 4060 := by omega
  obtain ⟨k, cs2, h2, hk, c2⟩ := zb4 h1 4 (by omega)
  have cc2 := zz1 h2
  rcases lt4 hk with rfl | rfl | rfl | rfl
  · obtain ⟨z, cs3, h3, hz, c3⟩ := zu6 h2 behT (by simp [behT])
    have cc3 := zz1 h3
    have hsz : z.size ≤ 20 := by
      have h9 : ∀ s ∈ behT, s.size ≤ 20 := by decide
      exact h9 z hz
    have hap : (J ++ z).size = J.size + z.size := ByteArray.size_append' J z
    obtain ⟨b, cs4, h4, c4⟩ := zh7 h3 300 (by omega)
    have cc4 := zz1 h4
    cases b with
    | false =>
      refine ⟨J ++ z, by omega, za2 Tryd.func17 rfl rfl ?_⟩
      repeat' (first | ((apply f_wo); first | ((apply f_mv); first | refine zv (v := .c _) ?_ | refine za ?_) | ((apply f_as); first | refine zt (v := .c _) ?_ | refine za ?_) | ((apply zn1); first | refine zu ?_ | refine za ?_) | ((apply zm1); first | refine zh ?_ | refine za ?_) | ((apply zj1); first | refine zg ?_ | refine zi1 ?_ | refine za ?_) | refine n_bs ?_ | refine za ?_) | ((apply f_w); first | refine zx ?_ | refine zd ?_) | refine zb fun C => ?_ | refine zj ?_ | refine zc ?_ | refine ze ?_ | refine zf ?_)
      refine zm10 hnew ?_
      repeat' (first | ((apply f_wo); first | ((apply f_mv); first | refine zv (v := .c _) ?_ | refine za ?_) | ((apply f_as); first | refine zt (v := .c _) ?_ | refine za ?_) | ((apply f_ca); first | refine zt3 7 (c1) ?_ (hl := zc3 (by rfl) cc) | refine zk1 (cJ) ?_ | refine zh1 (cJ) ?_ | refine zt3 7 (c2) ?_ (hl := zc3 (by rfl) cc1) | refine ze9 7 [17] (c3) ?_ (hl := zc3 (by rfl) cc2) | refine zt3 7 (c4) ?_ (hl := zc3 (by rfl) cc3)) | ((apply zn1); first | refine zu ?_ | refine za ?_) | ((apply zm1); first | refine zh ?_ | refine za ?_) | ((apply zj1); first | refine zg ?_ | refine zi1 ?_ | refine za ?_) | refine n_bs ?_ | refine za ?_) | ((apply f_w); first | refine zx ?_ | refine zd ?_) | refine zb fun C => ?_ | refine zj ?_ | refine zc ?_ | refine ze ?_ | refine zf ?_ | refine zp rfl ?_ | refine zq rfl ?_)
      refine zw ?_
      exact ret0 rfl zu1 ⟨rfl, rfl⟩
    | true =>
      obtain ⟨S, X, hS0, hS⟩ := zv5 (P := Curs) (R := fun c (x : Nat) c' => (x : Int) < 2 ∧ Ctr Tryd.prog 37 [.c (.pt 0 0), .c (.v (.int .i64 2))] [c] (.c (.v (.int .i64 (x : Int)))) [c']) (fun c h => by obtain ⟨x, c', h1, h2, h3⟩ := zb4 h 2 (by omega); exact ⟨x, c', h1, h2, h3⟩) h4
      subst hS0
      refine ⟨rpB (if X 2000 = 0 then 2000 else 2001), by rw [zg5]; split <;> omega, za2 Tryd.func17 rfl rfl ?_⟩
      repeat' (first | ((apply f_wo); first | ((apply f_mv); first | refine zv (v := .c _) ?_ | refine za ?_) | ((apply f_as); first | refine zt (v := .c _) ?_ | refine za ?_) | ((apply zn1); first | refine zu ?_ | refine za ?_) | ((apply zm1); first | refine zh ?_ | refine za ?_) | ((apply zj1); first | refine zg ?_ | refine zi1 ?_ | refine za ?_) | refine n_bs ?_ | refine za ?_) | ((apply f_w); first | refine zx ?_ | refine zd ?_) | refine zb fun C => ?_ | refine zj ?_ | refine zc ?_ | refine ze ?_ | refine zf ?_)
      refine zm10 hnew ?_
      repeat' (first | ((apply f_wo); first | ((apply f_mv); first | refine zv (v := .c _) ?_ | refine za ?_) | ((apply f_as); first | refine zt (v := .c _) ?_ | refine za ?_) | ((apply f_ca); first | refine zt3 7 (c1) ?_ (hl := zc3 (by rfl) cc) | refine zk1 (cJ) ?_ | refine zh1 (cJ) ?_ | refine zt3 7 (c2) ?_ (hl := zc3 (by rfl) cc1) | refine ze9 7 [17] (c3) ?_ (hl := zc3 (by rfl) cc2) | refine zt3 7 (c4) ?_ (hl := zc3 (by rfl) cc3)) | ((apply zn1); first | refine zu ?_ | refine za ?_) | ((apply zm1); first | refine zh ?_ | refine za ?_) | ((apply zj1); first | refine zg ?_ | refine zi1 ?_ | refine za ?_) | refine n_bs ?_ | refine za ?_) | ((apply f_w); first | refine zx ?_ | refine zd ?_) | refine zb fun C => ?_ | refine zj ?_ | refine zc ?_ | refine ze ?_ | refine zf ?_ | refine zp rfl ?_ | refine zq rfl ?_)
      refine zb3 (fun k : Nat => ⟨tmsF [(3, .c (.pt 7 0)), (4, .c (.v (.string (rpB k)))), (5, .c (.v (.int .i64 (k : Int))))], hpsF [(7, 7, ⟨57, 0, 0, true, S k⟩)], 0, [7], 37⟩)
        (fun N k => k + N = 2002 ∧ k ≤ 2001 ∧ (2000 < k → ¬ X 2000 = 0)) 2002 0 ⟨by omega, by omega, fun h => absurd h (by omega)⟩ ?_ ?_
      · have hcl := zz1 (hS 0).1
        (refine ze2 _ _ rfl rfl ?_ ?_ <;> (repeat' (first | exact TmOk.nil | exact RwOk.nil | refine TmOk.cons ?_ ?_ | refine RwOk.cons ?_ ?_ | rfl | exact ze1 rfl (by assumption) | (refine rnV_id' rfl ?_; (first | rfl | (simp [cloV, cloL, clo, zn, zm, zo, zk, zi]; done))) | (refine zk2 ?_; first | rfl | omega | (rw [zp1 (by omega) (by omega)]; omega)) | (refine ze1 rfl ?_; (first | rfl | (simp [cloV, cloL, clo, zn, zm, zo, zk, zi]; done))) | exact zg3 rfl rfl | (refine zl2 (by rfl) (by rfl) ?_ ?_ <;> (first | rfl | (simp [cloV, cloL, clo, zn, zm, zo, zk, zi]; done))) | (refine rw_rn' rfl rfl ?_; simp; done))))
      rintro N k ⟨hN, hk2, hI⟩
      try dsimp only
      obtain ⟨g1, g2, g3⟩ := hS k
      have cg := zz1 g1
      have cg' := zz1 (hS (k + 1)).1
      have hrz := zg5 k
      repeat' (first | ((apply f_wo); first | ((apply f_mv); first | refine zv (v := .c _) ?_ | refine za ?_) | ((apply f_as); first | refine zt (v := .c _) ?_ | refine za ?_) | ((apply f_ca); first | refine zt3 7 (g3) ?_ (hl := zc3 (by rfl) cg)) | ((apply zn1); first | refine zu ?_ | refine za ?_) | ((apply zm1); first | refine zh ?_ | refine za ?_) | ((apply zj1); first | refine zg ?_ | refine zi1 ?_ | refine za ?_) | refine n_bs ?_ | refine za ?_) | ((apply f_w); first | refine zx ?_ | refine zd ?_) | refine zb fun C => ?_ | refine zj ?_ | refine zc ?_ | refine ze ?_ | refine zf ?_)
      refine zr (by rfl) (fun hC => ?_) fun hC => ?_
      · have hC' : (k : Int) < 2000 + (X k : Int) := of_decide_eq_true hC
        repeat' (first | ((apply f_wo); first | ((apply f_mv); first | refine zv (v := .c _) ?_ | refine za ?_) | ((apply f_as); first | refine zt (v := .c _) ?_ | refine za ?_) | ((apply zn1); first | refine zu ?_ | refine za ?_) | ((apply zm1); first | refine zh ?_ | refine za ?_) | ((apply zj1); first | refine zg ?_ | refine zi1 ?_ | refine za ?_) | refine n_bs ?_ | refine za ?_) | ((apply f_w); first | refine zx ?_ | refine zd ?_) | refine zb fun C => ?_ | refine zj ?_ | refine zc ?_ | refine ze ?_ | refine zf ?_ | refine zp rfl ?_ | refine zq rfl ?_)
        refine ⟨N - 1, k + 1, by omega, ⟨by omega, by omega, fun h => ?_⟩, ?_⟩
        · by_cases hk : k = 2000
          · subst hk; omega
          · omega
        · show Gh _ _
          (refine zb6 (fun j => j) _ _ rfl rfl ?_ ?_) <;> (repeat' (first | exact TmOk.nil | exact RwOk.nil | refine TmOk.cons ?_ ?_ | refine RwOk.cons ?_ ?_ | rfl | exact ze1 rfl (by assumption) | (refine rnV_id' rfl ?_; (first | rfl | (simp [cloV, cloL, clo, zn, zm, zo, zk, zi]; done))) | (refine zk2 ?_; first | rfl | omega | (rw [zp1 (by omega) (by omega)]; omega)) | (refine ze1 rfl ?_; (first | rfl | (simp [cloV, cloL, clo, zn, zm, zo, zk, zi]; done))) | exact zg3 rfl rfl | (refine zl2 (by rfl) (by rfl) ?_ ?_ <;> (first | rfl | (simp [cloV, cloL, clo, zn, zm, zo, zk, zi]; done))) | (refine rw_rn' rfl rfl ?_; simp; done)))
      · have hC' : ¬ (k : Int) < 2000 + (X k : Int) := of_decide_eq_false hC
        repeat' (first | ((apply f_wo); first | ((apply f_mv); first | refine zv (v := .c _) ?_ | refine za ?_) | ((apply f_as); first | refine zt (v := .c _) ?_ | refine za ?_) | ((apply zn1); first | refine zu ?_ | refine za ?_) | ((apply zm1); first | refine zh ?_ | refine za ?_) | ((apply zj1); first | refine zg ?_ | refine zi1 ?_ | refine za ?_) | refine n_bs ?_ | refine za ?_) | ((apply f_w); first | refine zx ?_ | refine zd ?_) | refine zb fun C => ?_ | refine zj ?_ | refine zc ?_ | refine ze ?_ | refine zf ?_ | refine zp rfl ?_ | refine zq rfl ?_)
        refine zw ?_
        refine ret0 (x := .c (.v (.string (rpB k)))) rfl zu1 ⟨?_, rfl⟩
        have hk : k = if X 2000 = 0 then 2000 else 2001 := by
          by_cases h0 : X 2000 = 0
          · rw [if_pos h0]
            have : ¬ 2000 < k := fun h => hI h h0
            omega
          · rw [if_neg h0]
            by_cases hk : k = 2000
            · subst hk; omega
            · omega
        rw [hk]
  · obtain ⟨z, cs3, h3, hz, c3⟩ := zu6 h2 newT (by simp [newT])
    have cc3 := zz1 h3
    have hsz : z.size ≤ 20 := by
      have h9 : ∀ s ∈ newT, s.size ≤ 20 := by decide
      exact h9 z hz
    obtain ⟨b, cs4, h4, c4⟩ := zh7 h3 300 (by omega)
    have cc4 := zz1 h4
    cases b with
    | false =>
      refine ⟨z, by omega, za2 Tryd.func17 rfl rfl ?_⟩
      repeat' (first | ((apply f_wo); first | ((apply f_mv); first | refine zv (v := .c _) ?_ | refine za ?_) | ((apply f_as); first | refine zt (v := .c _) ?_ | refine za ?_) | ((apply zn1); first | refine zu ?_ | refine za ?_) | ((apply zm1); first | refine zh ?_ | refine za ?_) | ((apply zj1); first | refine zg ?_ | refine zi1 ?_ | refine za ?_) | refine n_bs ?_ | refine za ?_) | ((apply f_w); first | refine zx ?_ | refine zd ?_) | refine zb fun C => ?_ | refine zj ?_ | refine zc ?_ | refine ze ?_ | refine zf ?_)
      refine zm10 hnew ?_
      repeat' (first | ((apply f_wo); first | ((apply f_mv); first | refine zv (v := .c _) ?_ | refine za ?_) | ((apply f_as); first | refine zt (v := .c _) ?_ | refine za ?_) | ((apply f_ca); first | refine zt3 7 (c1) ?_ (hl := zc3 (by rfl) cc) | refine zk1 (cJ) ?_ | refine zh1 (cJ) ?_ | refine zt3 7 (c2) ?_ (hl := zc3 (by rfl) cc1) | refine ze9 7 [23] (c3) ?_ (hl := zc3 (by rfl) cc2) | refine zt3 7 (c4) ?_ (hl := zc3 (by rfl) cc3)) | ((apply zn1); first | refine zu ?_ | refine za ?_) | ((apply zm1); first | refine zh ?_ | refine za ?_) | ((apply zj1); first | refine zg ?_ | refine zi1 ?_ | refine za ?_) | refine n_bs ?_ | refine za ?_) | ((apply f_w); first | refine zx ?_ | refine zd ?_) | refine zb fun C => ?_ | refine zj ?_ | refine zc ?_ | refine ze ?_ | refine zf ?_ | refine zp rfl ?_ | refine zq rfl ?_)
      refine zw ?_
      exact ret0 rfl zu1 ⟨rfl, rfl⟩
    | true =>
      obtain ⟨S, X, hS0, hS⟩ := zv5 (P := Curs) (R := fun c (x : Nat) c' => (x : Int) < 2 ∧ Ctr Tryd.prog 37 [.c (.pt 0 0), .c (.v (.int .i64 2))] [c] (.c (.v (.int .i64 (x : Int)))) [c']) (fun c h => by obtain ⟨x, c', h1, h2, h3⟩ := zb4 h 2 (by omega); exact ⟨x, c', h1, h2, h3⟩) h4
      subst hS0
      refine ⟨rpB (if X 2000 = 0 then 2000 else 2001), by rw [zg5]; split <;> omega, za2 Tryd.func17 rfl rfl ?_⟩
      repeat' (first | ((apply f_wo); first | ((apply f_mv); first | refine zv (v := .c _) ?_ | refine za ?_) | ((apply f_as); first | refine zt (v := .c _) ?_ | refine za ?_) | ((apply zn1); first | refine zu ?_ | refine za ?_) | ((apply zm1); first | refine zh ?_ | refine za ?_) | ((apply zj1); first | refine zg ?_ | refine zi1 ?_ | refine za ?_) | refine n_bs ?_ | refine za ?_) | ((apply f_w); first | refine zx ?_ | refine zd ?_) | refine zb fun C => ?_ | refine zj ?_ | refine zc ?_ | refine ze ?_ | refine zf ?_)
      refine zm10 hnew ?_
      repeat' (first | ((apply f_wo); first | ((apply f_mv); first | refine zv (v := .c _) ?_ | refine za ?_) | ((apply f_as); first | refine zt (v := .c _) ?_ | refine za ?_) | ((apply f_ca); first | refine zt3 7 (c1) ?_ (hl := zc3 (by rfl) cc) | refine zk1 (cJ) ?_ | refine zh1 (cJ) ?_ | refine zt3 7 (c2) ?_ (hl := zc3 (by rfl) cc1) | refine ze9 7 [23] (c3) ?_ (hl := zc3 (by rfl) cc2) | refine zt3 7 (c4) ?_ (hl := zc3 (by rfl) cc3)) | ((apply zn1); first | refine zu ?_ | refine za ?_) | ((apply zm1); first | refine zh ?_ | refine za ?_) | ((apply zj1); first | refine zg ?_ | refine zi1 ?_ | refine za ?_) | refine n_bs ?_ | refine za ?_) | ((apply f_w); first | refine zx ?_ | refine zd ?_) | refine zb fun C => ?_ | refine zj ?_ | refine zc ?_ | refine ze ?_ | refine zf ?_ | refine zp rfl ?_ | refine zq rfl ?_)
      refine zb3 (fun k : Nat => ⟨tmsF [(3, .c (.pt 7 0)), (4, .c (.v (.string (rpB k)))), (5, .c (.v (.int .i64 (k : Int))))], hpsF [(7, 7, ⟨57, 0, 0, true, S k⟩)], 0, [7], 37⟩)
        (fun N k => k + N = 2002 ∧ k ≤ 2001 ∧ (2000 < k → ¬ X 2000 = 0)) 2002 0 ⟨by omega, by omega, fun h => absurd h (by omega)⟩ ?_ ?_
      · have hcl := zz1 (hS 0).1
        (refine ze2 _ _ rfl rfl ?_ ?_ <;> (repeat' (first | exact TmOk.nil | exact RwOk.nil | refine TmOk.cons ?_ ?_ | refine RwOk.cons ?_ ?_ | rfl | exact ze1 rfl (by assumption) | (refine rnV_id' rfl ?_; (first | rfl | (simp [cloV, cloL, clo, zn, zm, zo, zk, zi]; done))) | (refine zk2 ?_; first | rfl | omega | (rw [zp1 (by omega) (by omega)]; omega)) | (refine ze1 rfl ?_; (first | rfl | (simp [cloV, cloL, clo, zn, zm, zo, zk, zi]; done))) | exact zg3 rfl rfl | (refine zl2 (by rfl) (by rfl) ?_ ?_ <;> (first | rfl | (simp [cloV, cloL, clo, zn, zm, zo, zk, zi]; done))) | (refine rw_rn' rfl rfl ?_; simp; done))))
      rintro N k ⟨hN, hk2, hI⟩
      try dsimp only
      obtain ⟨g1, g2, g3⟩ := hS k
      have cg := zz1 g1
      have cg' := zz1 (hS (k + 1)).1
      have hrz := zg5 k
      repeat' (first | ((apply f_wo); first | ((apply f_mv); first | refine zv (v := .c _) ?_ | refine za ?_) | ((apply f_as); first | refine zt (v := .c _) ?_ | refine za ?_) | ((apply f_ca); first | refine zt3 7 (g3) ?_ (hl := zc3 (by rfl) cg)) | ((apply zn1); first | refine zu ?_ | refine za ?_) | ((apply zm1); first | refine zh ?_ | refine za ?_) | ((apply zj1); first | refine zg ?_ | refine zi1 ?_ | refine za ?_) | refine n_bs ?_ | refine za ?_) | ((apply f_w); first | refine zx ?_ | refine zd ?_) | refine zb fun C => ?_ | refine zj ?_ | refine zc ?_ | refine ze ?_ | refine zf ?_)
      refine zr (by rfl) (fun hC => ?_) fun hC => ?_
      · have hC' : (k : Int) < 2000 + (X k : Int) := of_decide_eq_true hC
        repeat' (first | ((apply f_wo); first | ((apply f_mv); first | refine zv (v := .c _) ?_ | refine za ?_) | ((apply f_as); first | refine zt (v := .c _) ?_ | refine za ?_) | ((apply zn1); first | refine zu ?_ | refine za ?_) | ((apply zm1); first | refine zh ?_ | refine za ?_) | ((apply zj1); first | refine zg ?_ | refine zi1 ?_ | refine za ?_) | refine n_bs ?_ | refine za ?_) | ((apply f_w); first | refine zx ?_ | refine zd ?_) | refine zb fun C => ?_ | refine zj ?_ | refine zc ?_ | refine ze ?_ | refine zf ?_ | refine zp rfl ?_ | refine zq rfl ?_)
        refine ⟨N - 1, k + 1, by omega, ⟨by omega, by omega, fun h => ?_⟩, ?_⟩
        · by_cases hk : k = 2000
          · subst hk; omega
          · omega
        · show Gh _ _
          (refine zb6 (fun j => j) _ _ rfl rfl ?_ ?_) <;> (repeat' (first | exact TmOk.nil | exact RwOk.nil | refine TmOk.cons ?_ ?_ | refine RwOk.cons ?_ ?_ | rfl | exact ze1 rfl (by assumption) | (refine rnV_id' rfl ?_; (first | rfl | (simp [cloV, cloL, clo, zn, zm, zo, zk, zi]; done))) | (refine zk2 ?_; first | rfl | omega | (rw [zp1 (by omega) (by omega)]; omega)) | (refine ze1 rfl ?_; (first | rfl | (simp [cloV, cloL, clo, zn, zm, zo, zk, zi]; done))) | exact zg3 rfl rfl | (refine zl2 (by rfl) (by rfl) ?_ ?_ <;> (first | rfl | (simp [cloV, cloL, clo, zn, zm, zo, zk, zi]; done))) | (refine rw_rn' rfl rfl ?_; simp; done)))
      · have hC' : ¬ (k : Int) < 2000 + (X k : Int) := of_decide_eq_false hC
        repeat' (first | ((apply f_wo); first | ((apply f_mv); first | refine zv (v := .c _) ?_ | refine za ?_) | ((apply f_as); first | refine zt (v := .c _) ?_ | refine za ?_) | ((apply zn1); first | refine zu ?_ | refine za ?_) | ((apply zm1); first | refine zh ?_ | refine za ?_) | ((apply zj1); first | refine zg ?_ | refine zi1 ?_ | refine za ?_) | refine n_bs ?_ | refine za ?_) | ((apply f_w); first | refine zx ?_ | refine zd ?_) | refine zb fun C => ?_ | refine zj ?_ | refine zc ?_ | refine ze ?_ | refine zf ?_ | refine zp rfl ?_ | refine zq rfl ?_)
        refine zw ?_
        refine ret0 (x := .c (.v (.string (rpB k)))) rfl zu1 ⟨?_, rfl⟩
        have hk : k = if X 2000 = 0 then 2000 else 2001 := by
          by_cases h0 : X 2000 = 0
          · rw [if_pos h0]
            have : ¬ 2000 < k := fun h => hI h h0
            omega
          · rw [if_neg h0]
            by_cases hk : k = 2000
            · subst hk; omega
            · omega
        rw [hk]
  · obtain ⟨b, cs4, h4, c4⟩ := zh7 h2 300 (by omega)
    have cc4 := zz1 h4
    cases b with
    | false =>
      refine ⟨J, by omega, za2 Tryd.func17 rfl rfl ?_⟩
      repeat' (first | ((apply f_wo); first | ((apply f_mv); first | refine zv (v := .c _) ?_ | refine za ?_) | ((apply f_as); first | refine zt (v := .c _) ?_ | refine za ?_) | ((apply zn1); first | refine zu ?_ | refine za ?_) | ((apply zm1); first | refine zh ?_ | refine za ?_) | ((apply zj1); first | refine zg ?_ | refine zi1 ?_ | refine za ?_) | refine n_bs ?_ | refine za ?_) | ((apply f_w); first | refine zx ?_ | refine zd ?_) | refine zb fun C => ?_ | refine zj ?_ | refine zc ?_ | refine ze ?_ | refine zf ?_)
      refine zm10 hnew ?_
      repeat' (first | ((apply f_wo); first | ((apply f_mv); first | refine zv (v := .c _) ?_ | refine za ?_) | ((apply f_as); first | refine zt (v := .c _) ?_ | refine za ?_) | ((apply f_ca); first | refine zt3 7 (c1) ?_ (hl := zc3 (by rfl) cc) | refine zk1 (cJ) ?_ | refine zh1 (cJ) ?_ | refine zt3 7 (c2) ?_ (hl := zc3 (by rfl) cc1) | refine zt3 7 (c4) ?_ (hl := zc3 (by rfl) cc2)) | ((apply zn1); first | refine zu ?_ | refine za ?_) | ((apply zm1); first | refine zh ?_ | refine za ?_) | ((apply zj1); first | refine zg ?_ | refine zi1 ?_ | refine za ?_) | refine n_bs ?_ | refine za ?_) | ((apply f_w); first | refine zx ?_ | refine zd ?_) | refine zb fun C => ?_ | refine zj ?_ | refine zc ?_ | refine ze ?_ | refine zf ?_ | refine zp rfl ?_ | refine zq rfl ?_)
      refine zw ?_
      exact ret0 rfl zu1 ⟨rfl, rfl⟩
    | true =>
      obtain ⟨S, X, hS0, hS⟩ := zv5 (P := Curs) (R := fun c (x : Nat) c' => (x : Int) < 2 ∧ Ctr Tryd.prog 37 [.c (.pt 0 0), .c (.v (.int .i64 2))] [c] (.c (.v (.int .i64 (x : Int)))) [c']) (fun c h => by obtain ⟨x, c', h1, h2, h3⟩ := zb4 h 2 (by omega); exact ⟨x, c', h1, h2, h3⟩) h4
      subst hS0
      refine ⟨rpB (if X 2000 = 0 then 2000 else 2001), by rw [zg5]; split <;> omega, za2 Tryd.func17 rfl rfl ?_⟩
      repeat' (first | ((apply f_wo); first | ((apply f_mv); first | refine zv (v := .c _) ?_ | refine za ?_) | ((apply f_as); first | refine zt (v := .c _) ?_ | refine za ?_) | ((apply zn1); first | refine zu ?_ | refine za ?_) | ((apply zm1); first | refine zh ?_ | refine za ?_) | ((apply zj1); first | refine zg ?_ | refine zi1 ?_ | refine za ?_) | refine n_bs ?_ | refine za ?_) | ((apply f_w); first | refine zx ?_ | refine zd ?_) | refine zb fun C => ?_ | refine zj ?_ | refine zc ?_ | refine ze ?_ | refine zf ?_)
      refine zm10 hnew ?_
      repeat' (first | ((apply f_wo); first | ((apply f_mv); first | refine zv (v := .c _) ?_ | refine za ?_) | ((apply f_as); first | refine zt (v := .c _) ?_ | refine za ?_) | ((apply f_ca); first | refine zt3 7 (c1) ?_ (hl := zc3 (by rfl) cc) | refine zk1 (cJ) ?_ | refine zh1 (cJ) ?_ | refine zt3 7 (c2) ?_ (hl := zc3 (by rfl) cc1) | refine zt3 7 (c4) ?_ (hl := zc3 (by rfl) cc2)) | ((apply zn1); first | refine zu ?_ | refine za ?_) | ((apply zm1); first | refine zh ?_ | refine za ?_) | ((apply zj1); first | refine zg ?_ | refine zi1 ?_ | refine za ?_) | refine n_bs ?_ | refine za ?_) | ((apply f_w); first | refine zx ?_ | refine zd ?_) | refine zb fun C => ?_ | refine zj ?_ | refine zc ?_ | refine ze ?_ | refine zf ?_ | refine zp rfl ?_ | refine zq rfl ?_)
      refine zb3 (fun k : Nat => ⟨tmsF [(3, .c (.pt 7 0)), (4, .c (.v (.string (rpB k)))), (5, .c (.v (.int .i64 (k : Int))))], hpsF [(7, 7, ⟨57, 0, 0, true, S k⟩)], 0, [7], 37⟩)
        (fun N k => k + N = 2002 ∧ k ≤ 2001 ∧ (2000 < k → ¬ X 2000 = 0)) 2002 0 ⟨by omega, by omega, fun h => absurd h (by omega)⟩ ?_ ?_
      · have hcl := zz1 (hS 0).1
        (refine ze2 _ _ rfl rfl ?_ ?_ <;> (repeat' (first | exact TmOk.nil | exact RwOk.nil | refine TmOk.cons ?_ ?_ | refine RwOk.cons ?_ ?_ | rfl | exact ze1 rfl (by assumption) | (refine rnV_id' rfl ?_; (first | rfl | (simp [cloV, cloL, clo, zn, zm, zo, zk, zi]; done))) | (refine zk2 ?_; first | rfl | omega | (rw [zp1 (by omega) (by omega)]; omega)) | (refine ze1 rfl ?_; (first | rfl | (simp [cloV, cloL, clo, zn, zm, zo, zk, zi]; done))) | exact zg3 rfl rfl | (refine zl2 (by rfl) (by rfl) ?_ ?_ <;> (first | rfl | (simp [cloV, cloL, clo, zn, zm, zo, zk, zi]; done))) | (refine rw_rn' rfl rfl ?_; simp; done))))
      rintro N k ⟨hN, hk2, hI⟩
      try dsimp only
      obtain ⟨g1, g2, g3⟩ := hS k
      have cg := zz1 g1
      have cg' := zz1 (hS (k + 1)).1
      have hrz := zg5 k
      repeat' (first | ((apply f_wo); first | ((apply f_mv); first | refine zv (v := .c _) ?_ | refine za ?_) | ((apply f_as); first | refine zt (v := .c _) ?_ | refine za ?_) | ((apply f_ca); first | refine zt3 7 (g3) ?_ (hl := zc3 (by rfl) cg)) | ((apply zn1); first | refine zu ?_ | refine za ?_) | ((apply zm1); first | refine zh ?_ | refine za ?_) | ((apply zj1); first | refine zg ?_ | refine zi1 ?_ | refine za ?_) | refine n_bs ?_ | refine za ?_) | ((apply f_w); first | refine zx ?_ | refine zd ?_) | refine zb fun C => ?_ | refine zj ?_ | refine zc ?_ | refine ze ?_ | refine zf ?_)
      refine zr (by rfl) (fun hC => ?_) fun hC => ?_
      · have hC' : (k : Int) < 2000 + (X k : Int) := of_decide_eq_true hC
        repeat' (first | ((apply f_wo); first | ((apply f_mv); first | refine zv (v := .c _) ?_ | refine za ?_) | ((apply f_as); first | refine zt (v := .c _) ?_ | refine za ?_) | ((apply zn1); first | refine zu ?_ | refine za ?_) | ((apply zm1); first | refine zh ?_ | refine za ?_) | ((apply zj1); first | refine zg ?_ | refine zi1 ?_ | refine za ?_) | refine n_bs ?_ | refine za ?_) | ((apply f_w); first | refine zx ?_ | refine zd ?_) | refine zb fun C => ?_ | refine zj ?_ | refine zc ?_ | refine ze ?_ | refine zf ?_ | refine zp rfl ?_ | refine zq rfl ?_)
        refine ⟨N - 1, k + 1, by omega, ⟨by omega, by omega, fun h => ?_⟩, ?_⟩
        · by_cases hk : k = 2000
          · subst hk; omega
          · omega
        · show Gh _ _
          (refine zb6 (fun j => j) _ _ rfl rfl ?_ ?_) <;> (repeat' (first | exact TmOk.nil | exact RwOk.nil | refine TmOk.cons ?_ ?_ | refine RwOk.cons ?_ ?_ | rfl | exact ze1 rfl (by assumption) | (refine rnV_id' rfl ?_; (first | rfl | (simp [cloV, cloL, clo, zn, zm, zo, zk, zi]; done))) | (refine zk2 ?_; first | rfl | omega | (rw [zp1 (by omega) (by omega)]; omega)) | (refine ze1 rfl ?_; (first | rfl | (simp [cloV, cloL, clo, zn, zm, zo, zk, zi]; done))) | exact zg3 rfl rfl | (refine zl2 (by rfl) (by rfl) ?_ ?_ <;> (first | rfl | (simp [cloV, cloL, clo, zn, zm, zo, zk, zi]; done))) | (refine rw_rn' rfl rfl ?_; simp; done)))
      · have hC' : ¬ (k : Int) < 2000 + (X k : Int) := of_decide_eq_false hC
        repeat' (first | ((apply f_wo); first | ((apply f_mv); first | refine zv (v := .c _) ?_ | refine za ?_) | ((apply f_as); first | refine zt (v := .c _) ?_ | refine za ?_) | ((apply zn1); first | refine zu ?_ | refine za ?_) | ((apply zm1); first | refine zh ?_ | refine za ?_) | ((apply zj1); first | refine zg ?_ | refine zi1 ?_ | refine za ?_) | refine n_bs ?_ | refine za ?_) | ((apply f_w); first | refine zx ?_ | refine zd ?_) | refine zb fun C => ?_ | refine zj ?_ | refine zc ?_ | refine ze ?_ | refine zf ?_ | refine zp rfl ?_ | refine zq rfl ?_)
        refine zw ?_
        refine ret0 (x := .c (.v (.string (rpB k)))) rfl zu1 ⟨?_, rfl⟩
        have hk : k = if X 2000 = 0 then 2000 else 2001 := by
          by_cases h0 : X 2000 = 0
          · rw [if_pos h0]
            have : ¬ 2000 < k := fun h => hI h h0
            omega
          · rw [if_neg h0]
            by_cases hk : k = 2000
            · subst hk; omega
            · omega
        rw [hk]
  · obtain ⟨b, cs4, h4, c4⟩ := zh7 h2 300 (by omega)
    have cc4 := zz1 h4
    cases b with
    | false =>
      refine ⟨J, by omega, za2 Tryd.func17 rfl rfl ?_⟩
      repeat' (first | ((apply f_wo); first | ((apply f_mv); first | refine zv (v := .c _) ?_ | refine za ?_) | ((apply f_as); first | refine zt (v := .c _) ?_ | refine za ?_) | ((apply zn1); first | refine zu ?_ | refine za ?_) | ((apply zm1); first | refine zh ?_ | refine za ?_) | ((apply zj1); first | refine zg ?_ | refine zi1 ?_ | refine za ?_) | refine n_bs ?_ | refine za ?_) | ((apply f_w); first | refine zx ?_ | refine zd ?_) | refine zb fun C => ?_ | refine zj ?_ | refine zc ?_ | refine ze ?_ | refine zf ?_)
      refine zm10 hnew ?_
      repeat' (first | ((apply f_wo); first | ((apply f_mv); first | refine zv (v := .c _) ?_ | refine za ?_) | ((apply f_as); first | refine zt (v := .c _) ?_ | refine za ?_) | ((apply f_ca); first | refine zt3 7 (c1) ?_ (hl := zc3 (by rfl) cc) | refine zk1 (cJ) ?_ | refine zh1 (cJ) ?_ | refine zt3 7 (c2) ?_ (hl := zc3 (by rfl) cc1) | refine zt3 7 (c4) ?_ (hl := zc3 (by rfl) cc2)) | ((apply zn1); first | refine zu ?_ | refine za ?_) | ((apply zm1); first | refine zh ?_ | refine za ?_) | ((apply zj1); first | refine zg ?_ | refine zi1 ?_ | refine za ?_) | refine n_bs ?_ | refine za ?_) | ((apply f_w); first | refine zx ?_ | refine zd ?_) | refine zb fun C => ?_ | refine zj ?_ | refine zc ?_ | refine ze ?_ | refine zf ?_ | refine zp rfl ?_ | refine zq rfl ?_)
      refine zw ?_
      exact ret0 rfl zu1 ⟨rfl, rfl⟩
    | true =>
      obtain ⟨S, X, hS0, hS⟩ := zv5 (P := Curs) (R := fun c (x : Nat) c' => (x : Int) < 2 ∧ Ctr Tryd.prog 37 [.c (.pt 0 0), .c (.v (.int .i64 2))] [c] (.c (.v (.int .i64 (x : Int)))) [c']) (fun c h => by obtain ⟨x, c', h1, h2, h3⟩ := zb4 h 2 (by omega); exact ⟨x, c', h1, h2, h3⟩) h4
      subst hS0
      refine ⟨rpB (if X 2000 = 0 then 2000 else 2001), by rw [zg5]; split <;> omega, za2 Tryd.func17 rfl rfl ?_⟩
      repeat' (first | ((apply f_wo); first | ((apply f_mv); first | refine zv (v := .c _) ?_ | refine za ?_) | ((apply f_as); first | refine zt (v := .c _) ?_ | refine za ?_) | ((apply zn1); first | refine zu ?_ | refine za ?_) | ((apply zm1); first | refine zh ?_ | refine za ?_) | ((apply zj1); first | refine zg ?_ | refine zi1 ?_ | refine za ?_) | refine n_bs ?_ | refine za ?_) | ((apply f_w); first | refine zx ?_ | refine zd ?_) | refine zb fun C => ?_ | refine zj ?_ | refine zc ?_ | refine ze ?_ | refine zf ?_)
      refine zm10 hnew ?_
      repeat' (first | ((apply f_wo); first | ((apply f_mv); first | refine zv (v := .c _) ?_ | refine za ?_) | ((apply f_as); first | refine zt (v := .c _) ?_ | refine za ?_) | ((apply f_ca); first | refine zt3 7 (c1) ?_ (hl := zc3 (by rfl) cc) | refine zk1 (cJ) ?_ | refine zh1 (cJ) ?_ | refine zt3 7 (c2) ?_ (hl := zc3 (by rfl) cc1) | refine zt3 7 (c4) ?_ (hl := zc3 (by rfl) cc2)) | ((apply zn1); first | refine zu ?_ | refine za ?_) | ((apply zm1); first | refine zh ?_ | refine za ?_) | ((apply zj1); first | refine zg ?_ | refine zi1 ?_ | refine za ?_) | refine n_bs ?_ | refine za ?_) | ((apply f_w); first | refine zx ?_ | refine zd ?_) | refine zb fun C => ?_ | refine zj ?_ | refine zc ?_ | refine ze ?_ | refine zf ?_ | refine zp rfl ?_ | refine zq rfl ?_)
      refine zb3 (fun k : Nat => ⟨tmsF [(3, .c (.pt 7 0)), (4, .c (.v (.string (rpB k)))), (5, .c (.v (.int .i64 (k : Int))))], hpsF [(7, 7, ⟨57, 0, 0, true, S k⟩)], 0, [7], 37⟩)
        (fun N k => k + N = 2002 ∧ k ≤ 2001 ∧ (2000 < k → ¬ X 2000 = 0)) 2002 0 ⟨by omega, by omega, fun h => absurd h (by omega)⟩ ?_ ?_
      · have hcl := zz1 (hS 0).1
        (refine ze2 _ _ rfl rfl ?_ ?_ <;> (repeat' (first | exact TmOk.nil | exact RwOk.nil | refine TmOk.cons ?_ ?_ | refine RwOk.cons ?_ ?_ | rfl | exact ze1 rfl (by assumption) | (refine rnV_id' rfl ?_; (first | rfl | (simp [cloV, cloL, clo, zn, zm, zo, zk, zi]; done))) | (refine zk2 ?_; first | rfl | omega | (rw [zp1 (by omega) (by omega)]; omega)) | (refine ze1 rfl ?_; (first | rfl | (simp [cloV, cloL, clo, zn, zm, zo, zk, zi]; done))) | exact zg3 rfl rfl | (refine zl2 (by rfl) (by rfl) ?_ ?_ <;> (first | rfl | (simp [cloV, cloL, clo, zn, zm, zo, zk, zi]; done))) | (refine rw_rn' rfl rfl ?_; simp; done))))
      rintro N k ⟨hN, hk2, hI⟩
      try dsimp only
      obtain ⟨g1, g2, g3⟩ := hS k
      have cg := zz1 g1
      have cg' := zz1 (hS (k + 1)).1
      have hrz := zg5 k
      repeat' (first | ((apply f_wo); first | ((apply f_mv); first | refine zv (v := .c _) ?_ | refine za ?_) | ((apply f_as); first | refine zt (v := .c _) ?_ | refine za ?_) | ((apply f_ca); first | refine zt3 7 (g3) ?_ (hl := zc3 (by rfl) cg)) | ((apply zn1); first | refine zu ?_ | refine za ?_) | ((apply zm1); first | refine zh ?_ | refine za ?_) | ((apply zj1); first | refine zg ?_ | refine zi1 ?_ | refine za ?_) | refine n_bs ?_ | refine za ?_) | ((apply f_w); first | refine zx ?_ | refine zd ?_) | refine zb fun C => ?_ | refine zj ?_ | refine zc ?_ | refine ze ?_ | refine zf ?_)
      refine zr (by rfl) (fun hC => ?_) fun hC => ?_
      · have hC' : (k : Int) < 2000 + (X k : Int) := of_decide_eq_true hC
        repeat' (first | ((apply f_wo); first | ((apply f_mv); first | refine zv (v := .c _) ?_ | refine za ?_) | ((apply f_as); first | refine zt (v := .c _) ?_ | refine za ?_) | ((apply zn1); first | refine zu ?_ | refine za ?_) | ((apply zm1); first | refine zh ?_ | refine za ?_) | ((apply zj1); first | refine zg ?_ | refine zi1 ?_ | refine za ?_) | refine n_bs ?_ | refine za ?_) | ((apply f_w); first | refine zx ?_ | refine zd ?_) | refine zb fun C => ?_ | refine zj ?_ | refine zc ?_ | refine ze ?_ | refine zf ?_ | refine zp rfl ?_ | refine zq rfl ?_)
        refine ⟨N - 1, k + 1, by omega, ⟨by omega, by omega, fun h => ?_⟩, ?_⟩
        · by_cases hk : k = 2000
          · subst hk; omega
          · omega
        · show Gh _ _
          (refine zb6 (fun j => j) _ _ rfl rfl ?_ ?_) <;> (repeat' (first | exact TmOk.nil | exact RwOk.nil | refine TmOk.cons ?_ ?_ | refine RwOk.cons ?_ ?_ | rfl | exact ze1 rfl (by assumption) | (refine rnV_id' rfl ?_; (first | rfl | (simp [cloV, cloL, clo, zn, zm, zo, zk, zi]; done))) | (refine zk2 ?_; first | rfl | omega | (rw [zp1 (by omega) (by omega)]; omega)) | (refine ze1 rfl ?_; (first | rfl | (simp [cloV, cloL, clo, zn, zm, zo, zk, zi]; done))) | exact zg3 rfl rfl | (refine zl2 (by rfl) (by rfl) ?_ ?_ <;> (first | rfl | (simp [cloV, cloL, clo, zn, zm, zo, zk, zi]; done))) | (refine rw_rn' rfl rfl ?_; simp; done)))
      · have hC' : ¬ (k : Int) < 2000 + (X k : Int) := of_decide_eq_false hC
        repeat' (first | ((apply f_wo); first | ((apply f_mv); first | refine zv (v := .c _) ?_ | refine za ?_) | ((apply f_as); first | refine zt (v := .c _) ?_ | refine za ?_) | ((apply zn1); first | refine zu ?_ | refine za ?_) | ((apply zm1); first | refine zh ?_ | refine za ?_) | ((apply zj1); first | refine zg ?_ | refine zi1 ?_ | refine za ?_) | refine n_bs ?_ | refine za ?_) | ((apply f_w); first | refine zx ?_ | refine zd ?_) | refine zb fun C => ?_ | refine zj ?_ | refine zc ?_ | refine ze ?_ | refine zf ?_ | refine zp rfl ?_ | refine zq rfl ?_)
        refine zw ?_
        refine ret0 (x := .c (.v (.string (rpB k)))) rfl zu1 ⟨?_, rfl⟩
        have hk : k = if X 2000 = 0 then 2000 else 2001 := by
          by_cases h0 : X 2000 = 0
          · rw [if_pos h0]
            have : ¬ 2000 < k := fun h => hI h h0
            omega
          · rw [if_neg h0]
            by_cases hk : k = 2000
            · subst hk; omega
            · omega
        rw [hk]
end Go.Proofs.YtnlgmojciplnoaaDoor
