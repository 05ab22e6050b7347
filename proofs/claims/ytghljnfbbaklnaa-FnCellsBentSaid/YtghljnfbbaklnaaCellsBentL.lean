/- Heaps drawn: the walk. -/
import Derived.Test.YtghljnfbbaklnaaCellsBentK
-- MVP
namespace Go.Proofs.Ytghljnfbbaklnaa
open Go.RowKit
set_option maxRecDepth 100000
theorem zx14 {n : Nat} {cs cs' : List AC} {l l' : List E} (h : RH n cs l cs' l') : Curs cs := by
  cases n <;> exact h.1
theorem zy14 {cs : List AC} (hc : Curs cs) : ∃ (l : List E) (cs' : List AC), Curs cs' ∧ HOk 8 l ∧ Ctr Try.prog 88 [.c (.pt 0 0)] [cs] (.ag (owE (heapE l))) [cs'] := by
  have cc := zw hc
  obtain ⟨n, cs1, h1, hn, c1⟩ := zr2 hc 8 (by decide)
  have cc1 := zw h1
  obtain ⟨cs', l', h2, h3, hR⟩ := zl19 n 0 cs1 [] h1 ⟨Nat.le_refl _, fun x hx => by cases hx⟩ (by omega)
  have cc' := zw h2
  refine ⟨l', cs', h2, h3, zm1 Try.func88 rfl rfl ?_⟩
  repeat' (first | ((apply f_wo); first | ((apply f_mv); first | refine zv (v := .c _) ?_ | refine za ?_) | ((apply f_as); first | refine zl1 (v := .c _) ?_ | refine za ?_) | ((apply f_ld); first | refine zy ?_ | refine zr1 ?_ | refine n_ld ?_) | ((apply f_ca); first | refine zy1 0 (c1) ?_ (hl := zp1 (by rfl) cc)) | ((apply f_st); first | refine n_st ?_ | refine zk1 ?_) | ((apply zk2); first | refine zg1 ?_ | refine za ?_) | ((apply zy5); first | refine zm2 ?_ | refine za ?_) | ((apply f_bb); first | refine zd1 ?_ | refine ze1 ?_ | refine za ?_) | refine n_al ?_ | refine za ?_) | ((apply f_w); first | refine zt ?_ | refine zc ?_) | refine zb fun C => ?_ | refine zg ?_ | refine zd ?_ | refine ze ?_ | refine zf ?_)
  refine za3 (zy15 (i := 3) rfl (CLe.nil 46 4 (CLe.refl []))) ?_
  refine zc7 (fun d : Nat × List AC × List E => ⟨tmsF [(0, .c (.pt 0 0)), (2, .c (.pt 2 0)), (3, .c (.pt 3 0)), (4, .c (.v (.int .i64 (d.1 : Int))))], hpsF [(0, 0, ⟨0, 0, 0, true, d.2.1⟩), (2, 2, ⟨39, 0, 0, true, [.v (.slice none 0 0)]⟩), (3, 3, ⟨39, 0, 0, true, owE (heapE d.2.2)⟩)], 1, [0, 2, 3], 29⟩)
    (fun N d => N = d.1 ∧ d.1 ≤ 8 ∧ RH d.1 d.2.1 d.2.2 cs' l') n (n, cs1, []) ⟨rfl, by omega, hR⟩ ?_ ?_
  · (refine zu4 _ _ rfl rfl ?_ ?_ <;> (repeat' (first | exact TmOk.nil | exact RwOk.nil | refine TmOk.cons ?_ ?_ | refine RwOk.cons ?_ ?_ | rfl | exact zx3 rfl (by assumption) | (refine rnV_id' rfl ?_; (first | rfl | (simp [cloV, cloL, clo, zo, zk, zp, zj, zi]; done))) | (refine zg6 ?_; first | rfl | omega | (rw [zb4 (by omega) (by omega)]; omega)) | (refine zx3 rfl ?_; (first | rfl | (simp [cloV, cloL, clo, zo, zk, zp, zj, zi]; done))) | exact zi9 rfl rfl | (refine zh6 (by rfl) (by rfl) ?_ ?_ <;> (first | rfl | (simp [cloV, cloL, clo, zo, zk, zp, zj, zi]; done))) | (refine rw_rn' rfl rfl ?_; simp; done))))
  rintro N ⟨i, dcs, dl⟩ ⟨hN, hi8, hr⟩
  dsimp only at hN hi8 hr ⊢
  repeat' (first | ((apply f_wo); first | ((apply f_mv); first | refine zv (v := .c _) ?_ | refine za ?_) | ((apply f_as); first | refine zl1 (v := .c _) ?_ | refine za ?_) | ((apply f_ld); first | refine zy ?_ | refine zr1 ?_ | refine n_ld ?_) | ((apply f_st); first | refine n_st ?_ | refine zk1 ?_) | ((apply zk2); first | refine zg1 ?_ | refine za ?_) | ((apply zy5); first | refine zm2 ?_ | refine za ?_) | ((apply f_bb); first | refine zd1 ?_ | refine ze1 ?_ | refine za ?_) | refine n_al ?_ | refine za ?_) | ((apply f_w); first | refine zt ?_ | refine zc ?_) | refine zb fun C => ?_ | refine zg ?_ | refine zd ?_ | refine ze ?_ | refine zf ?_)
  refine zq1 (by rfl) (fun hC => ?_) fun hC => ?_
  · have hi0 : 0 < i := by have := of_decide_eq_true hC; omega
    obtain ⟨j, rfl⟩ : ∃ j, i = j + 1 := ⟨i - 1, by omega⟩
    obtain ⟨g1, g2, cs3, l3, ⟨k, cs2, g3, d1, g4⟩, g5⟩ := hr
    have ccd := zw g1
    have cc2 := zw g3
    rcases g4 with ⟨hk, a, b, s, hv, d2, rfl⟩ | ⟨hk, q, d2, rfl⟩
    · have d3 := zl12 (e := heapE dl) g2.ty hv.ty (g2.sz (by omega))
      have hw3 : IntKind.i64.wrap (((j + 1 : Nat) : Int) - 1) = (j : Int) := by rw [IntKind.wrap_i64]; omega
      rcases hk with rfl | rfl
      all_goals
        repeat' (first | ((apply f_wo); first | ((apply f_mv); first | refine zv (v := .c _) ?_ | refine za ?_) | ((apply f_as); first | refine zl1 (v := .c _) ?_ | refine za ?_) | ((apply f_ld); first | refine zy ?_ | refine zr1 ?_ | refine n_ld ?_) | ((apply f_ca); first | refine zy1 0 (d1) ?_ (hl := zp1 (by rfl) ccd) | refine zy1 0 (d2) ?_ (hl := zp1 (by rfl) cc2) | refine zy1 3 (d3) ?_) | ((apply f_st); first | refine n_st ?_ | refine zk1 ?_) | ((apply zk2); first | refine zg1 ?_ | refine za ?_) | ((apply zy5); first | refine zm2 ?_ | refine za ?_) | ((apply f_bb); first | refine zd1 ?_ | refine ze1 ?_ | refine za ?_) | refine n_al ?_ | refine za ?_) | ((apply f_w); first | refine zt ?_ | refine zc ?_) | refine zb fun C => ?_ | refine zg ?_ | refine zd ?_ | refine ze ?_ | refine zf ?_ | refine zm rfl ?_ | refine zn rfl ?_)
        refine ⟨j, (j, cs3, _), by omega, ⟨rfl, by omega, g5⟩, ?_⟩
        have cc3 : cloL cs3 = true := zw (zx14 g5)
        (refine zu4 _ _ rfl rfl ?_ ?_ <;> (repeat' (first | exact TmOk.nil | exact RwOk.nil | refine TmOk.cons ?_ ?_ | refine RwOk.cons ?_ ?_ | rfl | exact zx3 rfl (by assumption) | (refine rnV_id' rfl ?_; (first | rfl | (simp [cloV, cloL, clo, zo, zk, zp, zj, zi]; done))) | (refine zg6 ?_; first | rfl | omega | (rw [zb4 (by omega) (by omega)]; omega)) | (refine zx3 rfl ?_; (first | rfl | (simp [cloV, cloL, clo, zo, zk, zp, zj, zi]; done))) | exact zi9 rfl rfl | (refine zh6 (by rfl) (by rfl) ?_ ?_ <;> (first | rfl | (simp [cloV, cloL, clo, zo, zk, zp, zj, zi]; done))) | (refine rw_rn' rfl rfl ?_; simp; done))))
    · have d3 := zv9 (e := heapE dl) g2.ty (g2.sz (by omega)) (q : Int)
      have d4 := zt11 (e := heapE dl) g2.ty (g2.sz (by omega)) (q : Int)
      have hw3 : IntKind.i64.wrap (((j + 1 : Nat) : Int) - 1) = (j : Int) := by rw [IntKind.wrap_i64]; omega
      rcases hk with rfl | rfl
      all_goals
        repeat' (first | ((apply f_wo); first | ((apply f_mv); first | refine zv (v := .c _) ?_ | refine za ?_) | ((apply f_as); first | refine zl1 (v := .c _) ?_ | refine za ?_) | ((apply f_ld); first | refine zy ?_ | refine zr1 ?_ | refine n_ld ?_) | ((apply f_ca); first | refine zy1 0 (d1) ?_ (hl := zp1 (by rfl) ccd) | refine zy1 0 (d2) ?_ (hl := zp1 (by rfl) cc2) | refine zy1 3 (d3) ?_ | refine zy1 3 (d4) ?_) | ((apply f_st); first | refine n_st ?_ | refine zk1 ?_) | ((apply zk2); first | refine zg1 ?_ | refine za ?_) | ((apply zy5); first | refine zm2 ?_ | refine za ?_) | ((apply f_bb); first | refine zd1 ?_ | refine ze1 ?_ | refine za ?_) | refine n_al ?_ | refine za ?_) | ((apply f_w); first | refine zt ?_ | refine zc ?_) | refine zb fun C => ?_ | refine zg ?_ | refine zd ?_ | refine ze ?_ | refine zf ?_ | refine zm rfl ?_ | refine zn rfl ?_)
        refine ⟨j, (j, cs3, _), by omega, ⟨rfl, by omega, g5⟩, ?_⟩
        have cc3 : cloL cs3 = true := zw (zx14 g5)
        (refine zu4 _ _ rfl rfl ?_ ?_ <;> (repeat' (first | exact TmOk.nil | exact RwOk.nil | refine TmOk.cons ?_ ?_ | refine RwOk.cons ?_ ?_ | rfl | exact zx3 rfl (by assumption) | (refine rnV_id' rfl ?_; (first | rfl | (simp [cloV, cloL, clo, zo, zk, zp, zj, zi]; done))) | (refine zg6 ?_; first | rfl | omega | (rw [zb4 (by omega) (by omega)]; omega)) | (refine zx3 rfl ?_; (first | rfl | (simp [cloV, cloL, clo, zo, zk, zp, zj, zi]; done))) | exact zi9 rfl rfl | (refine zh6 (by rfl) (by rfl) ?_ ?_ <;> (first | rfl | (simp [cloV, cloL, clo, zo, zk, zp, zj, zi]; done))) | (refine rw_rn' rfl rfl ?_; simp; done))))
  · have hi0 : i = 0 := by have := of_decide_eq_false hC; omega
    subst hi0
    obtain ⟨-, -, rfl, rfl⟩ := hr
    refine za3 (zr5 100 (i := 3) rfl rfl (pre := []) (post := []) rfl) ?_
    repeat' (first | ((apply f_wo); first | ((apply f_mv); first | refine zv (v := .c _) ?_ | refine za ?_) | ((apply f_as); first | refine zl1 (v := .c _) ?_ | refine za ?_) | ((apply f_ld); first | refine zy ?_ | refine zr1 ?_ | refine n_ld ?_) | ((apply f_st); first | refine n_st ?_ | refine zk1 ?_) | ((apply zk2); first | refine zg1 ?_ | refine za ?_) | ((apply zy5); first | refine zm2 ?_ | refine za ?_) | ((apply f_bb); first | refine zd1 ?_ | refine ze1 ?_ | refine za ?_) | refine n_al ?_ | refine za ?_) | ((apply f_w); first | refine zt ?_ | refine zc ?_) | refine zb fun C => ?_ | refine zg ?_ | refine zd ?_ | refine ze ?_ | refine zf ?_)
    refine zh1 ?_
    exact ret1 rfl (ze3 (zt4 rfl rfl rfl (zj _) zd2)) rfl cc' (zx1 h2 hc) ⟨by simp [heapE, owE, owL], rfl⟩
theorem zn18 {cs : List AC} (hc : Curs cs) : ∃ (z : Int) (cs' : List AC), Curs cs' ∧ I64 z ∧ Ctr Try.prog 45 [.c (.pt 0 0)] [cs] (.c (.v (.int .i64 z))) [cs'] := by
  have cc := zw hc
  obtain ⟨z, cs2, h2, hz, c2⟩ := zq8 hc [0, 1, 2, 3, -1, 9] (by decide)
  have cc2 := zw h2
  have hz64 : I64 z := by
    simp only [List.mem_cons, List.not_mem_nil, or_false] at hz
    unfold I64; omega
  refine ⟨z, cs2, h2, hz64, zm1 Try.func45 rfl rfl ?_⟩
  repeat' (first | ((apply f_wo); first | ((apply f_mv); first | refine zv (v := .c _) ?_ | refine za ?_) | ((apply f_as); first | refine zl1 (v := .c _) ?_ | refine za ?_) | ((apply f_ca); first | refine ze7 0 [4] (c2) ?_ (hl := zp1 (by rfl) cc)) | refine n_bs ?_ | refine za ?_) | ((apply f_w); first | refine zt ?_ | refine zc ?_) | refine zb fun C => ?_ | refine zg ?_ | refine zd ?_ | refine ze ?_ | refine zf ?_)
  refine zh1 ?_
  exact ret1 rfl zl4 rfl cc2 (zx1 h2 hc) ⟨rfl, rfl⟩
theorem zm16 {cs : List AC} (hc : Curs cs) : ∃ (l : List E) (cs' : List AC), Curs cs' ∧ HOk 8 l ∧ Ctr Try.prog 44 [.c (.pt 0 0)] [cs] (.ag (owE (heapE l))) [cs'] := by
  have cc := zw hc
  obtain ⟨l, cs1, h1, hl, c1⟩ := zy14 hc
  have cc1 := zw h1
  have hlen := hl.1
  obtain ⟨b, cs2, h2, c2⟩ := zh16 h1 5 (by decide)
  have cc2 := zw h2
  by_cases h0 : l.length = 0
  · refine ⟨l, cs1, h1, hl, zm1 Try.func44 rfl rfl ?_⟩
    obtain rfl : l = [] := List.eq_nil_of_length_eq_zero h0
    repeat' (first | ((apply f_wo); first | ((apply f_gs); first | refine n_sk ?_) | ((apply f_mv); first | (refine zh4 ?_ ?_ <;> intro hG <;> (try cases hG)) | refine zv (v := .c _) ?_ | refine za ?_) | ((apply f_as); first | refine zl1 (v := .c _) ?_ | refine za ?_) | ((apply f_fa); first | refine n_fa ?_ | refine zz1 ?_) | ((apply f_ld); first | refine zy ?_ | refine zr1 ?_ | refine n_ld ?_) | ((apply f_ca); first | refine zy1 0 (c1) ?_ (hl := zp1 (by rfl) cc) | refine zy1 0 (c2) ?_ (hl := zp1 (by rfl) cc1)) | ((apply f_bi); first | refine zg2 ?_ | refine zf2 ?_ | refine zh2 ?_ | refine za ?_) | ((apply f_st); first | refine n_st ?_ | refine zk1 ?_) | ((apply f_ia); first | refine n_ix ?_ | refine zl2 ?_ | refine za ?_) | ((apply zy5); first | refine zm2 ?_ | refine za ?_) | ((apply f_pk); first | refine zv2 (v := .c _) ?_ | refine za ?_) | refine n_al ?_ | refine n_bs ?_ | refine za ?_) | ((apply f_w); first | refine zt ?_ | refine zc ?_) | ((apply d_wo); first | ((apply d_gs); first | refine o_sk ?_ | refine zx4 ?_) | ((apply d_bo); (refine o_gm ?_ ?_ <;> intro hG <;> (try cases hG))) | ((apply d_mv); first | refine zn1 (.c (.v _)) ?_ | refine zn1 (.c _) ?_ | refine zn1 (.ag _) ?_ | refine zn1 (.tu _) ?_ | refine zh ?_) | ((apply d_as); first | refine zo1 (.c (.v _)) ?_ | refine zo1 (.c _) ?_ | refine zo1 (.ag _) ?_ | refine zo1 (.tu _) ?_ | refine zh ?_) | ((apply d_fa); first | refine o_fa ?_ | refine zl3 ?_) | ((apply d_ld); first | refine zm3 ?_ | refine za2 ?_ | refine zb2 ?_ | refine zn3 ?_ | refine zh ?_ | refine o_ld ?_) | ((apply d_ca); first | refine zm8 0 (c1) ?_ (hl := zp1 (by rfl) cc) | refine zm8 0 (c2) ?_ (hl := zp1 (by rfl) cc1)) | ((apply d_bi); first | refine zc3 ?_ | refine zb3 ?_ | refine zd3 ?_ | refine zi2 ?_ | refine zi2 (hnu := zq _) ?_ | refine zs1 ?_ | refine zs1 (hnu := zq _) ?_ | refine zh ?_) | ((apply d_st); first | refine o_st ?_ | refine zi3 ?_) | ((apply d_ia); first | refine o_ix ?_ | refine zj3 ?_ | refine zh ?_) | ((apply d_bb); first | refine za1 ?_ | refine zb1 ?_ | refine zc1 ?_ | refine zk3 ?_ | refine zh ?_) | refine o_al ?_ | refine o_bs ?_ | refine zz2 (.c (.v _)) ?_ | refine zz2 (.c _) ?_ | refine zh ?_) | ((apply d_w); first | refine zt ?_ | refine zc ?_) | refine zb fun C => ?_ | refine zl (by kernel_rfl) (by kernel_rfl) fun C => ?_ | refine zg ?_ | refine zd ?_ | refine ze ?_ | refine zf ?_ | refine zm rfl ?_ | refine zn rfl ?_)
    refine zh1 ?_
    exact ret1 rfl (ze3 (zt4 rfl rfl rfl (zj _) zd2)) rfl cc1 (zx1 h1 hc) ⟨by simp [heapE, owE, owL], rfl⟩
  · cases b with
    | false =>
      refine ⟨l, cs2, h2, hl, zm1 Try.func44 rfl rfl ?_⟩
      repeat' (first | ((apply f_wo); first | ((apply f_gs); first | refine n_sk ?_) | ((apply f_mv); first | (refine zh4 ?_ ?_ <;> intro hG <;> (try cases hG)) | refine zv (v := .c _) ?_ | refine za ?_) | ((apply f_as); first | refine zl1 (v := .c _) ?_ | refine za ?_) | ((apply f_fa); first | refine n_fa ?_ | refine zz1 ?_) | ((apply f_ld); first | refine zy ?_ | refine zr1 ?_ | refine n_ld ?_) | ((apply f_ca); first | refine zy1 0 (c1) ?_ (hl := zp1 (by rfl) cc) | refine zy1 0 (c2) ?_ (hl := zp1 (by rfl) cc1)) | ((apply f_bi); first | refine zg2 ?_ | refine zf2 ?_ | refine zh2 ?_ | refine za ?_) | ((apply f_st); first | refine n_st ?_ | refine zk1 ?_) | ((apply f_ia); first | refine n_ix ?_ | refine zl2 ?_ | refine za ?_) | ((apply zy5); first | refine zm2 ?_ | refine za ?_) | ((apply f_pk); first | refine zv2 (v := .c _) ?_ | refine za ?_) | refine n_al ?_ | refine n_bs ?_ | refine za ?_) | ((apply f_w); first | refine zt ?_ | refine zc ?_) | ((apply d_wo); first | ((apply d_gs); first | refine o_sk ?_ | refine zx4 ?_) | ((apply d_bo); (refine o_gm ?_ ?_ <;> intro hG <;> (try cases hG))) | ((apply d_mv); first | refine zn1 (.c (.v _)) ?_ | refine zn1 (.c _) ?_ | refine zn1 (.ag _) ?_ | refine zn1 (.tu _) ?_ | refine zh ?_) | ((apply d_as); first | refine zo1 (.c (.v _)) ?_ | refine zo1 (.c _) ?_ | refine zo1 (.ag _) ?_ | refine zo1 (.tu _) ?_ | refine zh ?_) | ((apply d_fa); first | refine o_fa ?_ | refine zl3 ?_) | ((apply d_ld); first | refine zm3 ?_ | refine za2 ?_ | refine zb2 ?_ | refine zn3 ?_ | refine zh ?_ | refine o_ld ?_) | ((apply d_ca); first | refine zm8 0 (c1) ?_ (hl := zp1 (by rfl) cc) | refine zm8 0 (c2) ?_ (hl := zp1 (by rfl) cc1)) | ((apply d_bi); first | refine zc3 ?_ | refine zb3 ?_ | refine zd3 ?_ | refine zi2 ?_ | refine zi2 (hnu := zq _) ?_ | refine zs1 ?_ | refine zs1 (hnu := zq _) ?_ | refine zh ?_) | ((apply d_st); first | refine o_st ?_ | refine zi3 ?_) | ((apply d_ia); first | refine o_ix ?_ | refine zj3 ?_ | refine zh ?_) | ((apply d_bb); first | refine za1 ?_ | refine zb1 ?_ | refine zc1 ?_ | refine zk3 ?_ | refine zh ?_) | refine o_al ?_ | refine o_bs ?_ | refine zz2 (.c (.v _)) ?_ | refine zz2 (.c _) ?_ | refine zh ?_) | ((apply d_w); first | refine zt ?_ | refine zc ?_) | refine zb fun C => ?_ | refine zl (by kernel_rfl) (by kernel_rfl) fun C => ?_ | refine zg ?_ | refine zd ?_ | refine ze ?_ | refine zf ?_ | refine zm rfl ?_ | refine zn rfl ?_)
      · refine zh1 ?_
        exact ret1 rfl (ze3 (zt4 rfl rfl rfl (zj _) zd2)) rfl cc2 (zx1 h2 hc) ⟨by simp [heapE, owE, owL], rfl⟩
      · exact absurd (of_decide_eq_false hG) (by omega)
    | true =>
      obtain ⟨k, cs3, h3, hk, c3⟩ := zr2 h2 (l.length : Nat) (by omega)
      have cc3 := zw h3
      obtain ⟨r, cs4, h4, hr, c4⟩ := zq8 h3 [-1, 0, 1, 5] (by decide)
      have cc4 := zw h4
      have hr64 : I64 r := by
        simp only [List.mem_cons, List.not_mem_nil, or_false] at hr
        unfold I64; omega
      obtain ⟨a, q, s, cs5, h5, hv, c5⟩ := zl18 h4
      have cc5 := zw h5
      have hk' : k < l.length := by omega
      obtain ⟨x, hx⟩ : ∃ x, l[k]? = some x := ⟨_, List.getElem?_eq_getElem hk'⟩
      obtain ⟨r0, a0, b0, s0, -, -, rfl⟩ := hl.2 x (List.mem_of_getElem? hx)
      have henc : ∀ e ∈ l, e.enc.length = 4 := fun e he => (hl.2 e he).ty.2.1
      have hle : k * 4 + 4 ≤ (owL l).length := zw4 (j := 0) henc hk' (by omega)
      have e1 : spl (owL l) (k * 4 + 0) [.v (.int .i64 r), .v (.int .i64 a), .v (.int .i64 q), .v (.string s)] = owL (l.set k (cellD r a q s)) := zv4 henc hx (by simp) rfl
      refine ⟨l.set k (cellD r a q s), cs5, h5, hl.set ⟨r, a, q, s, hr64, hv, rfl⟩, zm1 Try.func44 rfl rfl ?_⟩
      repeat' (first | ((apply f_wo); first | ((apply f_gs); first | refine n_sk ?_) | ((apply f_mv); first | (refine zh4 ?_ ?_ <;> intro hG <;> (try cases hG)) | refine zv (v := .c _) ?_ | refine za ?_) | ((apply f_as); first | refine zl1 (v := .c _) ?_ | refine za ?_) | ((apply f_fa); first | refine n_fa ?_ | refine zz1 ?_) | ((apply f_ld); first | refine zy ?_ | refine zr1 ?_ | refine n_ld ?_) | ((apply f_ca); first | refine zy1 0 (c1) ?_ (hl := zp1 (by rfl) cc) | refine zy1 0 (c2) ?_ (hl := zp1 (by rfl) cc1) | refine zy1 0 (c3) ?_ (hl := zp1 (by rfl) cc2) | refine ze7 0 [24] (c4) ?_ (hl := zp1 (by rfl) cc3) | refine zy1 0 (c5) ?_ (hl := zp1 (by rfl) cc4)) | ((apply f_bi); first | refine zg2 ?_ | refine zf2 ?_ | refine zh2 ?_ | refine za ?_) | ((apply f_st); first | refine n_st ?_ | refine zk1 ?_) | ((apply f_ia); first | refine n_ix ?_ | refine zl2 ?_ | refine za ?_) | ((apply zy5); first | refine zm2 ?_ | refine za ?_) | ((apply f_pk); first | refine zv2 (v := .c _) ?_ | refine za ?_) | refine n_al ?_ | refine n_bs ?_ | refine za ?_) | ((apply f_w); first | refine zt ?_ | refine zc ?_) | ((apply d_wo); first | ((apply d_gs); first | refine o_sk ?_ | refine zx4 ?_) | ((apply d_bo); (refine o_gm ?_ ?_ <;> intro hG <;> (try cases hG))) | ((apply d_mv); first | refine zn1 (.c (.v _)) ?_ | refine zn1 (.c _) ?_ | refine zn1 (.ag _) ?_ | refine zn1 (.tu _) ?_ | refine zh ?_) | ((apply d_as); first | refine zo1 (.c (.v _)) ?_ | refine zo1 (.c _) ?_ | refine zo1 (.ag _) ?_ | refine zo1 (.tu _) ?_ | refine zh ?_) | ((apply d_fa); first | refine o_fa ?_ | refine zl3 ?_) | ((apply d_ld); first | refine zm3 ?_ | refine za2 ?_ | refine zb2 ?_ | refine zn3 ?_ | refine zh ?_ | refine o_ld ?_) | ((apply d_ca); first | refine zm8 0 (c1) ?_ (hl := zp1 (by rfl) cc) | refine zm8 0 (c2) ?_ (hl := zp1 (by rfl) cc1) | refine zm8 0 (c3) ?_ (hl := zp1 (by rfl) cc2) | refine zh19 0 [24] (c4) ?_ (hl := zp1 (by rfl) cc3) | refine zm8 0 (c5) ?_ (hl := zp1 (by rfl) cc4)) | ((apply d_bi); first | refine zc3 ?_ | refine zb3 ?_ | refine zd3 ?_ | refine zi2 ?_ | refine zi2 (hnu := zq _) ?_ | refine zs1 ?_ | refine zs1 (hnu := zq _) ?_ | refine zh ?_) | ((apply d_st); first | refine o_st ?_ | refine zi3 ?_) | ((apply d_ia); first | refine o_ix ?_ | refine zj3 ?_ | refine zh ?_) | ((apply d_bb); first | refine za1 ?_ | refine zb1 ?_ | refine zc1 ?_ | refine zk3 ?_ | refine zh ?_) | refine o_al ?_ | refine o_bs ?_ | refine zz2 (.c (.v _)) ?_ | refine zz2 (.c _) ?_ | refine zh ?_) | ((apply d_w); first | refine zt ?_ | refine zc ?_) | refine zb fun C => ?_ | refine zl (by kernel_rfl) (by kernel_rfl) fun C => ?_ | refine zg ?_ | refine zd ?_ | refine ze ?_ | refine zf ?_ | refine zm rfl ?_ | refine zn rfl ?_)
      · refine zh1 ?_
        refine ret1 rfl (ze3 (zt4 rfl rfl rfl (show cloL (spl (owL l) (k * 4 + 0) [.v (.int .i64 r), .v (.int .i64 a), .v (.int .i64 q), .v (.string s)]) = true by rw [e1]; exact zj _) zd2)) rfl cc5 (zx1 h5 hc) ⟨?_, rfl⟩
        show AV.ag [.ow 46 l.length 4 (spl (owL l) (k * 4 + 0) [.v (.int .i64 r), .v (.int .i64 a), .v (.int .i64 q), .v (.string s)])] = _
        rw [e1]
        simp [heapE, owE, owL]
      · exact absurd (of_decide_eq_false hG) (by omega)
end Go.Proofs.Ytghljnfbbaklnaa
namespace Go.Proofs.Ytghljnfbbaklnaa
open Go.RowKit
set_option maxRecDepth 100000
def hsh (bs : List UInt8) : Nat → Int
  | 0 => wrap64 (348348 + (bs.length : Int))
  | k + 1 => bits .and .i64 (wrap64 (wrap64 (wrap64 (hsh bs k * 137) + wrap64 ((bs[k]?.getD 0).toNat : Int)) + 11)) 1073741823
set_option maxHeartbeats 1000000 in
theorem zn16 (bs : List UInt8) : ∃ h : Int, ∀ (A : Option Addr) (c : Nat) (w : World), Rd w 1 encB (.slice A bs.length c) bs →
    Calls Try.prog 36 #[.slice A bs.length c] w fun e w' => e = .returned (.pointer (some ⟨w.heap.size, 0, none⟩)) ∧ ∃ n, w' = (w.alloc (.cells #[.slice A bs.length c, .int .i64 0, .int .i64 h] 117)).drewN n := by
  refine ⟨hsh bs (min bs.length 4000), fun A c w hs => ?_⟩
  have hlen := hs.len_le
  go_enter Try.func36, Try.ntmps36
  go_wp2
  go_loopw [3, 4] (fun h i wr => ∃ k : Nat, k ≤ min bs.length 4000 ∧ i = .int .i64 k ∧ h = .int .i64 (hsh bs k) ∧ wr = w) (fun _ i _ => bs.length - (intOf i).toNat)
  case atStart => exact ⟨0, Nat.zero_le _, rfl, rfl, rfl⟩
  case round =>
    obtain ⟨k, hk, rfl, rfl, rfl⟩ := hrel
    by_cases hlt : k < bs.length ∧ k < 4000
    · obtain ⟨hlt, h4⟩ := hlt
      obtain ⟨g, o, rfl, _, _, hcell⟩ := Sl.at1 hs hlt
      have c0 := hcell _ rfl
      clear hcell
      go_wp2
      go_roundw
      case rel => exact ⟨k + 1, by omega, by go_num, by simp [hsh, List.getElem?_eq_getElem hlt], trivial⟩
      case measure => simp [intOf]; omega
    · have hke : k = min bs.length 4000 := by omega
      rw [← hke]
      by_cases hlt2 : k < bs.length
      · have h4 : ¬ k < 4000 := fun h => hlt ⟨hlt2, h⟩
        clear hlt
        go_wp2
        go_ret
        exact ⟨rfl, 0, rfl⟩
      · clear hlt
        go_wp2
        go_ret
        exact ⟨rfl, 0, rfl⟩
def bE8 (bs : List UInt8) : List E := bs.map fun b => .int .u8 (b.toNat : Int)
theorem zz14 {bs : List UInt8} : (bE8 bs).length = bs.length := by simp [bE8]
theorem zo18 (bs : List UInt8) : Byt (bE8 bs) := fun e he => by
  obtain ⟨b, -, rfl⟩ := List.mem_map.1 he
  exact ⟨b.toNat, b.toNat_lt, rfl⟩
theorem zu11 {w : World} {St : Nat → Prop} {φ : Nat → Lc} {K : Nat → Prop} : ∀ {bs : List UInt8} {us : List Value} {fp : List Nat}, CRL w St φ K (acL (bE8 bs)) us fp → us = bs.map fun b => .int .u8 b.toNat
  | [], us, fp, h => by
    have h' : CRL w St φ K [] us fp := h
    simp only [CRL] at h'
    exact h'.1
  | b :: r, us, fp, h => by
    have h' : CRL w St φ K (.v (.int .u8 b.toNat) :: acL (bE8 r)) us fp := h
    simp only [CRL] at h'
    obtain ⟨u, us', f1, f2, rfl, rfl, h1, h2⟩ := h'
    simp only [CR] at h1
    obtain ⟨rfl, -⟩ := h1
    rw [zu11 h2]
    rfl
theorem zm19 {w : World} {St : Nat → Prop} {φ : Nat → Lc} {K : Nat → Prop} {u : Value} {bs : List UInt8} (h : VR w St φ K (.c (.ro bs.length 1 (acL (bE8 bs)))) u) : ∃ A c, u = .slice A bs.length c ∧ Rd w 1 encB (.slice A bs.length c) bs := by
  simp only [VR, CR] at h
  obtain ⟨-, A, c, rfl, ⟨h1, h2, h3⟩, h4, h5⟩ := h
  refine ⟨A, c, rfl, A, c, rfl, h1, ⟨h2, h3⟩, fun hn => ?_⟩
  obtain ⟨b, o, us, rfl, -, hlt, hc, hcr⟩ := h5 hn
  refine ⟨b, o, rfl, Nat.zero_le _, hlt, fun i hi j u hu => ?_⟩
  have hus := zu11 hcr
  have hj : j = 0 ∧ u = .int .u8 bs[i].toNat := by
    cases j with
    | zero => simp [encB] at hu; exact ⟨rfl, hu.symm⟩
    | succ j => simp [encB] at hu
  obtain ⟨rfl, rfl⟩ := hj
  have := hc i (.int .u8 bs[i].toNat) (by rw [hus, List.getElem?_map, List.getElem?_eq_getElem hi]; rfl)
  rw [Nat.mul_one, Nat.add_zero]
  exact this
def newCur (bs : List UInt8) (h : Int) : List AC := [.ro bs.length 1 (acL (bE8 bs)), .v (.int .i64 0), .v (.int .i64 h)]
theorem zt10 {bs : List UInt8} {h : Int} (hl : bs.length ≤ 1048576) : Curs (newCur bs h) := by
  refine ⟨bE8 bs, 0, h, zo18 bs, Nat.zero_le _, by rw [zz14]; exact hl, ?_⟩
  rw [zz14]; rfl
theorem zf20 {ops : Array Oper} {Q : Exit → Act → World → Prop} {C : Ctx} {i : Nat} {r : List Nat} {tm : Nat → AV} {hp : Nat → Option Row} {gn L : Nat} {us : List Nat} {ty cT : TypeId} {gd : Option (Nat × Bool)} {ps : String} {af : Array Edge} {t : Nat} {xo fv : Operand} {bs : List UInt8} {hh : Int}
    (hnew : ∀ (A : Option Addr) (c : Nat) (w : World), Rd w 1 encB (.slice A bs.length c) bs → Calls Try.prog 36 #[.slice A bs.length c] w fun e w' => e = .returned (.pointer (some ⟨w.heap.size, 0, none⟩)) ∧ ∃ n, w' = (w.alloc (.cells #[.slice A bs.length c, .int .i64 0, .int .i64 hh] 117)).drewN n)
    (h : Walk Try.prog ops Q C false [] r ⟨upd tm t (.c (.pt t 0)), upd hp t (some ⟨117, 0, 0, true, newCur bs hh⟩), gn, t :: us, L⟩)
    (ht : Nat.blt t L = true := by exact rfl) (hg : gw ops tm (⟨some t, .call ⟨.value fv, #[xo], #[cT]⟩, ty, ps, af, gd⟩ : Oper) = some true := by exact rfl) (hf : (Nat.ble gn t && !us.contains t) = true := by exact rfl)
    (hfv : AS.ev ⟨tm, hp, gn, us, L⟩ fv = .c (.fn 36 []) := by exact rfl) (hx : AS.ev ⟨tm, hp, gn, us, L⟩ xo = .c (.ro bs.length 1 (acL (bE8 bs))) := by exact rfl) :
    WalkO Try.prog ops Q C false [] i (⟨some t, .call ⟨.value fv, #[xo], #[cT]⟩, ty, ps, af, gd⟩ : Oper) r ⟨tm, hp, gn, us, L⟩ := ⟨fun hop => by
  simp only [Bool.and_eq_true, Nat.ble_eq, Bool.not_eq_true'] at hf
  have hnu : t ∉ us := fun hm => by have := hf.2; simp at this; exact this hm
  refine ⟨_, ⟨[], [(t, some ⟨117, 0, 0, true, newCur bs hh⟩)], [t], .c (.pt t 0)⟩, hop, ?_, fun m hm => ?_, za4 (by exact zx), ?_⟩
  · intro τ a w ha hsim K hK
    obtain ⟨φ, F, St, hsim⟩ := hsim
    have e1 : τ.ev xo = .c (.ro bs.length 1 (acL (bE8 bs))) := by rw [ha.ev xo (by simp [Op.operands, Call.operands])]; exact hx
    have e2 : τ.ev fv = .c (.fn 36 []) := by rw [ha.ev fv (by simp [Op.operands, Call.operands])]; exact hfv
    have v1 := hsim.ev xo
    have v2 := hsim.ev fv
    rw [e1] at v1
    rw [e2] at v2
    simp only [VR, CR] at v2
    obtain ⟨-, us2, hfu, hcaps⟩ := v2
    obtain ⟨rfl, -⟩ : us2 = [] ∧ True := by simp only [CRL] at hcaps; exact ⟨hcaps.1, trivial⟩
    obtain ⟨A, c, hev, hrd⟩ := zm19 v1
    unfold wpOp
    rw [hop]
    have hw := zi10 hsim (b := true) (by rw [ha.gw]; exact hg)
    simp only [hw, if_true]
    refine .inl ?_
    unfold Oper.wp
    have hrun : (execOp a.eval (⟨some t, .call ⟨.value fv, #[xo], #[cT]⟩, ty, ps, af, gd⟩ : Oper)).run Try.prog w = .ok (.enter 36 #[.slice A bs.length c]) w := by
      have h1 : (resolve a.eval ⟨.value fv, #[xo], #[cT]⟩ ty).run Try.prog w = .ok { target := .fn (.func 36) #[], args := #[.slice A bs.length c] } w := by
        unfold resolve; simp only [hfu, Deferred.ofValue, Sem.run_pure]
        simp [hev]
      have h2 : execOp a.eval (⟨some t, .call ⟨.value fv, #[xo], #[cT]⟩, ty, ps, af, gd⟩ : Oper) = (do let d ← resolve a.eval ⟨.value fv, #[xo], #[cT]⟩ ty; invoke d.target d.args) := by unfold execOp; rfl
      rw [h2, Sem.run_bind, h1]
      simp only [Result.andThen_ok, invoke]
      exact ze6 (by kernel_rfl) _ _
    rw [hrun, Oper.upon_enter]
    refine (hnew A c w hrd).mono ?_
    rintro e w' ⟨rfl, n, rfl⟩
    have hcr : CRL w St φ τ.Kn (newCur bs hh) [.slice A bs.length c, .int .i64 0, .int .i64 hh] [] := by
      refine CRL.cons (f := []) (f' := []) ?_ (CRL.cons (f := []) (f' := []) (by simp only [CR]; exact ⟨trivial, rfl, trivial⟩) (CRL.cons (f := []) (f' := []) (by simp only [CR]; exact ⟨trivial, rfl, trivial⟩) CRL.nil))
      simp only [VR] at v1
      rw [← hev]
      exact v1
    obtain ⟨φ', F', St', s1, s2⟩ := hsim.newBox (id := t) (by rw [ha.gn]; exact hf.1) (ha.us t (by simp)) hcr 117
    have s3 := s1.keep (w' := (w.alloc (.cells #[.slice A bs.length c, .int .i64 0, .int .i64 hh] 117)).drewN n) (Stp.drawn _ _ none)
    exact hK _ _ ⟨φ', F', St', s3.put (some t) (VR.mono (fun b hb _ => ⟨hb, rfl⟩) (Nat.le_refl _) (fun _ hi => ⟨hi, rfl⟩) _ _ s2)⟩
  · have : m = t := by simpa using hm
    subst this
    exact hnu
  · refine zs2 ?_
    show Walk Try.prog ops Q C false [] r (AS.put _ (some t) _)
    rw [zq4 (by exact zk4 ht)]; exact h⟩
end Go.Proofs.Ytghljnfbbaklnaa
-- MVP
namespace Go.Proofs.Ytghljnfbbaklnaa
open Go.RowKit
set_option maxRecDepth 100000
theorem DrawLet_c {bs : List UInt8} (hl : bs.length ≤ 1048576) : ∃ (l : List E) (k : Int), HOk 8 l ∧ I64 k ∧ Ctr Try.prog 13 [.c (.ro bs.length 1 (acL (bE8 bs)))] [] (.tu [.ag (owE (heapE l)), .c (.v (.int .i64 k))]) [] := by
  obtain ⟨h, hnew⟩ := zn16 bs
  have hc := zt10 (h := h) hl
  have cc := zw hc
  obtain ⟨l, cs1, h1, hlk, c1⟩ := zm16 hc
  have cc1 := zw h1
  obtain ⟨k, cs2, h2, hk, c2⟩ := zn18 h1
  have cc2 := zw h2
  refine ⟨l, k, hlk, hk, zm1 Try.func13 rfl rfl ?_⟩
  repeat' (first | ((apply f_wo); first | ((apply f_mv); first | refine zv (v := .c _) ?_ | refine za ?_) | ((apply f_as); first | refine zl1 (v := .c _) ?_ | refine za ?_) | ((apply f_st); first | refine n_st ?_ | refine zk1 ?_) | refine n_al ?_ | refine za ?_) | ((apply f_w); first | refine zt ?_ | refine zc ?_) | refine zb fun C => ?_ | refine zg ?_ | refine zd ?_ | refine ze ?_ | refine zf ?_)
  refine zf20 hnew ?_
  repeat' (first | ((apply f_wo); first | ((apply f_mv); first | refine zv (v := .c _) ?_ | refine za ?_) | ((apply f_as); first | refine zl1 (v := .c _) ?_ | refine za ?_) | ((apply f_ca); first | refine zy1 6 (c1) ?_ (hl := zp1 (by rfl) cc) | refine zy1 6 (c2) ?_ (hl := zp1 (by rfl) cc1)) | ((apply f_st); first | refine n_st ?_ | refine zk1 ?_) | refine n_al ?_ | refine za ?_) | ((apply f_w); first | refine zt ?_ | refine zc ?_) | refine zb fun C => ?_ | refine zg ?_ | refine zd ?_ | refine ze ?_ | refine zf ?_)
  refine zh1 ?_
  exact ret0 rfl (zz18 (zg9 (ze3 (zt4 rfl rfl rfl (zj _) zd2)) (zg9 zl4 zv15))) ⟨by simp [heapE, owE, owL], rfl⟩
theorem za15 {e : E} (he : e.Ty Try.prog 39) (hsz : e.sz ≤ 1048576) (k : Int) : Ctr Try.prog 16 [.ag (acE e), .c (.v (.int .i64 k))] [] (.ag (owE (heapE (letLE (varsE e) k)))) [] := by
  have cc := zt9 he hsz
  have cl := zt11 he hsz k
  obtain ⟨x0A, x0c, l, rfl, -⟩ := zi1 he
  refine zm1 Try.func16 rfl rfl ?_
  refine zg ?_
  refine zb fun C => ?_
  repeat' (first | ((apply f_wo); first | ((apply f_mv); first | refine zv (v := .c _) ?_ | refine za ?_) | ((apply f_ld); first | refine zy ?_ | refine zr1 ?_ | refine n_ld ?_) | ((apply f_st); first | refine n_st ?_ | refine zk1 ?_) | refine n_al ?_ | refine n_bo ?_ | refine za ?_) | ((apply f_w); first | refine zt ?_ | refine zc ?_))
  refine zg ?_
  refine zb fun C => ?_
  repeat' (first | ((apply f_wo); first | ((apply f_mv); first | refine zv (v := .c _) ?_ | refine za ?_) | ((apply f_ld); first | refine zy ?_ | refine zr1 ?_ | refine n_ld ?_) | ((apply f_ca); first | refine zj2 (cc) ?_ | refine ze2 (cc) ?_) | ((apply f_st); first | refine n_st ?_ | refine zk1 ?_) | refine n_al ?_ | refine n_bo ?_ | refine za ?_) | ((apply f_w); first | refine zt ?_ | refine zc ?_))
  refine za3 (zi5 (i := 5) (j := 800) rfl rfl rfl (pre := []) (post := []) rfl) ?_
  refine zg ?_
  refine zb fun C => ?_
  repeat' (first | ((apply f_wo); first | ((apply f_mv); first | refine zv (v := .c _) ?_ | refine za ?_) | ((apply f_ld); first | refine zy ?_ | refine zr1 ?_ | refine n_ld ?_) | ((apply f_ca); first | refine zy1 5 (cl) ?_) | ((apply f_st); first | refine n_st ?_ | refine zk1 ?_) | refine n_al ?_ | refine n_bo ?_ | refine za ?_) | ((apply f_w); first | refine zt ?_ | refine zc ?_))
  refine za3 (zr5 900 (i := 5) rfl rfl (pre := []) (post := []) rfl) ?_
  repeat' (first | ((apply f_wo); first | ((apply f_mv); first | refine zv (v := .c _) ?_ | refine za ?_) | ((apply f_ld); first | refine zy ?_ | refine zr1 ?_ | refine n_ld ?_) | ((apply f_st); first | refine n_st ?_ | refine zk1 ?_) | refine n_al ?_ | refine n_bo ?_ | refine za ?_) | ((apply f_w); first | refine zt ?_ | refine zc ?_) | refine zb fun C => ?_ | refine zg ?_ | refine zd ?_ | refine ze ?_ | refine zf ?_)
  refine zh1 ?_
  exact ret0 rfl (ze3 (zt4 rfl rfl rfl (zj _) zd2)) ⟨by simp [heapE, owE, owL], rfl⟩
theorem zb15 {e : E} (he : e.Ty Try.prog 39) (hsz : e.sz ≤ 1048576) (k : Int) : Ctr Try.prog 14 [.ag (acE e), .c (.v (.int .i64 k))] [] (.ag (owE (heapE (letLE (varsE e) k)))) [] := by
  have cc := zb8 he hsz
  have cl := ze20 he hsz k
  obtain ⟨x0A, x0c, l, rfl, -⟩ := zi1 he
  refine zm1 Try.func14 rfl rfl ?_
  refine zg ?_
  refine zb fun C => ?_
  repeat' (first | ((apply f_wo); first | ((apply f_mv); first | refine zv (v := .c _) ?_ | refine za ?_) | ((apply f_ld); first | refine zy ?_ | refine zr1 ?_ | refine n_ld ?_) | ((apply f_st); first | refine n_st ?_ | refine zk1 ?_) | refine n_al ?_ | refine n_bo ?_ | refine za ?_) | ((apply f_w); first | refine zt ?_ | refine zc ?_))
  refine zg ?_
  refine zb fun C => ?_
  repeat' (first | ((apply f_wo); first | ((apply f_mv); first | refine zv (v := .c _) ?_ | refine za ?_) | ((apply f_ld); first | refine zy ?_ | refine zr1 ?_ | refine n_ld ?_) | ((apply f_ca); first | refine zj2 (cc) ?_ | refine ze2 (cc) ?_) | ((apply f_st); first | refine n_st ?_ | refine zk1 ?_) | refine n_al ?_ | refine n_bo ?_ | refine za ?_) | ((apply f_w); first | refine zt ?_ | refine zc ?_))
  refine za3 (zi5 (i := 5) (j := 800) rfl rfl rfl (pre := []) (post := []) rfl) ?_
  refine zg ?_
  refine zb fun C => ?_
  repeat' (first | ((apply f_wo); first | ((apply f_mv); first | refine zv (v := .c _) ?_ | refine za ?_) | ((apply f_ld); first | refine zy ?_ | refine zr1 ?_ | refine n_ld ?_) | ((apply f_ca); first | refine zy1 5 (cl) ?_) | ((apply f_st); first | refine n_st ?_ | refine zk1 ?_) | refine n_al ?_ | refine n_bo ?_ | refine za ?_) | ((apply f_w); first | refine zt ?_ | refine zc ?_))
  refine za3 (zr5 900 (i := 5) rfl rfl (pre := []) (post := []) rfl) ?_
  repeat' (first | ((apply f_wo); first | ((apply f_mv); first | refine zv (v := .c _) ?_ | refine za ?_) | ((apply f_ld); first | refine zy ?_ | refine zr1 ?_ | refine n_ld ?_) | ((apply f_st); first | refine n_st ?_ | refine zk1 ?_) | refine n_al ?_ | refine n_bo ?_ | refine za ?_) | ((apply f_w); first | refine zt ?_ | refine zc ?_) | refine zb fun C => ?_ | refine zg ?_ | refine zd ?_ | refine ze ?_ | refine zf ?_)
  refine zh1 ?_
  exact ret0 rfl (ze3 (zt4 rfl rfl rfl (zj _) zd2)) ⟨by simp [heapE, owE, owL], rfl⟩
theorem zm12 {e : E} (he : e.Ty Try.prog 39) (hsz : e.sz ≤ 1048576) (k : Int) : Ctr Try.prog 17 [.ag (acE e), .c (.v (.int .i64 k))] [] (.ag (owE (heapE (holdLE (varsE e) k)))) [] := by
  have cc := zt9 he hsz
  have cl := zv9 he hsz k
  obtain ⟨x0A, x0c, l, rfl, -⟩ := zi1 he
  refine zm1 Try.func17 rfl rfl ?_
  refine zg ?_
  refine zb fun C => ?_
  repeat' (first | ((apply f_wo); first | ((apply f_mv); first | refine zv (v := .c _) ?_ | refine za ?_) | ((apply f_ld); first | refine zy ?_ | refine zr1 ?_ | refine n_ld ?_) | ((apply f_st); first | refine n_st ?_ | refine zk1 ?_) | refine n_al ?_ | refine n_bo ?_ | refine za ?_) | ((apply f_w); first | refine zt ?_ | refine zc ?_))
  refine zg ?_
  refine zb fun C => ?_
  repeat' (first | ((apply f_wo); first | ((apply f_mv); first | refine zv (v := .c _) ?_ | refine za ?_) | ((apply f_ld); first | refine zy ?_ | refine zr1 ?_ | refine n_ld ?_) | ((apply f_ca); first | refine zj2 (cc) ?_ | refine ze2 (cc) ?_) | ((apply f_st); first | refine n_st ?_ | refine zk1 ?_) | refine n_al ?_ | refine n_bo ?_ | refine za ?_) | ((apply f_w); first | refine zt ?_ | refine zc ?_))
  refine za3 (zi5 (i := 5) (j := 800) rfl rfl rfl (pre := []) (post := []) rfl) ?_
  refine zg ?_
  refine zb fun C => ?_
  repeat' (first | ((apply f_wo); first | ((apply f_mv); first | refine zv (v := .c _) ?_ | refine za ?_) | ((apply f_ld); first | refine zy ?_ | refine zr1 ?_ | refine n_ld ?_) | ((apply f_ca); first | refine zy1 5 (cl) ?_) | ((apply f_st); first | refine n_st ?_ | refine zk1 ?_) | refine n_al ?_ | refine n_bo ?_ | refine za ?_) | ((apply f_w); first | refine zt ?_ | refine zc ?_))
  refine za3 (zr5 900 (i := 5) rfl rfl (pre := []) (post := []) rfl) ?_
  repeat' (first | ((apply f_wo); first | ((apply f_mv); first | refine zv (v := .c _) ?_ | refine za ?_) | ((apply f_ld); first | refine zy ?_ | refine zr1 ?_ | refine n_ld ?_) | ((apply f_st); first | refine n_st ?_ | refine zk1 ?_) | refine n_al ?_ | refine n_bo ?_ | refine za ?_) | ((apply f_w); first | refine zt ?_ | refine zc ?_) | refine zb fun C => ?_ | refine zg ?_ | refine zd ?_ | refine ze ?_ | refine zf ?_)
  refine zh1 ?_
  exact ret0 rfl (ze3 (zt4 rfl rfl rfl (zj _) zd2)) ⟨by simp [heapE, owE, owL], rfl⟩
theorem zn12 {e : E} (he : e.Ty Try.prog 39) (hsz : e.sz ≤ 1048576) (k : Int) : Ctr Try.prog 15 [.ag (acE e), .c (.v (.int .i64 k))] [] (.ag (owE (heapE (holdLE (varsE e) k)))) [] := by
  have cc := zb8 he hsz
  have cl := zj19 he hsz k
  obtain ⟨x0A, x0c, l, rfl, -⟩ := zi1 he
  refine zm1 Try.func15 rfl rfl ?_
  refine zg ?_
  refine zb fun C => ?_
  repeat' (first | ((apply f_wo); first | ((apply f_mv); first | refine zv (v := .c _) ?_ | refine za ?_) | ((apply f_ld); first | refine zy ?_ | refine zr1 ?_ | refine n_ld ?_) | ((apply f_st); first | refine n_st ?_ | refine zk1 ?_) | refine n_al ?_ | refine n_bo ?_ | refine za ?_) | ((apply f_w); first | refine zt ?_ | refine zc ?_))
  refine zg ?_
  refine zb fun C => ?_
  repeat' (first | ((apply f_wo); first | ((apply f_mv); first | refine zv (v := .c _) ?_ | refine za ?_) | ((apply f_ld); first | refine zy ?_ | refine zr1 ?_ | refine n_ld ?_) | ((apply f_ca); first | refine zj2 (cc) ?_ | refine ze2 (cc) ?_) | ((apply f_st); first | refine n_st ?_ | refine zk1 ?_) | refine n_al ?_ | refine n_bo ?_ | refine za ?_) | ((apply f_w); first | refine zt ?_ | refine zc ?_))
  refine za3 (zi5 (i := 5) (j := 800) rfl rfl rfl (pre := []) (post := []) rfl) ?_
  refine zg ?_
  refine zb fun C => ?_
  repeat' (first | ((apply f_wo); first | ((apply f_mv); first | refine zv (v := .c _) ?_ | refine za ?_) | ((apply f_ld); first | refine zy ?_ | refine zr1 ?_ | refine n_ld ?_) | ((apply f_ca); first | refine zy1 5 (cl) ?_) | ((apply f_st); first | refine n_st ?_ | refine zk1 ?_) | refine n_al ?_ | refine n_bo ?_ | refine za ?_) | ((apply f_w); first | refine zt ?_ | refine zc ?_))
  refine za3 (zr5 900 (i := 5) rfl rfl (pre := []) (post := []) rfl) ?_
  repeat' (first | ((apply f_wo); first | ((apply f_mv); first | refine zv (v := .c _) ?_ | refine za ?_) | ((apply f_ld); first | refine zy ?_ | refine zr1 ?_ | refine n_ld ?_) | ((apply f_st); first | refine n_st ?_ | refine zk1 ?_) | refine n_al ?_ | refine n_bo ?_ | refine za ?_) | ((apply f_w); first | refine zt ?_ | refine zc ?_) | refine zb fun C => ?_ | refine zg ?_ | refine zd ?_ | refine ze ?_ | refine zf ?_)
  refine zh1 ?_
  exact ret0 rfl (ze3 (zt4 rfl rfl rfl (zj _) zd2)) ⟨by simp [heapE, owE, owL], rfl⟩
end Go.Proofs.Ytghljnfbbaklnaa
namespace Go.Proofs.Ytghljnfbbaklnaa
open Go.RowKit
theorem zv11 {α : Type} {f : α → Bool} {l : List α} {k : Nat} (h : k < l.length) (hf : f l[k] = false) : l.all f = false := by
  rw [List.all_eq_false]; exact ⟨l[k], List.getElem_mem h, by simp [hf]⟩
theorem zw11 {α : Type} {f : α → Bool} {l : List α} (h : ∀ i (hi : i < l.length), f l[i] = true) : l.all f = true := by
  rw [List.all_eq_true]; intro x hx
  obtain ⟨i, hi, rfl⟩ := List.getElem_of_mem hx
  exact h i hi
end Go.Proofs.Ytghljnfbbaklnaa
