/- The reference's reader of regular expressions: items, rows of items, alternatives; ParseRex: by the abstract machine. -/
import Derived.Deep.RegionHeld3
import Derived.StillTailTactics
import Derived.Test.YtfdjognmechcfaaModuleOkA
import Derived.Test.YtfdjognmechcfaaModuleOkB
import Derived.Test.YtfdjognmechcfaaModuleOkC
import Derived.Test.YtfdjognmechcfaaModuleOkD
namespace Go.Proofs.Ytfdjognmechcfaa
open Go.RowKit
set_option maxRecDepth 100000
set_option maxHeartbeats 4000000 in
theorem l3Item_c {s : ByteArray} (hs : s.size ≤ 1048576) {atom : PS → E × PS} {p : PS} (hg : GoodS s p (atom p))
    (ha : Ctr Try.prog 109 [.c (.pt 0 0)] [rdrS s p] (.ag (owE (atom p).1)) [rdrS s (atom p).2]) :
    Ctr Try.prog 97 [.c (.pt 0 0)] [rdrS s p] (.ag (owE (itemS s atom p).1)) [rdrS s (itemS s atom p).2] := by
  have hr : itemS s atom p = if isB s 42 (atom p).2 then (rexE 6 ByteArray.empty [(atom p).1], (atom p).2.go 1) else if isB s 43 (atom p).2 then (rexE 7 ByteArray.empty [(atom p).1], (atom p).2.go 1) else if isB s 63 (atom p).2 then (rexE 8 ByteArray.empty [(atom p).1], (atom p).2.go 1) else atom p := rfl
  rw [hr]
  clear hr
  obtain ⟨⟨e, q⟩, hq⟩ : ∃ r, atom p = r := ⟨_, rfl⟩
  rw [hq] at ha hg ⊢
  have hfi : Fine e := hg.fine
  clear hg hq
  dsimp only at ha ⊢
  cases hfi with
  | mk k t l hk ht hl2 =>
  have b1 := zo10 hs (c := 42) (by omega) (p := q)
  have b2 := zo10 hs (c := 43) (by omega) (p := q)
  have b3 := zo10 hs (c := 63) (by omega) (p := q)
  obtain ⟨qa, qd, qb⟩ := q
  refine zm2 Try.func97 rfl rfl ?_
  cases h1 : isB s 42 ⟨qa, qd, qb⟩ with
  | true =>
    rw [zj7 h1, h1] at b1
    rw [if_pos rfl]
    unfold rdrS at ha b1 ⊢
    dsimp only [PS.go] at ha b1 ⊢
    repeat' (first | ((apply f_wo); first | ((apply f_mv); first | refine zg1 (v := .c _) ?_ | refine za ?_) | ((apply f_as); first | refine zf1 (v := .c _) ?_ | refine za ?_) | ((apply f_ld); first | refine zw ?_ | refine zi1 ?_ | refine n_ld ?_) | ((apply f_ca); first | refine zl2 0 (ha) ?_ | refine zl2 0 (b1) ?_) | ((apply f_st); first | refine n_st ?_ | refine zt1 ?_) | refine n_al ?_ | refine n_bs ?_ | refine za ?_) | ((apply f_w); first | refine zy ?_ | refine zc ?_) | refine zb fun C => ?_ | refine zn ?_ | refine ze ?_ | refine zh ?_ | refine zi ?_ | refine zx rfl ?_ | refine zv rfl ?_)
    refine zm4 (ze8 (i := 10) (j := 600) rfl rfl rfl (pre := [_, _]) (post := []) rfl) ?_
    refine zu ?_; refine ret1 rfl (zl3 (zu2 rfl (zu2 rfl (zk3 rfl rfl rfl (by first | exact zg _ | exact zf _ | exact bytC_clo _ | (simp [cloL, clo, zg, zf, zk, zj, zd]; done) | (simp [cloL, clo, opC, opL, zg, zf, zk, zj, zd]; done)) zs2)))) rfl (by first | rfl | (simp [cloL, clo, zg, zf, zk, zj, zd]; done)) rfl ⟨?_, ?_⟩ <;> rfl
  | false =>
    rw [zq10 h1, h1] at b1
    rw [if_neg (by simp)]
    cases h2 : isB s 43 ⟨qa, qd, qb⟩ with
    | true =>
      rw [zj7 h2, h2] at b2
      rw [if_pos rfl]
      unfold rdrS at ha b1 b2 ⊢
      dsimp only [PS.go] at ha b1 b2 ⊢
      repeat' (first | ((apply f_wo); first | ((apply f_mv); first | refine zg1 (v := .c _) ?_ | refine za ?_) | ((apply f_as); first | refine zf1 (v := .c _) ?_ | refine za ?_) | ((apply f_ld); first | refine zw ?_ | refine zi1 ?_ | refine n_ld ?_) | ((apply f_ca); first | refine zl2 0 (ha) ?_ | refine zl2 0 (b1) ?_ | refine zl2 0 (b2) ?_) | ((apply f_st); first | refine n_st ?_ | refine zt1 ?_) | refine n_al ?_ | refine n_bs ?_ | refine za ?_) | ((apply f_w); first | refine zy ?_ | refine zc ?_) | refine zb fun C => ?_ | refine zn ?_ | refine ze ?_ | refine zh ?_ | refine zi ?_ | refine zx rfl ?_ | refine zv rfl ?_)
      refine zm4 (ze8 (i := 16) (j := 600) rfl rfl rfl (pre := [_, _]) (post := []) rfl) ?_
      refine zu ?_; refine ret1 rfl (zl3 (zu2 rfl (zu2 rfl (zk3 rfl rfl rfl (by first | exact zg _ | exact zf _ | exact bytC_clo _ | (simp [cloL, clo, zg, zf, zk, zj, zd]; done) | (simp [cloL, clo, opC, opL, zg, zf, zk, zj, zd]; done)) zs2)))) rfl (by first | rfl | (simp [cloL, clo, zg, zf, zk, zj, zd]; done)) rfl ⟨?_, ?_⟩ <;> rfl
    | false =>
      rw [zq10 h2, h2] at b2
      rw [if_neg (by simp)]
      cases h3 : isB s 63 ⟨qa, qd, qb⟩ with
      | true =>
        rw [zj7 h3, h3] at b3
        rw [if_pos rfl]
        unfold rdrS at ha b1 b2 b3 ⊢
        dsimp only [PS.go] at ha b1 b2 b3 ⊢
        repeat' (first | ((apply f_wo); first | ((apply f_mv); first | refine zg1 (v := .c _) ?_ | refine za ?_) | ((apply f_as); first | refine zf1 (v := .c _) ?_ | refine za ?_) | ((apply f_ld); first | refine zw ?_ | refine zi1 ?_ | refine n_ld ?_) | ((apply f_ca); first | refine zl2 0 (ha) ?_ | refine zl2 0 (b1) ?_ | refine zl2 0 (b2) ?_ | refine zl2 0 (b3) ?_) | ((apply f_st); first | refine n_st ?_ | refine zt1 ?_) | refine n_al ?_ | refine n_bs ?_ | refine za ?_) | ((apply f_w); first | refine zy ?_ | refine zc ?_) | refine zb fun C => ?_ | refine zn ?_ | refine ze ?_ | refine zh ?_ | refine zi ?_ | refine zx rfl ?_ | refine zv rfl ?_)
        refine zm4 (ze8 (i := 22) (j := 600) rfl rfl rfl (pre := [_, _]) (post := []) rfl) ?_
        refine zu ?_; refine ret1 rfl (zl3 (zu2 rfl (zu2 rfl (zk3 rfl rfl rfl (by first | exact zg _ | exact zf _ | exact bytC_clo _ | (simp [cloL, clo, zg, zf, zk, zj, zd]; done) | (simp [cloL, clo, opC, opL, zg, zf, zk, zj, zd]; done)) zs2)))) rfl (by first | rfl | (simp [cloL, clo, zg, zf, zk, zj, zd]; done)) rfl ⟨?_, ?_⟩ <;> rfl
      | false =>
        rw [zq10 h3, h3] at b3
        rw [if_neg (by simp)]
        unfold rdrS at ha b1 b2 b3 ⊢
        dsimp only at ha b1 b2 b3 ⊢
        repeat' (first | ((apply f_wo); first | ((apply f_mv); first | refine zg1 (v := .c _) ?_ | refine za ?_) | ((apply f_as); first | refine zf1 (v := .c _) ?_ | refine za ?_) | ((apply f_ld); first | refine zw ?_ | refine zi1 ?_ | refine n_ld ?_) | ((apply f_ca); first | refine zl2 0 (ha) ?_ | refine zl2 0 (b1) ?_ | refine zl2 0 (b2) ?_ | refine zl2 0 (b3) ?_) | ((apply f_st); first | refine n_st ?_ | refine zt1 ?_) | refine n_al ?_ | refine n_bs ?_ | refine za ?_) | ((apply f_w); first | refine zy ?_ | refine zc ?_) | refine zb fun C => ?_ | refine zn ?_ | refine ze ?_ | refine zh ?_ | refine zi ?_ | refine zx rfl ?_ | refine zv rfl ?_)
        refine zu ?_; refine ret1 rfl (zl3 (zu2 rfl (zu2 rfl (zk3 rfl rfl rfl (by first | exact zg _ | exact zf _ | exact bytC_clo _ | (simp [cloL, clo, zg, zf, zk, zj, zd]; done) | (simp [cloL, clo, opC, opL, zg, zf, zk, zj, zd]; done)) zs2)))) rfl (by first | rfl | (simp [cloL, clo, zg, zf, zk, zj, zd]; done)) rfl ⟨?_, ?_⟩ <;> rfl
theorem zs21 {s : ByteArray} {a d v : Nat} {b : Bool} (hv : bAt s a = v) : goS s ⟨a, d, b⟩ = (!b && decide (a < s.size) && !(v == 124) && !(v == 41)) := by unfold goS; rw [hv]
theorem zn15 {s : ByteArray} {item : PS → E × PS} {p : PS} (h : goS s p = false) : ∀ (n : Nat) (l : List E), catLoopS s item n l p = (l, p)
  | 0, _ => rfl
  | n + 1, l => by unfold catLoopS; rw [if_neg (by rw [h]; simp)]
theorem zo15 {s : ByteArray} {cat : PS → E × PS} {p : PS} (h : isB s 124 p = false) : ∀ (n : Nat) (l : List E), altLoopS s cat n l p = (l, p)
  | 0, _ => rfl
  | n + 1, l => by unfold altLoopS; rw [if_neg (by rw [h]; simp)]
set_option maxHeartbeats 8000000 in
theorem l3Cat_c {s : ByteArray} (hs : s.size ≤ 1048576) {item : PS → E × PS} {p0 : PS} (hp : Pre s p0)
    (hg : ∀ q, Pre s q → p0.a ≤ q.a → GoodS s q (item q) ∧ ((item q).2.b = false → q.a < (item q).2.a))
    (hi : ∀ q, Pre s q → p0.a ≤ q.a → Ctr Try.prog 97 [.c (.pt 0 0)] [rdrS s q] (.ag (owE (item q).1)) [rdrS s (item q).2]) :
    Ctr Try.prog 85 [.c (.pt 0 0)] [rdrS s p0] (.ag (owE (catS s item p0).1)) [rdrS s (catS s item p0).2] := by
  have hic0 := hi p0 hp (Nat.le_refl _)
  obtain ⟨hg0, hu0⟩ := hg p0 hp (Nat.le_refl _)
  have hL0 := GoodLS.one hg0
  have hr : catS s item p0 = (oneOr 4 (catLoopS s item (s.size + 1) [(item p0).1] (item p0).2).1, (catLoopS s item (s.size + 1) [(item p0).1] (item p0).2).2) := rfl
  rw [hr]
  clear hr
  obtain ⟨⟨e, q0⟩, hq0⟩ : ∃ r, item p0 = r := ⟨_, rfl⟩
  rw [hq0] at hic0 hg0 hL0 hu0 ⊢
  have hfi : Fine e := hg0.fine
  dsimp only at hic0 hL0 hu0 ⊢
  cases hfi with
  | mk k t l hk ht hl2 =>
  refine zm2 Try.func85 rfl rfl ?_
  repeat' (first | ((apply f_wo); first | ((apply f_gs); first | refine n_sk ?_) | ((apply f_mv); first | (refine zw1 ?_ ?_ <;> intro hG <;> (try cases hG)) | refine zg1 (v := .c _) ?_ | refine za ?_) | ((apply f_as); first | refine zf1 (v := .c _) ?_ | refine za ?_) | ((apply f_fa); first | refine n_fa ?_ | refine zk1 ?_) | ((apply f_ld); first | refine zp1 ?_ | refine zb1 ?_ | refine zw ?_ | refine zi1 ?_ | refine n_ld ?_) | ((apply f_ca); first | refine zl2 0 (hic0) ?_) | ((apply f_bi); first | refine zd1 ?_ | refine zc1 ?_ | refine ze1 ?_ | refine zq2 ?_ | refine zq2 (hnu := zl _) ?_ | refine zv1 ?_ | refine zv1 (hnu := zl _) ?_ | refine za ?_) | ((apply f_st); first | refine n_st ?_ | refine zt1 ?_) | ((apply f_ia); first | refine n_ix ?_ | refine zc2 ?_ | refine za ?_) | ((apply zz1); first | refine za1 ?_ | refine za ?_) | ((apply zy2); first | refine zy1 ?_ | refine za ?_) | ((apply za2); first | refine zq ?_ | refine za ?_) | ((apply f_no); first | refine zj2 ?_ | refine za ?_) | ((apply f_pk); first | refine zu1 (v := .c _) ?_ | refine za ?_) | refine n_al ?_ | refine n_bs ?_ | refine zx3 ?_ | refine za ?_) | ((apply f_w); first | refine zy ?_ | refine zc ?_) | ((apply d_wo); first | ((apply d_gs); first | refine o_sk ?_ | refine za4 ?_) | ((apply d_bo); (refine o_gm ?_ ?_ <;> intro hG <;> (try cases hG))) | ((apply d_mv); refine zr ?_) | ((apply d_as); refine zr ?_) | ((apply d_fa); first | refine o_fa ?_ | refine zb4 ?_) | ((apply d_ld); first | refine zc4 ?_ | refine zz2 ?_ | refine za3 ?_ | refine zd4 ?_ | refine zr ?_ | refine o_ld ?_) | ((apply d_ca); first | refine zv4 0 (hic0) ?_) | ((apply d_bi); first | refine zn3 ?_ | refine zm3 ?_ | refine zo3 ?_ | refine zw2 ?_ | refine zw2 (hnu := zl _) ?_ | refine zx1 ?_ | refine zx1 (hnu := zl _) ?_ | refine zr ?_) | ((apply d_st); first | refine o_st ?_ | refine zq4 ?_) | ((apply d_ia); first | refine o_ix ?_ | refine zz6 ?_ | refine zr ?_) | ((apply d_bb); first | refine zl1 ?_ | refine zm1 ?_ | refine zn1 ?_ | refine zw3 ?_ | refine zr ?_) | refine o_al ?_ | refine o_bs ?_ | refine zo4 ?_ | refine zr ?_) | ((apply d_w); first | refine zy ?_ | refine zc ?_) | refine zb fun C => ?_ | refine zp (by kernel_rfl) (by kernel_rfl) fun C => ?_ | refine zn ?_ | refine ze ?_ | refine zh ?_ | refine zi ?_ | refine zx rfl ?_ | refine zv rfl ?_)
  refine zp3 (fun q : List E × PS => ⟨tmsF [(0, .c (.pt 0 0)), (2, .c (.pt 2 0)), (3, .c (.sl 9 q.1.length))], hpsF [(0, 0, ⟨0, 0, 0, true, rdrS s q.2⟩), (2, 2, ⟨86, 0, 0, true, [.v (.int .i64 0), .v (.string ByteArray.empty), .v (.slice none 0 0)]⟩), (9, 9, ⟨86, 3, q.1.length, false, owL q.1⟩)], 1, [0, 2, 9], 61⟩)
    (fun N q => GoodLS s p0 q.1 q.2 ∧ (q.2.b = true ∨ s.size + 2 ≤ q.2.a + N) ∧ catLoopS s item N q.1 q.2 = catLoopS s item (s.size + 1) [rexE k t l] q0) (s.size + 1) ([rexE k t l], q0) ⟨hL0, by
      cases hb : q0.b with
      | true => exact .inl rfl
      | false => right; have := hu0 hb; dsimp only; omega, rfl⟩ ?_ ?_
  · refine (ze8 (i := 6) (j := 600) rfl rfl rfl (pre := [_, _]) (post := []) rfl).trans ?_
    (refine zm7 (fun j => if j = 9 then 6 else j) _ _ rfl rfl ?_ ?_ <;> (repeat' (first | exact TmOk.nil | exact RwOk.nil | refine TmOk.cons ?_ ?_ | refine RwOk.cons ?_ ?_ | rfl | (refine rnV_id' rfl ?_; (first | rfl | (simp [cloV, cloL, clo, zj, zf, zk, zg, zd]; done))) | (refine zd3 ?_; first | rfl | omega | (rw [zb2 (by omega) (by omega)]; omega)) | (refine zi2 rfl ?_; (first | rfl | (simp [cloV, cloL, clo, zj, zf, zk, zg, zd]; done))) | exact zj4 rfl rfl | (refine ze3 (by rfl) (by rfl) ?_ ?_ <;> (first | rfl | (simp [cloV, cloL, clo, zj, zf, zk, zg, zd]; done))) | (refine rw_rn' rfl rfl ?_; simp; done))))
  rintro N ⟨L, q⟩ ⟨hgl, hN, htot⟩
  dsimp only at hgl hN htot ⊢
  have hpre := hgl.pre hp
  obtain ⟨a, d, b⟩ := q
  obtain ⟨v, hv⟩ : ∃ v, bAt s a = v := ⟨_, rfl⟩
  have hgp := zs21 (d := d) (b := b) hv
  have hlen := hgl.len.1
  have hale : a ≤ s.size := hgl.le
  dsimp only at hlen
  cases hgo : goS s ⟨a, d, b⟩ with
  | true =>
    obtain ⟨hb, hlt, hv1, hv2⟩ := goS_to hgo
    dsimp only at hb hlt hv1 hv2 hN
    subst hb
    rw [hv] at hv1 hv2
    have hN := hN.resolve_left (by simp)
    obtain ⟨M, rfl⟩ : ∃ M, N = M + 1 := ⟨N - 1, by omega⟩
    have hic := hi _ hpre hgl.ge
    have hgd := hg _ hpre hgl.ge
    have hst : catLoopS s item (M + 1) L ⟨a, d, false⟩ = catLoopS s item M (L ++ [(item ⟨a, d, false⟩).1]) (item ⟨a, d, false⟩).2 := by
      show (if goS s ⟨a, d, false⟩ then _ else _) = _
      rw [if_pos hgo]
    rw [hst] at htot
    clear hst hi hg hic0
    have hgl2 := hgl.step rfl hgd
    obtain ⟨⟨e2, q2⟩, hq2⟩ : ∃ r, item ⟨a, d, false⟩ = r := ⟨_, rfl⟩
    rw [hq2] at hic htot hgd hgl2
    dsimp only at hic htot hgd hgl2
    have hfi2 : Fine e2 := hgd.1.fine
    cases hfi2 with
    | mk k' t' l' hk' ht' hl2' =>
    unfold rdrS at hic ⊢
    dsimp only at hic ⊢
    repeat' (first | ((apply f_wo); first | ((apply f_gs); first | refine n_sk ?_) | ((apply f_mv); first | (refine zw1 ?_ ?_ <;> intro hG <;> (try cases hG)) | refine zg1 (v := .c _) ?_ | refine za ?_) | ((apply f_as); first | refine zf1 (v := .c _) ?_ | refine za ?_) | ((apply f_fa); first | refine n_fa ?_ | refine zk1 ?_) | ((apply f_ld); first | refine zp1 ?_ | refine zb1 ?_ | refine zw ?_ | refine zi1 ?_ | refine n_ld ?_) | ((apply f_ca); first | refine zl2 0 (hic) ?_) | ((apply f_bi); first | refine zd1 ?_ | refine zc1 ?_ | refine ze1 ?_ | refine zq2 ?_ | refine zq2 (hnu := zl _) ?_ | refine zv1 ?_ | refine zv1 (hnu := zl _) ?_ | refine za ?_) | ((apply f_st); first | refine n_st ?_ | refine zt1 ?_) | ((apply f_ia); first | refine n_ix ?_ | refine zc2 ?_ | refine za ?_) | ((apply zz1); first | refine za1 ?_ | refine za ?_) | ((apply zy2); first | refine zy1 ?_ | refine za ?_) | ((apply za2); first | refine zq ?_ | refine za ?_) | ((apply f_no); first | refine zj2 ?_ | refine za ?_) | ((apply f_pk); first | refine zu1 (v := .c _) ?_ | refine za ?_) | refine n_al ?_ | refine n_bs ?_ | refine zx3 ?_ | refine za ?_) | ((apply f_w); first | refine zy ?_ | refine zc ?_) | ((apply d_wo); first | ((apply d_gs); first | refine o_sk ?_ | refine za4 ?_) | ((apply d_bo); (refine o_gm ?_ ?_ <;> intro hG <;> (try cases hG))) | ((apply d_mv); refine zr ?_) | ((apply d_as); refine zr ?_) | ((apply d_fa); first | refine o_fa ?_ | refine zb4 ?_) | ((apply d_ld); first | refine zc4 ?_ | refine zz2 ?_ | refine za3 ?_ | refine zd4 ?_ | refine zr ?_ | refine o_ld ?_) | ((apply d_ca); first | refine zv4 0 (hic) ?_) | ((apply d_bi); first | refine zn3 ?_ | refine zm3 ?_ | refine zo3 ?_ | refine zw2 ?_ | refine zw2 (hnu := zl _) ?_ | refine zx1 ?_ | refine zx1 (hnu := zl _) ?_ | refine zr ?_) | ((apply d_st); first | refine o_st ?_ | refine zq4 ?_) | ((apply d_ia); first | refine o_ix ?_ | refine zz6 ?_ | refine zr ?_) | ((apply d_bb); first | refine zl1 ?_ | refine zm1 ?_ | refine zn1 ?_ | refine zw3 ?_ | refine zr ?_) | refine o_al ?_ | refine o_bs ?_ | refine zo4 ?_ | refine zr ?_) | ((apply d_w); first | refine zy ?_ | refine zc ?_) | refine zb fun C => ?_ | refine zp (by kernel_rfl) (by kernel_rfl) fun C => ?_ | refine zn ?_ | refine ze ?_ | refine zh ?_ | refine zi ?_)
    all_goals first
      | (exfalso; clear hic hgl hgl2 hgd hL0 hg0 htot hN hpre; simp only [decide_eq_false_iff_not, bne_eq_false_iff_eq] at hG; omega)
      | skip
    rw [hv]
    refine zt (by rfl) (fun hC => ?_) fun hC => absurd (bne_eq_false_iff_eq.1 hC) (by omega)
    repeat' (first | ((apply f_wo); first | ((apply f_gs); first | refine n_sk ?_) | ((apply f_mv); first | (refine zw1 ?_ ?_ <;> intro hG <;> (try cases hG)) | refine zg1 (v := .c _) ?_ | refine za ?_) | ((apply f_as); first | refine zf1 (v := .c _) ?_ | refine za ?_) | ((apply f_fa); first | refine n_fa ?_ | refine zk1 ?_) | ((apply f_ld); first | refine zp1 ?_ | refine zb1 ?_ | refine zw ?_ | refine zi1 ?_ | refine n_ld ?_) | ((apply f_ca); first | refine zl2 0 (hic) ?_) | ((apply f_bi); first | refine zd1 ?_ | refine zc1 ?_ | refine ze1 ?_ | refine zq2 ?_ | refine zq2 (hnu := zl _) ?_ | refine zv1 ?_ | refine zv1 (hnu := zl _) ?_ | refine za ?_) | ((apply f_st); first | refine n_st ?_ | refine zt1 ?_) | ((apply f_ia); first | refine n_ix ?_ | refine zc2 ?_ | refine za ?_) | ((apply zz1); first | refine za1 ?_ | refine za ?_) | ((apply zy2); first | refine zy1 ?_ | refine za ?_) | ((apply za2); first | refine zq ?_ | refine za ?_) | ((apply f_no); first | refine zj2 ?_ | refine za ?_) | ((apply f_pk); first | refine zu1 (v := .c _) ?_ | refine za ?_) | refine n_al ?_ | refine n_bs ?_ | refine zx3 ?_ | refine za ?_) | ((apply f_w); first | refine zy ?_ | refine zc ?_) | ((apply d_wo); first | ((apply d_gs); first | refine o_sk ?_ | refine za4 ?_) | ((apply d_bo); (refine o_gm ?_ ?_ <;> intro hG <;> (try cases hG))) | ((apply d_mv); refine zr ?_) | ((apply d_as); refine zr ?_) | ((apply d_fa); first | refine o_fa ?_ | refine zb4 ?_) | ((apply d_ld); first | refine zc4 ?_ | refine zz2 ?_ | refine za3 ?_ | refine zd4 ?_ | refine zr ?_ | refine o_ld ?_) | ((apply d_ca); first | refine zv4 0 (hic) ?_) | ((apply d_bi); first | refine zn3 ?_ | refine zm3 ?_ | refine zo3 ?_ | refine zw2 ?_ | refine zw2 (hnu := zl _) ?_ | refine zx1 ?_ | refine zx1 (hnu := zl _) ?_ | refine zr ?_) | ((apply d_st); first | refine o_st ?_ | refine zq4 ?_) | ((apply d_ia); first | refine o_ix ?_ | refine zz6 ?_ | refine zr ?_) | ((apply d_bb); first | refine zl1 ?_ | refine zm1 ?_ | refine zn1 ?_ | refine zw3 ?_ | refine zr ?_) | refine o_al ?_ | refine o_bs ?_ | refine zo4 ?_ | refine zr ?_) | ((apply d_w); first | refine zy ?_ | refine zc ?_) | refine zb fun C => ?_ | refine zp (by kernel_rfl) (by kernel_rfl) fun C => ?_ | refine zn ?_ | refine ze ?_ | refine zh ?_ | refine zi ?_ | refine zx rfl ?_ | refine zv rfl ?_)
    refine ⟨M, (L ++ [rexE k' t' l'], q2), by omega, ⟨hgl2, ?_, htot⟩, ?_⟩
    · dsimp only
      cases hb2 : q2.b with
      | true => exact .inl rfl
      | false => right; have := hgd.2 hb2; (try dsimp only at this); omega
    · dsimp only
      rw [List.length_append, List.length_singleton]
      refine (ze8 (i := 52) (j := 5100) rfl rfl rfl (pre := owL L ++ [.v (.int .i64 k'), .v (.string t')]) (post := []) (by rw [List.append_assoc]; rfl)).trans ?_
      (refine zm7 (fun j => if j = 9 then 52 else j) _ _ rfl rfl ?_ ?_ <;> (repeat' (first | exact TmOk.nil | exact RwOk.nil | refine TmOk.cons ?_ ?_ | refine RwOk.cons ?_ ?_ | rfl | (refine rnV_id' rfl ?_; (first | rfl | (simp [cloV, cloL, clo, zj, zf, zk, zg, zd]; done))) | (refine zd3 ?_; first | rfl | omega | (rw [zb2 (by omega) (by omega)]; omega)) | (refine zi2 rfl ?_; (first | rfl | (simp [cloV, cloL, clo, zj, zf, zk, zg, zd]; done))) | exact zj4 rfl rfl | (refine ze3 (by rfl) (by rfl) ?_ ?_ <;> (first | rfl | (simp [cloV, cloL, clo, zj, zf, zk, zg, zd]; done))) | (refine rw_rn' rfl rfl ?_; simp; done))))
      exact za20 (r := ⟨86, 3, L.length + 1, false, (owL L ++ [.v (.int .i64 k'), .v (.string t')]) ++ [.ow 86 l'.length 3 (owL l')]⟩) rfl (by rw [zd8, List.append_assoc]; rfl) (by first | rfl | (simp [cloV, cloL, clo, zj, zf, zk, zg, zd]; done))
  | false =>
    rw [zn15 hgo] at htot
    rw [← htot]
    rw [hgo] at hgp
    have hfine := hgl.fine
    have hne := hgl.ne
    clear htot hi hg hic0 hN hL0 hgl hpre hg0
    have hgo' : b = true ∨ s.size ≤ a ∨ v = 124 ∨ v = 41 := by
      cases b with
      | true => exact .inl rfl
      | false => right; simp at hgp; omega
    unfold rdrS
    dsimp only
    match L, hfine, hne with
    | [], _, h0 => exact absurd h0 (by simp)
    | [x], hf, _ =>
      have hx := hf x (List.mem_singleton.2 rfl)
      cases hx with
      | mk k' t' l' hk' ht' hl2' =>
      cases b <;> repeat' (first | ((apply f_wo); first | ((apply f_gs); first | refine n_sk ?_) | ((apply f_mv); first | (refine zw1 ?_ ?_ <;> intro hG <;> (try cases hG)) | refine zg1 (v := .c _) ?_ | refine za ?_) | ((apply f_as); first | refine zf1 (v := .c _) ?_ | refine za ?_) | ((apply f_fa); first | refine n_fa ?_ | refine zk1 ?_) | ((apply f_ld); first | refine zp1 ?_ | refine zb1 ?_ | refine zw ?_ | refine zi1 ?_ | refine n_ld ?_) | ((apply f_bi); first | refine zd1 ?_ | refine zc1 ?_ | refine ze1 ?_ | refine zq2 ?_ | refine zq2 (hnu := zl _) ?_ | refine zv1 ?_ | refine zv1 (hnu := zl _) ?_ | refine za ?_) | ((apply f_st); first | refine n_st ?_ | refine zt1 ?_) | ((apply f_ia); first | refine n_ix ?_ | refine zc2 ?_ | refine za ?_) | ((apply zz1); first | refine za1 ?_ | refine za ?_) | ((apply zy2); first | refine zy1 ?_ | refine za ?_) | ((apply za2); first | refine zq ?_ | refine za ?_) | ((apply f_no); first | refine zj2 ?_ | refine za ?_) | ((apply f_pk); first | refine zu1 (v := .c _) ?_ | refine za ?_) | refine n_al ?_ | refine n_bs ?_ | refine zx3 ?_ | refine za ?_) | ((apply f_w); first | refine zy ?_ | refine zc ?_) | ((apply d_wo); first | ((apply d_gs); first | refine o_sk ?_ | refine za4 ?_) | ((apply d_bo); (refine o_gm ?_ ?_ <;> intro hG <;> (try cases hG))) | ((apply d_mv); refine zr ?_) | ((apply d_as); refine zr ?_) | ((apply d_fa); first | refine o_fa ?_ | refine zb4 ?_) | ((apply d_ld); first | refine zc4 ?_ | refine zz2 ?_ | refine za3 ?_ | refine zd4 ?_ | refine zr ?_ | refine o_ld ?_) | ((apply d_bi); first | refine zn3 ?_ | refine zm3 ?_ | refine zo3 ?_ | refine zw2 ?_ | refine zw2 (hnu := zl _) ?_ | refine zx1 ?_ | refine zx1 (hnu := zl _) ?_ | refine zr ?_) | ((apply d_st); first | refine o_st ?_ | refine zq4 ?_) | ((apply d_ia); first | refine o_ix ?_ | refine zz6 ?_ | refine zr ?_) | ((apply d_bb); first | refine zl1 ?_ | refine zm1 ?_ | refine zn1 ?_ | refine zw3 ?_ | refine zr ?_) | refine o_al ?_ | refine o_bs ?_ | refine zo4 ?_ | refine zr ?_) | ((apply d_w); first | refine zy ?_ | refine zc ?_) | refine zb fun C => ?_ | refine zp (by kernel_rfl) (by kernel_rfl) fun C => ?_ | refine zn ?_ | refine ze ?_ | refine zh ?_ | refine zi ?_)
      all_goals first
        | refine zv rfl ?_
        | refine zt (by rfl) (fun hC => by exfalso; clear hfine; simp only [bne_iff_ne, ne_eq, Bool.false_eq_true, false_or, decide_eq_true_iff] at *; omega) fun hC => ?_
      all_goals
        refine zm4 (g_rev 800 (i := 9) rfl rfl (pre := [.v (.int .i64 k'), .v (.string t')]) (post := []) rfl) ?_
        repeat' (first | ((apply f_wo); first | ((apply f_gs); first | refine n_sk ?_) | ((apply f_mv); first | (refine zw1 ?_ ?_ <;> intro hG <;> (try cases hG)) | refine zg1 (v := .c _) ?_ | refine za ?_) | ((apply f_as); first | refine zf1 (v := .c _) ?_ | refine za ?_) | ((apply f_fa); first | refine n_fa ?_ | refine zk1 ?_) | ((apply f_ld); first | refine zp1 ?_ | refine zb1 ?_ | refine zw ?_ | refine zi1 ?_ | refine n_ld ?_) | ((apply f_bi); first | refine zd1 ?_ | refine zc1 ?_ | refine ze1 ?_ | refine zq2 ?_ | refine zq2 (hnu := zl _) ?_ | refine zv1 ?_ | refine zv1 (hnu := zl _) ?_ | refine za ?_) | ((apply f_st); first | refine n_st ?_ | refine zt1 ?_) | ((apply f_ia); first | refine n_ix ?_ | refine zc2 ?_ | refine za ?_) | ((apply zz1); first | refine za1 ?_ | refine za ?_) | ((apply zy2); first | refine zy1 ?_ | refine za ?_) | ((apply za2); first | refine zq ?_ | refine za ?_) | ((apply f_no); first | refine zj2 ?_ | refine za ?_) | ((apply f_pk); first | refine zu1 (v := .c _) ?_ | refine za ?_) | refine n_al ?_ | refine n_bs ?_ | refine zx3 ?_ | refine za ?_) | ((apply f_w); first | refine zy ?_ | refine zc ?_) | ((apply d_wo); first | ((apply d_gs); first | refine o_sk ?_ | refine za4 ?_) | ((apply d_bo); (refine o_gm ?_ ?_ <;> intro hG <;> (try cases hG))) | ((apply d_mv); refine zr ?_) | ((apply d_as); refine zr ?_) | ((apply d_fa); first | refine o_fa ?_ | refine zb4 ?_) | ((apply d_ld); first | refine zc4 ?_ | refine zz2 ?_ | refine za3 ?_ | refine zd4 ?_ | refine zr ?_ | refine o_ld ?_) | ((apply d_bi); first | refine zn3 ?_ | refine zm3 ?_ | refine zo3 ?_ | refine zw2 ?_ | refine zw2 (hnu := zl _) ?_ | refine zx1 ?_ | refine zx1 (hnu := zl _) ?_ | refine zr ?_) | ((apply d_st); first | refine o_st ?_ | refine zq4 ?_) | ((apply d_ia); first | refine o_ix ?_ | refine zz6 ?_ | refine zr ?_) | ((apply d_bb); first | refine zl1 ?_ | refine zm1 ?_ | refine zn1 ?_ | refine zw3 ?_ | refine zr ?_) | refine o_al ?_ | refine o_bs ?_ | refine zo4 ?_ | refine zr ?_) | ((apply d_w); first | refine zy ?_ | refine zc ?_) | refine zb fun C => ?_ | refine zp (by kernel_rfl) (by kernel_rfl) fun C => ?_ | refine zn ?_ | refine ze ?_ | refine zh ?_ | refine zi ?_ | refine zx rfl ?_ | refine zv rfl ?_)
        refine zu ?_; refine ret1 rfl (zl3 (zu2 rfl (zu2 rfl (zk3 rfl rfl rfl (by first | exact zg _ | exact zf _ | exact bytC_clo _ | (simp [cloL, clo, zg, zf, zk, zj, zd]; done) | (simp [cloL, clo, opC, opL, zg, zf, zk, zj, zd]; done)) zs2)))) rfl (by first | rfl | (simp [cloL, clo, zg, zf, zk, zj, zd]; done)) rfl ⟨?_, ?_⟩ <;> rfl
    | x :: y :: r, hf, _ =>
      have hlen2 : (x :: y :: r).length = r.length + 2 := rfl
      cases b <;> repeat' (first | ((apply f_wo); first | ((apply f_gs); first | refine n_sk ?_) | ((apply f_mv); first | (refine zw1 ?_ ?_ <;> intro hG <;> (try cases hG)) | refine zg1 (v := .c _) ?_ | refine za ?_) | ((apply f_as); first | refine zf1 (v := .c _) ?_ | refine za ?_) | ((apply f_fa); first | refine n_fa ?_ | refine zk1 ?_) | ((apply f_ld); first | refine zp1 ?_ | refine zb1 ?_ | refine zw ?_ | refine zi1 ?_ | refine n_ld ?_) | ((apply f_bi); first | refine zd1 ?_ | refine zc1 ?_ | refine ze1 ?_ | refine zq2 ?_ | refine zq2 (hnu := zl _) ?_ | refine zv1 ?_ | refine zv1 (hnu := zl _) ?_ | refine za ?_) | ((apply f_st); first | refine n_st ?_ | refine zt1 ?_) | ((apply f_ia); first | refine n_ix ?_ | refine zc2 ?_ | refine za ?_) | ((apply zz1); first | refine za1 ?_ | refine za ?_) | ((apply zy2); first | refine zy1 ?_ | refine za ?_) | ((apply za2); first | refine zq ?_ | refine za ?_) | ((apply f_no); first | refine zj2 ?_ | refine za ?_) | ((apply f_pk); first | refine zu1 (v := .c _) ?_ | refine za ?_) | refine n_al ?_ | refine n_bs ?_ | refine zx3 ?_ | refine za ?_) | ((apply f_w); first | refine zy ?_ | refine zc ?_) | ((apply d_wo); first | ((apply d_gs); first | refine o_sk ?_ | refine za4 ?_) | ((apply d_bo); (refine o_gm ?_ ?_ <;> intro hG <;> (try cases hG))) | ((apply d_mv); refine zr ?_) | ((apply d_as); refine zr ?_) | ((apply d_fa); first | refine o_fa ?_ | refine zb4 ?_) | ((apply d_ld); first | refine zc4 ?_ | refine zz2 ?_ | refine za3 ?_ | refine zd4 ?_ | refine zr ?_ | refine o_ld ?_) | ((apply d_bi); first | refine zn3 ?_ | refine zm3 ?_ | refine zo3 ?_ | refine zw2 ?_ | refine zw2 (hnu := zl _) ?_ | refine zx1 ?_ | refine zx1 (hnu := zl _) ?_ | refine zr ?_) | ((apply d_st); first | refine o_st ?_ | refine zq4 ?_) | ((apply d_ia); first | refine o_ix ?_ | refine zz6 ?_ | refine zr ?_) | ((apply d_bb); first | refine zl1 ?_ | refine zm1 ?_ | refine zn1 ?_ | refine zw3 ?_ | refine zr ?_) | refine o_al ?_ | refine o_bs ?_ | refine zo4 ?_ | refine zr ?_) | ((apply d_w); first | refine zy ?_ | refine zc ?_) | refine zb fun C => ?_ | refine zp (by kernel_rfl) (by kernel_rfl) fun C => ?_ | refine zn ?_ | refine ze ?_ | refine zh ?_ | refine zi ?_)
      all_goals first
        | refine zv rfl ?_
        | refine zt (by rfl) (fun hC => by exfalso; clear hfine; simp only [bne_iff_ne, ne_eq, Bool.false_eq_true, false_or, decide_eq_true_iff] at *; omega) fun hC => ?_
      all_goals
        repeat' (first | ((apply f_wo); first | ((apply f_gs); first | refine n_sk ?_) | ((apply f_mv); first | (refine zw1 ?_ ?_ <;> intro hG <;> (try cases hG)) | refine zg1 (v := .c _) ?_ | refine za ?_) | ((apply f_as); first | refine zf1 (v := .c _) ?_ | refine za ?_) | ((apply f_fa); first | refine n_fa ?_ | refine zk1 ?_) | ((apply f_ld); first | refine zp1 ?_ | refine zb1 ?_ | refine zw ?_ | refine zi1 ?_ | refine n_ld ?_) | ((apply f_bi); first | refine zd1 ?_ | refine zc1 ?_ | refine ze1 ?_ | refine zq2 ?_ | refine zq2 (hnu := zl _) ?_ | refine zv1 ?_ | refine zv1 (hnu := zl _) ?_ | refine za ?_) | ((apply f_st); first | refine n_st ?_ | refine zt1 ?_) | ((apply f_ia); first | refine n_ix ?_ | refine zc2 ?_ | refine za ?_) | ((apply zz1); first | refine za1 ?_ | refine za ?_) | ((apply zy2); first | refine zy1 ?_ | refine za ?_) | ((apply za2); first | refine zq ?_ | refine za ?_) | ((apply f_no); first | refine zj2 ?_ | refine za ?_) | ((apply f_pk); first | refine zu1 (v := .c _) ?_ | refine za ?_) | refine n_al ?_ | refine n_bs ?_ | refine zx3 ?_ | refine za ?_) | ((apply f_w); first | refine zy ?_ | refine zc ?_) | ((apply d_wo); first | ((apply d_gs); first | refine o_sk ?_ | refine za4 ?_) | ((apply d_bo); (refine o_gm ?_ ?_ <;> intro hG <;> (try cases hG))) | ((apply d_mv); refine zr ?_) | ((apply d_as); refine zr ?_) | ((apply d_fa); first | refine o_fa ?_ | refine zb4 ?_) | ((apply d_ld); first | refine zc4 ?_ | refine zz2 ?_ | refine za3 ?_ | refine zd4 ?_ | refine zr ?_ | refine o_ld ?_) | ((apply d_bi); first | refine zn3 ?_ | refine zm3 ?_ | refine zo3 ?_ | refine zw2 ?_ | refine zw2 (hnu := zl _) ?_ | refine zx1 ?_ | refine zx1 (hnu := zl _) ?_ | refine zr ?_) | ((apply d_st); first | refine o_st ?_ | refine zq4 ?_) | ((apply d_ia); first | refine o_ix ?_ | refine zz6 ?_ | refine zr ?_) | ((apply d_bb); first | refine zl1 ?_ | refine zm1 ?_ | refine zn1 ?_ | refine zw3 ?_ | refine zr ?_) | refine o_al ?_ | refine o_bs ?_ | refine zo4 ?_ | refine zr ?_) | ((apply d_w); first | refine zy ?_ | refine zc ?_) | refine zb fun C => ?_ | refine zp (by kernel_rfl) (by kernel_rfl) fun C => ?_ | refine zn ?_ | refine ze ?_ | refine zh ?_ | refine zi ?_)
        refine zt (by rfl) (fun hC => by exfalso; simp at hC; omega) fun hC => ?_
        repeat' (first | ((apply f_wo); first | ((apply f_gs); first | refine n_sk ?_) | ((apply f_mv); first | (refine zw1 ?_ ?_ <;> intro hG <;> (try cases hG)) | refine zg1 (v := .c _) ?_ | refine za ?_) | ((apply f_as); first | refine zf1 (v := .c _) ?_ | refine za ?_) | ((apply f_fa); first | refine n_fa ?_ | refine zk1 ?_) | ((apply f_ld); first | refine zp1 ?_ | refine zb1 ?_ | refine zw ?_ | refine zi1 ?_ | refine n_ld ?_) | ((apply f_bi); first | refine zd1 ?_ | refine zc1 ?_ | refine ze1 ?_ | refine zq2 ?_ | refine zq2 (hnu := zl _) ?_ | refine zv1 ?_ | refine zv1 (hnu := zl _) ?_ | refine za ?_) | ((apply f_st); first | refine n_st ?_ | refine zt1 ?_) | ((apply f_ia); first | refine n_ix ?_ | refine zc2 ?_ | refine za ?_) | ((apply zz1); first | refine za1 ?_ | refine za ?_) | ((apply zy2); first | refine zy1 ?_ | refine za ?_) | ((apply za2); first | refine zq ?_ | refine za ?_) | ((apply f_no); first | refine zj2 ?_ | refine za ?_) | ((apply f_pk); first | refine zu1 (v := .c _) ?_ | refine za ?_) | refine n_al ?_ | refine n_bs ?_ | refine zx3 ?_ | refine za ?_) | ((apply f_w); first | refine zy ?_ | refine zc ?_) | ((apply d_wo); first | ((apply d_gs); first | refine o_sk ?_ | refine za4 ?_) | ((apply d_bo); (refine o_gm ?_ ?_ <;> intro hG <;> (try cases hG))) | ((apply d_mv); refine zr ?_) | ((apply d_as); refine zr ?_) | ((apply d_fa); first | refine o_fa ?_ | refine zb4 ?_) | ((apply d_ld); first | refine zc4 ?_ | refine zz2 ?_ | refine za3 ?_ | refine zd4 ?_ | refine zr ?_ | refine o_ld ?_) | ((apply d_bi); first | refine zn3 ?_ | refine zm3 ?_ | refine zo3 ?_ | refine zw2 ?_ | refine zw2 (hnu := zl _) ?_ | refine zx1 ?_ | refine zx1 (hnu := zl _) ?_ | refine zr ?_) | ((apply d_st); first | refine o_st ?_ | refine zq4 ?_) | ((apply d_ia); first | refine o_ix ?_ | refine zz6 ?_ | refine zr ?_) | ((apply d_bb); first | refine zl1 ?_ | refine zm1 ?_ | refine zn1 ?_ | refine zw3 ?_ | refine zr ?_) | refine o_al ?_ | refine o_bs ?_ | refine zo4 ?_ | refine zr ?_) | ((apply d_w); first | refine zy ?_ | refine zc ?_) | refine zb fun C => ?_ | refine zp (by kernel_rfl) (by kernel_rfl) fun C => ?_ | refine zn ?_ | refine ze ?_ | refine zh ?_ | refine zi ?_)
        refine zu ?_; refine ret1 rfl (zl3 (zu2 rfl (zu2 rfl (zk3 rfl rfl rfl (by first | exact zg _ | exact zf _ | exact bytC_clo _ | (simp [cloL, clo, zg, zf, zk, zj, zd]; done) | (simp [cloL, clo, opC, opL, zg, zf, zk, zj, zd]; done)) zs2)))) rfl (by first | rfl | (simp [cloL, clo, zg, zf, zk, zj, zd]; done)) rfl ⟨?_, ?_⟩ <;> rfl
theorem itemI_eq {s : ByteArray} {atom : PS → E × PS} {p : PS} {e : E} {a d : Nat} {b : Bool} (h : atom p = (e, ⟨a, d, b⟩)) : itemI s atom p =
    (if bAt s a = 42 then (rexE 6 ByteArray.empty [e], ⟨a + 1, d, b⟩) else if bAt s a = 43 then (rexE 7 ByteArray.empty [e], ⟨a + 1, d, b⟩) else if bAt s a = 63 then (rexE 8 ByteArray.empty [e], ⟨a + 1, d, b⟩) else (e, ⟨a, d, b⟩)) := by
  unfold itemI
  rw [h]; rfl
set_option maxHeartbeats 4000000 in
theorem item_c {s : ByteArray} (hs : s.size ≤ 1048576) {atom : PS → E × PS} {p : PS} (hg : Good s p (atom p) 1 1 0)
    (ha : Ctr Try.prog 113 [.c (.pt 0 0)] [rdrI s p] (.ag (owE (atom p).1)) [rdrI s (atom p).2]) :
    Ctr Try.prog 102 [.c (.pt 0 0)] [rdrI s p] (.ag (owE (itemI s atom p).1)) [rdrI s (itemI s atom p).2] := by
  obtain ⟨⟨e, q⟩, hq⟩ : ∃ r, atom p = r := ⟨_, rfl⟩
  rw [hq] at ha hg
  have hn3 := zt11 hs (p := q)
  have hle : q.a ≤ s.size := hg.le
  obtain ⟨qa, qd, qb⟩ := q
  rw [itemI_eq hq]
  clear hq
  have hfi : Fine e := hg.fine
  clear hg
  unfold rdrI at *
  dsimp only at ha hn3 hle ⊢
  cases hfi with
  | mk k t l hk ht hl2 =>
  generalize hv : bAt s qa = v at *
  refine zm2 Try.func102 rfl rfl ?_
  have hb3 : (⟨5, 1, 3, false, [.v (.int .u8 42), .v (.int .u8 43), .v (.int .u8 63)]⟩ : Row).cs.length = 3 := rfl
  repeat' (first | ((apply f_wo); first | ((apply f_mv); first | refine zg1 (v := .c _) ?_ | refine za ?_) | ((apply f_as); first | refine zf1 (v := .c _) ?_ | refine za ?_) | ((apply f_fa); first | refine n_fa ?_ | refine zk1 ?_) | ((apply f_ld); first | refine zp1 ?_ | refine zb1 ?_ | refine zw ?_ | refine zi1 ?_ | refine n_ld ?_) | ((apply f_ca); first | refine zl2 0 (ha) ?_) | ((apply f_bi); first | refine zd1 ?_ | refine zc1 ?_ | refine ze1 ?_ | refine za ?_) | ((apply f_st); first | refine n_st ?_ | refine zt1 ?_) | ((apply f_ia); first | refine n_ix ?_ | refine zc2 ?_ | refine za ?_) | ((apply zz1); first | refine zd2 ?_ | refine za ?_) | ((apply za2); first | refine zq ?_ | refine za ?_) | ((apply zs1); first | refine zo ?_ | refine zr1 ?_ | refine za ?_) | ((apply f_cv); first | refine za ?_) | refine n_al ?_ | refine n_bs ?_ | refine za ?_) | ((apply f_w); first | refine zy ?_ | refine zc ?_) | refine zb fun C => ?_ | refine zn ?_ | refine ze ?_ | refine zh ?_ | refine zi ?_)
  refine n_cvm ?_ (e := 5) (by kernel_rfl) (by kernel_rfl)
  repeat' (first | ((apply f_wo); first | ((apply f_mv); first | refine zg1 (v := .c _) ?_ | refine za ?_) | ((apply f_as); first | refine zf1 (v := .c _) ?_ | refine za ?_) | ((apply f_fa); first | refine n_fa ?_ | refine zk1 ?_) | ((apply f_ld); first | refine zp1 ?_ | refine zb1 ?_ | refine zw ?_ | refine zi1 ?_ | refine n_ld ?_) | ((apply f_ca); first | refine zl2 0 (ha) ?_) | ((apply f_bi); first | refine zd1 ?_ | refine zc1 ?_ | refine ze1 ?_ | refine za ?_) | ((apply f_st); first | refine n_st ?_ | refine zt1 ?_) | ((apply f_ia); first | refine n_ix ?_ | refine zc2 ?_ | refine za ?_) | ((apply zz1); first | refine zd2 ?_ | refine za ?_) | ((apply za2); first | refine zq ?_ | refine za ?_) | ((apply zs1); first | refine zo ?_ | refine zr1 ?_ | refine za ?_) | ((apply f_cv); first | refine za ?_) | refine n_al ?_ | refine n_bs ?_ | refine za ?_) | ((apply f_w); first | refine zy ?_ | refine zc ?_) | refine zb fun C => ?_ | refine zn ?_ | refine ze ?_ | refine zh ?_ | refine zi ?_)
  refine zp3 (fun j : Nat => ⟨tmsF [(0, .c (.pt 0 0)), (2, .c (.pt 2 0)), (3, .c (.pt 3 0)), (9, .c (.ro 3 1 [.v (.int .u8 42), .v (.int .u8 43), .v (.int .u8 63)])), (10, .c (.v (.int .i64 3))), (11, .c (.v (.int .i64 j)))], hpsF [(0, 0, ⟨0, 0, 0, true, [.v (.string s), .v (.int .i64 qa), .v (.int .i64 qd), .v (.bool qb)]⟩), (2, 2, ⟨86, 0, 0, true, [.v (.int .i64 0), .v (.string ByteArray.empty), .v (.slice none 0 0)]⟩), (3, 3, ⟨86, 0, 0, true, [.v (.int .i64 k), .v (.string t), .sl 5 l.length]⟩), (5, 5, ⟨86, 3, l.length, false, owL l⟩)], 1, [0, 2, 3, 5], 34⟩)
    (fun N j => j + N = 3 ∧ (1 ≤ j → v ≠ 42) ∧ (2 ≤ j → v ≠ 43) ∧ (3 ≤ j → v ≠ 63)) 3 0 ⟨by omega, by omega, by omega, by omega⟩ ?_ ?_
  · (refine zm7 (fun j => if j = 5 then 800 else j) _ _ rfl rfl ?_ ?_ <;> (repeat' (first | exact TmOk.nil | exact RwOk.nil | refine TmOk.cons ?_ ?_ | refine RwOk.cons ?_ ?_ | rfl | (refine rnV_id' rfl ?_; (first | rfl | (simp [cloV, cloL, clo, zj, zf, zk, zg, zd]; done))) | (refine zd3 ?_; first | rfl | omega | (rw [zb2 (by omega) (by omega)]; omega)) | (refine zi2 rfl ?_; (first | rfl | (simp [cloV, cloL, clo, zj, zf, zk, zg, zd]; done))) | exact zj4 rfl rfl | (refine ze3 (by rfl) (by rfl) ?_ ?_ <;> (first | rfl | (simp [cloV, cloL, clo, zj, zf, zk, zg, zd]; done))) | (refine rw_rn' rfl rfl ?_; simp; done))))
  rintro N j ⟨hN, hj1, hj2, hj3⟩
  obtain rfl | rfl | rfl | rfl : j = 0 ∨ j = 1 ∨ j = 2 ∨ j = 3 := by omega
  · by_cases hv0 : v = 42
    · rw [if_pos hv0]
      subst hv0
      have hlt : qa < s.size := zw4 (by rw [hv]; decide)
      repeat' (first | ((apply f_wo); first | ((apply f_mv); first | refine zg1 (v := .c _) ?_ | refine za ?_) | ((apply f_as); first | refine zf1 (v := .c _) ?_ | refine za ?_) | ((apply f_fa); first | refine n_fa ?_ | refine zk1 ?_) | ((apply f_ld); first | refine zp1 ?_ | refine zb1 ?_ | refine zw ?_ | refine zi1 ?_ | refine n_ld ?_) | ((apply f_ca); first | refine zl2 0 (hn3) ?_) | ((apply f_bi); first | refine zd1 ?_ | refine zc1 ?_ | refine ze1 ?_ | refine za ?_) | ((apply f_st); first | refine n_st ?_ | refine zt1 ?_) | ((apply f_ia); first | refine n_ix ?_ | refine zc2 ?_ | refine za ?_) | ((apply zz1); first | refine zd2 ?_ | refine za ?_) | ((apply za2); first | refine zq ?_ | refine za ?_) | ((apply zs1); first | refine zo ?_ | refine zr1 ?_ | refine za ?_) | ((apply f_cv); first | refine za ?_) | refine n_al ?_ | refine n_bs ?_ | refine za ?_) | ((apply f_w); first | refine zy ?_ | refine zc ?_) | refine zb fun C => ?_ | refine zn ?_ | refine ze ?_ | refine zh ?_ | refine zi ?_ | refine zx rfl ?_ | refine zv rfl ?_)
      refine zm4 (ze8 (i := 30) (j := 5) rfl rfl rfl (pre := [_, _]) (post := []) rfl) ?_
      refine zu ?_; refine ret1 rfl (zl3 (zu2 rfl (zu2 rfl (zk3 rfl rfl rfl (by first | exact zg _ | exact zf _ | exact bytC_clo _ | (simp [cloL, clo, zg, zf, zk, zj, zd]; done) | (simp [cloL, clo, opC, opL, zg, zf, zk, zj, zd]; done)) zs2)))) rfl (by first | rfl | (simp [cloL, clo, zg, zf, zk, zj, zd]; done)) rfl ⟨?_, ?_⟩
      · rfl
      · rfl
    · repeat' (first | ((apply f_wo); first | ((apply f_mv); first | refine zg1 (v := .c _) ?_ | refine za ?_) | ((apply f_as); first | refine zf1 (v := .c _) ?_ | refine za ?_) | ((apply f_fa); first | refine n_fa ?_ | refine zk1 ?_) | ((apply f_ld); first | refine zp1 ?_ | refine zb1 ?_ | refine zw ?_ | refine zi1 ?_ | refine n_ld ?_) | ((apply f_ca); first | refine zl2 0 (hn3) ?_) | ((apply f_bi); first | refine zd1 ?_ | refine zc1 ?_ | refine ze1 ?_ | refine za ?_) | ((apply f_st); first | refine n_st ?_ | refine zt1 ?_) | ((apply f_ia); first | refine n_ix ?_ | refine zc2 ?_ | refine za ?_) | ((apply zz1); first | refine zd2 ?_ | refine za ?_) | ((apply za2); first | refine zq ?_ | refine za ?_) | ((apply zs1); first | refine zo ?_ | refine zr1 ?_ | refine za ?_) | ((apply f_cv); first | refine za ?_) | refine n_al ?_ | refine n_bs ?_ | refine za ?_) | ((apply f_w); first | refine zy ?_ | refine zc ?_) | refine zb fun C => ?_ | refine zn ?_ | refine ze ?_ | refine zh ?_ | refine zi ?_ | refine zx rfl ?_ | refine zv rfl ?_)
      refine zt (by rfl) (fun hC => absurd (eq_of_beq hC) (by omega)) fun hC => ?_
      repeat' (first | ((apply f_wo); first | ((apply f_mv); first | refine zg1 (v := .c _) ?_ | refine za ?_) | ((apply f_as); first | refine zf1 (v := .c _) ?_ | refine za ?_) | ((apply f_fa); first | refine n_fa ?_ | refine zk1 ?_) | ((apply f_ld); first | refine zp1 ?_ | refine zb1 ?_ | refine zw ?_ | refine zi1 ?_ | refine n_ld ?_) | ((apply f_ca); first | refine zl2 0 (hn3) ?_) | ((apply f_bi); first | refine zd1 ?_ | refine zc1 ?_ | refine ze1 ?_ | refine za ?_) | ((apply f_st); first | refine n_st ?_ | refine zt1 ?_) | ((apply f_ia); first | refine n_ix ?_ | refine zc2 ?_ | refine za ?_) | ((apply zz1); first | refine zd2 ?_ | refine za ?_) | ((apply za2); first | refine zq ?_ | refine za ?_) | ((apply zs1); first | refine zo ?_ | refine zr1 ?_ | refine za ?_) | ((apply f_cv); first | refine za ?_) | refine n_al ?_ | refine n_bs ?_ | refine za ?_) | ((apply f_w); first | refine zy ?_ | refine zc ?_) | refine zb fun C => ?_ | refine zn ?_ | refine ze ?_ | refine zh ?_ | refine zi ?_ | refine zx rfl ?_ | refine zv rfl ?_)
      refine ⟨N - 1, 1, by omega, ⟨by omega, by omega, by omega, by omega⟩, ?_⟩
      (refine zo2 _ _ rfl rfl ?_ ?_ <;> (repeat' (first | exact TmOk.nil | exact RwOk.nil | refine TmOk.cons ?_ ?_ | refine RwOk.cons ?_ ?_ | rfl | (refine rnV_id' rfl ?_; (first | rfl | (simp [cloV, cloL, clo, zj, zf, zk, zg, zd]; done))) | (refine zd3 ?_; first | rfl | omega | (rw [zb2 (by omega) (by omega)]; omega)) | (refine zi2 rfl ?_; (first | rfl | (simp [cloV, cloL, clo, zj, zf, zk, zg, zd]; done))) | exact zj4 rfl rfl | (refine ze3 (by rfl) (by rfl) ?_ ?_ <;> (first | rfl | (simp [cloV, cloL, clo, zj, zf, zk, zg, zd]; done))) | (refine rw_rn' rfl rfl ?_; simp; done))))
  · by_cases hv1 : v = 43
    · rw [if_neg (hj1 (by omega)), if_pos hv1]
      subst hv1
      have hlt : qa < s.size := zw4 (by rw [hv]; decide)
      repeat' (first | ((apply f_wo); first | ((apply f_mv); first | refine zg1 (v := .c _) ?_ | refine za ?_) | ((apply f_as); first | refine zf1 (v := .c _) ?_ | refine za ?_) | ((apply f_fa); first | refine n_fa ?_ | refine zk1 ?_) | ((apply f_ld); first | refine zp1 ?_ | refine zb1 ?_ | refine zw ?_ | refine zi1 ?_ | refine n_ld ?_) | ((apply f_ca); first | refine zl2 0 (hn3) ?_) | ((apply f_bi); first | refine zd1 ?_ | refine zc1 ?_ | refine ze1 ?_ | refine za ?_) | ((apply f_st); first | refine n_st ?_ | refine zt1 ?_) | ((apply f_ia); first | refine n_ix ?_ | refine zc2 ?_ | refine za ?_) | ((apply zz1); first | refine zd2 ?_ | refine za ?_) | ((apply za2); first | refine zq ?_ | refine za ?_) | ((apply zs1); first | refine zo ?_ | refine zr1 ?_ | refine za ?_) | ((apply f_cv); first | refine za ?_) | refine n_al ?_ | refine n_bs ?_ | refine za ?_) | ((apply f_w); first | refine zy ?_ | refine zc ?_) | refine zb fun C => ?_ | refine zn ?_ | refine ze ?_ | refine zh ?_ | refine zi ?_ | refine zx rfl ?_ | refine zv rfl ?_)
      refine zm4 (ze8 (i := 30) (j := 5) rfl rfl rfl (pre := [_, _]) (post := []) rfl) ?_
      refine zu ?_; refine ret1 rfl (zl3 (zu2 rfl (zu2 rfl (zk3 rfl rfl rfl (by first | exact zg _ | exact zf _ | exact bytC_clo _ | (simp [cloL, clo, zg, zf, zk, zj, zd]; done) | (simp [cloL, clo, opC, opL, zg, zf, zk, zj, zd]; done)) zs2)))) rfl (by first | rfl | (simp [cloL, clo, zg, zf, zk, zj, zd]; done)) rfl ⟨?_, ?_⟩
      · rfl
      · rfl
    · repeat' (first | ((apply f_wo); first | ((apply f_mv); first | refine zg1 (v := .c _) ?_ | refine za ?_) | ((apply f_as); first | refine zf1 (v := .c _) ?_ | refine za ?_) | ((apply f_fa); first | refine n_fa ?_ | refine zk1 ?_) | ((apply f_ld); first | refine zp1 ?_ | refine zb1 ?_ | refine zw ?_ | refine zi1 ?_ | refine n_ld ?_) | ((apply f_ca); first | refine zl2 0 (hn3) ?_) | ((apply f_bi); first | refine zd1 ?_ | refine zc1 ?_ | refine ze1 ?_ | refine za ?_) | ((apply f_st); first | refine n_st ?_ | refine zt1 ?_) | ((apply f_ia); first | refine n_ix ?_ | refine zc2 ?_ | refine za ?_) | ((apply zz1); first | refine zd2 ?_ | refine za ?_) | ((apply za2); first | refine zq ?_ | refine za ?_) | ((apply zs1); first | refine zo ?_ | refine zr1 ?_ | refine za ?_) | ((apply f_cv); first | refine za ?_) | refine n_al ?_ | refine n_bs ?_ | refine za ?_) | ((apply f_w); first | refine zy ?_ | refine zc ?_) | refine zb fun C => ?_ | refine zn ?_ | refine ze ?_ | refine zh ?_ | refine zi ?_ | refine zx rfl ?_ | refine zv rfl ?_)
      refine zt (by rfl) (fun hC => absurd (eq_of_beq hC) (by omega)) fun hC => ?_
      repeat' (first | ((apply f_wo); first | ((apply f_mv); first | refine zg1 (v := .c _) ?_ | refine za ?_) | ((apply f_as); first | refine zf1 (v := .c _) ?_ | refine za ?_) | ((apply f_fa); first | refine n_fa ?_ | refine zk1 ?_) | ((apply f_ld); first | refine zp1 ?_ | refine zb1 ?_ | refine zw ?_ | refine zi1 ?_ | refine n_ld ?_) | ((apply f_ca); first | refine zl2 0 (hn3) ?_) | ((apply f_bi); first | refine zd1 ?_ | refine zc1 ?_ | refine ze1 ?_ | refine za ?_) | ((apply f_st); first | refine n_st ?_ | refine zt1 ?_) | ((apply f_ia); first | refine n_ix ?_ | refine zc2 ?_ | refine za ?_) | ((apply zz1); first | refine zd2 ?_ | refine za ?_) | ((apply za2); first | refine zq ?_ | refine za ?_) | ((apply zs1); first | refine zo ?_ | refine zr1 ?_ | refine za ?_) | ((apply f_cv); first | refine za ?_) | refine n_al ?_ | refine n_bs ?_ | refine za ?_) | ((apply f_w); first | refine zy ?_ | refine zc ?_) | refine zb fun C => ?_ | refine zn ?_ | refine ze ?_ | refine zh ?_ | refine zi ?_ | refine zx rfl ?_ | refine zv rfl ?_)
      refine ⟨N - 1, 2, by omega, ⟨by omega, by omega, by omega, by omega⟩, ?_⟩
      (refine zo2 _ _ rfl rfl ?_ ?_ <;> (repeat' (first | exact TmOk.nil | exact RwOk.nil | refine TmOk.cons ?_ ?_ | refine RwOk.cons ?_ ?_ | rfl | (refine rnV_id' rfl ?_; (first | rfl | (simp [cloV, cloL, clo, zj, zf, zk, zg, zd]; done))) | (refine zd3 ?_; first | rfl | omega | (rw [zb2 (by omega) (by omega)]; omega)) | (refine zi2 rfl ?_; (first | rfl | (simp [cloV, cloL, clo, zj, zf, zk, zg, zd]; done))) | exact zj4 rfl rfl | (refine ze3 (by rfl) (by rfl) ?_ ?_ <;> (first | rfl | (simp [cloV, cloL, clo, zj, zf, zk, zg, zd]; done))) | (refine rw_rn' rfl rfl ?_; simp; done))))
  · by_cases hv2 : v = 63
    · rw [if_neg (hj1 (by omega)), if_neg (hj2 (by omega)), if_pos hv2]
      subst hv2
      have hlt : qa < s.size := zw4 (by rw [hv]; decide)
      repeat' (first | ((apply f_wo); first | ((apply f_mv); first | refine zg1 (v := .c _) ?_ | refine za ?_) | ((apply f_as); first | refine zf1 (v := .c _) ?_ | refine za ?_) | ((apply f_fa); first | refine n_fa ?_ | refine zk1 ?_) | ((apply f_ld); first | refine zp1 ?_ | refine zb1 ?_ | refine zw ?_ | refine zi1 ?_ | refine n_ld ?_) | ((apply f_ca); first | refine zl2 0 (hn3) ?_) | ((apply f_bi); first | refine zd1 ?_ | refine zc1 ?_ | refine ze1 ?_ | refine za ?_) | ((apply f_st); first | refine n_st ?_ | refine zt1 ?_) | ((apply f_ia); first | refine n_ix ?_ | refine zc2 ?_ | refine za ?_) | ((apply zz1); first | refine zd2 ?_ | refine za ?_) | ((apply za2); first | refine zq ?_ | refine za ?_) | ((apply zs1); first | refine zo ?_ | refine zr1 ?_ | refine za ?_) | ((apply f_cv); first | refine za ?_) | refine n_al ?_ | refine n_bs ?_ | refine za ?_) | ((apply f_w); first | refine zy ?_ | refine zc ?_) | refine zb fun C => ?_ | refine zn ?_ | refine ze ?_ | refine zh ?_ | refine zi ?_ | refine zx rfl ?_ | refine zv rfl ?_)
      refine zm4 (ze8 (i := 30) (j := 5) rfl rfl rfl (pre := [_, _]) (post := []) rfl) ?_
      refine zu ?_; refine ret1 rfl (zl3 (zu2 rfl (zu2 rfl (zk3 rfl rfl rfl (by first | exact zg _ | exact zf _ | exact bytC_clo _ | (simp [cloL, clo, zg, zf, zk, zj, zd]; done) | (simp [cloL, clo, opC, opL, zg, zf, zk, zj, zd]; done)) zs2)))) rfl (by first | rfl | (simp [cloL, clo, zg, zf, zk, zj, zd]; done)) rfl ⟨?_, ?_⟩
      · rfl
      · rfl
    · repeat' (first | ((apply f_wo); first | ((apply f_mv); first | refine zg1 (v := .c _) ?_ | refine za ?_) | ((apply f_as); first | refine zf1 (v := .c _) ?_ | refine za ?_) | ((apply f_fa); first | refine n_fa ?_ | refine zk1 ?_) | ((apply f_ld); first | refine zp1 ?_ | refine zb1 ?_ | refine zw ?_ | refine zi1 ?_ | refine n_ld ?_) | ((apply f_ca); first | refine zl2 0 (hn3) ?_) | ((apply f_bi); first | refine zd1 ?_ | refine zc1 ?_ | refine ze1 ?_ | refine za ?_) | ((apply f_st); first | refine n_st ?_ | refine zt1 ?_) | ((apply f_ia); first | refine n_ix ?_ | refine zc2 ?_ | refine za ?_) | ((apply zz1); first | refine zd2 ?_ | refine za ?_) | ((apply za2); first | refine zq ?_ | refine za ?_) | ((apply zs1); first | refine zo ?_ | refine zr1 ?_ | refine za ?_) | ((apply f_cv); first | refine za ?_) | refine n_al ?_ | refine n_bs ?_ | refine za ?_) | ((apply f_w); first | refine zy ?_ | refine zc ?_) | refine zb fun C => ?_ | refine zn ?_ | refine ze ?_ | refine zh ?_ | refine zi ?_ | refine zx rfl ?_ | refine zv rfl ?_)
      refine zt (by rfl) (fun hC => absurd (eq_of_beq hC) (by omega)) fun hC => ?_
      repeat' (first | ((apply f_wo); first | ((apply f_mv); first | refine zg1 (v := .c _) ?_ | refine za ?_) | ((apply f_as); first | refine zf1 (v := .c _) ?_ | refine za ?_) | ((apply f_fa); first | refine n_fa ?_ | refine zk1 ?_) | ((apply f_ld); first | refine zp1 ?_ | refine zb1 ?_ | refine zw ?_ | refine zi1 ?_ | refine n_ld ?_) | ((apply f_ca); first | refine zl2 0 (hn3) ?_) | ((apply f_bi); first | refine zd1 ?_ | refine zc1 ?_ | refine ze1 ?_ | refine za ?_) | ((apply f_st); first | refine n_st ?_ | refine zt1 ?_) | ((apply f_ia); first | refine n_ix ?_ | refine zc2 ?_ | refine za ?_) | ((apply zz1); first | refine zd2 ?_ | refine za ?_) | ((apply za2); first | refine zq ?_ | refine za ?_) | ((apply zs1); first | refine zo ?_ | refine zr1 ?_ | refine za ?_) | ((apply f_cv); first | refine za ?_) | refine n_al ?_ | refine n_bs ?_ | refine za ?_) | ((apply f_w); first | refine zy ?_ | refine zc ?_) | refine zb fun C => ?_ | refine zn ?_ | refine ze ?_ | refine zh ?_ | refine zi ?_ | refine zx rfl ?_ | refine zv rfl ?_)
      refine ⟨N - 1, 3, by omega, ⟨by omega, by omega, by omega, by omega⟩, ?_⟩
      (refine zo2 _ _ rfl rfl ?_ ?_ <;> (repeat' (first | exact TmOk.nil | exact RwOk.nil | refine TmOk.cons ?_ ?_ | refine RwOk.cons ?_ ?_ | rfl | (refine rnV_id' rfl ?_; (first | rfl | (simp [cloV, cloL, clo, zj, zf, zk, zg, zd]; done))) | (refine zd3 ?_; first | rfl | omega | (rw [zb2 (by omega) (by omega)]; omega)) | (refine zi2 rfl ?_; (first | rfl | (simp [cloV, cloL, clo, zj, zf, zk, zg, zd]; done))) | exact zj4 rfl rfl | (refine ze3 (by rfl) (by rfl) ?_ ?_ <;> (first | rfl | (simp [cloV, cloL, clo, zj, zf, zk, zg, zd]; done))) | (refine rw_rn' rfl rfl ?_; simp; done))))
  · rw [if_neg (hj1 (by omega)), if_neg (hj2 (by omega)), if_neg (hj3 (by omega))]
    repeat' (first | ((apply f_wo); first | ((apply f_mv); first | refine zg1 (v := .c _) ?_ | refine za ?_) | ((apply f_as); first | refine zf1 (v := .c _) ?_ | refine za ?_) | ((apply f_fa); first | refine n_fa ?_ | refine zk1 ?_) | ((apply f_ld); first | refine zp1 ?_ | refine zb1 ?_ | refine zw ?_ | refine zi1 ?_ | refine n_ld ?_) | ((apply f_ca); first | refine zl2 0 (hn3) ?_) | ((apply f_bi); first | refine zd1 ?_ | refine zc1 ?_ | refine ze1 ?_ | refine za ?_) | ((apply f_st); first | refine n_st ?_ | refine zt1 ?_) | ((apply f_ia); first | refine n_ix ?_ | refine zc2 ?_ | refine za ?_) | ((apply zz1); first | refine zd2 ?_ | refine za ?_) | ((apply za2); first | refine zq ?_ | refine za ?_) | ((apply zs1); first | refine zo ?_ | refine zr1 ?_ | refine za ?_) | ((apply f_cv); first | refine za ?_) | refine n_al ?_ | refine n_bs ?_ | refine za ?_) | ((apply f_w); first | refine zy ?_ | refine zc ?_) | refine zb fun C => ?_ | refine zn ?_ | refine ze ?_ | refine zh ?_ | refine zi ?_ | refine zx rfl ?_ | refine zv rfl ?_)
    refine zu ?_; refine ret1 rfl (zl3 (zu2 rfl (zu2 rfl (zk3 rfl rfl rfl (by first | exact zg _ | exact zf _ | exact bytC_clo _ | (simp [cloL, clo, zg, zf, zk, zj, zd]; done) | (simp [cloL, clo, opC, opL, zg, zf, zk, zj, zd]; done)) zs2)))) rfl (by first | rfl | (simp [cloL, clo, zg, zf, zk, zj, zd]; done)) rfl ⟨?_, ?_⟩
    · rfl
    · rfl
theorem zp15 {s : ByteArray} {item : PS → E × PS} {p : PS} (h : goI s p = false) : ∀ (n : Nat) (l : List E), catLoopI s item n l p = (l, p)
  | 0, _ => rfl
  | n + 1, l => by unfold catLoopI; rw [if_neg (by rw [h]; simp)]
theorem zj14 {s : ByteArray} {a d v : Nat} {b : Bool} (hv : bAt s a = v) : goI s ⟨a, d, b⟩ = (!b && !(v == 0) && !(v == 124) && !(v == 41)) := by unfold goI; rw [hv]
set_option maxHeartbeats 8000000 in
theorem cat_c {s : ByteArray} (hs : s.size ≤ 1048576) {item : PS → E × PS} {p0 : PS} (hp : p0.a ≤ s.size) (hd : p0.d ≤ 1048577)
    (hg : ∀ q, q.a < s.size → q.d = p0.d → p0.a ≤ q.a → Good s q (item q) 1 1 0)
    (hi : ∀ q, q.a < s.size → q.d = p0.d → p0.a ≤ q.a → Ctr Try.prog 102 [.c (.pt 0 0)] [rdrI s q] (.ag (owE (item q).1)) [rdrI s (item q).2]) :
    Ctr Try.prog 90 [.c (.pt 0 0)] [rdrI s p0] (.ag (owE (catI s item p0).1)) [rdrI s (catI s item p0).2] := by
  refine zm2 Try.func90 rfl rfl ?_
  repeat' (first | ((apply f_wo); first | ((apply f_gs); first | refine n_sk ?_) | ((apply f_mv); first | (refine zw1 ?_ ?_ <;> intro hG <;> (try cases hG)) | refine zg1 (v := .c _) ?_ | refine za ?_) | ((apply f_as); first | refine zf1 (v := .c _) ?_ | refine za ?_) | ((apply f_fa); first | refine n_fa ?_ | refine zk1 ?_) | ((apply f_ld); first | refine zp1 ?_ | refine zb1 ?_ | refine zw ?_ | refine zi1 ?_ | refine n_ld ?_) | ((apply f_bi); first | refine zd1 ?_ | refine zc1 ?_ | refine ze1 ?_ | refine zq2 ?_ | refine zq2 (hnu := zl _) ?_ | refine zv1 ?_ | refine zv1 (hnu := zl _) ?_ | refine za ?_) | ((apply f_st); first | refine n_st ?_ | refine zt1 ?_) | ((apply f_ia); first | refine n_ix ?_ | refine zc2 ?_ | refine za ?_) | ((apply zz1); first | refine za1 ?_ | refine za ?_) | ((apply zy2); first | refine zy1 ?_ | refine za ?_) | ((apply f_no); first | refine zj2 ?_ | refine za ?_) | ((apply f_pk); first | refine zu1 (v := .c _) ?_ | refine za ?_) | refine n_al ?_ | refine n_bs ?_ | refine za ?_) | ((apply f_w); first | refine zy ?_ | refine zc ?_) | refine zb fun C => ?_ | refine zn ?_ | refine ze ?_ | refine zh ?_ | refine zi ?_)
  refine zp3 (fun q : List E × PS => ⟨tmsF [(0, .c (.pt 0 0)), (2, .c (.pt 2 0)), (3, .c (.sl 9 q.1.length))], hpsF [(0, 0, ⟨0, 0, 0, true, rdrI s q.2⟩), (2, 2, ⟨86, 0, 0, true, [.v (.int .i64 0), .v (.string ByteArray.empty), .v (.slice none 0 0)]⟩), (9, 9, ⟨86, 3, q.1.length, false, owL q.1⟩)], 1, [0, 2, 9], 44⟩)
    (fun N q => GoodL s p0 q.1 q.2 0 ∧ s.size + 2 ≤ q.2.a + N ∧ catLoopI s item N q.1 q.2 = catLoopI s item (s.size + 2) [] p0) (s.size + 2) ([], p0) ⟨⟨fun _ h => absurd h List.not_mem_nil, Nat.le_refl _, hp, rfl, by simp, by simp [E.szL]⟩, by dsimp only; omega, rfl⟩ ?_ ?_
  · refine (g_nilT 9 (t := 3) 86 3 rfl rfl).trans ?_
    (refine zo2 _ _ rfl rfl ?_ ?_ <;> (repeat' (first | exact TmOk.nil | exact RwOk.nil | refine TmOk.cons ?_ ?_ | refine RwOk.cons ?_ ?_ | rfl | (refine rnV_id' rfl ?_; (first | rfl | (simp [cloV, cloL, clo, zj, zf, zk, zg, zd]; done))) | (refine zd3 ?_; first | rfl | omega | (rw [zb2 (by omega) (by omega)]; omega)) | (refine zi2 rfl ?_; (first | rfl | (simp [cloV, cloL, clo, zj, zf, zk, zg, zd]; done))) | exact zj4 rfl rfl | (refine ze3 (by rfl) (by rfl) ?_ ?_ <;> (first | rfl | (simp [cloV, cloL, clo, zj, zf, zk, zg, zd]; done))) | (refine rw_rn' rfl rfl ?_; simp; done))))
  rintro N ⟨L, q⟩ ⟨hgl, hN, htot⟩
  dsimp only at hgl hN htot ⊢
  obtain ⟨k1, k2, k3, k4, k5, k6⟩ := hgl
  have hnx := zt11 hs (p := q)
  obtain ⟨M, rfl⟩ : ∃ M, N = M + 1 := ⟨N - 1, by omega⟩
  have htail : catI s item p0 = if (catLoopI s item (M + 1) L q).1.length = 0 then (zeroR, (catLoopI s item (M + 1) L q).2.bad) else (oneOr 4 (catLoopI s item (M + 1) L q).1, (catLoopI s item (M + 1) L q).2) := by unfold catI; rw [← htot]
  cases hgo : goI s q with
  | true =>
    obtain ⟨hb, hlt, -⟩ := goI_lt hgo
    obtain ⟨g1, g2, g3, g4, g5⟩ := hg q hlt k4 k2
    have hic := hi q hlt k4 k2
    have hst : catLoopI s item (M + 1) L q = catLoopI s item M (L ++ [(item q).1]) (item q).2 := by
      show (if goI s q then _ else _) = _
      rw [if_pos hgo]
    rw [hst] at htot
    clear htail hst hi hg
    obtain ⟨⟨e, q2⟩, hq2⟩ : ∃ r, item q = r := ⟨_, rfl⟩
    rw [hq2] at hic htot g1 g2 g3 g4 g5
    dsimp only at hic htot g1 g2 g3 g4 g5
    cases g1 with
    | mk k t l hk ht hl2 =>
    obtain ⟨a, d, b⟩ := q
    have hb : b = false := hb
    subst hb
    obtain ⟨v, hv⟩ : ∃ v, bAt s a = v := ⟨_, rfl⟩
    rw [zj14 hv] at hgo
    simp only [Bool.and_eq_true, Bool.not_eq_true', beq_eq_false_iff_ne] at hgo
    have hnx : Ctr Try.prog 91 [.c (.pt 0 0)] [rdrI s ⟨a, d, false⟩] (.c (.v (.int .u8 (v : Int)))) [rdrI s ⟨a, d, false⟩] := by rw [← hv]; exact hnx
    unfold rdrI at hnx hic ⊢
    dsimp only at hnx hic k2 k3 k4 k5 k6 hN g2 g3 g4 g5 ⊢
    repeat' (first | ((apply f_wo); first | ((apply f_gs); first | refine n_sk ?_) | ((apply f_mv); first | (refine zw1 ?_ ?_ <;> intro hG <;> (try cases hG)) | refine zg1 (v := .c _) ?_ | refine za ?_) | ((apply f_as); first | refine zf1 (v := .c _) ?_ | refine za ?_) | ((apply f_fa); first | refine n_fa ?_ | refine zk1 ?_) | ((apply f_ld); first | refine zp1 ?_ | refine zb1 ?_ | refine zw ?_ | refine zi1 ?_ | refine n_ld ?_) | ((apply f_ca); first | refine zl2 0 (hnx) ?_ | refine zl2 0 (hic) ?_) | ((apply f_bi); first | refine zd1 ?_ | refine zc1 ?_ | refine ze1 ?_ | refine zq2 ?_ | refine zq2 (hnu := zl _) ?_ | refine zv1 ?_ | refine zv1 (hnu := zl _) ?_ | refine za ?_) | ((apply f_st); first | refine n_st ?_ | refine zt1 ?_) | ((apply f_ia); first | refine n_ix ?_ | refine zc2 ?_ | refine za ?_) | ((apply zz1); first | refine za1 ?_ | refine za ?_) | ((apply zy2); first | refine zy1 ?_ | refine za ?_) | ((apply f_no); first | refine zj2 ?_ | refine za ?_) | ((apply f_pk); first | refine zu1 (v := .c _) ?_ | refine za ?_) | refine n_al ?_ | refine n_bs ?_ | refine za ?_) | ((apply f_w); first | refine zy ?_ | refine zc ?_) | refine zb fun C => ?_ | refine zn ?_ | refine ze ?_ | refine zh ?_ | refine zi ?_)
    all_goals first
      | (exfalso; simp at hG; omega)
      | skip
    refine zt (by rfl) (fun hC => ?_) fun hC => absurd (bne_eq_false_iff_eq.1 hC) (by omega)
    repeat' (first | ((apply f_wo); first | ((apply f_gs); first | refine n_sk ?_) | ((apply f_mv); first | (refine zw1 ?_ ?_ <;> intro hG <;> (try cases hG)) | refine zg1 (v := .c _) ?_ | refine za ?_) | ((apply f_as); first | refine zf1 (v := .c _) ?_ | refine za ?_) | ((apply f_fa); first | refine n_fa ?_ | refine zk1 ?_) | ((apply f_ld); first | refine zp1 ?_ | refine zb1 ?_ | refine zw ?_ | refine zi1 ?_ | refine n_ld ?_) | ((apply f_ca); first | refine zl2 0 (hnx) ?_ | refine zl2 0 (hic) ?_) | ((apply f_bi); first | refine zd1 ?_ | refine zc1 ?_ | refine ze1 ?_ | refine zq2 ?_ | refine zq2 (hnu := zl _) ?_ | refine zv1 ?_ | refine zv1 (hnu := zl _) ?_ | refine za ?_) | ((apply f_st); first | refine n_st ?_ | refine zt1 ?_) | ((apply f_ia); first | refine n_ix ?_ | refine zc2 ?_ | refine za ?_) | ((apply zz1); first | refine za1 ?_ | refine za ?_) | ((apply zy2); first | refine zy1 ?_ | refine za ?_) | ((apply f_no); first | refine zj2 ?_ | refine za ?_) | ((apply f_pk); first | refine zu1 (v := .c _) ?_ | refine za ?_) | refine n_al ?_ | refine n_bs ?_ | refine za ?_) | ((apply f_w); first | refine zy ?_ | refine zc ?_) | refine zb fun C => ?_ | refine zn ?_ | refine ze ?_ | refine zh ?_ | refine zi ?_ | refine zx rfl ?_ | refine zv rfl ?_)
    refine ⟨M, (L ++ [rexE k t l], q2), by omega, ⟨⟨fun x hx => ?_, ?_, g3, ?_, ?_, ?_⟩, ?_, htot⟩, ?_⟩
    · rcases List.mem_append.1 hx with hx | hx
      · exact k1 x hx
      · obtain rfl := List.mem_singleton.1 hx; exact .mk k t l hk ht hl2
    · dsimp only; omega
    · dsimp only; omega
    · dsimp only; rw [List.length_append, List.length_singleton]; omega
    · dsimp only; rw [zr7, List.length_append, List.length_singleton]; omega
    · dsimp only; omega
    · dsimp only
      rw [List.length_append, List.length_singleton]
      refine (ze8 (i := 28) (j := 2700) rfl rfl rfl (pre := owL L ++ [.v (.int .i64 k), .v (.string t)]) (post := []) (by rw [List.append_assoc]; rfl)).trans ?_
      (refine zm7 (fun j => if j = 9 then 28 else j) _ _ rfl rfl ?_ ?_ <;> (repeat' (first | exact TmOk.nil | exact RwOk.nil | refine TmOk.cons ?_ ?_ | refine RwOk.cons ?_ ?_ | rfl | (refine rnV_id' rfl ?_; (first | rfl | (simp [cloV, cloL, clo, zj, zf, zk, zg, zd]; done))) | (refine zd3 ?_; first | rfl | omega | (rw [zb2 (by omega) (by omega)]; omega)) | (refine zi2 rfl ?_; (first | rfl | (simp [cloV, cloL, clo, zj, zf, zk, zg, zd]; done))) | exact zj4 rfl rfl | (refine ze3 (by rfl) (by rfl) ?_ ?_ <;> (first | rfl | (simp [cloV, cloL, clo, zj, zf, zk, zg, zd]; done))) | (refine rw_rn' rfl rfl ?_; simp; done))))
      exact za20 (r := ⟨86, 3, L.length + 1, false, (owL L ++ [.v (.int .i64 k), .v (.string t)]) ++ [.ow 86 l.length 3 (owL l)]⟩) rfl (by rw [zd8, List.append_assoc]; rfl) (by first | rfl | (simp [cloV, cloL, clo, zj, zf, zk, zg, zd]; done))
  | false =>
    rw [zp15 hgo] at htail
    rw [htail]
    clear htail hi hg htot
    obtain ⟨a, d, b⟩ := q
    obtain ⟨v, hv⟩ : ∃ v, bAt s a = v := ⟨_, rfl⟩
    rw [zj14 hv] at hgo
    have hnx : Ctr Try.prog 91 [.c (.pt 0 0)] [rdrI s ⟨a, d, b⟩] (.c (.v (.int .u8 (v : Int)))) [rdrI s ⟨a, d, b⟩] := by rw [← hv]; exact hnx
    unfold rdrI at hnx ⊢
    dsimp only [PS.bad] at hnx k2 k3 k4 k5 k6 hN ⊢
    have hgo' : b = true ∨ v = 0 ∨ v = 124 ∨ v = 41 := by
      cases b with
      | true => exact .inl rfl
      | false => right; simp at hgo; omega
    match L, k1 with
    | [], _ =>
      rw [if_pos (show ([] : List E).length = 0 from rfl)]
      cases b <;> repeat' (first | ((apply f_wo); first | ((apply f_gs); first | refine n_sk ?_) | ((apply f_mv); first | (refine zw1 ?_ ?_ <;> intro hG <;> (try cases hG)) | refine zg1 (v := .c _) ?_ | refine za ?_) | ((apply f_as); first | refine zf1 (v := .c _) ?_ | refine za ?_) | ((apply f_fa); first | refine n_fa ?_ | refine zk1 ?_) | ((apply f_ld); first | refine zp1 ?_ | refine zb1 ?_ | refine zw ?_ | refine zi1 ?_ | refine n_ld ?_) | ((apply f_ca); first | refine zl2 0 (hnx) ?_) | ((apply f_bi); first | refine zd1 ?_ | refine zc1 ?_ | refine ze1 ?_ | refine zq2 ?_ | refine zq2 (hnu := zl _) ?_ | refine zv1 ?_ | refine zv1 (hnu := zl _) ?_ | refine za ?_) | ((apply f_st); first | refine n_st ?_ | refine zt1 ?_) | ((apply f_ia); first | refine n_ix ?_ | refine zc2 ?_ | refine za ?_) | ((apply zz1); first | refine za1 ?_ | refine za ?_) | ((apply zy2); first | refine zy1 ?_ | refine za ?_) | ((apply f_no); first | refine zj2 ?_ | refine za ?_) | ((apply f_pk); first | refine zu1 (v := .c _) ?_ | refine za ?_) | refine n_al ?_ | refine n_bs ?_ | refine za ?_) | ((apply f_w); first | refine zy ?_ | refine zc ?_) | refine zb fun C => ?_ | refine zn ?_ | refine ze ?_ | refine zh ?_ | refine zi ?_)
      all_goals first
        | refine zv rfl ?_
        | refine zt (by rfl) (fun hC => by exfalso; clear hnx; simp only [bne_iff_ne, ne_eq, Bool.false_eq_true, false_or] at *; omega) fun hC => ?_
      all_goals
        repeat' (first | ((apply f_wo); first | ((apply f_gs); first | refine n_sk ?_) | ((apply f_mv); first | (refine zw1 ?_ ?_ <;> intro hG <;> (try cases hG)) | refine zg1 (v := .c _) ?_ | refine za ?_) | ((apply f_as); first | refine zf1 (v := .c _) ?_ | refine za ?_) | ((apply f_fa); first | refine n_fa ?_ | refine zk1 ?_) | ((apply f_ld); first | refine zp1 ?_ | refine zb1 ?_ | refine zw ?_ | refine zi1 ?_ | refine n_ld ?_) | ((apply f_bi); first | refine zd1 ?_ | refine zc1 ?_ | refine ze1 ?_ | refine zq2 ?_ | refine zq2 (hnu := zl _) ?_ | refine zv1 ?_ | refine zv1 (hnu := zl _) ?_ | refine za ?_) | ((apply f_st); first | refine n_st ?_ | refine zt1 ?_) | ((apply f_ia); first | refine n_ix ?_ | refine zc2 ?_ | refine za ?_) | ((apply zz1); first | refine za1 ?_ | refine za ?_) | ((apply zy2); first | refine zy1 ?_ | refine za ?_) | ((apply f_no); first | refine zj2 ?_ | refine za ?_) | ((apply f_pk); first | refine zu1 (v := .c _) ?_ | refine za ?_) | refine n_al ?_ | refine n_bs ?_ | refine za ?_) | ((apply f_w); first | refine zy ?_ | refine zc ?_) | refine zb fun C => ?_ | refine zn ?_ | refine ze ?_ | refine zh ?_ | refine zi ?_ | refine zx rfl ?_ | refine zv rfl ?_)
        refine zm4 (ze6 900 (i := 2) 86 3 rfl rfl (pre := [_, _]) (post := []) rfl) ?_; refine zu ?_; refine ret1 rfl (zl3 (zu2 rfl (zu2 rfl (zk3 rfl rfl rfl (by first | exact zg _ | exact zf _ | exact bytC_clo _ | (simp [cloL, clo, zg, zf, zk, zj, zd]; done) | (simp [cloL, clo, opC, opL, zg, zf, zk, zj, zd]; done)) zs2)))) rfl (by first | rfl | (simp [cloL, clo, zg, zf, zk, zj, zd]; done)) rfl ⟨?_, ?_⟩
        · rfl
        · rfl
    | [x], hf =>
      rw [if_neg (show ¬ [x].length = 0 by simp)]
      have hx := hf x (List.mem_singleton.2 rfl)
      cases hx with
      | mk k t l hk ht hl2 =>
      cases b <;> repeat' (first | ((apply f_wo); first | ((apply f_gs); first | refine n_sk ?_) | ((apply f_mv); first | (refine zw1 ?_ ?_ <;> intro hG <;> (try cases hG)) | refine zg1 (v := .c _) ?_ | refine za ?_) | ((apply f_as); first | refine zf1 (v := .c _) ?_ | refine za ?_) | ((apply f_fa); first | refine n_fa ?_ | refine zk1 ?_) | ((apply f_ld); first | refine zp1 ?_ | refine zb1 ?_ | refine zw ?_ | refine zi1 ?_ | refine n_ld ?_) | ((apply f_ca); first | refine zl2 0 (hnx) ?_) | ((apply f_bi); first | refine zd1 ?_ | refine zc1 ?_ | refine ze1 ?_ | refine zq2 ?_ | refine zq2 (hnu := zl _) ?_ | refine zv1 ?_ | refine zv1 (hnu := zl _) ?_ | refine za ?_) | ((apply f_st); first | refine n_st ?_ | refine zt1 ?_) | ((apply f_ia); first | refine n_ix ?_ | refine zc2 ?_ | refine za ?_) | ((apply zz1); first | refine za1 ?_ | refine za ?_) | ((apply zy2); first | refine zy1 ?_ | refine za ?_) | ((apply f_no); first | refine zj2 ?_ | refine za ?_) | ((apply f_pk); first | refine zu1 (v := .c _) ?_ | refine za ?_) | refine n_al ?_ | refine n_bs ?_ | refine za ?_) | ((apply f_w); first | refine zy ?_ | refine zc ?_) | refine zb fun C => ?_ | refine zn ?_ | refine ze ?_ | refine zh ?_ | refine zi ?_)
      all_goals first
        | refine zv rfl ?_
        | refine zt (by rfl) (fun hC => by exfalso; clear hnx; simp only [bne_iff_ne, ne_eq, Bool.false_eq_true, false_or] at *; omega) fun hC => ?_
      all_goals
        refine zm4 (g_rev 800 (i := 9) rfl rfl (pre := [.v (.int .i64 k), .v (.string t)]) (post := []) rfl) ?_
        repeat' (first | ((apply f_wo); first | ((apply f_gs); first | refine n_sk ?_) | ((apply f_mv); first | (refine zw1 ?_ ?_ <;> intro hG <;> (try cases hG)) | refine zg1 (v := .c _) ?_ | refine za ?_) | ((apply f_as); first | refine zf1 (v := .c _) ?_ | refine za ?_) | ((apply f_fa); first | refine n_fa ?_ | refine zk1 ?_) | ((apply f_ld); first | refine zp1 ?_ | refine zb1 ?_ | refine zw ?_ | refine zi1 ?_ | refine n_ld ?_) | ((apply f_bi); first | refine zd1 ?_ | refine zc1 ?_ | refine ze1 ?_ | refine zq2 ?_ | refine zq2 (hnu := zl _) ?_ | refine zv1 ?_ | refine zv1 (hnu := zl _) ?_ | refine za ?_) | ((apply f_st); first | refine n_st ?_ | refine zt1 ?_) | ((apply f_ia); first | refine n_ix ?_ | refine zc2 ?_ | refine za ?_) | ((apply zz1); first | refine za1 ?_ | refine za ?_) | ((apply zy2); first | refine zy1 ?_ | refine za ?_) | ((apply f_no); first | refine zj2 ?_ | refine za ?_) | ((apply f_pk); first | refine zu1 (v := .c _) ?_ | refine za ?_) | refine n_al ?_ | refine n_bs ?_ | refine za ?_) | ((apply f_w); first | refine zy ?_ | refine zc ?_) | refine zb fun C => ?_ | refine zn ?_ | refine ze ?_ | refine zh ?_ | refine zi ?_ | refine zx rfl ?_ | refine zv rfl ?_)
        refine zu ?_; refine ret1 rfl (zl3 (zu2 rfl (zu2 rfl (zk3 rfl rfl rfl (by first | exact zg _ | exact zf _ | exact bytC_clo _ | (simp [cloL, clo, zg, zf, zk, zj, zd]; done) | (simp [cloL, clo, opC, opL, zg, zf, zk, zj, zd]; done)) zs2)))) rfl (by first | rfl | (simp [cloL, clo, zg, zf, zk, zj, zd]; done)) rfl ⟨?_, ?_⟩
        · rfl
        · rfl
    | x :: y :: r, hf =>
      rw [if_neg (show ¬ (x :: y :: r).length = 0 by simp)]
      have hlen : (x :: y :: r).length = r.length + 2 := rfl
      cases b <;> repeat' (first | ((apply f_wo); first | ((apply f_gs); first | refine n_sk ?_) | ((apply f_mv); first | (refine zw1 ?_ ?_ <;> intro hG <;> (try cases hG)) | refine zg1 (v := .c _) ?_ | refine za ?_) | ((apply f_as); first | refine zf1 (v := .c _) ?_ | refine za ?_) | ((apply f_fa); first | refine n_fa ?_ | refine zk1 ?_) | ((apply f_ld); first | refine zp1 ?_ | refine zb1 ?_ | refine zw ?_ | refine zi1 ?_ | refine n_ld ?_) | ((apply f_ca); first | refine zl2 0 (hnx) ?_) | ((apply f_bi); first | refine zd1 ?_ | refine zc1 ?_ | refine ze1 ?_ | refine zq2 ?_ | refine zq2 (hnu := zl _) ?_ | refine zv1 ?_ | refine zv1 (hnu := zl _) ?_ | refine za ?_) | ((apply f_st); first | refine n_st ?_ | refine zt1 ?_) | ((apply f_ia); first | refine n_ix ?_ | refine zc2 ?_ | refine za ?_) | ((apply zz1); first | refine za1 ?_ | refine za ?_) | ((apply zy2); first | refine zy1 ?_ | refine za ?_) | ((apply f_no); first | refine zj2 ?_ | refine za ?_) | ((apply f_pk); first | refine zu1 (v := .c _) ?_ | refine za ?_) | refine n_al ?_ | refine n_bs ?_ | refine za ?_) | ((apply f_w); first | refine zy ?_ | refine zc ?_) | refine zb fun C => ?_ | refine zn ?_ | refine ze ?_ | refine zh ?_ | refine zi ?_)
      all_goals first
        | refine zv rfl ?_
        | refine zt (by rfl) (fun hC => by exfalso; clear hnx; simp only [bne_iff_ne, ne_eq, Bool.false_eq_true, false_or] at *; omega) fun hC => ?_
      all_goals
        repeat' (first | ((apply f_wo); first | ((apply f_gs); first | refine n_sk ?_) | ((apply f_mv); first | (refine zw1 ?_ ?_ <;> intro hG <;> (try cases hG)) | refine zg1 (v := .c _) ?_ | refine za ?_) | ((apply f_as); first | refine zf1 (v := .c _) ?_ | refine za ?_) | ((apply f_fa); first | refine n_fa ?_ | refine zk1 ?_) | ((apply f_ld); first | refine zp1 ?_ | refine zb1 ?_ | refine zw ?_ | refine zi1 ?_ | refine n_ld ?_) | ((apply f_bi); first | refine zd1 ?_ | refine zc1 ?_ | refine ze1 ?_ | refine zq2 ?_ | refine zq2 (hnu := zl _) ?_ | refine zv1 ?_ | refine zv1 (hnu := zl _) ?_ | refine za ?_) | ((apply f_st); first | refine n_st ?_ | refine zt1 ?_) | ((apply f_ia); first | refine n_ix ?_ | refine zc2 ?_ | refine za ?_) | ((apply zz1); first | refine za1 ?_ | refine za ?_) | ((apply zy2); first | refine zy1 ?_ | refine za ?_) | ((apply f_no); first | refine zj2 ?_ | refine za ?_) | ((apply f_pk); first | refine zu1 (v := .c _) ?_ | refine za ?_) | refine n_al ?_ | refine n_bs ?_ | refine za ?_) | ((apply f_w); first | refine zy ?_ | refine zc ?_) | refine zb fun C => ?_ | refine zn ?_ | refine ze ?_ | refine zh ?_ | refine zi ?_)
        refine zt (by rfl) (fun hC => by exfalso; simp at hC; omega) fun hC => ?_
        repeat' (first | ((apply f_wo); first | ((apply f_gs); first | refine n_sk ?_) | ((apply f_mv); first | (refine zw1 ?_ ?_ <;> intro hG <;> (try cases hG)) | refine zg1 (v := .c _) ?_ | refine za ?_) | ((apply f_as); first | refine zf1 (v := .c _) ?_ | refine za ?_) | ((apply f_fa); first | refine n_fa ?_ | refine zk1 ?_) | ((apply f_ld); first | refine zp1 ?_ | refine zb1 ?_ | refine zw ?_ | refine zi1 ?_ | refine n_ld ?_) | ((apply f_bi); first | refine zd1 ?_ | refine zc1 ?_ | refine ze1 ?_ | refine zq2 ?_ | refine zq2 (hnu := zl _) ?_ | refine zv1 ?_ | refine zv1 (hnu := zl _) ?_ | refine za ?_) | ((apply f_st); first | refine n_st ?_ | refine zt1 ?_) | ((apply f_ia); first | refine n_ix ?_ | refine zc2 ?_ | refine za ?_) | ((apply zz1); first | refine za1 ?_ | refine za ?_) | ((apply zy2); first | refine zy1 ?_ | refine za ?_) | ((apply f_no); first | refine zj2 ?_ | refine za ?_) | ((apply f_pk); first | refine zu1 (v := .c _) ?_ | refine za ?_) | refine n_al ?_ | refine n_bs ?_ | refine za ?_) | ((apply f_w); first | refine zy ?_ | refine zc ?_) | refine zb fun C => ?_ | refine zn ?_ | refine ze ?_ | refine zh ?_ | refine zi ?_)
        refine zt (by rfl) (fun hC => by exfalso; simp at hC; omega) fun hC => ?_
        repeat' (first | ((apply f_wo); first | ((apply f_gs); first | refine n_sk ?_) | ((apply f_mv); first | (refine zw1 ?_ ?_ <;> intro hG <;> (try cases hG)) | refine zg1 (v := .c _) ?_ | refine za ?_) | ((apply f_as); first | refine zf1 (v := .c _) ?_ | refine za ?_) | ((apply f_fa); first | refine n_fa ?_ | refine zk1 ?_) | ((apply f_ld); first | refine zp1 ?_ | refine zb1 ?_ | refine zw ?_ | refine zi1 ?_ | refine n_ld ?_) | ((apply f_bi); first | refine zd1 ?_ | refine zc1 ?_ | refine ze1 ?_ | refine zq2 ?_ | refine zq2 (hnu := zl _) ?_ | refine zv1 ?_ | refine zv1 (hnu := zl _) ?_ | refine za ?_) | ((apply f_st); first | refine n_st ?_ | refine zt1 ?_) | ((apply f_ia); first | refine n_ix ?_ | refine zc2 ?_ | refine za ?_) | ((apply zz1); first | refine za1 ?_ | refine za ?_) | ((apply zy2); first | refine zy1 ?_ | refine za ?_) | ((apply f_no); first | refine zj2 ?_ | refine za ?_) | ((apply f_pk); first | refine zu1 (v := .c _) ?_ | refine za ?_) | refine n_al ?_ | refine n_bs ?_ | refine za ?_) | ((apply f_w); first | refine zy ?_ | refine zc ?_) | refine zb fun C => ?_ | refine zn ?_ | refine ze ?_ | refine zh ?_ | refine zi ?_)
        refine zu ?_; refine ret1 rfl (zl3 (zu2 rfl (zu2 rfl (zk3 rfl rfl rfl (by first | exact zg _ | exact zf _ | exact bytC_clo _ | (simp [cloL, clo, zg, zf, zk, zj, zd]; done) | (simp [cloL, clo, opC, opL, zg, zf, zk, zj, zd]; done)) zs2)))) rfl (by first | rfl | (simp [cloL, clo, zg, zf, zk, zj, zd]; done)) rfl ⟨?_, ?_⟩
        · rfl
        · rfl
theorem zq15 {s : ByteArray} {cat : PS → E × PS} {p : PS} (h : barI s p = false) : ∀ (n : Nat) (l : List E), altLoopI s cat n l p = (l, p)
  | 0, _ => rfl
  | n + 1, l => by unfold altLoopI; rw [if_neg (by rw [h]; simp)]
theorem zw17 {s : ByteArray} {a d v : Nat} {b : Bool} (hv : bAt s a = v) : barI s ⟨a, d, b⟩ = (!b && (v == 124)) := by unfold barI; rw [hv]
set_option maxHeartbeats 8000000 in
theorem alt_c {s : ByteArray} (hs : s.size ≤ 1048576) {cat : PS → E × PS} {p : PS} (hp : p.a ≤ s.size) (hd : p.d ≤ p.a)
    (hg : ∀ q, q.a ≤ s.size → q.d = p.d + 1 → p.a ≤ q.a → Good s q (cat q) 0 0 0)
    (hi : ∀ q, q.a ≤ s.size → q.d = p.d + 1 → p.a ≤ q.a → Ctr Try.prog 90 [.c (.pt 0 0)] [rdrI s q] (.ag (owE (cat q).1)) [rdrI s (cat q).2]) :
    Ctr Try.prog 79 [.c (.pt 0 0)] [rdrI s p] (.ag (owE (altB s cat p).1)) [rdrI s (altB s cat p).2] := by
  obtain ⟨a, d, b⟩ := p
  dsimp only at hp hd hg hi
  obtain ⟨bb, hbb, hcase⟩ : ∃ bb, (b || decide (40 < d + 1)) = bb ∧ ((40 < d + 1 ∧ bb = true) ∨ (¬ 40 < d + 1 ∧ bb = b)) := by
    by_cases h : 40 < d + 1
    · exact ⟨true, by rw [decide_eq_true h, Bool.or_true], .inl ⟨h, rfl⟩⟩
    · exact ⟨b, by rw [decide_eq_false h, Bool.or_false], .inr ⟨h, rfl⟩⟩
  have hic := hi ⟨a, d + 1, bb⟩ hp rfl (Nat.le_refl _)
  obtain ⟨g1, g2, g3, g4, g5⟩ := hg ⟨a, d + 1, bb⟩ hp rfl (Nat.le_refl _)
  obtain ⟨⟨e, q0⟩, hq0⟩ : ∃ r, cat ⟨a, d + 1, bb⟩ = r := ⟨_, rfl⟩
  have htot0 : altB s cat ⟨a, d, b⟩ = (oneOr 5 (altLoopI s cat (s.size + 1) [e] q0).1, ⟨(altLoopI s cat (s.size + 1) [e] q0).2.a, (altLoopI s cat (s.size + 1) [e] q0).2.d - 1, (altLoopI s cat (s.size + 1) [e] q0).2.b⟩) := by
    unfold altB
    dsimp only
    rw [hbb, hq0]
  rw [htot0]
  clear htot0 hbb
  rw [hq0] at hic g1 g2 g3 g4 g5
  dsimp only at hic g1 g2 g3 g4 g5
  cases g1 with
  | mk k t l hk ht hl2 =>
  refine zm2 Try.func79 rfl rfl ?_
  unfold rdrI at hic ⊢
  dsimp only at hic ⊢
  repeat' (first | ((apply f_wo); first | ((apply f_gs); first | refine n_sk ?_) | ((apply f_mv); first | (refine zw1 ?_ ?_ <;> intro hG <;> (try cases hG)) | refine zg1 (v := .c _) ?_ | refine za ?_) | ((apply f_as); first | refine zf1 (v := .c _) ?_ | refine za ?_) | ((apply f_fa); first | refine n_fa ?_ | refine zk1 ?_) | ((apply f_ld); first | refine zp1 ?_ | refine zb1 ?_ | refine zw ?_ | refine zi1 ?_ | refine n_ld ?_) | ((apply f_bi); first | refine zd1 ?_ | refine zc1 ?_ | refine ze1 ?_ | refine zq2 ?_ | refine zq2 (hnu := zl _) ?_ | refine zv1 ?_ | refine zv1 (hnu := zl _) ?_ | refine za ?_) | ((apply f_st); first | refine n_st ?_ | refine zt1 ?_) | ((apply f_ia); first | refine n_ix ?_ | refine zc2 ?_ | refine za ?_) | ((apply zz1); first | refine za1 ?_ | refine zd2 ?_ | refine za ?_) | ((apply zq3); first | refine zh1 ?_ | refine za ?_) | ((apply zs1); first | refine zo ?_ | refine zr1 ?_ | refine za ?_) | ((apply f_no); first | refine zj2 ?_ | refine za ?_) | ((apply f_pk); first | refine zu1 (v := .c _) ?_ | refine za ?_) | ((apply f_bb); first | refine zg2 ?_ | refine zh2 ?_ | refine za ?_) | refine n_al ?_ | refine n_bs ?_ | refine za ?_) | ((apply f_w); first | refine zy ?_ | refine zc ?_) | refine zb fun C => ?_ | refine zn ?_ | refine ze ?_ | refine zh ?_ | refine zi ?_)
  rcases hcase with ⟨h40, rfl⟩ | ⟨h40, rfl⟩
  all_goals first
    | refine zt (by rfl) (fun hC => ?_) fun hC => absurd (of_decide_eq_false hC) (Decidable.not_not.2 (by omega))
    | refine zt (by rfl) (fun hC => absurd (of_decide_eq_true hC) (by omega)) fun hC => ?_
  all_goals
    repeat' (first | ((apply f_wo); first | ((apply f_gs); first | refine n_sk ?_) | ((apply f_mv); first | (refine zw1 ?_ ?_ <;> intro hG <;> (try cases hG)) | refine zg1 (v := .c _) ?_ | refine za ?_) | ((apply f_as); first | refine zf1 (v := .c _) ?_ | refine za ?_) | ((apply f_fa); first | refine n_fa ?_ | refine zk1 ?_) | ((apply f_ld); first | refine zp1 ?_ | refine zb1 ?_ | refine zw ?_ | refine zi1 ?_ | refine n_ld ?_) | ((apply f_ca); first | refine zl2 0 (hic) ?_) | ((apply f_bi); first | refine zd1 ?_ | refine zc1 ?_ | refine ze1 ?_ | refine zq2 ?_ | refine zq2 (hnu := zl _) ?_ | refine zv1 ?_ | refine zv1 (hnu := zl _) ?_ | refine za ?_) | ((apply f_st); first | refine n_st ?_ | refine zt1 ?_) | ((apply f_ia); first | refine n_ix ?_ | refine zc2 ?_ | refine za ?_) | ((apply zz1); first | refine za1 ?_ | refine zd2 ?_ | refine za ?_) | ((apply zq3); first | refine zh1 ?_ | refine za ?_) | ((apply zs1); first | refine zo ?_ | refine zr1 ?_ | refine za ?_) | ((apply f_no); first | refine zj2 ?_ | refine za ?_) | ((apply f_pk); first | refine zu1 (v := .c _) ?_ | refine za ?_) | ((apply f_bb); first | refine zg2 ?_ | refine zh2 ?_ | refine za ?_) | refine n_al ?_ | refine n_bs ?_ | refine za ?_) | ((apply f_w); first | refine zy ?_ | refine zc ?_) | refine zb fun C => ?_ | refine zn ?_ | refine ze ?_ | refine zh ?_ | refine zi ?_)
    refine zp3 (fun q : List E × PS => ⟨tmsF [(0, .c (.pt 0 0)), (2, .c (.pt 2 0)), (3, .c (.sl 9 q.1.length))], hpsF [(0, 0, ⟨0, 0, 0, true, rdrI s q.2⟩), (2, 2, ⟨86, 0, 0, true, [.v (.int .i64 0), .v (.string ByteArray.empty), .v (.slice none 0 0)]⟩), (9, 9, ⟨86, 3, q.1.length, false, owL q.1⟩)], 1, [0, 2, 9], 59⟩)
      (fun N q => GoodL s ⟨a, d + 1, true⟩ q.1 q.2 1 ∧ 0 < q.1.length ∧ s.size + 1 ≤ q.2.a + N ∧ altLoopI s cat N q.1 q.2 = altLoopI s cat (s.size + 1) [rexE k t l] q0) (s.size + 1) ([rexE k t l], q0) ⟨⟨fun x hx => by obtain rfl := List.mem_singleton.1 hx; exact .mk k t l hk ht hl2, by dsimp only; omega, g3, g4, by dsimp only; rw [List.length_singleton]; omega, by dsimp only; simp only [E.szL, List.length_singleton]; omega⟩, by simp, by dsimp only; omega, rfl⟩ ?_ ?_
    · refine (ze8 (i := 21) (j := 2100) rfl rfl rfl (pre := [_, _]) (post := []) rfl).trans ?_
      (refine zm7 (fun j => if j = 9 then 21 else j) _ _ rfl rfl ?_ ?_ <;> (repeat' (first | exact TmOk.nil | exact RwOk.nil | refine TmOk.cons ?_ ?_ | refine RwOk.cons ?_ ?_ | rfl | (refine rnV_id' rfl ?_; (first | rfl | (simp [cloV, cloL, clo, zj, zf, zk, zg, zd]; done))) | (refine zd3 ?_; first | rfl | omega | (rw [zb2 (by omega) (by omega)]; omega)) | (refine zi2 rfl ?_; (first | rfl | (simp [cloV, cloL, clo, zj, zf, zk, zg, zd]; done))) | exact zj4 rfl rfl | (refine ze3 (by rfl) (by rfl) ?_ ?_ <;> (first | rfl | (simp [cloV, cloL, clo, zj, zf, zk, zg, zd]; done))) | (refine rw_rn' rfl rfl ?_; simp; done))))
    rintro N ⟨L, q⟩ ⟨hgl, hL0, hN, htot⟩
    dsimp only at hgl hL0 hN htot ⊢
    obtain ⟨k1, k2, k3, k4, k5, k6⟩ := hgl
    have hnx := zt11 hs (p := q)
    obtain ⟨M, rfl⟩ : ∃ M, N = M + 1 := ⟨N - 1, by omega⟩
    obtain ⟨qa, qd, qb⟩ := q
    obtain ⟨v, hv⟩ : ∃ v, bAt s qa = v := ⟨_, rfl⟩
    have hnx : Ctr Try.prog 91 [.c (.pt 0 0)] [rdrI s ⟨qa, qd, qb⟩] (.c (.v (.int .u8 (v : Int)))) [rdrI s ⟨qa, qd, qb⟩] := by rw [← hv]; exact hnx
    have hbar := zw17 (d := qd) (b := qb) hv
    dsimp only at k2 k3 k4 k5 k6 hN
    cases hgo : barI s ⟨qa, qd, qb⟩ with
    | true =>
      rw [hgo] at hbar
      have hgo2 := hbar.symm
      simp only [Bool.and_eq_true, Bool.not_eq_true', beq_iff_eq] at hgo2
      obtain ⟨rfl, rfl⟩ := hgo2
      have hlt : qa < s.size := zw4 (by rw [hv]; decide)
      have hst : altLoopI s cat (M + 1) L ⟨qa, qd, false⟩ = altLoopI s cat M (L ++ [(cat ⟨qa + 1, qd, false⟩).1]) (cat ⟨qa + 1, qd, false⟩).2 := by
        show (if barI s ⟨qa, qd, false⟩ then _ else _) = _
        rw [if_pos hgo]; rfl
      rw [hst] at htot
      have hic2 := hi ⟨qa + 1, qd, false⟩ (by dsimp only; omega) k4 (by dsimp only; omega)
      obtain ⟨e1, e2, e3, e4, e5⟩ := hg ⟨qa + 1, qd, false⟩ (by dsimp only; omega) k4 (by dsimp only; omega)
      clear hst hi hg hic
      obtain ⟨⟨e', q2⟩, hq2⟩ : ∃ r, cat ⟨qa + 1, qd, false⟩ = r := ⟨_, rfl⟩
      rw [hq2] at hic2 htot e1 e2 e3 e4 e5
      dsimp only at hic2 htot e1 e2 e3 e4 e5
      cases e1 with
      | mk k' t' l' hk' ht' hl2' =>
      unfold rdrI at hnx hic2 ⊢
      dsimp only at hnx hic2 ⊢
      repeat' (first | ((apply f_wo); first | ((apply f_gs); first | refine n_sk ?_) | ((apply f_mv); first | (refine zw1 ?_ ?_ <;> intro hG <;> (try cases hG)) | refine zg1 (v := .c _) ?_ | refine za ?_) | ((apply f_as); first | refine zf1 (v := .c _) ?_ | refine za ?_) | ((apply f_fa); first | refine n_fa ?_ | refine zk1 ?_) | ((apply f_ld); first | refine zp1 ?_ | refine zb1 ?_ | refine zw ?_ | refine zi1 ?_ | refine n_ld ?_) | ((apply f_ca); first | refine zl2 0 (hnx) ?_ | refine zl2 0 (hic2) ?_) | ((apply f_bi); first | refine zd1 ?_ | refine zc1 ?_ | refine ze1 ?_ | refine zq2 ?_ | refine zq2 (hnu := zl _) ?_ | refine zv1 ?_ | refine zv1 (hnu := zl _) ?_ | refine za ?_) | ((apply f_st); first | refine n_st ?_ | refine zt1 ?_) | ((apply f_ia); first | refine n_ix ?_ | refine zc2 ?_ | refine za ?_) | ((apply zz1); first | refine za1 ?_ | refine zd2 ?_ | refine za ?_) | ((apply zq3); first | refine zh1 ?_ | refine za ?_) | ((apply zs1); first | refine zo ?_ | refine zr1 ?_ | refine za ?_) | ((apply f_no); first | refine zj2 ?_ | refine za ?_) | ((apply f_pk); first | refine zu1 (v := .c _) ?_ | refine za ?_) | ((apply f_bb); first | refine zg2 ?_ | refine zh2 ?_ | refine za ?_) | refine n_al ?_ | refine n_bs ?_ | refine za ?_) | ((apply f_w); first | refine zy ?_ | refine zc ?_) | refine zb fun C => ?_ | refine zn ?_ | refine ze ?_ | refine zh ?_ | refine zi ?_ | refine zx rfl ?_ | refine zv rfl ?_)
      refine ⟨M, (L ++ [rexE k' t' l'], q2), by omega, ⟨⟨fun x hx => ?_, ?_, e3, ?_, ?_, ?_⟩, ?_, ?_, htot⟩, ?_⟩
      · rcases List.mem_append.1 hx with hx | hx
        · exact k1 x hx
        · obtain rfl := List.mem_singleton.1 hx; exact .mk k' t' l' hk' ht' hl2'
      · dsimp only; omega
      · dsimp only; omega
      · dsimp only; rw [List.length_append, List.length_singleton]; omega
      · dsimp only; rw [zr7, List.length_append, List.length_singleton]; omega
      · dsimp only; rw [List.length_append, List.length_singleton]; omega
      · dsimp only; omega
      · dsimp only
        rw [List.length_append, List.length_singleton]
        refine (ze8 (i := 43) (j := 4200) rfl rfl rfl (pre := owL L ++ [.v (.int .i64 k'), .v (.string t')]) (post := []) (by rw [List.append_assoc]; rfl)).trans ?_
        (refine zm7 (fun j => if j = 9 then 43 else j) _ _ rfl rfl ?_ ?_ <;> (repeat' (first | exact TmOk.nil | exact RwOk.nil | refine TmOk.cons ?_ ?_ | refine RwOk.cons ?_ ?_ | rfl | (refine rnV_id' rfl ?_; (first | rfl | (simp [cloV, cloL, clo, zj, zf, zk, zg, zd]; done))) | (refine zd3 ?_; first | rfl | omega | (rw [zb2 (by omega) (by omega)]; omega)) | (refine zi2 rfl ?_; (first | rfl | (simp [cloV, cloL, clo, zj, zf, zk, zg, zd]; done))) | exact zj4 rfl rfl | (refine ze3 (by rfl) (by rfl) ?_ ?_ <;> (first | rfl | (simp [cloV, cloL, clo, zj, zf, zk, zg, zd]; done))) | (refine rw_rn' rfl rfl ?_; simp; done))))
        exact za20 (r := ⟨86, 3, L.length + 1, false, (owL L ++ [.v (.int .i64 k'), .v (.string t')]) ++ [.ow 86 l'.length 3 (owL l')]⟩) rfl (by rw [zd8, List.append_assoc]; rfl) (by first | rfl | (simp [cloV, cloL, clo, zj, zf, zk, zg, zd]; done))
    | false =>
      rw [zq15 hgo] at htot
      rw [← htot]
      rw [hgo] at hbar
      clear htot hi hg hic
      have hbar' : qb = true ∨ v ≠ 124 := by
        cases qb with
        | true => exact .inl rfl
        | false => right; simp at hbar; exact hbar
      have hqd : ((qd : Nat) : Int) - 1 = ((qd - 1 : Nat) : Int) := by omega
      unfold rdrI at hnx ⊢
      dsimp only at hnx ⊢
      match L, k1, hL0 with
      | [], _, h0 => exact absurd h0 (by simp)
      | [x], hf, _ =>
        have hx := hf x (List.mem_singleton.2 rfl)
        cases hx with
        | mk k' t' l' hk' ht' hl2' =>
        cases qb <;> repeat' (first | ((apply f_wo); first | ((apply f_gs); first | refine n_sk ?_) | ((apply f_mv); first | (refine zw1 ?_ ?_ <;> intro hG <;> (try cases hG)) | refine zg1 (v := .c _) ?_ | refine za ?_) | ((apply f_as); first | refine zf1 (v := .c _) ?_ | refine za ?_) | ((apply f_fa); first | refine n_fa ?_ | refine zk1 ?_) | ((apply f_ld); first | refine zp1 ?_ | refine zb1 ?_ | refine zw ?_ | refine zi1 ?_ | refine n_ld ?_) | ((apply f_ca); first | refine zl2 0 (hnx) ?_) | ((apply f_bi); first | refine zd1 ?_ | refine zc1 ?_ | refine ze1 ?_ | refine zq2 ?_ | refine zq2 (hnu := zl _) ?_ | refine zv1 ?_ | refine zv1 (hnu := zl _) ?_ | refine za ?_) | ((apply f_st); first | refine n_st ?_ | refine zt1 ?_) | ((apply f_ia); first | refine n_ix ?_ | refine zc2 ?_ | refine za ?_) | ((apply zz1); first | refine za1 ?_ | refine zd2 ?_ | refine za ?_) | ((apply zq3); first | refine zh1 ?_ | refine za ?_) | ((apply zs1); first | refine zo ?_ | refine zr1 ?_ | refine za ?_) | ((apply f_no); first | refine zj2 ?_ | refine za ?_) | ((apply f_pk); first | refine zu1 (v := .c _) ?_ | refine za ?_) | ((apply f_bb); first | refine zg2 ?_ | refine zh2 ?_ | refine za ?_) | refine n_al ?_ | refine n_bs ?_ | refine za ?_) | ((apply f_w); first | refine zy ?_ | refine zc ?_) | refine zb fun C => ?_ | refine zn ?_ | refine ze ?_ | refine zh ?_ | refine zi ?_)
        all_goals first
          | refine zv rfl ?_
          | refine zt (by rfl) (fun hC => by exfalso; clear hnx; simp only [beq_iff_eq, Bool.false_eq_true, false_or] at *; omega) fun hC => ?_
        all_goals
          refine zm4 (g_rev 800 (i := 9) rfl rfl (pre := [.v (.int .i64 k'), .v (.string t')]) (post := []) rfl) ?_
          repeat' (first | ((apply f_wo); first | ((apply f_gs); first | refine n_sk ?_) | ((apply f_mv); first | (refine zw1 ?_ ?_ <;> intro hG <;> (try cases hG)) | refine zg1 (v := .c _) ?_ | refine za ?_) | ((apply f_as); first | refine zf1 (v := .c _) ?_ | refine za ?_) | ((apply f_fa); first | refine n_fa ?_ | refine zk1 ?_) | ((apply f_ld); first | refine zp1 ?_ | refine zb1 ?_ | refine zw ?_ | refine zi1 ?_ | refine n_ld ?_) | ((apply f_bi); first | refine zd1 ?_ | refine zc1 ?_ | refine ze1 ?_ | refine zq2 ?_ | refine zq2 (hnu := zl _) ?_ | refine zv1 ?_ | refine zv1 (hnu := zl _) ?_ | refine za ?_) | ((apply f_st); first | refine n_st ?_ | refine zt1 ?_) | ((apply f_ia); first | refine n_ix ?_ | refine zc2 ?_ | refine za ?_) | ((apply zz1); first | refine za1 ?_ | refine zd2 ?_ | refine za ?_) | ((apply zq3); first | refine zh1 ?_ | refine za ?_) | ((apply zs1); first | refine zo ?_ | refine zr1 ?_ | refine za ?_) | ((apply f_no); first | refine zj2 ?_ | refine za ?_) | ((apply f_pk); first | refine zu1 (v := .c _) ?_ | refine za ?_) | ((apply f_bb); first | refine zg2 ?_ | refine zh2 ?_ | refine za ?_) | refine n_al ?_ | refine n_bs ?_ | refine za ?_) | ((apply f_w); first | refine zy ?_ | refine zc ?_) | refine zb fun C => ?_ | refine zn ?_ | refine ze ?_ | refine zh ?_ | refine zi ?_ | refine zx rfl ?_ | refine zv rfl ?_)
          refine zu ?_; refine ret1 rfl (zl3 (zu2 rfl (zu2 rfl (zk3 rfl rfl rfl (by first | exact zg _ | exact zf _ | exact bytC_clo _ | (simp [cloL, clo, zg, zf, zk, zj, zd]; done) | (simp [cloL, clo, opC, opL, zg, zf, zk, zj, zd]; done)) zs2)))) rfl (by first | rfl | (simp [cloL, clo, zg, zf, zk, zj, zd]; done)) rfl ⟨?_, ?_⟩
          · rfl
          · rw [← hqd]; rfl
      | x :: y :: r, hf, _ =>
        have hlen : (x :: y :: r).length = r.length + 2 := rfl
        cases qb <;> repeat' (first | ((apply f_wo); first | ((apply f_gs); first | refine n_sk ?_) | ((apply f_mv); first | (refine zw1 ?_ ?_ <;> intro hG <;> (try cases hG)) | refine zg1 (v := .c _) ?_ | refine za ?_) | ((apply f_as); first | refine zf1 (v := .c _) ?_ | refine za ?_) | ((apply f_fa); first | refine n_fa ?_ | refine zk1 ?_) | ((apply f_ld); first | refine zp1 ?_ | refine zb1 ?_ | refine zw ?_ | refine zi1 ?_ | refine n_ld ?_) | ((apply f_ca); first | refine zl2 0 (hnx) ?_) | ((apply f_bi); first | refine zd1 ?_ | refine zc1 ?_ | refine ze1 ?_ | refine zq2 ?_ | refine zq2 (hnu := zl _) ?_ | refine zv1 ?_ | refine zv1 (hnu := zl _) ?_ | refine za ?_) | ((apply f_st); first | refine n_st ?_ | refine zt1 ?_) | ((apply f_ia); first | refine n_ix ?_ | refine zc2 ?_ | refine za ?_) | ((apply zz1); first | refine za1 ?_ | refine zd2 ?_ | refine za ?_) | ((apply zq3); first | refine zh1 ?_ | refine za ?_) | ((apply zs1); first | refine zo ?_ | refine zr1 ?_ | refine za ?_) | ((apply f_no); first | refine zj2 ?_ | refine za ?_) | ((apply f_pk); first | refine zu1 (v := .c _) ?_ | refine za ?_) | ((apply f_bb); first | refine zg2 ?_ | refine zh2 ?_ | refine za ?_) | refine n_al ?_ | refine n_bs ?_ | refine za ?_) | ((apply f_w); first | refine zy ?_ | refine zc ?_) | refine zb fun C => ?_ | refine zn ?_ | refine ze ?_ | refine zh ?_ | refine zi ?_)
        all_goals first
          | refine zv rfl ?_
          | refine zt (by rfl) (fun hC => by exfalso; clear hnx; simp only [beq_iff_eq, Bool.false_eq_true, false_or] at *; omega) fun hC => ?_
        all_goals
          repeat' (first | ((apply f_wo); first | ((apply f_gs); first | refine n_sk ?_) | ((apply f_mv); first | (refine zw1 ?_ ?_ <;> intro hG <;> (try cases hG)) | refine zg1 (v := .c _) ?_ | refine za ?_) | ((apply f_as); first | refine zf1 (v := .c _) ?_ | refine za ?_) | ((apply f_fa); first | refine n_fa ?_ | refine zk1 ?_) | ((apply f_ld); first | refine zp1 ?_ | refine zb1 ?_ | refine zw ?_ | refine zi1 ?_ | refine n_ld ?_) | ((apply f_bi); first | refine zd1 ?_ | refine zc1 ?_ | refine ze1 ?_ | refine zq2 ?_ | refine zq2 (hnu := zl _) ?_ | refine zv1 ?_ | refine zv1 (hnu := zl _) ?_ | refine za ?_) | ((apply f_st); first | refine n_st ?_ | refine zt1 ?_) | ((apply f_ia); first | refine n_ix ?_ | refine zc2 ?_ | refine za ?_) | ((apply zz1); first | refine za1 ?_ | refine zd2 ?_ | refine za ?_) | ((apply zq3); first | refine zh1 ?_ | refine za ?_) | ((apply zs1); first | refine zo ?_ | refine zr1 ?_ | refine za ?_) | ((apply f_no); first | refine zj2 ?_ | refine za ?_) | ((apply f_pk); first | refine zu1 (v := .c _) ?_ | refine za ?_) | ((apply f_bb); first | refine zg2 ?_ | refine zh2 ?_ | refine za ?_) | refine n_al ?_ | refine n_bs ?_ | refine za ?_) | ((apply f_w); first | refine zy ?_ | refine zc ?_) | refine zb fun C => ?_ | refine zn ?_ | refine ze ?_ | refine zh ?_ | refine zi ?_)
          refine zt (by rfl) (fun hC => by exfalso; simp at hC; omega) fun hC => ?_
          repeat' (first | ((apply f_wo); first | ((apply f_gs); first | refine n_sk ?_) | ((apply f_mv); first | (refine zw1 ?_ ?_ <;> intro hG <;> (try cases hG)) | refine zg1 (v := .c _) ?_ | refine za ?_) | ((apply f_as); first | refine zf1 (v := .c _) ?_ | refine za ?_) | ((apply f_fa); first | refine n_fa ?_ | refine zk1 ?_) | ((apply f_ld); first | refine zp1 ?_ | refine zb1 ?_ | refine zw ?_ | refine zi1 ?_ | refine n_ld ?_) | ((apply f_bi); first | refine zd1 ?_ | refine zc1 ?_ | refine ze1 ?_ | refine zq2 ?_ | refine zq2 (hnu := zl _) ?_ | refine zv1 ?_ | refine zv1 (hnu := zl _) ?_ | refine za ?_) | ((apply f_st); first | refine n_st ?_ | refine zt1 ?_) | ((apply f_ia); first | refine n_ix ?_ | refine zc2 ?_ | refine za ?_) | ((apply zz1); first | refine za1 ?_ | refine zd2 ?_ | refine za ?_) | ((apply zq3); first | refine zh1 ?_ | refine za ?_) | ((apply zs1); first | refine zo ?_ | refine zr1 ?_ | refine za ?_) | ((apply f_no); first | refine zj2 ?_ | refine za ?_) | ((apply f_pk); first | refine zu1 (v := .c _) ?_ | refine za ?_) | ((apply f_bb); first | refine zg2 ?_ | refine zh2 ?_ | refine za ?_) | refine n_al ?_ | refine n_bs ?_ | refine za ?_) | ((apply f_w); first | refine zy ?_ | refine zc ?_) | refine zb fun C => ?_ | refine zn ?_ | refine ze ?_ | refine zh ?_ | refine zi ?_)
          refine zu ?_; refine ret1 rfl (zl3 (zu2 rfl (zu2 rfl (zk3 rfl rfl rfl (by first | exact zg _ | exact zf _ | exact bytC_clo _ | (simp [cloL, clo, zg, zf, zk, zj, zd]; done) | (simp [cloL, clo, opC, opL, zg, zf, zk, zj, zd]; done)) zs2)))) rfl (by first | rfl | (simp [cloL, clo, zg, zf, zk, zj, zd]; done)) rfl ⟨?_, ?_⟩
          · rfl
          · rw [← hqd]; rfl
theorem altI_c {s : ByteArray} (hs : s.size ≤ 1048576) (f : Nat) : ∀ p : PS, p.a ≤ s.size → p.d ≤ p.a → s.size + 1 ≤ p.a + f → Ctr Try.prog 79 [.c (.pt 0 0)] [rdrI s p] (.ag (owE (altI s f p).1)) [rdrI s (altI s f p).2] := by
  induction f with
  | zero => intro p h1 h2 h3; omega
  | succ f ih =>
    intro p h1 h2 h3
    have hat : ∀ r : PS, r.a < s.size → p.a ≤ r.a → Good s r (atomI s (altI s f) r) 1 1 0 := fun r hr hra => zr11 hs hr (zj10 hs f _ (by show r.a + 1 ≤ _; omega) (by show s.size + 1 ≤ r.a + 1 + f; omega))
    refine alt_c hs h1 h2 (fun q hq hqd hqa => zb14 hq fun r hr hrd hra => zm8 (hat r hr (by omega))) fun q hq hqd hqa => ?_
    refine cat_c hs hq (by omega) (fun r hr hrd hra => zm8 (hat r hr (by omega))) fun r hr hrd hra => ?_
    refine item_c hs (hat r hr (by omega)) ?_
    exact atom_c hs hr (by omega) (zj10 hs f _ (by show r.a + 1 ≤ _; omega) (by show s.size + 1 ≤ r.a + 1 + f; omega)) (ih _ (by show r.a + 1 ≤ _; omega) (by show r.d ≤ r.a + 1; omega) (by show s.size + 1 ≤ r.a + 1 + f; omega))
theorem zp8 {s : ByteArray} (hs : s.size ≤ 1048576) : Fine (readI s).1 ∧ (readI s).2.a ≤ s.size ∧ (readI s).1.sz ≤ 2 * s.size + 1 := by
  obtain ⟨g1, g2, g3, g4, g5⟩ := zj10 hs (s.size + 8) p00 (Nat.zero_le _) (by show s.size + 1 ≤ 0 + (s.size + 8); omega)
  have e0 : p00.a = 0 := rfl
  exact ⟨g1, g3, by unfold readI; omega⟩
set_option maxHeartbeats 4000000 in
theorem za11 {s : ByteArray} (hs : s.size ≤ 1048576) : Ctr Try.prog 64 [.c (.v (.string s))] [] (.tu [.ag (owE (rexR s)), .c (.v (.bool (parI s)))]) [] := by
  have halt := altI_c hs (s.size + 8) p00 (Nat.zero_le _) (Nat.le_refl _) (by show s.size + 1 ≤ 0 + (s.size + 8); omega)
  obtain ⟨hf, hle, hsz⟩ := zp8 hs
  unfold rexR parI
  unfold readI at hf hle hsz ⊢
  obtain ⟨⟨e, q⟩, hq⟩ : ∃ r, altI s (s.size + 8) p00 = r := ⟨_, rfl⟩
  rw [hq] at halt hf hle hsz ⊢
  dsimp only at halt hf hle hsz ⊢
  have hty := hf.ty.1
  have c1 := zm10 hty (by omega)
  have c2 := zs12 hty (by omega)
  cases hf with
  | mk k t l hk ht hl2 =>
  obtain ⟨qa, qd, qb⟩ := q
  unfold rdrI at halt
  dsimp only [p00] at halt hle ⊢
  refine zm2 Try.func64 rfl rfl ?_
  repeat' (first | ((apply f_wo); first | ((apply f_gs); first | refine n_sk ?_) | ((apply f_mv); first | (refine zw1 ?_ ?_ <;> intro hG <;> (try cases hG)) | refine zg1 (v := .c _) ?_ | refine za ?_) | ((apply f_as); first | refine zf1 (v := .c _) ?_ | refine za ?_) | ((apply f_fa); first | refine n_fa ?_ | refine zk1 ?_) | ((apply f_ld); first | refine zp1 ?_ | refine zb1 ?_ | refine zw ?_ | refine zi1 ?_ | refine n_ld ?_) | ((apply f_ca); first | refine zl2 8 (halt) ?_ | refine zr2 (c1) ?_ | refine zp2 (c1) ?_ | refine zr2 (c2) ?_ | refine zp2 (c2) ?_) | ((apply f_bi); first | refine zd1 ?_ | refine zc1 ?_ | refine ze1 ?_ | refine za ?_) | ((apply f_st); first | refine n_st ?_ | refine zt1 ?_) | ((apply zy2); first | refine zk2 ?_ | refine zo5 ?_ | refine za ?_) | ((apply f_no); first | refine zj2 ?_ | refine za ?_) | ((apply f_pk); first | refine zu1 (v := .c _) ?_ | refine za ?_) | refine n_al ?_ | refine n_bo ?_ | refine za ?_) | ((apply f_w); first | refine zy ?_ | refine zc ?_) | refine zb fun C => ?_ | refine zn ?_ | refine ze ?_ | refine zh ?_ | refine zi ?_)
  · repeat' (first | ((apply f_wo); first | ((apply f_gs); first | refine n_sk ?_) | ((apply f_mv); first | (refine zw1 ?_ ?_ <;> intro hG <;> (try cases hG)) | refine zg1 (v := .c _) ?_ | refine za ?_) | ((apply f_as); first | refine zf1 (v := .c _) ?_ | refine za ?_) | ((apply f_fa); first | refine n_fa ?_ | refine zk1 ?_) | ((apply f_ld); first | refine zp1 ?_ | refine zb1 ?_ | refine zw ?_ | refine zi1 ?_ | refine n_ld ?_) | ((apply f_bi); first | refine zd1 ?_ | refine zc1 ?_ | refine ze1 ?_ | refine za ?_) | ((apply f_st); first | refine n_st ?_ | refine zt1 ?_) | ((apply zy2); first | refine zk2 ?_ | refine zo5 ?_ | refine za ?_) | ((apply f_no); first | refine zj2 ?_ | refine za ?_) | ((apply f_pk); first | refine zu1 (v := .c _) ?_ | refine za ?_) | refine n_al ?_ | refine n_bo ?_ | refine za ?_) | ((apply f_w); first | refine zy ?_ | refine zc ?_) | refine zb fun C => ?_ | refine zn ?_ | refine ze ?_ | refine zh ?_ | refine zi ?_ | refine zx rfl ?_ | refine zv rfl ?_)
    refine zm4 (ze6 900 (i := 2) 86 3 rfl rfl (pre := [_, _]) (post := []) rfl) ?_
    refine zu ?_; refine ret0 rfl (ze7 (zz3 (zl3 (zu2 rfl (zu2 rfl (zk3 rfl rfl rfl (by first | exact zg _ | exact zf _ | exact bytC_clo _ | (simp [cloL, clo, zg, zf, zk, zj, zd]; done) | (simp [cloL, clo, opC, opL, zg, zf, zk, zj, zd]; done)) zs2)))) (zz3 zn2 zx5))) ⟨?_, rfl⟩
    have hP : (!true && (qa == s.size) && rexOkI (rexE k t l) && (rexT (rexE k t l)).toList == s.toList) = false := by clear halt c1 c2; first | (simp_all; done) | (simp_all; (try intros); omega)
    rw [hP]; rfl
  · repeat' (first | ((apply f_wo); first | ((apply f_gs); first | refine n_sk ?_) | ((apply f_mv); first | (refine zw1 ?_ ?_ <;> intro hG <;> (try cases hG)) | refine zg1 (v := .c _) ?_ | refine za ?_) | ((apply f_as); first | refine zf1 (v := .c _) ?_ | refine za ?_) | ((apply f_fa); first | refine n_fa ?_ | refine zk1 ?_) | ((apply f_ld); first | refine zp1 ?_ | refine zb1 ?_ | refine zw ?_ | refine zi1 ?_ | refine n_ld ?_) | ((apply f_bi); first | refine zd1 ?_ | refine zc1 ?_ | refine ze1 ?_ | refine za ?_) | ((apply f_st); first | refine n_st ?_ | refine zt1 ?_) | ((apply zy2); first | refine zk2 ?_ | refine zo5 ?_ | refine za ?_) | ((apply f_no); first | refine zj2 ?_ | refine za ?_) | ((apply f_pk); first | refine zu1 (v := .c _) ?_ | refine za ?_) | refine n_al ?_ | refine n_bo ?_ | refine za ?_) | ((apply f_w); first | refine zy ?_ | refine zc ?_) | refine zb fun C => ?_ | refine zn ?_ | refine ze ?_ | refine zh ?_ | refine zi ?_ | refine zx rfl ?_ | refine zv rfl ?_)
    refine zm4 (ze6 900 (i := 2) 86 3 rfl rfl (pre := [_, _]) (post := []) rfl) ?_
    refine zu ?_; refine ret0 rfl (ze7 (zz3 (zl3 (zu2 rfl (zu2 rfl (zk3 rfl rfl rfl (by first | exact zg _ | exact zf _ | exact bytC_clo _ | (simp [cloL, clo, zg, zf, zk, zj, zd]; done) | (simp [cloL, clo, opC, opL, zg, zf, zk, zj, zd]; done)) zs2)))) (zz3 zn2 zx5))) ⟨?_, rfl⟩
    have hP : (!false && (qa == s.size) && rexOkI (rexE k t l) && (rexT (rexE k t l)).toList == s.toList) = false := by clear halt c1 c2; first | (simp_all; done) | (simp_all; (try intros); omega)
    rw [hP]; rfl
  · repeat' (first | ((apply f_wo); first | ((apply f_gs); first | refine n_sk ?_) | ((apply f_mv); first | (refine zw1 ?_ ?_ <;> intro hG <;> (try cases hG)) | refine zg1 (v := .c _) ?_ | refine za ?_) | ((apply f_as); first | refine zf1 (v := .c _) ?_ | refine za ?_) | ((apply f_fa); first | refine n_fa ?_ | refine zk1 ?_) | ((apply f_ld); first | refine zp1 ?_ | refine zb1 ?_ | refine zw ?_ | refine zi1 ?_ | refine n_ld ?_) | ((apply f_bi); first | refine zd1 ?_ | refine zc1 ?_ | refine ze1 ?_ | refine za ?_) | ((apply f_st); first | refine n_st ?_ | refine zt1 ?_) | ((apply zy2); first | refine zk2 ?_ | refine zo5 ?_ | refine za ?_) | ((apply f_no); first | refine zj2 ?_ | refine za ?_) | ((apply f_pk); first | refine zu1 (v := .c _) ?_ | refine za ?_) | refine n_al ?_ | refine n_bo ?_ | refine za ?_) | ((apply f_w); first | refine zy ?_ | refine zc ?_) | refine zb fun C => ?_ | refine zn ?_ | refine ze ?_ | refine zh ?_ | refine zi ?_ | refine zx rfl ?_ | refine zv rfl ?_)
    refine zm4 (ze6 900 (i := 2) 86 3 rfl rfl (pre := [_, _]) (post := []) rfl) ?_
    refine zu ?_; refine ret0 rfl (ze7 (zz3 (zl3 (zu2 rfl (zu2 rfl (zk3 rfl rfl rfl (by first | exact zg _ | exact zf _ | exact bytC_clo _ | (simp [cloL, clo, zg, zf, zk, zj, zd]; done) | (simp [cloL, clo, opC, opL, zg, zf, zk, zj, zd]; done)) zs2)))) (zz3 zn2 zx5))) ⟨?_, rfl⟩
    have hP : (!false && (qa == s.size) && rexOkI (rexE k t l) && (rexT (rexE k t l)).toList == s.toList) = false := by clear halt c1 c2; first | (simp_all; done) | (simp_all; (try intros); omega)
    rw [hP]; rfl
  · refine zt (by rfl) (fun hC => ?_) fun hC => ?_
    · repeat' (first | ((apply f_wo); first | ((apply f_gs); first | refine n_sk ?_) | ((apply f_mv); first | (refine zw1 ?_ ?_ <;> intro hG <;> (try cases hG)) | refine zg1 (v := .c _) ?_ | refine za ?_) | ((apply f_as); first | refine zf1 (v := .c _) ?_ | refine za ?_) | ((apply f_fa); first | refine n_fa ?_ | refine zk1 ?_) | ((apply f_ld); first | refine zp1 ?_ | refine zb1 ?_ | refine zw ?_ | refine zi1 ?_ | refine n_ld ?_) | ((apply f_bi); first | refine zd1 ?_ | refine zc1 ?_ | refine ze1 ?_ | refine za ?_) | ((apply f_st); first | refine n_st ?_ | refine zt1 ?_) | ((apply zy2); first | refine zk2 ?_ | refine zo5 ?_ | refine za ?_) | ((apply f_no); first | refine zj2 ?_ | refine za ?_) | ((apply f_pk); first | refine zu1 (v := .c _) ?_ | refine za ?_) | refine n_al ?_ | refine n_bo ?_ | refine za ?_) | ((apply f_w); first | refine zy ?_ | refine zc ?_) | refine zb fun C => ?_ | refine zn ?_ | refine ze ?_ | refine zh ?_ | refine zi ?_ | refine zx rfl ?_ | refine zv rfl ?_)
      refine zm4 (ze6 900 (i := 2) 86 3 rfl rfl (pre := [_, _]) (post := []) rfl) ?_
      refine zu ?_; refine ret0 rfl (ze7 (zz3 (zl3 (zu2 rfl (zu2 rfl (zk3 rfl rfl rfl (by first | exact zg _ | exact zf _ | exact bytC_clo _ | (simp [cloL, clo, zg, zf, zk, zj, zd]; done) | (simp [cloL, clo, opC, opL, zg, zf, zk, zj, zd]; done)) zs2)))) (zz3 zn2 zx5))) ⟨?_, rfl⟩
      have hP : (!false && (qa == s.size) && rexOkI (rexE k t l) && (rexT (rexE k t l)).toList == s.toList) = false := by clear halt c1 c2; first | (simp_all; done) | (simp_all; (try intros); omega)
      rw [hP]; rfl
    · repeat' (first | ((apply f_wo); first | ((apply f_gs); first | refine n_sk ?_) | ((apply f_mv); first | (refine zw1 ?_ ?_ <;> intro hG <;> (try cases hG)) | refine zg1 (v := .c _) ?_ | refine za ?_) | ((apply f_as); first | refine zf1 (v := .c _) ?_ | refine za ?_) | ((apply f_fa); first | refine n_fa ?_ | refine zk1 ?_) | ((apply f_ld); first | refine zp1 ?_ | refine zb1 ?_ | refine zw ?_ | refine zi1 ?_ | refine n_ld ?_) | ((apply f_bi); first | refine zd1 ?_ | refine zc1 ?_ | refine ze1 ?_ | refine za ?_) | ((apply f_st); first | refine n_st ?_ | refine zt1 ?_) | ((apply zy2); first | refine zk2 ?_ | refine zo5 ?_ | refine za ?_) | ((apply f_no); first | refine zj2 ?_ | refine za ?_) | ((apply f_pk); first | refine zu1 (v := .c _) ?_ | refine za ?_) | refine n_al ?_ | refine n_bo ?_ | refine za ?_) | ((apply f_w); first | refine zy ?_ | refine zc ?_) | refine zb fun C => ?_ | refine zn ?_ | refine ze ?_ | refine zh ?_ | refine zi ?_ | refine zx rfl ?_ | refine zv rfl ?_)
      refine zu ?_; refine ret0 rfl (ze7 (zz3 (zl3 (zu2 rfl (zu2 rfl (zk3 rfl rfl rfl (by first | exact zg _ | exact zf _ | exact bytC_clo _ | (simp [cloL, clo, zg, zf, zk, zj, zd]; done) | (simp [cloL, clo, opC, opL, zg, zf, zk, zj, zd]; done)) zs2)))) (zz3 zn2 zx5))) ⟨?_, rfl⟩
      have hP : (!false && (qa == s.size) && rexOkI (rexE k t l) && (rexT (rexE k t l)).toList == s.toList) = true := by clear halt c1 c2; first | (simp_all; done) | (simp_all; (try intros); omega)
      rw [hP]; rfl
set_option maxHeartbeats 8000000 in
theorem l3Alt_c {s : ByteArray} (hs : s.size ≤ 1048576) {cat : PS → E × PS} {p0 : PS} (hp : Pre s p0)
    (hg : ∀ q, Pre s q → p0.a ≤ q.a → GoodS s q (cat q))
    (hi : ∀ q, Pre s q → p0.a ≤ q.a → Ctr Try.prog 85 [.c (.pt 0 0)] [rdrS s q] (.ag (owE (cat q).1)) [rdrS s (cat q).2]) :
    Ctr Try.prog 75 [.c (.pt 0 0)] [rdrS s p0] (.ag (owE (altC s cat p0).1)) [rdrS s (altC s cat p0).2] := by
  have hic0 := hi p0 hp (Nat.le_refl _)
  have hg0 := hg p0 hp (Nat.le_refl _)
  have hL0 := GoodLS.one hg0
  have hr : altC s cat p0 = (oneOr 5 (altLoopS s cat (s.size + 1) [(cat p0).1] (cat p0).2).1, (altLoopS s cat (s.size + 1) [(cat p0).1] (cat p0).2).2) := rfl
  rw [hr]
  clear hr
  obtain ⟨⟨e, q0⟩, hq0⟩ : ∃ r, cat p0 = r := ⟨_, rfl⟩
  rw [hq0] at hic0 hg0 hL0 ⊢
  have hfi : Fine e := hg0.fine
  dsimp only at hic0 hL0 ⊢
  cases hfi with
  | mk k t l hk ht hl2 =>
  refine zm2 Try.func75 rfl rfl ?_
  repeat' (first | ((apply f_wo); first | ((apply f_mv); first | refine zg1 (v := .c _) ?_ | refine za ?_) | ((apply f_as); first | refine zf1 (v := .c _) ?_ | refine za ?_) | ((apply f_ld); first | refine zw ?_ | refine zi1 ?_ | refine n_ld ?_) | ((apply f_ca); first | refine zl2 0 (hic0) ?_) | ((apply f_bi); first | refine zd1 ?_ | refine zc1 ?_ | refine ze1 ?_ | refine zq2 ?_ | refine zq2 (hnu := zl _) ?_ | refine zv1 ?_ | refine zv1 (hnu := zl _) ?_ | refine za ?_) | ((apply f_st); first | refine n_st ?_ | refine zt1 ?_) | ((apply f_ia); first | refine n_ix ?_ | refine zc2 ?_ | refine za ?_) | ((apply zz1); first | refine za1 ?_ | refine za ?_) | refine n_al ?_ | refine n_bs ?_ | refine za ?_) | ((apply f_w); first | refine zy ?_ | refine zc ?_) | refine zb fun C => ?_ | refine zn ?_ | refine ze ?_ | refine zh ?_ | refine zi ?_ | refine zx rfl ?_ | refine zv rfl ?_)
  refine zp3 (fun q : List E × PS => ⟨tmsF [(0, .c (.pt 0 0)), (2, .c (.pt 2 0)), (3, .c (.sl 9 q.1.length))], hpsF [(0, 0, ⟨0, 0, 0, true, rdrS s q.2⟩), (2, 2, ⟨86, 0, 0, true, [.v (.int .i64 0), .v (.string ByteArray.empty), .v (.slice none 0 0)]⟩), (9, 9, ⟨86, 3, q.1.length, false, owL q.1⟩)], 1, [0, 2, 9], 22⟩)
    (fun N q => GoodLS s p0 q.1 q.2 ∧ s.size + 1 ≤ q.2.a + N ∧ altLoopS s cat N q.1 q.2 = altLoopS s cat (s.size + 1) [rexE k t l] q0) (s.size + 1) ([rexE k t l], q0) ⟨hL0, by dsimp only; omega, rfl⟩ ?_ ?_
  · refine (ze8 (i := 6) (j := 600) rfl rfl rfl (pre := [_, _]) (post := []) rfl).trans ?_
    (refine zm7 (fun j => if j = 9 then 6 else j) _ _ rfl rfl ?_ ?_ <;> (repeat' (first | exact TmOk.nil | exact RwOk.nil | refine TmOk.cons ?_ ?_ | refine RwOk.cons ?_ ?_ | rfl | (refine rnV_id' rfl ?_; (first | rfl | (simp [cloV, cloL, clo, zj, zf, zk, zg, zd]; done))) | (refine zd3 ?_; first | rfl | omega | (rw [zb2 (by omega) (by omega)]; omega)) | (refine zi2 rfl ?_; (first | rfl | (simp [cloV, cloL, clo, zj, zf, zk, zg, zd]; done))) | exact zj4 rfl rfl | (refine ze3 (by rfl) (by rfl) ?_ ?_ <;> (first | rfl | (simp [cloV, cloL, clo, zj, zf, zk, zg, zd]; done))) | (refine rw_rn' rfl rfl ?_; simp; done))))
  rintro N ⟨L, q⟩ ⟨hgl, hN, htot⟩
  dsimp only at hgl hN htot ⊢
  have hpre := hgl.pre hp
  have hbar := zo10 hs (c := 124) (by omega) (p := q)
  obtain ⟨a, d, b⟩ := q
  have hlen := hgl.len.1
  have hale : a ≤ s.size := hgl.le
  dsimp only at hlen hN
  cases hgo : isB s 124 ⟨a, d, b⟩ with
  | true =>
    obtain ⟨hb, hlt, hv⟩ := zg9 hgo
    dsimp only at hb hlt hv
    subst hb
    rw [zj7 hgo, hgo] at hbar
    obtain ⟨M, rfl⟩ : ∃ M, N = M + 1 := ⟨N - 1, by omega⟩
    have hpre2 : Pre s ⟨a + 1, d, false⟩ := ⟨by show a + 1 ≤ _; omega, hpre.2.1, hpre.2.2⟩
    have hge : p0.a ≤ a := hgl.ge
    have hic := hi ⟨a + 1, d, false⟩ hpre2 (by show p0.a ≤ a + 1; omega)
    have hgd := hg ⟨a + 1, d, false⟩ hpre2 (by show p0.a ≤ a + 1; omega)
    have hst : altLoopS s cat (M + 1) L ⟨a, d, false⟩ = altLoopS s cat M (L ++ [(cat ⟨a + 1, d, false⟩).1]) (cat ⟨a + 1, d, false⟩).2 := by
      show (if isB s 124 ⟨a, d, false⟩ then _ else _) = _
      rw [if_pos hgo]; rfl
    rw [hst] at htot
    clear hst hi hg hic0
    have hge2 : a + 1 ≤ (cat ⟨a + 1, d, false⟩).2.a := hgd.ge
    have hgl2 := hgl.step rfl (r := cat ⟨a + 1, d, false⟩) ⟨⟨hgd.fine, by show a ≤ _; omega, hgd.le, hgd.dg, hgd.dl, hgd.nb⟩, fun _ => by show a < _; omega⟩
    obtain ⟨⟨e2, q2⟩, hq2⟩ : ∃ r, cat ⟨a + 1, d, false⟩ = r := ⟨_, rfl⟩
    rw [hq2] at hic htot hgd hgl2 hge2
    dsimp only at hic htot hgd hgl2 hge2
    have hfi2 : Fine e2 := hgd.fine
    cases hfi2 with
    | mk k' t' l' hk' ht' hl2' =>
    unfold rdrS at hbar hic ⊢
    dsimp only [PS.go] at hbar hic ⊢
    repeat' (first | ((apply f_wo); first | ((apply f_mv); first | refine zg1 (v := .c _) ?_ | refine za ?_) | ((apply f_as); first | refine zf1 (v := .c _) ?_ | refine za ?_) | ((apply f_ld); first | refine zw ?_ | refine zi1 ?_ | refine n_ld ?_) | ((apply f_ca); first | refine zl2 0 (hbar) ?_ | refine zl2 0 (hic) ?_) | ((apply f_bi); first | refine zd1 ?_ | refine zc1 ?_ | refine ze1 ?_ | refine zq2 ?_ | refine zq2 (hnu := zl _) ?_ | refine zv1 ?_ | refine zv1 (hnu := zl _) ?_ | refine za ?_) | ((apply f_st); first | refine n_st ?_ | refine zt1 ?_) | ((apply f_ia); first | refine n_ix ?_ | refine zc2 ?_ | refine za ?_) | ((apply zz1); first | refine za1 ?_ | refine za ?_) | refine n_al ?_ | refine n_bs ?_ | refine za ?_) | ((apply f_w); first | refine zy ?_ | refine zc ?_) | refine zb fun C => ?_ | refine zn ?_ | refine ze ?_ | refine zh ?_ | refine zi ?_ | refine zx rfl ?_ | refine zv rfl ?_)
    refine ⟨M, (L ++ [rexE k' t' l'], q2), by omega, ⟨hgl2, by dsimp only; omega, htot⟩, ?_⟩
    dsimp only
    rw [List.length_append, List.length_singleton]
    refine (ze8 (i := 13) (j := 1200) rfl rfl rfl (pre := owL L ++ [.v (.int .i64 k'), .v (.string t')]) (post := []) (by rw [List.append_assoc]; rfl)).trans ?_
    (refine zm7 (fun j => if j = 9 then 13 else j) _ _ rfl rfl ?_ ?_ <;> (repeat' (first | exact TmOk.nil | exact RwOk.nil | refine TmOk.cons ?_ ?_ | refine RwOk.cons ?_ ?_ | rfl | (refine rnV_id' rfl ?_; (first | rfl | (simp [cloV, cloL, clo, zj, zf, zk, zg, zd]; done))) | (refine zd3 ?_; first | rfl | omega | (rw [zb2 (by omega) (by omega)]; omega)) | (refine zi2 rfl ?_; (first | rfl | (simp [cloV, cloL, clo, zj, zf, zk, zg, zd]; done))) | exact zj4 rfl rfl | (refine ze3 (by rfl) (by rfl) ?_ ?_ <;> (first | rfl | (simp [cloV, cloL, clo, zj, zf, zk, zg, zd]; done))) | (refine rw_rn' rfl rfl ?_; simp; done))))
    exact za20 (r := ⟨86, 3, L.length + 1, false, (owL L ++ [.v (.int .i64 k'), .v (.string t')]) ++ [.ow 86 l'.length 3 (owL l')]⟩) rfl (by rw [zd8, List.append_assoc]; rfl) (by first | rfl | (simp [cloV, cloL, clo, zj, zf, zk, zg, zd]; done))
  | false =>
    rw [zo15 hgo] at htot
    rw [← htot]
    rw [zq10 hgo, hgo] at hbar
    have hfine := hgl.fine
    have hne := hgl.ne
    clear htot hi hg hic0 hL0 hgl hpre hg0
    unfold rdrS at hbar ⊢
    dsimp only at hbar ⊢
    match L, hfine, hne with
    | [], _, h0 => exact absurd h0 (by simp)
    | [x], hf, _ =>
      have hx := hf x (List.mem_singleton.2 rfl)
      cases hx with
      | mk k' t' l' hk' ht' hl2' =>
      repeat' (first | ((apply f_wo); first | ((apply f_mv); first | refine zg1 (v := .c _) ?_ | refine za ?_) | ((apply f_as); first | refine zf1 (v := .c _) ?_ | refine za ?_) | ((apply f_ld); first | refine zw ?_ | refine zi1 ?_ | refine n_ld ?_) | ((apply f_ca); first | refine zl2 0 (hbar) ?_) | ((apply f_bi); first | refine zd1 ?_ | refine zc1 ?_ | refine ze1 ?_ | refine zq2 ?_ | refine zq2 (hnu := zl _) ?_ | refine zv1 ?_ | refine zv1 (hnu := zl _) ?_ | refine za ?_) | ((apply f_st); first | refine n_st ?_ | refine zt1 ?_) | ((apply f_ia); first | refine n_ix ?_ | refine zc2 ?_ | refine za ?_) | ((apply zz1); first | refine za1 ?_ | refine za ?_) | refine n_al ?_ | refine n_bs ?_ | refine za ?_) | ((apply f_w); first | refine zy ?_ | refine zc ?_) | refine zb fun C => ?_ | refine zn ?_ | refine ze ?_ | refine zh ?_ | refine zi ?_)
      refine zv rfl ?_
      refine zm4 (g_rev 800 (i := 9) rfl rfl (pre := [.v (.int .i64 k'), .v (.string t')]) (post := []) rfl) ?_
      repeat' (first | ((apply f_wo); first | ((apply f_mv); first | refine zg1 (v := .c _) ?_ | refine za ?_) | ((apply f_as); first | refine zf1 (v := .c _) ?_ | refine za ?_) | ((apply f_ld); first | refine zw ?_ | refine zi1 ?_ | refine n_ld ?_) | ((apply f_bi); first | refine zd1 ?_ | refine zc1 ?_ | refine ze1 ?_ | refine zq2 ?_ | refine zq2 (hnu := zl _) ?_ | refine zv1 ?_ | refine zv1 (hnu := zl _) ?_ | refine za ?_) | ((apply f_st); first | refine n_st ?_ | refine zt1 ?_) | ((apply f_ia); first | refine n_ix ?_ | refine zc2 ?_ | refine za ?_) | ((apply zz1); first | refine za1 ?_ | refine za ?_) | refine n_al ?_ | refine n_bs ?_ | refine za ?_) | ((apply f_w); first | refine zy ?_ | refine zc ?_) | refine zb fun C => ?_ | refine zn ?_ | refine ze ?_ | refine zh ?_ | refine zi ?_ | refine zx rfl ?_ | refine zv rfl ?_)
      refine zu ?_; refine ret1 rfl (zl3 (zu2 rfl (zu2 rfl (zk3 rfl rfl rfl (by first | exact zg _ | exact zf _ | exact bytC_clo _ | (simp [cloL, clo, zg, zf, zk, zj, zd]; done) | (simp [cloL, clo, opC, opL, zg, zf, zk, zj, zd]; done)) zs2)))) rfl (by first | rfl | (simp [cloL, clo, zg, zf, zk, zj, zd]; done)) rfl ⟨?_, ?_⟩ <;> rfl
    | x :: y :: r, hf, _ =>
      have hlen2 : (x :: y :: r).length = r.length + 2 := rfl
      repeat' (first | ((apply f_wo); first | ((apply f_mv); first | refine zg1 (v := .c _) ?_ | refine za ?_) | ((apply f_as); first | refine zf1 (v := .c _) ?_ | refine za ?_) | ((apply f_ld); first | refine zw ?_ | refine zi1 ?_ | refine n_ld ?_) | ((apply f_ca); first | refine zl2 0 (hbar) ?_) | ((apply f_bi); first | refine zd1 ?_ | refine zc1 ?_ | refine ze1 ?_ | refine zq2 ?_ | refine zq2 (hnu := zl _) ?_ | refine zv1 ?_ | refine zv1 (hnu := zl _) ?_ | refine za ?_) | ((apply f_st); first | refine n_st ?_ | refine zt1 ?_) | ((apply f_ia); first | refine n_ix ?_ | refine zc2 ?_ | refine za ?_) | ((apply zz1); first | refine za1 ?_ | refine za ?_) | refine n_al ?_ | refine n_bs ?_ | refine za ?_) | ((apply f_w); first | refine zy ?_ | refine zc ?_) | refine zb fun C => ?_ | refine zn ?_ | refine ze ?_ | refine zh ?_ | refine zi ?_ | refine zx rfl ?_ | refine zv rfl ?_)
      refine zu ?_; refine ret1 rfl (zl3 (zu2 rfl (zu2 rfl (zk3 rfl rfl rfl (by first | exact zg _ | exact zf _ | exact bytC_clo _ | (simp [cloL, clo, zg, zf, zk, zj, zd]; done) | (simp [cloL, clo, opC, opL, zg, zf, zk, zj, zd]; done)) zs2)))) rfl (by first | rfl | (simp [cloL, clo, zg, zf, zk, zj, zd]; done)) rfl ⟨?_, ?_⟩ <;> rfl
theorem altS_c {s : ByteArray} (hs : s.size ≤ 1048576) (f : Nat) : ∀ p : PS, Pre s p → s.size + 1 ≤ p.a + f → Ctr Try.prog 75 [.c (.pt 0 0)] [rdrS s p] (.ag (owE (altS s f p).1)) [rdrS s (altS s f p).2] := by
  induction f with
  | zero => intro p h1 h2; have := h1.1; omega
  | succ f ih =>
    intro p h1 h2
    have hkid : ∀ r : PS, Pre s r → p.a ≤ r.a → r.b = false → r.a < s.size → r.d ≤ 7 → GoodS s ⟨r.a + 1, r.d + 1, r.b⟩ (altS s f ⟨r.a + 1, r.d + 1, r.b⟩) := fun r hr hra hb hlt hd => zh14 hs f _ ⟨by show r.a + 1 ≤ _; omega, by show r.d + 1 ≤ 9; omega, fun _ => by show r.d + 1 ≤ 8; omega⟩ (by show s.size + 1 ≤ r.a + 1 + f; omega)
    have hat : ∀ r : PS, Pre s r → p.a ≤ r.a → GoodS s r (atomS s (altS s f) r) ∧ ((atomS s (altS s f) r).2.b = false → r.a < (atomS s (altS s f) r).2.a) := fun r hr hra => zu11 hs hr fun hb hlt hd => hkid r hr hra hb hlt hd
    refine l3Alt_c hs h1 (fun q hq hqa => zg14 hq fun r hr hra => zo8 (hat r hr (by omega))) fun q hq hqa => ?_
    refine l3Cat_c hs hq (fun r hr hra => zo8 (hat r hr (by omega))) fun r hr hra => ?_
    refine l3Item_c hs (hat r hr (by omega)).1 ?_
    have hpre : r.b = false → r.a < s.size → Pre s (r.go 1) := fun hb hlt => ⟨by show r.a + 1 ≤ _; omega, hr.2.1, hr.2.2⟩
    refine l3Atom_c hs hr (fun hb hlt => ?_) fun hb hlt => zn10 (hpre hb hlt) hb fun hd => hkid r hr (by omega) hb hlt hd
    exact zr21 hs (hpre hb hlt) hb (fun hd => hkid r hr (by omega) hb hlt hd) fun hd => ih _ ⟨by show r.a + 1 ≤ _; omega, by have := hd; show r.d + 1 ≤ 9; have h7 : r.d ≤ 7 := hd; omega, fun _ => by show r.d + 1 ≤ 8; have h7 : r.d ≤ 7 := hd; omega⟩ (by show s.size + 1 ≤ r.a + 1 + f; omega)
set_option maxHeartbeats 4000000 in
theorem zb11 {s : ByteArray} (hs : s.size ≤ 1048576) : Ctr Try.prog 57 [.c (.v (.string s))] [] (.tu [.ag (owE (rexR s)), .c (.v (.bool (parI s)))]) [] := by
  rw [rexR_S, zo16]
  by_cases hbig : 1000 < s.size
  · have hP : parS s = false := by unfold parS; rw [decide_eq_false (by omega)]; rfl
    rw [hP]
    refine zm2 Try.func57 rfl rfl ?_
    repeat' (first | ((apply f_wo); first | ((apply f_gs); first | refine n_sk ?_) | ((apply f_mv); first | (refine zw1 ?_ ?_ <;> intro hG <;> (try cases hG)) | refine zg1 (v := .c _) ?_ | refine za ?_) | ((apply f_as); first | refine zf1 (v := .c _) ?_ | refine za ?_) | ((apply f_fa); first | refine n_fa ?_ | refine zk1 ?_) | ((apply f_ld); first | refine zp1 ?_ | refine zb1 ?_ | refine zw ?_ | refine zi1 ?_ | refine n_ld ?_) | ((apply f_bi); first | refine zd1 ?_ | refine zc1 ?_ | refine ze1 ?_ | refine za ?_) | ((apply f_st); first | refine n_st ?_ | refine zt1 ?_) | ((apply zy2); first | refine zk2 ?_ | refine zo5 ?_ | refine za ?_) | ((apply zq3); first | refine zh1 ?_ | refine za ?_) | ((apply f_pk); first | refine zu1 (v := .c _) ?_ | refine za ?_) | refine n_al ?_ | refine n_bo ?_ | refine za ?_) | ((apply f_w); first | refine zy ?_ | refine zc ?_) | refine zb fun C => ?_ | refine zn ?_ | refine ze ?_ | refine zh ?_ | refine zi ?_)
    refine zt (by rfl) (fun hC => ?_) fun hC => by exfalso; simp only [decide_eq_false_iff_not] at hC; omega
    repeat' (first | ((apply f_wo); first | ((apply f_gs); first | refine n_sk ?_) | ((apply f_mv); first | (refine zw1 ?_ ?_ <;> intro hG <;> (try cases hG)) | refine zg1 (v := .c _) ?_ | refine za ?_) | ((apply f_as); first | refine zf1 (v := .c _) ?_ | refine za ?_) | ((apply f_fa); first | refine n_fa ?_ | refine zk1 ?_) | ((apply f_ld); first | refine zp1 ?_ | refine zb1 ?_ | refine zw ?_ | refine zi1 ?_ | refine n_ld ?_) | ((apply f_bi); first | refine zd1 ?_ | refine zc1 ?_ | refine ze1 ?_ | refine za ?_) | ((apply f_st); first | refine n_st ?_ | refine zt1 ?_) | ((apply zy2); first | refine zk2 ?_ | refine zo5 ?_ | refine za ?_) | ((apply zq3); first | refine zh1 ?_ | refine za ?_) | ((apply f_pk); first | refine zu1 (v := .c _) ?_ | refine za ?_) | refine n_al ?_ | refine n_bo ?_ | refine za ?_) | ((apply f_w); first | refine zy ?_ | refine zc ?_) | refine zb fun C => ?_ | refine zn ?_ | refine ze ?_ | refine zh ?_ | refine zi ?_ | refine zx rfl ?_ | refine zv rfl ?_)
    refine zm4 (ze6 900 (i := 2) 86 3 rfl rfl (pre := [_, _]) (post := []) rfl) ?_
    refine zu ?_; refine ret0 rfl (ze7 (zz3 (zl3 (zu2 rfl (zu2 rfl (zk3 rfl rfl rfl (by first | exact zg _ | exact zf _ | exact bytC_clo _ | (simp [cloL, clo, zg, zf, zk, zj, zd]; done) | (simp [cloL, clo, opC, opL, zg, zf, zk, zj, zd]; done)) zs2)))) (zz3 zn2 zx5))) ⟨?_, rfl⟩
    rfl
  have hpre : Pre s p00 := ⟨Nat.zero_le _, by show (0 : Nat) ≤ 9; omega, fun _ => by show (0 : Nat) ≤ 8; omega⟩
  have halt := altS_c hs (s.size + 8) p00 hpre (by show s.size + 1 ≤ 0 + (s.size + 8); omega)
  have hgd := zh14 hs (s.size + 8) p00 hpre (by show s.size + 1 ≤ 0 + (s.size + 8); omega)
  have hsz : (altS s (s.size + 8) p00).2.b = false → (altS s (s.size + 8) p00).1.sz ≤ 4194304 := fun hb => by
    have h1 := (zk16 (s.size + 8) p00 rfl (by show (0 : Nat) ≤ 8; omega) hb).1
    have h2 := (zp8 hs).2.2
    unfold readI at h2
    rw [h1] at h2; omega
  unfold parS
  unfold readS
  rw [decide_eq_true (show s.size ≤ 1000 by omega)]
  obtain ⟨⟨e, q⟩, hq⟩ : ∃ r, altS s (s.size + 8) p00 = r := ⟨_, rfl⟩
  rw [hq] at halt hgd hsz ⊢
  have hf : Fine e := hgd.fine
  dsimp only at halt hsz ⊢
  have hty := hf.ty.1
  obtain ⟨qa, qd, qb⟩ := q
  dsimp only at hsz
  cases qb with
  | true =>
    cases hf with
    | mk k t l hk ht hl2 =>
    unfold rdrS at halt
    dsimp only [p00] at halt ⊢
    refine zm2 Try.func57 rfl rfl ?_
    repeat' (first | ((apply f_wo); first | ((apply f_gs); first | refine n_sk ?_) | ((apply f_mv); first | (refine zw1 ?_ ?_ <;> intro hG <;> (try cases hG)) | refine zg1 (v := .c _) ?_ | refine za ?_) | ((apply f_as); first | refine zf1 (v := .c _) ?_ | refine za ?_) | ((apply f_fa); first | refine n_fa ?_ | refine zk1 ?_) | ((apply f_ld); first | refine zp1 ?_ | refine zb1 ?_ | refine zw ?_ | refine zi1 ?_ | refine n_ld ?_) | ((apply f_bi); first | refine zd1 ?_ | refine zc1 ?_ | refine ze1 ?_ | refine za ?_) | ((apply f_st); first | refine n_st ?_ | refine zt1 ?_) | ((apply zy2); first | refine zk2 ?_ | refine zo5 ?_ | refine za ?_) | ((apply zq3); first | refine zh1 ?_ | refine za ?_) | ((apply f_pk); first | refine zu1 (v := .c _) ?_ | refine za ?_) | refine n_al ?_ | refine n_bo ?_ | refine za ?_) | ((apply f_w); first | refine zy ?_ | refine zc ?_) | refine zb fun C => ?_ | refine zn ?_ | refine ze ?_ | refine zh ?_ | refine zi ?_)
    refine zt (by rfl) (fun hC => by exfalso; simp only [decide_eq_true_iff] at hC; omega) fun hC => ?_
    repeat' (first | ((apply f_wo); first | ((apply f_gs); first | refine n_sk ?_) | ((apply f_mv); first | (refine zw1 ?_ ?_ <;> intro hG <;> (try cases hG)) | refine zg1 (v := .c _) ?_ | refine za ?_) | ((apply f_as); first | refine zf1 (v := .c _) ?_ | refine za ?_) | ((apply f_fa); first | refine n_fa ?_ | refine zk1 ?_) | ((apply f_ld); first | refine zp1 ?_ | refine zb1 ?_ | refine zw ?_ | refine zi1 ?_ | refine n_ld ?_) | ((apply f_ca); first | refine zl2 12 (halt) ?_) | ((apply f_bi); first | refine zd1 ?_ | refine zc1 ?_ | refine ze1 ?_ | refine za ?_) | ((apply f_st); first | refine n_st ?_ | refine zt1 ?_) | ((apply zy2); first | refine zk2 ?_ | refine zo5 ?_ | refine za ?_) | ((apply zq3); first | refine zh1 ?_ | refine za ?_) | ((apply f_pk); first | refine zu1 (v := .c _) ?_ | refine za ?_) | refine n_al ?_ | refine n_bo ?_ | refine za ?_) | ((apply f_w); first | refine zy ?_ | refine zc ?_) | refine zb fun C => ?_ | refine zn ?_ | refine ze ?_ | refine zh ?_ | refine zi ?_ | refine zx rfl ?_ | refine zv rfl ?_)
    refine zm4 (ze6 900 (i := 2) 86 3 rfl rfl (pre := [_, _]) (post := []) rfl) ?_
    refine zu ?_; refine ret0 rfl (ze7 (zz3 (zl3 (zu2 rfl (zu2 rfl (zk3 rfl rfl rfl (by first | exact zg _ | exact zf _ | exact bytC_clo _ | (simp [cloL, clo, zg, zf, zk, zj, zd]; done) | (simp [cloL, clo, opC, opL, zg, zf, zk, zj, zd]; done)) zs2)))) (zz3 zn2 zx5))) ⟨?_, rfl⟩
    rfl
  | false =>
    have c2 := zv12 hty (hsz rfl)
    cases hf with
    | mk k t l hk ht hl2 =>
    unfold rdrS at halt
    dsimp only [p00] at halt ⊢
    refine zm2 Try.func57 rfl rfl ?_
    repeat' (first | ((apply f_wo); first | ((apply f_gs); first | refine n_sk ?_) | ((apply f_mv); first | (refine zw1 ?_ ?_ <;> intro hG <;> (try cases hG)) | refine zg1 (v := .c _) ?_ | refine za ?_) | ((apply f_as); first | refine zf1 (v := .c _) ?_ | refine za ?_) | ((apply f_fa); first | refine n_fa ?_ | refine zk1 ?_) | ((apply f_ld); first | refine zp1 ?_ | refine zb1 ?_ | refine zw ?_ | refine zi1 ?_ | refine n_ld ?_) | ((apply f_bi); first | refine zd1 ?_ | refine zc1 ?_ | refine ze1 ?_ | refine za ?_) | ((apply f_st); first | refine n_st ?_ | refine zt1 ?_) | ((apply zy2); first | refine zk2 ?_ | refine zo5 ?_ | refine za ?_) | ((apply zq3); first | refine zh1 ?_ | refine za ?_) | ((apply f_pk); first | refine zu1 (v := .c _) ?_ | refine za ?_) | refine n_al ?_ | refine n_bo ?_ | refine za ?_) | ((apply f_w); first | refine zy ?_ | refine zc ?_) | refine zb fun C => ?_ | refine zn ?_ | refine ze ?_ | refine zh ?_ | refine zi ?_)
    refine zt (by rfl) (fun hC => by exfalso; simp only [decide_eq_true_iff] at hC; omega) fun hC => ?_
    repeat' (first | ((apply f_wo); first | ((apply f_gs); first | refine n_sk ?_) | ((apply f_mv); first | (refine zw1 ?_ ?_ <;> intro hG <;> (try cases hG)) | refine zg1 (v := .c _) ?_ | refine za ?_) | ((apply f_as); first | refine zf1 (v := .c _) ?_ | refine za ?_) | ((apply f_fa); first | refine n_fa ?_ | refine zk1 ?_) | ((apply f_ld); first | refine zp1 ?_ | refine zb1 ?_ | refine zw ?_ | refine zi1 ?_ | refine n_ld ?_) | ((apply f_ca); first | refine zl2 12 (halt) ?_ | refine zr2 (c2) ?_ | refine zp2 (c2) ?_) | ((apply f_bi); first | refine zd1 ?_ | refine zc1 ?_ | refine ze1 ?_ | refine za ?_) | ((apply f_st); first | refine n_st ?_ | refine zt1 ?_) | ((apply zy2); first | refine zk2 ?_ | refine zo5 ?_ | refine za ?_) | ((apply zq3); first | refine zh1 ?_ | refine za ?_) | ((apply f_pk); first | refine zu1 (v := .c _) ?_ | refine za ?_) | refine n_al ?_ | refine n_bo ?_ | refine za ?_) | ((apply f_w); first | refine zy ?_ | refine zc ?_) | refine zb fun C => ?_ | refine zn ?_ | refine ze ?_ | refine zh ?_ | refine zi ?_)
    · repeat' (first | ((apply f_wo); first | ((apply f_gs); first | refine n_sk ?_) | ((apply f_mv); first | (refine zw1 ?_ ?_ <;> intro hG <;> (try cases hG)) | refine zg1 (v := .c _) ?_ | refine za ?_) | ((apply f_as); first | refine zf1 (v := .c _) ?_ | refine za ?_) | ((apply f_fa); first | refine n_fa ?_ | refine zk1 ?_) | ((apply f_ld); first | refine zp1 ?_ | refine zb1 ?_ | refine zw ?_ | refine zi1 ?_ | refine n_ld ?_) | ((apply f_bi); first | refine zd1 ?_ | refine zc1 ?_ | refine ze1 ?_ | refine za ?_) | ((apply f_st); first | refine n_st ?_ | refine zt1 ?_) | ((apply zy2); first | refine zk2 ?_ | refine zo5 ?_ | refine za ?_) | ((apply zq3); first | refine zh1 ?_ | refine za ?_) | ((apply f_pk); first | refine zu1 (v := .c _) ?_ | refine za ?_) | refine n_al ?_ | refine n_bo ?_ | refine za ?_) | ((apply f_w); first | refine zy ?_ | refine zc ?_) | refine zb fun C => ?_ | refine zn ?_ | refine ze ?_ | refine zh ?_ | refine zi ?_ | refine zx rfl ?_ | refine zv rfl ?_)
      refine zm4 (ze6 900 (i := 2) 86 3 rfl rfl (pre := [_, _]) (post := []) rfl) ?_
      refine zu ?_; refine ret0 rfl (ze7 (zz3 (zl3 (zu2 rfl (zu2 rfl (zk3 rfl rfl rfl (by first | exact zg _ | exact zf _ | exact bytC_clo _ | (simp [cloL, clo, zg, zf, zk, zj, zd]; done) | (simp [cloL, clo, opC, opL, zg, zf, zk, zj, zd]; done)) zs2)))) (zz3 zn2 zx5))) ⟨?_, rfl⟩
      have hP : (true && !false && (qa == s.size) && (rexT (rexE k t l)).toList == s.toList) = false := by clear halt c2; first | (simp_all; done) | (simp_all; (try intros); omega)
      rw [hP]; rfl
    · refine zt (by rfl) (fun hC => ?_) fun hC => ?_
      · repeat' (first | ((apply f_wo); first | ((apply f_gs); first | refine n_sk ?_) | ((apply f_mv); first | (refine zw1 ?_ ?_ <;> intro hG <;> (try cases hG)) | refine zg1 (v := .c _) ?_ | refine za ?_) | ((apply f_as); first | refine zf1 (v := .c _) ?_ | refine za ?_) | ((apply f_fa); first | refine n_fa ?_ | refine zk1 ?_) | ((apply f_ld); first | refine zp1 ?_ | refine zb1 ?_ | refine zw ?_ | refine zi1 ?_ | refine n_ld ?_) | ((apply f_bi); first | refine zd1 ?_ | refine zc1 ?_ | refine ze1 ?_ | refine za ?_) | ((apply f_st); first | refine n_st ?_ | refine zt1 ?_) | ((apply zy2); first | refine zk2 ?_ | refine zo5 ?_ | refine za ?_) | ((apply zq3); first | refine zh1 ?_ | refine za ?_) | ((apply f_pk); first | refine zu1 (v := .c _) ?_ | refine za ?_) | refine n_al ?_ | refine n_bo ?_ | refine za ?_) | ((apply f_w); first | refine zy ?_ | refine zc ?_) | refine zb fun C => ?_ | refine zn ?_ | refine ze ?_ | refine zh ?_ | refine zi ?_ | refine zx rfl ?_ | refine zv rfl ?_)
        refine zm4 (ze6 900 (i := 2) 86 3 rfl rfl (pre := [_, _]) (post := []) rfl) ?_
        refine zu ?_; refine ret0 rfl (ze7 (zz3 (zl3 (zu2 rfl (zu2 rfl (zk3 rfl rfl rfl (by first | exact zg _ | exact zf _ | exact bytC_clo _ | (simp [cloL, clo, zg, zf, zk, zj, zd]; done) | (simp [cloL, clo, opC, opL, zg, zf, zk, zj, zd]; done)) zs2)))) (zz3 zn2 zx5))) ⟨?_, rfl⟩
        have hP : (true && !false && (qa == s.size) && (rexT (rexE k t l)).toList == s.toList) = false := by clear halt c2; first | (simp_all; done) | (simp_all; (try intros); omega)
        rw [hP]; rfl
      · repeat' (first | ((apply f_wo); first | ((apply f_gs); first | refine n_sk ?_) | ((apply f_mv); first | (refine zw1 ?_ ?_ <;> intro hG <;> (try cases hG)) | refine zg1 (v := .c _) ?_ | refine za ?_) | ((apply f_as); first | refine zf1 (v := .c _) ?_ | refine za ?_) | ((apply f_fa); first | refine n_fa ?_ | refine zk1 ?_) | ((apply f_ld); first | refine zp1 ?_ | refine zb1 ?_ | refine zw ?_ | refine zi1 ?_ | refine n_ld ?_) | ((apply f_bi); first | refine zd1 ?_ | refine zc1 ?_ | refine ze1 ?_ | refine za ?_) | ((apply f_st); first | refine n_st ?_ | refine zt1 ?_) | ((apply zy2); first | refine zk2 ?_ | refine zo5 ?_ | refine za ?_) | ((apply zq3); first | refine zh1 ?_ | refine za ?_) | ((apply f_pk); first | refine zu1 (v := .c _) ?_ | refine za ?_) | refine n_al ?_ | refine n_bo ?_ | refine za ?_) | ((apply f_w); first | refine zy ?_ | refine zc ?_) | refine zb fun C => ?_ | refine zn ?_ | refine ze ?_ | refine zh ?_ | refine zi ?_ | refine zx rfl ?_ | refine zv rfl ?_)
        refine zu ?_; refine ret0 rfl (ze7 (zz3 (zl3 (zu2 rfl (zu2 rfl (zk3 rfl rfl rfl (by first | exact zg _ | exact zf _ | exact bytC_clo _ | (simp [cloL, clo, zg, zf, zk, zj, zd]; done) | (simp [cloL, clo, opC, opL, zg, zf, zk, zj, zd]; done)) zs2)))) (zz3 zn2 zx5))) ⟨?_, rfl⟩
        have hP : (true && !false && (qa == s.size) && (rexT (rexE k t l)).toList == s.toList) = true := by clear halt c2; first | (simp_all; done) | (simp_all; (try intros); omega)
        rw [hP]; rfl
theorem zl6 {e : E} (h : e.Ty Try.prog 128) : ∃ (x0 : Int) (x1 : Int), e = (E.agg [.int .i64 x0, .int .i64 x1]) ∧ ((Lit.int .i64 x0).wf = true) ∧ ((Lit.int .i64 x1).wf = true) ∧ True := by
  obtain ⟨fs, rfl, q0⟩ := h.agg_ Try.underlying128
  change E.TyF _ _ [3, 3] at q0
  obtain ⟨e0, r0, rfl, h0, q1⟩ := q0.cons_
  obtain ⟨e1, r1, rfl, h1, q2⟩ := q1.cons_
  obtain rfl := q2.nil_
  obtain ⟨x0, rfl, gx0⟩ := h0.int_ Try.underlying3
  obtain ⟨x1, rfl, gx1⟩ := h1.int_ Try.underlying3
  exact ⟨x0, x1, rfl, gx0, gx1, trivial⟩
theorem zs4 {e : E} (h : e.Ty Try.prog 70) : ∃ (x0 : Int) (x1 : Int), e = (E.agg [.int .i64 x0, .int .i64 x1]) ∧ ((Lit.int .i64 x0).wf = true) ∧ ((Lit.int .i64 x1).wf = true) ∧ True := by
  obtain ⟨fs, rfl, q0⟩ := h.agg_ Try.underlying70
  change E.TyF _ _ [3, 3] at q0
  obtain ⟨e0, r0, rfl, h0, q1⟩ := q0.cons_
  obtain ⟨e1, r1, rfl, h1, q2⟩ := q1.cons_
  obtain rfl := q2.nil_
  obtain ⟨x0, rfl, gx0⟩ := h0.int_ Try.underlying3
  obtain ⟨x1, rfl, gx1⟩ := h1.int_ Try.underlying3
  exact ⟨x0, x1, rfl, gx0, gx1, trivial⟩
set_option maxRecDepth 100000 in
set_option maxHeartbeats 1000000 in
theorem szInsS_all' (A : Option Addr) (c : Nat) (l : List E) (ht : ∀ y ∈ l, y.Ty Try.prog 128) : Sz 74 (.lst 2 128 A c l) := by
  intro left w hr h0 h1
  have hs := hr.sl
  have hlen := hs.len_le
  have HSZ : Hid ((E.lst 2 128 A c l).sz = l.length + E.szL l) := rfl
  change Calls _ _ #[.slice A l.length c, .int .i64 left] w _
  have hz0 : E.szL l = 0 := E.szL_zero fun y hy => by
    obtain ⟨y0, y1, rfl, gy0, gy1, -⟩ := zl6 (ht y hy)
    rfl
  have HZ0 := Lib.hid hz0
  clear hz0
  go_enter Try.func74, Try.ntmps74
  by_cases hn : left - l.length < 0
  · go_wp2
    go_ret
    exact ⟨-1, rfl, .inl (by omega), by omega, by exact (by repeat (first | (with_reducible refine Below.setCell ?_ (by first | omega | (· simp) | (· (simp; omega))) _) | (with_reducible refine Below.alloc ?_ (by first | omega | (· simp) | (· (simp; omega))) _) | (with_reducible refine Below.drew ?_) | (with_reducible refine zx2 ?_ _) | (with_reducible exact Below.refl _ _) | (with_reducible assumption) | (with_reducible refine Below.trans ?_ (Below.mono (by assumption) (by first | omega | (· simp) | (· (simp; omega))))) | (with_reducible refine Below.trans ?_ (Kp.below (by assumption) (by first | omega | (· simp) | (· (simp; omega))) (by first | omega | (· simp) | (· (simp; omega)))))))⟩
  go_wp2
  go_ret
  refine ⟨_, rfl, .inr ?_, by omega, by exact (by repeat (first | (with_reducible refine Below.setCell ?_ (by first | omega | (· simp) | (· (simp; omega))) _) | (with_reducible refine Below.alloc ?_ (by first | omega | (· simp) | (· (simp; omega))) _) | (with_reducible refine Below.drew ?_) | (with_reducible refine zx2 ?_ _) | (with_reducible exact Below.refl _ _) | (with_reducible assumption) | (with_reducible refine Below.trans ?_ (Below.mono (by assumption) (by first | omega | (· simp) | (· (simp; omega))))) | (with_reducible refine Below.trans ?_ (Kp.below (by assumption) (by first | omega | (· simp) | (· (simp; omega))) (by first | omega | (· simp) | (· (simp; omega)))))))⟩
  show _ = _
  rw [HSZ.out, HZ0.out]
  push_cast
  omega
theorem zx17 {e : E} (ht : e.Ty Try.prog 80) : Sz 74 e := by
  obtain ⟨A, c, l, rfl, h1, _⟩ := ht.lst_ Try.underlying80 (k := 2) (by kernel_rfl)
  exact szInsS_all' A c l h1
set_option maxRecDepth 100000 in
set_option maxHeartbeats 1000000 in
theorem zt21 {e : E} (ht : e.Ty Try.prog 128) : To 89 70 e := by
  have HT0 := Lib.hid ht
  obtain ⟨x0, x1, rfl, gx0, gx1, -⟩ := zl6 ht
  intro w hr hsz
  have hsz' : (0 + (0 + 0)) ≤ 1048576 := hsz
  clear hsz hsz'
  change Calls _ _ #[.agg #[.int .i64 x0, .int .i64 x1]] w _
  go_enter Try.func89, Try.ntmps89
  go_wp2
  refine bodyPost_ret (v := .agg #[.int .i64 x0, .int .i64 x1]) (by simp [results, Try.results89, go_sem]) rfl ⟨(E.agg [.int .i64 x0, .int .i64 x1]), rfl, rfl, E.Ty.mk_agg Try.underlying70 (E.TyF.mk_cons (show E.Ty _ _ _ from ⟨Try.underlying3, gx0⟩) (E.TyF.mk_cons (show E.Ty _ _ _ from ⟨Try.underlying3, gx1⟩) (E.TyF.mk_nil))), ?_, ?_, by exact (by repeat (first | (with_reducible refine Below.setCell ?_ (by first | omega | (· simp) | (· (simp; omega))) _) | (with_reducible refine Below.alloc ?_ (by first | omega | (· simp) | (· (simp; omega))) _) | (with_reducible refine Below.drew ?_) | (with_reducible refine zx2 ?_ _) | (with_reducible exact Below.refl _ _) | (with_reducible assumption) | (with_reducible refine Below.trans ?_ (Below.mono (by assumption) (by first | omega | (· simp) | (· (simp; omega))))) | (with_reducible refine Below.trans ?_ (Kp.below (by assumption) (by first | omega | (· simp) | (· (simp; omega))) (by first | omega | (· simp) | (· (simp; omega)))))))⟩
  · simp [E.Ho, E.HoL]
  · simp [E.fp, E.fpL]
theorem einfoIns : (Try.prog.info? 70).map (fun i => (i.zero, i.size, i.bytes)) = some (some (.agg #[.int .i64 0, .int .i64 0]), 2, 16) := by kernel_rfl
set_option maxRecDepth 100000 in
set_option maxHeartbeats 1000000 in
theorem toInsS_all' (A : Option Addr) (c : Nat) (l : List E) (h1 : ∀ y ∈ l, y.Ty Try.prog 128) : To 78 61 (.lst 2 128 A c l) := by
  intro w hr hsz
  have hs := hr.sl
  have eS : (E.lst 2 128 A c l).sz = l.length + E.szL l := rfl
  have hn : l.length ≤ 1048576 := by omega
  have HS := Lib.hid (show l.length + E.szL l ≤ 1048576 by omega)
  clear eS hsz
  have hmk := zi22 Try.underlying61 einfoIns l.length (by omega) (by omega)
  have hF := Fill.new w 70 #[.int .i64 0, .int .i64 0] (l.length * 2) ([] : List Value)
  change Calls _ _ #[.slice A l.length c] w _
  go_enter Try.func78, Try.ntmps78
  go_wp2
  go_loopw [4] (fun i wr => ∃ (k : Nat) (us : List E), k ≤ l.length ∧ i = .int .i64 k ∧ Hid (us.length = k) ∧ Hid (us.map E.d = (l.take k).map E.d) ∧ Hid (∀ u ∈ us, u.Ty Try.prog 70 ∧ u.enc.length = 2) ∧ Fill wr w.heap.size 70 (l.length * 2) (k * 2) (E.encL us) ∧ w.heap.size + 1 ≤ wr.heap.size ∧ Hid (∀ u ∈ us, u.Ho wr (w.heap.size + 1) wr.heap.size) ∧ Hid ((E.fpL us).Nodup) ∧ Below w.heap.size w wr) (fun i _ => l.length - (intOf i).toNat)
  case atStart => exact ⟨0, [], Nat.zero_le _, rfl, rfl, rfl, (fun u hu => absurd hu List.not_mem_nil), by exact hF, by simp, (fun u hu => absurd hu List.not_mem_nil), (by show List.Nodup _; simp [E.fpL]), by exact (by repeat (first | (with_reducible refine Below.setCell ?_ (by first | omega | (· simp) | (· (simp; omega))) _) | (with_reducible refine Below.alloc ?_ (by first | omega | (· simp) | (· (simp; omega))) _) | (with_reducible refine Below.drew ?_) | (with_reducible refine zx2 ?_ _) | (with_reducible exact Below.refl _ _) | (with_reducible assumption) | (with_reducible refine Below.trans ?_ (Below.mono (by assumption) (by first | omega | (· simp) | (· (simp; omega))))) | (with_reducible refine Below.trans ?_ (Kp.below (by assumption) (by first | omega | (· simp) | (· (simp; omega))) (by first | omega | (· simp) | (· (simp; omega)))))))⟩
  case round =>
    obtain ⟨k, us, hk, rfl, HL, HD, HT, hf, hge, HO, HN, hb⟩ := hrel
    by_cases hlt : k < l.length
    · have hs' := hs.below hb (Nat.le_refl _)
      have hzb := hb.size
      have hmem := List.getElem_mem hlt
      have hin := (hr.el hmem).below hb (Nat.le_refl _)
      have H := zt21 (h1 _ hmem)
      have hsk : l[k].sz ≤ 1048576 := by have := E.szL_mem hmem; have := HS.out; omega
      obtain ⟨b, o, rfl, _, hc⟩ := hs'.at_ hlt
      obtain ⟨y0, y1, ex, gy0, gy1, -⟩ := zl6 (h1 _ hmem)
      have HEX := Lib.hid ex
      rw [ex] at hc hin H hsk
      clear ex
      have c0 := hc 0 _ rfl; have c1 := hc 1 _ rfl
      rw [Nat.add_zero] at c0
      clear hc
      have HF := Lib.hid hf
      clear hf
      go_wp2_with fail
      go_at_call 89
      refine (H _ hin hsk).mono ?_; rintro e w1 ⟨x, he, HDX, htx, hox, hnx, hb1⟩
      have HTX := Lib.hid htx
      obtain ⟨z0, z1, rfl, gz0, gz1, -⟩ := zs4 htx
      obtain rfl : e = .returned (.agg #[.int .i64 z0, .int .i64 z1]) := he
      have hf1 := HF.out.below hb1 HF.out.lt
      obtain ⟨u0, c0'⟩ := hf1.cell (j := k * 2) (by omega); obtain ⟨u1, c1'⟩ := hf1.cell (j := k * 2 + 1) (by omega)
      have zfr := hf1.frozen
      have hz1 := hb1.size
      have HOX := Lib.hid hox
      have HNX := Lib.hid hnx
      have HF1 := Lib.hid hf1
      clear hox hnx hf1 htx
      go_wp2
      go_roundw
      case rel =>
        have hl := HL.out
        have hf1 := HF1.out
        have hT : ∀ u ∈ us ++ [(E.agg [.int .i64 z0, .int .i64 z1])], u.Ty Try.prog 70 ∧ u.enc.length = 2 := fun u hu => by
          rcases List.mem_append.1 hu with hu | hu
          · exact HT.out u hu
          · obtain rfl := List.mem_singleton.1 hu
            exact ⟨HTX.out, rfl⟩
        have hlen := E.encL_len fun u hu => (HT.out u hu).2
        have hk2 : k < (us ++ [(E.agg [.int .i64 z0, .int .i64 z1])]).length := by simp; omega
        have ev := fun j hj => E.encL_at (fun u hu => (hT u hu).2) k hk2 j hj
        have eT : (us ++ [(E.agg [.int .i64 z0, .int .i64 z1])])[k] = (E.agg [.int .i64 z0, .int .i64 z1]) := by rw [List.getElem_append_right (by omega)]; simp [hl]
        simp only [eT] at ev
        have hf2 : Fill w1 w.heap.size 70 (l.length * 2) (k * 2) (E.encL (us ++ [(E.agg [.int .i64 z0, .int .i64 z1])])) := hf1.swap' fun j hj => E.encL_app_lt us _ j (by rw [hlen, hl]; exact hj)
        have K := fun (W : World) (h : Kp w.heap.size (w.heap.size + 1) w1 W) (u : E) (hu : u ∈ us) => ((HO.out u hu).below hb1 (Nat.le_refl _)).kp h (.inr (by omega))
        refine ⟨k + 1, us ++ [(E.agg [.int .i64 z0, .int .i64 z1])], by omega, by go_num, by show _ = _; simp [hl], zl18 hlt HD.out (HDX.out.trans (by rw [← HEX.out])), hT, by rw [Nat.add_mul]; exact ((hf2.set (by omega) (ev 0 (by omega))).set (by omega) (ev 1 (by omega))), by simp; omega, ?_, ?_, by exact (by repeat (first | (with_reducible refine Below.setCell ?_ (by first | omega | (· simp) | (· (simp; omega))) _) | (with_reducible refine Below.alloc ?_ (by first | omega | (· simp) | (· (simp; omega))) _) | (with_reducible refine Below.drew ?_) | (with_reducible refine zx2 ?_ _) | (with_reducible exact Below.refl _ _) | (with_reducible assumption) | (with_reducible refine Below.trans ?_ (Below.mono (by assumption) (by first | omega | (· simp) | (· (simp; omega))))) | (with_reducible refine Below.trans ?_ (Kp.below (by assumption) (by first | omega | (· simp) | (· (simp; omega))) (by first | omega | (· simp) | (· (simp; omega)))))))⟩
        · intro u hu
          rcases List.mem_append.1 hu with hu | hu
          · exact (K _ (by repeat (first | (with_reducible exact Kp.refl _ _ _) | (refine Kp.set ?_ (by first | omega | (dsimp only; omega) | (simp; omega)) (by first | omega | (dsimp only; omega) | (simp; omega)) _))) u hu).wider (Nat.le_refl _) (by simp; omega)
          · obtain rfl := List.mem_singleton.1 hu
            exact (HOX.out.kp (lo' := w.heap.size) (hi' := w.heap.size + 1) (by repeat (first | (with_reducible exact Kp.refl _ _ _) | (refine Kp.set ?_ (by first | omega | (dsimp only; omega) | (simp; omega)) (by first | omega | (dsimp only; omega) | (simp; omega)) _))) (.inr (by omega))).wider (by omega) (by simp)
        · refine zb8 HN.out HNX.out fun g hg hg2 => ?_
          obtain ⟨u, hu, hg⟩ := E.mem_fpL.1 hg
          have := (HO.out u hu).lt g hg
          have := HOX.out.lt g hg2
          omega
      case measure => simp [intOf]; omega
    · have hk' : k = l.length := by omega
      subst hk'
      go_wp2
      go_ret
      have hl := HL.out
      have hTy := HT.out
      have own : wr.ownsRow w.heap.size 70 2 (.slice (some ⟨w.heap.size, 0, none⟩) l.length l.length) l.length (E.encL us) := hf.owns (Nat.le_refl _) rfl (by rw [E.encL_len fun u hu => (hTy u hu).2, hl]) (by unfold maxLen; omega)
      rw [← hl] at own
      refine ⟨.lst 2 70 (some ⟨w.heap.size, 0, none⟩) us.length us, by rw [← hl]; rfl, ?_, E.Ty.mk_lst Try.underlying61 (by kernel_rfl) (fun u hu => (hTy u hu).1) (fun u hu => (hTy u hu).2), E.Ho.mk (Ow.of_owns own (Nat.le_refl _)) (fun u hu => (hTy u hu).2) (fun u hu => (HO.out u hu).wider (by omega) (Nat.le_refl _)), ?_, hb⟩
      · show E.d _ = E.d _
        rw [zz12]
        have h := HD.out
        rwa [List.take_length] at h
      · simp only [E.fp, List.singleton_append, List.nodup_cons]
        refine ⟨fun hm => ?_, HN.out⟩
        obtain ⟨u, hu, hg⟩ := E.mem_fpL.1 hm
        have := (HO.out u hu).lt _ hg
        omega
theorem zy17 {e : E} (ht : e.Ty Try.prog 80) : To 78 61 e := by
  obtain ⟨A, c, l, rfl, h1, _⟩ := ht.lst_ Try.underlying80 (k := 2) (by kernel_rfl)
  exact toInsS_all' A c l h1
set_option maxRecDepth 100000 in
set_option maxHeartbeats 1000000 in
theorem zu21 {e e' : E} (ht : e.Ty Try.prog 70) (ht' : e'.Ty Try.prog 70) : Eq 94 e e' := by
  obtain ⟨x0, x1, rfl, gx0, gx1, -⟩ := zs4 ht
  obtain ⟨y0, y1, rfl, gy0, gy1, -⟩ := zs4 ht'
  intro hd w hr hr'
  simp only [E.d, E.dL, E.agg.injEq, List.cons.injEq, E.int.injEq, E.str.injEq, E.bool.injEq, E.lst.injEq, true_and, and_true] at hd
  obtain ⟨rfl, rfl⟩ := hd
  change Calls _ _ #[.agg #[.int .i64 x0, .int .i64 x1], .agg #[.int .i64 x0, .int .i64 x1]] w _
  go_enter Try.func94, Try.ntmps94
  go_wp2
  go_ret
  exact ⟨rfl, (by repeat (first | (with_reducible refine Below.setCell ?_ (by first | omega | (· simp) | (· (simp; omega))) _) | (with_reducible refine Below.alloc ?_ (by first | omega | (· simp) | (· (simp; omega))) _) | (with_reducible refine Below.drew ?_) | (with_reducible refine zx2 ?_ _) | (with_reducible exact Below.refl _ _) | (with_reducible assumption) | (with_reducible refine Below.trans ?_ (Below.mono (by assumption) (by first | omega | (· simp) | (· (simp; omega))))) | (with_reducible refine Below.trans ?_ (Kp.below (by assumption) (by first | omega | (· simp) | (· (simp; omega))) (by first | omega | (· simp) | (· (simp; omega)))))))⟩
set_option maxRecDepth 100000 in
set_option maxHeartbeats 1000000 in
theorem eqInsS_all' (A B : Option Addr) (c c' : Nat) (l m : List E) (h1 : ∀ y ∈ l, y.Ty Try.prog 70) (h2 : ∀ y ∈ m, y.Ty Try.prog 70) : Eq 82 (.lst 2 70 A c l) (.lst 2 70 B c' m) := by
  intro hd w hr hr'
  rw [zz12] at hd
  have hs := hr.sl
  have hs' := hr'.sl
  have hml := zk22 hd
  have HD := Lib.hid hd
  clear hd
  have hlen := hs.len_le
  change Calls _ _ #[.slice A l.length c, .slice B m.length c'] w _
  obtain ⟨N, HN⟩ : ∃ N, Hid (m.length = N) := ⟨_, rfl⟩
  have hN : N = l.length := by have := HN.out; omega
  subst hN
  rw [HN.out]
  clear hml
  go_enter Try.func82, Try.ntmps82
  go_wp2
  go_loopw [5] (fun i wr => ∃ (k : Nat), k ≤ l.length ∧ i = .int .i64 k ∧ Below w.heap.size w wr) (fun i _ => l.length - (intOf i).toNat)
  case atStart => exact ⟨0, Nat.zero_le _, rfl, Below.refl _ _⟩
  case round =>
    obtain ⟨k, hk, rfl, hb⟩ := hrel
    by_cases hlt : k < l.length
    · have hltm : k < m.length := by have := HN.out; omega
      have hsb := hs.below hb (Nat.le_refl _)
      have hsb' := hs'.below hb (Nat.le_refl _)
      have hdk := d_at HD.out hlt hltm
      obtain ⟨b, o, rfl, _, hc⟩ := hsb.at_ hlt
      obtain ⟨b', o', rfl, _, hd⟩ := hsb'.at_ hltm
      have hin := (hr.el (List.getElem_mem hlt)).below hb (Nat.le_refl _)
      have hin' := (hr'.el (List.getElem_mem hltm)).below hb (Nat.le_refl _)
      have H := zu21 (h1 _ (List.getElem_mem hlt)) (h2 _ (List.getElem_mem hltm)) hdk
      obtain ⟨x0, x1, ex, gx0, gx1, -⟩ := zs4 (h1 _ (List.getElem_mem hlt))
      obtain ⟨y0, y1, ey, gy0, gy1, -⟩ := zs4 (h2 _ (List.getElem_mem hltm))
      rw [ex] at hc hin
      rw [ey] at hd hin'
      rw [ex, ey] at H
      clear ex ey hdk
      have c0 := hc 0 _ rfl; have c1 := hc 1 _ rfl
      have d0 := hd 0 _ rfl; have d1 := hd 1 _ rfl
      rw [Nat.add_zero] at c0 d0
      clear hc hd
      have hzb := hb.size
      have HH := Lib.hid H
      clear H
      go_wp2
      go_region_held3 (fun w' => w'.cell? ⟨b, o + k * 2, none⟩ = some (.int .i64 x0) ∧ w'.cell? ⟨b, o + k * 2 + 1, none⟩ = some (.int .i64 x1) ∧ w'.cell? ⟨b', o' + k * 2, none⟩ = some (.int .i64 y0) ∧ w'.cell? ⟨b', o' + k * 2 + 1, none⟩ = some (.int .i64 y1))
        (first | exact ⟨c0, c1, d0, d1⟩ | skip)
        ((go_at_call 94; refine (HH.out _ (by repeat (first | (with_reducible assumption) | (with_reducible refine E.In.drew ?_) | (with_reducible refine E.In.drewN ?_ _) | (with_reducible refine E.In.alloc ?_ _) | (refine E.In.below ?_ (by with_reducible assumption) ?_) | omega | (· simp) | (· (simp; omega)))) (by repeat (first | (with_reducible assumption) | (with_reducible refine E.In.drew ?_) | (with_reducible refine E.In.drewN ?_ _) | (with_reducible refine E.In.alloc ?_ _) | (refine E.In.below ?_ (by with_reducible assumption) ?_) | omega | (· simp) | (· (simp; omega))))).mono ?_; rintro e w1 ⟨rfl, hb1⟩; have c0 := zf2 hb1 c0 (by first | omega | (· simp) | (· (simp; omega))); have c1 := zf2 hb1 c1 (by first | omega | (· simp) | (· (simp; omega))); have d0 := zf2 hb1 d0 (by first | omega | (· simp) | (· (simp; omega))); have d1 := zf2 hb1 d1 (by first | omega | (· simp) | (· (simp; omega)))))
      go_wp2
      go_roundw
      case rel => exact ⟨k + 1, by omega, by go_num, by exact (by repeat (first | (with_reducible refine Below.setCell ?_ (by first | omega | (· simp) | (· (simp; omega))) _) | (with_reducible refine Below.alloc ?_ (by first | omega | (· simp) | (· (simp; omega))) _) | (with_reducible refine Below.drew ?_) | (with_reducible refine zx2 ?_ _) | (with_reducible exact Below.refl _ _) | (with_reducible assumption) | (with_reducible refine Below.trans ?_ (Below.mono (by assumption) (by first | omega | (· simp) | (· (simp; omega))))) | (with_reducible refine Below.trans ?_ (Kp.below (by assumption) (by first | omega | (· simp) | (· (simp; omega))) (by first | omega | (· simp) | (· (simp; omega)))))))⟩
      case measure => simp [intOf]; omega
    · go_wp2
      go_ret
      exact ⟨rfl, hb⟩
theorem zz17 {e e' : E} (ht : e.Ty Try.prog 61) (ht' : e'.Ty Try.prog 61) : Eq 82 e e' := by
  obtain ⟨A, c, l, rfl, h1, _⟩ := ht.lst_ Try.underlying61 (k := 2) (by kernel_rfl)
  obtain ⟨B, c', m, rfl, h2, _⟩ := ht'.lst_ Try.underlying61 (k := 2) (by kernel_rfl)
  exact eqInsS_all' A B c c' l m h1 h2
def hasNum (x : Int) : Bool := [2,3,4,5,6,7,13,16,17,18,19,20,21,24,25,32,34,36].any fun y => x == y
theorem zr15 (x : Int) : Ctr Try.prog 66 [.c (.v (.int .i64 x))] [] (.c (.v (.bool (hasNum x)))) [] := by
  refine zm2 Try.func66 rfl rfl ?_
  repeat' (first | refine zn ?_ | refine ze ?_ | refine zh ?_ | refine zi ?_ | refine zb fun C => ?_ | refine zp (by kernel_rfl) (by kernel_rfl) fun C => ?_ | refine zc ?_ | (refine x_gm ?_ ?_ <;> intro hG <;> (try cases hG)) | refine zr3 ?_ | refine x_bs ?_ | refine x_gr ?_ | refine x_st ?_ | refine x_mv ?_ | refine x_sk ?_ | refine ze4 ?_ | refine x_ix ?_ | refine zf4 ?_ | refine zg4 ?_ | refine zu3 ?_ | refine zv2 ?_ | refine x_ld ?_ | refine zf15 ?_ | (refine zt3 (by rfl) ?_ ?_ <;> intro hC <;> (try cases hC)))
  all_goals first
    | (exfalso; simp_all; done)
    | (refine zu ?_
       refine ret0 rfl zn2 ⟨?_, rfl⟩
       refine congrArg (fun s => AV.c (AC.v (Value.bool s))) ?_
       simp at *
       simp [hasNum, *]; done)
    | skip
theorem l17Has_c (x : Int) : Ctr Try.prog 77 [.c (.v (.int .i64 x))] [] (.c (.v (.bool (hasNum x)))) [] := by
  refine zm2 Try.func77 rfl rfl ?_
  repeat' (first | refine zn ?_ | refine ze ?_ | refine zh ?_ | refine zi ?_ | refine zb fun C => ?_ | refine zp (by kernel_rfl) (by kernel_rfl) fun C => ?_ | refine zc ?_ | (refine x_gm ?_ ?_ <;> intro hG <;> (try cases hG)) | refine zr3 ?_ | refine x_bs ?_ | refine x_gr ?_ | refine x_st ?_ | refine x_mv ?_ | refine x_sk ?_ | refine ze4 ?_ | refine x_ix ?_ | refine zf4 ?_ | refine zg4 ?_ | refine zu3 ?_ | refine zv2 ?_ | refine x_ld ?_ | refine zf15 ?_ | (refine zt3 (by rfl) ?_ ?_ <;> intro hC <;> (try cases hC)))
  all_goals first
    | (exfalso; simp_all; done)
    | (refine zu ?_
       refine ret0 rfl zn2 ⟨?_, rfl⟩
       refine congrArg (fun s => AV.c (AC.v (Value.bool s))) ?_
       simp at *
       simp [hasNum, *]; done)
    | skip
def insOkS (x n : Int) : Bool :=
  if inR x 1 41 && inR n 0 10000 then (if x == 7 then decide (n ≤ 11) else if x == 13 then decide (n ≤ 1) else if x == 34 then inR n 1 5 else hasNum x || n == 0) else false
def insOkJ (x n : Int) : Bool :=
  if !inR x 1 41 || !hasNum x then inR x 1 41 && n == 0 else if x == 7 then inR n 0 11 else if x == 13 then inR n 0 1 else if x == 34 then inR n 1 5 else inR n 0 10000
theorem za18 (x n : Int) : insOkJ x n = insOkS x n := by
  have hb : hasNum 7 = true ∧ hasNum 13 = true ∧ hasNum 34 = true := by decide
  unfold insOkJ insOkS inR
  rw [Bool.eq_iff_iff]
  by_cases e1 : x = 7
  · subst e1; simp [hb.1]; omega
  by_cases e2 : x = 13
  · subst e2; simp [hb.2.1]; omega
  by_cases e3 : x = 34
  · subst e3; simp [hb.2.2]; omega
  cases hh : hasNum x
  · simp [e1, e2, e3]; omega
  · simp [e1, e2, e3]
    split <;> omega
set_option maxHeartbeats 1000000 in
theorem zr10 (x n : Int) : Ctr Try.prog 47 [.ag [.v (.int .i64 x), .v (.int .i64 n)]] [] (.c (.v (.bool (insOkS x n)))) [] := by
  rw [← za18]
  refine zm2 Try.func47 rfl rfl ?_
  repeat' (first | refine zn ?_ | refine ze ?_ | refine zh ?_ | refine zi ?_ | refine zb fun C => ?_ | refine zp (by kernel_rfl) (by kernel_rfl) fun C => ?_ | refine zc ?_ | (refine x_gm ?_ ?_ <;> intro hG <;> (try cases hG)) | refine zr3 ?_ | refine x_bs ?_ | refine x_gr ?_ | refine x_st ?_ | refine x_mv ?_ | refine x_sk ?_ | refine ze4 ?_ | refine x_ix ?_ | refine zf4 ?_ | refine zg4 ?_ | refine zu3 ?_ | refine zv2 ?_ | refine x_ld ?_ | refine zu6 (zr15 _) ?_ | refine zu6 (zs5 _ _ _) ?_ | (refine zt3 (by rfl) ?_ ?_ <;> intro hC <;> (try cases hC)))
  all_goals first
    | (exfalso; simp_all; done)
    | (refine zu ?_
       refine ret0 rfl zn2 ⟨?_, rfl⟩
       refine congrArg (fun s => AV.c (AC.v (Value.bool s))) ?_
       simp_all [insOkJ]; done)
set_option maxHeartbeats 1000000 in
theorem zs10 (x n : Int) : Ctr Try.prog 58 [.ag [.v (.int .i64 x), .v (.int .i64 n)]] [] (.c (.v (.bool (insOkS x n)))) [] := by
  refine zm2 Try.func58 rfl rfl ?_
  repeat' (first | refine zn ?_ | refine ze ?_ | refine zh ?_ | refine zi ?_ | refine zb fun C => ?_ | refine zp (by kernel_rfl) (by kernel_rfl) fun C => ?_ | refine zc ?_ | (refine x_gm ?_ ?_ <;> intro hG <;> (try cases hG)) | refine zr3 ?_ | refine x_bs ?_ | refine x_gr ?_ | refine x_st ?_ | refine x_mv ?_ | refine x_sk ?_ | refine ze4 ?_ | refine x_ix ?_ | refine zf4 ?_ | refine zg4 ?_ | refine zu3 ?_ | refine zv2 ?_ | refine x_ld ?_ | refine zu6 (l17Has_c _) ?_ | refine zu6 (zk6 _ _ _) ?_ | (refine zt3 (by rfl) ?_ ?_ <;> intro hC <;> (try cases hC)))
  all_goals first
    | (exfalso; simp_all; done)
    | (refine zu ?_
       refine ret0 rfl zn2 ⟨?_, rfl⟩
       refine congrArg (fun s => AV.c (AC.v (Value.bool s))) ?_
       simp_all [insOkS]; done)
end Go.Proofs.Ytfdjognmechcfaa
namespace Go.Proofs.Ytfdjognmechcfaa
open Go.RowKit
end Go.Proofs.Ytfdjognmechcfaa
namespace Go.Proofs.Ytfdjognmechcfaa
open Go.RowKit
structure GVal where
  k : Int
  n : Int
  s : ByteArray
structure GCell where
  refs : Int
  v : GVal
end Go.Proofs.Ytfdjognmechcfaa
namespace Go.Proofs.Ytfdjognmechcfaa
open Go.RowKit
end Go.Proofs.Ytfdjognmechcfaa
namespace Go.Proofs.Ytfdjognmechcfaa
open Go.RowKit
end Go.Proofs.Ytfdjognmechcfaa
namespace Go.Proofs.Ytfdjognmechcfaa
open Go.RowKit
def wrapI (n : Int) : Int := (n + 2147483648) % 4294967296 - 2147483648
theorem and32 (n : Int) : bits .and .i64 n 4294967295 = n % 4294967296 := by
  have h1 : (BitVec.ofInt 64 n).toNat = (n % 18446744073709551616).toNat := by rw [BitVec.toNat_ofInt]; rfl
  have h2 : (BitVec.ofInt 64 4294967295).toNat = 2 ^ 32 - 1 := by rfl
  show IntKind.i64.wrap ((BitVec.ofInt 64 n &&& BitVec.ofInt 64 4294967295).toNat : Int) = _
  rw [BitVec.toNat_and, h1, h2, Nat.and_two_pow_sub_one_eq_mod, IntKind.wrap_i64]
  omega
theorem zh9 (n : Int) (w : World) (h : -9223372036854775808 ≤ n ∧ n ≤ 9223372036854775807) : Calls Try.prog 62 #[.int .i64 n] w fun e w' => e = .returned (.int .i64 (wrapI n)) ∧ w' = w := by
  go_enter Try.func62, Try.ntmps62
  go_wp2
  go_ret
  exact ⟨ri (by simp [wrapI, wrap64, wrap32]; omega), rfl⟩
theorem zi9 (n : Int) (w : World) (h : -9223372036854775808 ≤ n ∧ n ≤ 9223372036854775807) : Calls Try.prog 56 #[.int .i64 n] w fun e w' => e = .returned (.int .i64 (wrapI n)) ∧ w' = w := by
  have h1 := and32 n
  have hw : -2147483648 ≤ wrapI n ∧ wrapI n ≤ 2147483647 := by unfold wrapI; omega
  by_cases h2 : 2147483647 < n % 4294967296
  · have e : wrapI n = n % 4294967296 - 4294967296 := by unfold wrapI; omega
    rw [e]
    clear e hw
    go_enter Try.func56, Try.ntmps56
    go_wp2
    go_ret
    exact ⟨rfl, rfl⟩
  · have e : wrapI n = n % 4294967296 := by unfold wrapI; omega
    rw [e]
    clear e hw
    go_enter Try.func56, Try.ntmps56
    go_wp2
    go_ret
    exact ⟨rfl, rfl⟩
def valOk (a b : Int) (s : ByteArray) : Bool := if a = 0 then b == 0 && s.toList.isEmpty else if a = 1 then b == wrapI b && s.toList.isEmpty else if a = 2 then b == 0 && decide (s.size ≤ 200) else false
theorem zt10 {s : ByteArray} (h : s.toList = []) : s = ⟨#[]⟩ := by
  rw [ByteArray.toList_eq] at h
  obtain ⟨⟨l⟩⟩ := s
  simp at h
  subst h
  rfl
theorem valOk0 : valOk 0 0 ⟨#[]⟩ = true := by
  have : (ByteArray.mk #[]).toList = [] := by rw [ByteArray.toList_eq]
  simp [valOk, this]
set_option maxHeartbeats 1000000 in
theorem zw12 (a b : Int) (s : ByteArray) (w : World) (h : -9223372036854775808 ≤ b ∧ b ≤ 9223372036854775807) : Calls Try.prog 41 #[.agg #[.int .i64 a, .int .i64 b, .string s]] w fun e w' => e = .returned (.bool (valOk a b s)) ∧ Below w.heap.size w w' := by
  by_cases ha : a = 0
  · subst ha
    by_cases hb : b = 0
    · subst hb
      by_cases hs : s.toList = []
      · obtain rfl := zt10 hs
        rw [valOk0]
        clear hs
        go_enter Try.func41, Try.ntmps41
        go_wp2
        go_ret
        exact ⟨rfl, (by repeat (first | (with_reducible refine Below.setCell ?_ (by first | omega | (· simp) | (· (simp; omega))) _) | (with_reducible refine Below.alloc ?_ (by first | omega | (· simp) | (· (simp; omega))) _) | (with_reducible refine Below.drew ?_) | (with_reducible refine zx2 ?_ _) | (with_reducible exact Below.refl _ _) | (with_reducible assumption) | (with_reducible refine Below.trans ?_ (Below.mono (by assumption) (by first | omega | (· simp) | (· (simp; omega))))) | (with_reducible refine Below.trans ?_ (Kp.below (by assumption) (by first | omega | (· simp) | (· (simp; omega))) (by first | omega | (· simp) | (· (simp; omega)))))))⟩
      · have hs1 : s.toList.isEmpty = false := by simpa using hs
        have hs2 : (s.toList == []) = false := by simpa using hs
        have e : valOk 0 0 s = false := by simp [valOk, hs1]
        rw [e]
        clear e hs
        go_enter Try.func41, Try.ntmps41
        go_wp2
        go_ret
        exact ⟨rfl, (by repeat (first | (with_reducible refine Below.setCell ?_ (by first | omega | (· simp) | (· (simp; omega))) _) | (with_reducible refine Below.alloc ?_ (by first | omega | (· simp) | (· (simp; omega))) _) | (with_reducible refine Below.drew ?_) | (with_reducible refine zx2 ?_ _) | (with_reducible exact Below.refl _ _) | (with_reducible assumption) | (with_reducible refine Below.trans ?_ (Below.mono (by assumption) (by first | omega | (· simp) | (· (simp; omega))))) | (with_reducible refine Below.trans ?_ (Kp.below (by assumption) (by first | omega | (· simp) | (· (simp; omega))) (by first | omega | (· simp) | (· (simp; omega)))))))⟩
    · have hb1 : (b == 0) = false := by simpa using hb
      have e : valOk 0 b s = false := by simp [valOk, hb]
      rw [e]
      clear e hb
      go_enter Try.func41, Try.ntmps41
      go_wp2
      go_ret
      exact ⟨rfl, (by repeat (first | (with_reducible refine Below.setCell ?_ (by first | omega | (· simp) | (· (simp; omega))) _) | (with_reducible refine Below.alloc ?_ (by first | omega | (· simp) | (· (simp; omega))) _) | (with_reducible refine Below.drew ?_) | (with_reducible refine zx2 ?_ _) | (with_reducible exact Below.refl _ _) | (with_reducible assumption) | (with_reducible refine Below.trans ?_ (Below.mono (by assumption) (by first | omega | (· simp) | (· (simp; omega))))) | (with_reducible refine Below.trans ?_ (Kp.below (by assumption) (by first | omega | (· simp) | (· (simp; omega))) (by first | omega | (· simp) | (· (simp; omega)))))))⟩
  · by_cases ha1 : a = 1
    · subst ha1
      by_cases hb : b = wrapI b
      · have hb1 : (b == wrapI b) = true := by simpa using hb
        have hb2 : (wrapI b == b) = true := by simpa using hb.symm
        have e : valOk 1 b s = s.toList.isEmpty := by simp [valOk, ← hb]
        rw [e]
        clear e hb
        go_enter Try.func41, Try.ntmps41
        go_wp2
        go_quiet ((go_at_call 62; exact Calls.quiet_of_same (zh9 _ _ h)))
        go_wp2
        go_ret
        exact ⟨rfl, (by repeat (first | (with_reducible refine Below.setCell ?_ (by first | omega | (· simp) | (· (simp; omega))) _) | (with_reducible refine Below.alloc ?_ (by first | omega | (· simp) | (· (simp; omega))) _) | (with_reducible refine Below.drew ?_) | (with_reducible refine zx2 ?_ _) | (with_reducible exact Below.refl _ _) | (with_reducible assumption) | (with_reducible refine Below.trans ?_ (Below.mono (by assumption) (by first | omega | (· simp) | (· (simp; omega))))) | (with_reducible refine Below.trans ?_ (Kp.below (by assumption) (by first | omega | (· simp) | (· (simp; omega))) (by first | omega | (· simp) | (· (simp; omega)))))))⟩
      · have hb1 : (b == wrapI b) = false := by simpa using hb
        have hb2 : (wrapI b == b) = false := by simpa using fun e => hb e.symm
        have e : valOk 1 b s = false := by simp [valOk, hb]
        rw [e]
        clear e hb
        go_enter Try.func41, Try.ntmps41
        go_wp2
        go_quiet ((go_at_call 62; exact Calls.quiet_of_same (zh9 _ _ h)))
        go_wp2
        go_ret
        exact ⟨rfl, (by repeat (first | (with_reducible refine Below.setCell ?_ (by first | omega | (· simp) | (· (simp; omega))) _) | (with_reducible refine Below.alloc ?_ (by first | omega | (· simp) | (· (simp; omega))) _) | (with_reducible refine Below.drew ?_) | (with_reducible refine zx2 ?_ _) | (with_reducible exact Below.refl _ _) | (with_reducible assumption) | (with_reducible refine Below.trans ?_ (Below.mono (by assumption) (by first | omega | (· simp) | (· (simp; omega))))) | (with_reducible refine Below.trans ?_ (Kp.below (by assumption) (by first | omega | (· simp) | (· (simp; omega))) (by first | omega | (· simp) | (· (simp; omega)))))))⟩
    · by_cases ha2 : a = 2
      · subst ha2
        by_cases hb : b = 0
        · subst hb
          by_cases hs : s.size ≤ 200
          · have hs1 : (s.size : Int) ≤ 200 := by omega
            have e : valOk 2 0 s = true := by simp [valOk, hs]
            rw [e]
            clear e hs
            go_enter Try.func41, Try.ntmps41
            go_wp2
            go_ret
            exact ⟨rfl, (by repeat (first | (with_reducible refine Below.setCell ?_ (by first | omega | (· simp) | (· (simp; omega))) _) | (with_reducible refine Below.alloc ?_ (by first | omega | (· simp) | (· (simp; omega))) _) | (with_reducible refine Below.drew ?_) | (with_reducible refine zx2 ?_ _) | (with_reducible exact Below.refl _ _) | (with_reducible assumption) | (with_reducible refine Below.trans ?_ (Below.mono (by assumption) (by first | omega | (· simp) | (· (simp; omega))))) | (with_reducible refine Below.trans ?_ (Kp.below (by assumption) (by first | omega | (· simp) | (· (simp; omega))) (by first | omega | (· simp) | (· (simp; omega)))))))⟩
          · have hs1 : ¬ (s.size : Int) ≤ 200 := by omega
            have e : valOk 2 0 s = false := by simp [valOk]; omega
            rw [e]
            clear e hs
            go_enter Try.func41, Try.ntmps41
            go_wp2
            go_ret
            exact ⟨rfl, (by repeat (first | (with_reducible refine Below.setCell ?_ (by first | omega | (· simp) | (· (simp; omega))) _) | (with_reducible refine Below.alloc ?_ (by first | omega | (· simp) | (· (simp; omega))) _) | (with_reducible refine Below.drew ?_) | (with_reducible refine zx2 ?_ _) | (with_reducible exact Below.refl _ _) | (with_reducible assumption) | (with_reducible refine Below.trans ?_ (Below.mono (by assumption) (by first | omega | (· simp) | (· (simp; omega))))) | (with_reducible refine Below.trans ?_ (Kp.below (by assumption) (by first | omega | (· simp) | (· (simp; omega))) (by first | omega | (· simp) | (· (simp; omega)))))))⟩
        · have hb1 : (b == 0) = false := by simpa using hb
          have e : valOk 2 b s = false := by simp [valOk, hb]
          rw [e]
          clear e hb
          go_enter Try.func41, Try.ntmps41
          go_wp2
          all_goals (go_ret; exact ⟨rfl, (by repeat (first | (with_reducible refine Below.setCell ?_ (by first | omega | (· simp) | (· (simp; omega))) _) | (with_reducible refine Below.alloc ?_ (by first | omega | (· simp) | (· (simp; omega))) _) | (with_reducible refine Below.drew ?_) | (with_reducible refine zx2 ?_ _) | (with_reducible exact Below.refl _ _) | (with_reducible assumption) | (with_reducible refine Below.trans ?_ (Below.mono (by assumption) (by first | omega | (· simp) | (· (simp; omega))))) | (with_reducible refine Below.trans ?_ (Kp.below (by assumption) (by first | omega | (· simp) | (· (simp; omega))) (by first | omega | (· simp) | (· (simp; omega)))))))⟩)
      · have h0 : (a == 0) = false := by simpa using ha
        have h1 : (a == 1) = false := by simpa using ha1
        have h2 : (a == 2) = false := by simpa using ha2
        have e : valOk a b s = false := by simp [valOk, ha, ha1, ha2]
        rw [e]
        clear e ha ha1 ha2
        go_enter Try.func41, Try.ntmps41
        go_wp2
        go_ret
        exact ⟨rfl, (by repeat (first | (with_reducible refine Below.setCell ?_ (by first | omega | (· simp) | (· (simp; omega))) _) | (with_reducible refine Below.alloc ?_ (by first | omega | (· simp) | (· (simp; omega))) _) | (with_reducible refine Below.drew ?_) | (with_reducible refine zx2 ?_ _) | (with_reducible exact Below.refl _ _) | (with_reducible assumption) | (with_reducible refine Below.trans ?_ (Below.mono (by assumption) (by first | omega | (· simp) | (· (simp; omega))))) | (with_reducible refine Below.trans ?_ (Kp.below (by assumption) (by first | omega | (· simp) | (· (simp; omega))) (by first | omega | (· simp) | (· (simp; omega)))))))⟩
set_option maxHeartbeats 1000000 in
theorem zx12 (a b : Int) (s : ByteArray) (w : World) (h : -9223372036854775808 ≤ b ∧ b ≤ 9223372036854775807) : Calls Try.prog 34 #[.agg #[.int .i64 a, .int .i64 b, .string s]] w fun e w' => e = .returned (.bool (valOk a b s)) ∧ Below w.heap.size w w' := by
  by_cases ha : a = 0
  · subst ha
    by_cases hb : b = 0
    · subst hb
      by_cases hs : s.toList = []
      · obtain rfl := zt10 hs
        rw [valOk0]
        clear hs
        go_enter Try.func34, Try.ntmps34
        go_wp2
        go_ret
        exact ⟨rfl, (by repeat (first | (with_reducible refine Below.setCell ?_ (by first | omega | (· simp) | (· (simp; omega))) _) | (with_reducible refine Below.alloc ?_ (by first | omega | (· simp) | (· (simp; omega))) _) | (with_reducible refine Below.drew ?_) | (with_reducible refine zx2 ?_ _) | (with_reducible exact Below.refl _ _) | (with_reducible assumption) | (with_reducible refine Below.trans ?_ (Below.mono (by assumption) (by first | omega | (· simp) | (· (simp; omega))))) | (with_reducible refine Below.trans ?_ (Kp.below (by assumption) (by first | omega | (· simp) | (· (simp; omega))) (by first | omega | (· simp) | (· (simp; omega)))))))⟩
      · have hs1 : s.toList.isEmpty = false := by simpa using hs
        have hs2 : (s.toList == []) = false := by simpa using hs
        have e : valOk 0 0 s = false := by simp [valOk, hs1]
        rw [e]
        clear e hs
        go_enter Try.func34, Try.ntmps34
        go_wp2
        go_ret
        exact ⟨rfl, (by repeat (first | (with_reducible refine Below.setCell ?_ (by first | omega | (· simp) | (· (simp; omega))) _) | (with_reducible refine Below.alloc ?_ (by first | omega | (· simp) | (· (simp; omega))) _) | (with_reducible refine Below.drew ?_) | (with_reducible refine zx2 ?_ _) | (with_reducible exact Below.refl _ _) | (with_reducible assumption) | (with_reducible refine Below.trans ?_ (Below.mono (by assumption) (by first | omega | (· simp) | (· (simp; omega))))) | (with_reducible refine Below.trans ?_ (Kp.below (by assumption) (by first | omega | (· simp) | (· (simp; omega))) (by first | omega | (· simp) | (· (simp; omega)))))))⟩
    · have hb1 : (b == 0) = false := by simpa using hb
      have e : valOk 0 b s = false := by simp [valOk, hb]
      rw [e]
      clear e hb
      go_enter Try.func34, Try.ntmps34
      go_wp2
      go_ret
      exact ⟨rfl, (by repeat (first | (with_reducible refine Below.setCell ?_ (by first | omega | (· simp) | (· (simp; omega))) _) | (with_reducible refine Below.alloc ?_ (by first | omega | (· simp) | (· (simp; omega))) _) | (with_reducible refine Below.drew ?_) | (with_reducible refine zx2 ?_ _) | (with_reducible exact Below.refl _ _) | (with_reducible assumption) | (with_reducible refine Below.trans ?_ (Below.mono (by assumption) (by first | omega | (· simp) | (· (simp; omega))))) | (with_reducible refine Below.trans ?_ (Kp.below (by assumption) (by first | omega | (· simp) | (· (simp; omega))) (by first | omega | (· simp) | (· (simp; omega)))))))⟩
  · by_cases ha1 : a = 1
    · subst ha1
      by_cases hb : b = wrapI b
      · have hb1 : (b == wrapI b) = true := by simpa using hb
        have hb2 : (wrapI b == b) = true := by simpa using hb.symm
        have e : valOk 1 b s = s.toList.isEmpty := by simp [valOk, ← hb]
        rw [e]
        clear e hb
        go_enter Try.func34, Try.ntmps34
        go_wp2
        go_quiet ((go_at_call 56; exact Calls.quiet_of_same (zi9 _ _ h)))
        go_wp2
        go_ret
        exact ⟨rfl, (by repeat (first | (with_reducible refine Below.setCell ?_ (by first | omega | (· simp) | (· (simp; omega))) _) | (with_reducible refine Below.alloc ?_ (by first | omega | (· simp) | (· (simp; omega))) _) | (with_reducible refine Below.drew ?_) | (with_reducible refine zx2 ?_ _) | (with_reducible exact Below.refl _ _) | (with_reducible assumption) | (with_reducible refine Below.trans ?_ (Below.mono (by assumption) (by first | omega | (· simp) | (· (simp; omega))))) | (with_reducible refine Below.trans ?_ (Kp.below (by assumption) (by first | omega | (· simp) | (· (simp; omega))) (by first | omega | (· simp) | (· (simp; omega)))))))⟩
      · have hb1 : (b == wrapI b) = false := by simpa using hb
        have hb2 : (wrapI b == b) = false := by simpa using fun e => hb e.symm
        have e : valOk 1 b s = false := by simp [valOk, hb]
        rw [e]
        clear e hb
        go_enter Try.func34, Try.ntmps34
        go_wp2
        go_quiet ((go_at_call 56; exact Calls.quiet_of_same (zi9 _ _ h)))
        go_wp2
        go_ret
        exact ⟨rfl, (by repeat (first | (with_reducible refine Below.setCell ?_ (by first | omega | (· simp) | (· (simp; omega))) _) | (with_reducible refine Below.alloc ?_ (by first | omega | (· simp) | (· (simp; omega))) _) | (with_reducible refine Below.drew ?_) | (with_reducible refine zx2 ?_ _) | (with_reducible exact Below.refl _ _) | (with_reducible assumption) | (with_reducible refine Below.trans ?_ (Below.mono (by assumption) (by first | omega | (· simp) | (· (simp; omega))))) | (with_reducible refine Below.trans ?_ (Kp.below (by assumption) (by first | omega | (· simp) | (· (simp; omega))) (by first | omega | (· simp) | (· (simp; omega)))))))⟩
    · by_cases ha2 : a = 2
      · subst ha2
        by_cases hb : b = 0
        · subst hb
          by_cases hs : s.size ≤ 200
          · have hs1 : (s.size : Int) ≤ 200 := by omega
            have e : valOk 2 0 s = true := by simp [valOk, hs]
            rw [e]
            clear e hs
            go_enter Try.func34, Try.ntmps34
            go_wp2
            go_ret
            exact ⟨rfl, (by repeat (first | (with_reducible refine Below.setCell ?_ (by first | omega | (· simp) | (· (simp; omega))) _) | (with_reducible refine Below.alloc ?_ (by first | omega | (· simp) | (· (simp; omega))) _) | (with_reducible refine Below.drew ?_) | (with_reducible refine zx2 ?_ _) | (with_reducible exact Below.refl _ _) | (with_reducible assumption) | (with_reducible refine Below.trans ?_ (Below.mono (by assumption) (by first | omega | (· simp) | (· (simp; omega))))) | (with_reducible refine Below.trans ?_ (Kp.below (by assumption) (by first | omega | (· simp) | (· (simp; omega))) (by first | omega | (· simp) | (· (simp; omega)))))))⟩
          · have hs1 : ¬ (s.size : Int) ≤ 200 := by omega
            have e : valOk 2 0 s = false := by simp [valOk]; omega
            rw [e]
            clear e hs
            go_enter Try.func34, Try.ntmps34
            go_wp2
            go_ret
            exact ⟨rfl, (by repeat (first | (with_reducible refine Below.setCell ?_ (by first | omega | (· simp) | (· (simp; omega))) _) | (with_reducible refine Below.alloc ?_ (by first | omega | (· simp) | (· (simp; omega))) _) | (with_reducible refine Below.drew ?_) | (with_reducible refine zx2 ?_ _) | (with_reducible exact Below.refl _ _) | (with_reducible assumption) | (with_reducible refine Below.trans ?_ (Below.mono (by assumption) (by first | omega | (· simp) | (· (simp; omega))))) | (with_reducible refine Below.trans ?_ (Kp.below (by assumption) (by first | omega | (· simp) | (· (simp; omega))) (by first | omega | (· simp) | (· (simp; omega)))))))⟩
        · have hb1 : (b == 0) = false := by simpa using hb
          have e : valOk 2 b s = false := by simp [valOk, hb]
          rw [e]
          clear e hb
          go_enter Try.func34, Try.ntmps34
          go_wp2
          all_goals (go_ret; exact ⟨rfl, (by repeat (first | (with_reducible refine Below.setCell ?_ (by first | omega | (· simp) | (· (simp; omega))) _) | (with_reducible refine Below.alloc ?_ (by first | omega | (· simp) | (· (simp; omega))) _) | (with_reducible refine Below.drew ?_) | (with_reducible refine zx2 ?_ _) | (with_reducible exact Below.refl _ _) | (with_reducible assumption) | (with_reducible refine Below.trans ?_ (Below.mono (by assumption) (by first | omega | (· simp) | (· (simp; omega))))) | (with_reducible refine Below.trans ?_ (Kp.below (by assumption) (by first | omega | (· simp) | (· (simp; omega))) (by first | omega | (· simp) | (· (simp; omega)))))))⟩)
      · have h0 : (a == 0) = false := by simpa using ha
        have h1 : (a == 1) = false := by simpa using ha1
        have h2 : (a == 2) = false := by simpa using ha2
        have e : valOk a b s = false := by simp [valOk, ha, ha1, ha2]
        rw [e]
        clear e ha ha1 ha2
        go_enter Try.func34, Try.ntmps34
        go_wp2
        go_ret
        exact ⟨rfl, (by repeat (first | (with_reducible refine Below.setCell ?_ (by first | omega | (· simp) | (· (simp; omega))) _) | (with_reducible refine Below.alloc ?_ (by first | omega | (· simp) | (· (simp; omega))) _) | (with_reducible refine Below.drew ?_) | (with_reducible refine zx2 ?_ _) | (with_reducible exact Below.refl _ _) | (with_reducible assumption) | (with_reducible refine Below.trans ?_ (Below.mono (by assumption) (by first | omega | (· simp) | (· (simp; omega))))) | (with_reducible refine Below.trans ?_ (Kp.below (by assumption) (by first | omega | (· simp) | (· (simp; omega))) (by first | omega | (· simp) | (· (simp; omega)))))))⟩
theorem zy5 {e : E} (h : e.Ty Try.prog 78) : ∃ (x0 : Int) (x1 : Int) (x2 : ByteArray), e = (E.agg [.int .i64 x0, .int .i64 x1, .str x2]) ∧ ((Lit.int .i64 x0).wf = true) ∧ ((Lit.int .i64 x1).wf = true) ∧ (x2.size ≤ 9223372036854775807) ∧ True := by
  obtain ⟨fs, rfl, q0⟩ := h.agg_ Try.underlying78
  change E.TyF _ _ [3, 3, 9] at q0
  obtain ⟨e0, r0, rfl, h0, q1⟩ := q0.cons_
  obtain ⟨e1, r1, rfl, h1, q2⟩ := q1.cons_
  obtain ⟨e2, r2, rfl, h2, q3⟩ := q2.cons_
  obtain rfl := q3.nil_
  obtain ⟨x0, rfl, gx0⟩ := h0.int_ Try.underlying3
  obtain ⟨x1, rfl, gx1⟩ := h1.int_ Try.underlying3
  obtain ⟨x2, rfl, gx2⟩ := h2.str_ Try.underlying9
  exact ⟨x0, x1, x2, rfl, gx0, gx1, gx2, trivial⟩
theorem zy3 {e : E} (h : e.Ty Try.prog 58) : ∃ (x0 : Int) (x1 : Int) (x2 : ByteArray), e = (E.agg [.int .i64 x0, .int .i64 x1, .str x2]) ∧ ((Lit.int .i64 x0).wf = true) ∧ ((Lit.int .i64 x1).wf = true) ∧ (x2.size ≤ 9223372036854775807) ∧ True := by
  obtain ⟨fs, rfl, q0⟩ := h.agg_ Try.underlying58
  change E.TyF _ _ [3, 3, 9] at q0
  obtain ⟨e0, r0, rfl, h0, q1⟩ := q0.cons_
  obtain ⟨e1, r1, rfl, h1, q2⟩ := q1.cons_
  obtain ⟨e2, r2, rfl, h2, q3⟩ := q2.cons_
  obtain rfl := q3.nil_
  obtain ⟨x0, rfl, gx0⟩ := h0.int_ Try.underlying3
  obtain ⟨x1, rfl, gx1⟩ := h1.int_ Try.underlying3
  obtain ⟨x2, rfl, gx2⟩ := h2.str_ Try.underlying9
  exact ⟨x0, x1, x2, rfl, gx0, gx1, gx2, trivial⟩
set_option maxRecDepth 100000 in
set_option maxHeartbeats 1000000 in
theorem zv21 {e : E} (ht : e.Ty Try.prog 78) : Sz 54 e := by
  obtain ⟨x0, x1, x2, rfl, gx0, gx1, gx2, -⟩ := zy5 ht
  intro left w hr h0 h1
  have HSZ : Hid ((E.agg [.int .i64 x0, .int .i64 x1, .str x2]).sz = (0 + (0 + (x2.size + 0)))) := rfl
  change Calls _ _ #[.agg #[.int .i64 x0, .int .i64 x1, .string x2], .int .i64 left] w _
  go_enter Try.func54, Try.ntmps54
  by_cases hn1 : left - x2.size < 0
  · go_wp2
    go_ret
    exact ⟨-1, rfl, .inl (by omega), by omega, by exact (by repeat (first | (with_reducible refine Below.setCell ?_ (by first | omega | (· simp) | (· (simp; omega))) _) | (with_reducible refine Below.alloc ?_ (by first | omega | (· simp) | (· (simp; omega))) _) | (with_reducible refine Below.drew ?_) | (with_reducible refine zx2 ?_ _) | (with_reducible exact Below.refl _ _) | (with_reducible assumption) | (with_reducible refine Below.trans ?_ (Below.mono (by assumption) (by first | omega | (· simp) | (· (simp; omega))))) | (with_reducible refine Below.trans ?_ (Kp.below (by assumption) (by first | omega | (· simp) | (· (simp; omega))) (by first | omega | (· simp) | (· (simp; omega)))))))⟩
  go_wp2
  go_ret
  refine ⟨_, rfl, .inr ?_, by omega, by exact (by repeat (first | (with_reducible refine Below.setCell ?_ (by first | omega | (· simp) | (· (simp; omega))) _) | (with_reducible refine Below.alloc ?_ (by first | omega | (· simp) | (· (simp; omega))) _) | (with_reducible refine Below.drew ?_) | (with_reducible refine zx2 ?_ _) | (with_reducible exact Below.refl _ _) | (with_reducible assumption) | (with_reducible refine Below.trans ?_ (Below.mono (by assumption) (by first | omega | (· simp) | (· (simp; omega))))) | (with_reducible refine Below.trans ?_ (Kp.below (by assumption) (by first | omega | (· simp) | (· (simp; omega))) (by first | omega | (· simp) | (· (simp; omega)))))))⟩
  show _ = _
  rw [HSZ.out]
  push_cast
  omega
set_option maxRecDepth 100000 in
set_option maxHeartbeats 1000000 in
theorem szValS_all' (A : Option Addr) (c : Nat) (l : List E) (ht : ∀ y ∈ l, y.Ty Try.prog 78) : Sz 32 (.lst 3 78 A c l) := by
  intro left w hr h0 h1
  have hs := hr.sl
  have hlen := hs.len_le
  have HSZ : Hid ((E.lst 3 78 A c l).sz = l.length + E.szL l) := rfl
  change Calls _ _ #[.slice A l.length c, .int .i64 left] w _
  by_cases hneg : left - l.length < 0
  · go_enter Try.func32, Try.ntmps32
    go_wp2
    go_ret
    exact ⟨-1, rfl, .inl (by omega), by omega, by exact (by repeat (first | (with_reducible refine Below.setCell ?_ (by first | omega | (· simp) | (· (simp; omega))) _) | (with_reducible refine Below.alloc ?_ (by first | omega | (· simp) | (· (simp; omega))) _) | (with_reducible refine Below.drew ?_) | (with_reducible refine zx2 ?_ _) | (with_reducible exact Below.refl _ _) | (with_reducible assumption) | (with_reducible refine Below.trans ?_ (Below.mono (by assumption) (by first | omega | (· simp) | (· (simp; omega))))) | (with_reducible refine Below.trans ?_ (Kp.below (by assumption) (by first | omega | (· simp) | (· (simp; omega))) (by first | omega | (· simp) | (· (simp; omega)))))))⟩
  go_enter Try.func32, Try.ntmps32
  go_wp2
  go_loopw [1, 5] (fun v i wr => ∃ (k : Nat) (cur : Int), k ≤ l.length ∧ i = .int .i64 k ∧ v = .int .i64 cur ∧ 0 ≤ cur ∧ cur ≤ left ∧ Hid (cur + E.szL (l.take k) + l.length = left) ∧ Below w.heap.size w wr) (fun _ i _ => l.length - (intOf i).toNat)
  case atStart => exact ⟨0, _, Nat.zero_le _, rfl, rfl, by omega, by omega, (by show _ = _; simp [E.szL]), Below.refl _ _⟩
  case round =>
    obtain ⟨k, cur, hk, rfl, rfl, hc0, hc1, HQ, hb⟩ := hrel
    have hzb := hb.size
    by_cases hlt : k < l.length
    · have hs' := hs.below hb (Nat.le_refl _)
      have HT := Lib.hid (E.szL_take l k hlt)
      obtain ⟨b, o, rfl, _, hc⟩ := hs'.at_ hlt
      have hin := (hr.el (List.getElem_mem hlt)).below hb (Nat.le_refl _)
      have H := zv21 (ht _ (List.getElem_mem hlt))
      obtain ⟨y0, y1, y2, ex, gy0, gy1, gy2, -⟩ := zy5 (ht _ (List.getElem_mem hlt))
      have HEX := Lib.hid ex
      rw [ex] at hc hin H
      clear ex
      have c0 := hc 0 _ rfl; have c1 := hc 1 _ rfl; have c2 := hc 2 _ rfl
      rw [Nat.add_zero] at c0
      clear hc
      go_wp2_with fail
      go_at_call 54
      refine (H _ _ hin hc0 (by omega)).mono ?_; rintro e w1 ⟨r, rfl, hrs, hrl, hb1⟩
      by_cases hn : r < 0
      · go_wp2
        go_ret
        exact ⟨-1, rfl, .inl (by omega), by omega, by exact (by repeat (first | (with_reducible refine Below.setCell ?_ (by first | omega | (· simp) | (· (simp; omega))) _) | (with_reducible refine Below.alloc ?_ (by first | omega | (· simp) | (· (simp; omega))) _) | (with_reducible refine Below.drew ?_) | (with_reducible refine zx2 ?_ _) | (with_reducible exact Below.refl _ _) | (with_reducible assumption) | (with_reducible refine Below.trans ?_ (Below.mono (by assumption) (by first | omega | (· simp) | (· (simp; omega))))) | (with_reducible refine Below.trans ?_ (Kp.below (by assumption) (by first | omega | (· simp) | (· (simp; omega))) (by first | omega | (· simp) | (· (simp; omega)))))))⟩
      · have HR := hrs.resolve_left hn
        clear hrs
        go_wp2
        go_roundw
        case rel => exact ⟨k + 1, r, by omega, by go_num, rfl, by omega, by omega, (by show _ = _; have e1 := HQ.out; have e2 := HT.out; have e3 := HR.out; rw [HEX.out] at e2; omega), by exact (by repeat (first | (with_reducible refine Below.setCell ?_ (by first | omega | (· simp) | (· (simp; omega))) _) | (with_reducible refine Below.alloc ?_ (by first | omega | (· simp) | (· (simp; omega))) _) | (with_reducible refine Below.drew ?_) | (with_reducible refine zx2 ?_ _) | (with_reducible exact Below.refl _ _) | (with_reducible assumption) | (with_reducible refine Below.trans ?_ (Below.mono (by assumption) (by first | omega | (· simp) | (· (simp; omega))))) | (with_reducible refine Below.trans ?_ (Kp.below (by assumption) (by first | omega | (· simp) | (· (simp; omega))) (by first | omega | (· simp) | (· (simp; omega)))))))⟩
        case measure => simp [intOf]; omega
    · have hk' : k = l.length := by omega
      subst hk'
      go_wp2
      go_ret
      refine ⟨_, rfl, .inr ?_, by omega, hb⟩
      show _ = _
      have e1 := HQ.out
      rw [List.take_length] at e1
      rw [HSZ.out]
      push_cast
      omega
theorem zb18 {e : E} (ht : e.Ty Try.prog 33) : Sz 32 e := by
  obtain ⟨A, c, l, rfl, h1, _⟩ := ht.lst_ Try.underlying33 (k := 3) (by kernel_rfl)
  exact szValS_all' A c l h1
set_option maxRecDepth 100000 in
set_option maxHeartbeats 1000000 in
theorem zw21 {e : E} (ht : e.Ty Try.prog 78) : To 59 58 e := by
  have HT0 := Lib.hid ht
  obtain ⟨x0, x1, x2, rfl, gx0, gx1, gx2, -⟩ := zy5 ht
  intro w hr hsz
  have hsz' : (0 + (0 + (x2.size + 0))) ≤ 1048576 := hsz
  clear hsz hsz'
  change Calls _ _ #[.agg #[.int .i64 x0, .int .i64 x1, .string x2]] w _
  go_enter Try.func59, Try.ntmps59
  go_wp2
  refine bodyPost_ret (v := .agg #[.int .i64 x0, .int .i64 x1, .string x2]) (by simp [results, Try.results59, go_sem]) rfl ⟨(E.agg [.int .i64 x0, .int .i64 x1, .str x2]), rfl, rfl, E.Ty.mk_agg Try.underlying58 (E.TyF.mk_cons (show E.Ty _ _ _ from ⟨Try.underlying3, gx0⟩) (E.TyF.mk_cons (show E.Ty _ _ _ from ⟨Try.underlying3, gx1⟩) (E.TyF.mk_cons (show E.Ty _ _ _ from ⟨Try.underlying9, by unfold maxLen; exact gx2⟩) (E.TyF.mk_nil)))), ?_, ?_, by exact (by repeat (first | (with_reducible refine Below.setCell ?_ (by first | omega | (· simp) | (· (simp; omega))) _) | (with_reducible refine Below.alloc ?_ (by first | omega | (· simp) | (· (simp; omega))) _) | (with_reducible refine Below.drew ?_) | (with_reducible refine zx2 ?_ _) | (with_reducible exact Below.refl _ _) | (with_reducible assumption) | (with_reducible refine Below.trans ?_ (Below.mono (by assumption) (by first | omega | (· simp) | (· (simp; omega))))) | (with_reducible refine Below.trans ?_ (Kp.below (by assumption) (by first | omega | (· simp) | (· (simp; omega))) (by first | omega | (· simp) | (· (simp; omega)))))))⟩
  · simp [E.Ho, E.HoL]
  · simp [E.fp, E.fpL]
theorem einfoVal : (Try.prog.info? 58).map (fun i => (i.zero, i.size, i.bytes)) = some (some (.agg #[.int .i64 0, .int .i64 0, .string ByteArray.empty]), 3, 32) := by kernel_rfl
set_option maxRecDepth 100000 in
set_option maxHeartbeats 1000000 in
theorem toValS_all' (A : Option Addr) (c : Nat) (l : List E) (h1 : ∀ y ∈ l, y.Ty Try.prog 78) : To 37 39 (.lst 3 78 A c l) := by
  intro w hr hsz
  have hs := hr.sl
  have eS : (E.lst 3 78 A c l).sz = l.length + E.szL l := rfl
  have hn : l.length ≤ 1048576 := by omega
  have HS := Lib.hid (show l.length + E.szL l ≤ 1048576 by omega)
  clear eS hsz
  have hmk := zi22 Try.underlying39 einfoVal l.length (by omega) (by omega)
  have hF := Fill.new w 58 #[.int .i64 0, .int .i64 0, .string ByteArray.empty] (l.length * 3) ([] : List Value)
  change Calls _ _ #[.slice A l.length c] w _
  go_enter Try.func37, Try.ntmps37
  go_wp2
  go_loopw [4] (fun i wr => ∃ (k : Nat) (us : List E), k ≤ l.length ∧ i = .int .i64 k ∧ Hid (us.length = k) ∧ Hid (us.map E.d = (l.take k).map E.d) ∧ Hid (∀ u ∈ us, u.Ty Try.prog 58 ∧ u.enc.length = 3) ∧ Fill wr w.heap.size 58 (l.length * 3) (k * 3) (E.encL us) ∧ w.heap.size + 1 ≤ wr.heap.size ∧ Hid (∀ u ∈ us, u.Ho wr (w.heap.size + 1) wr.heap.size) ∧ Hid ((E.fpL us).Nodup) ∧ Below w.heap.size w wr) (fun i _ => l.length - (intOf i).toNat)
  case atStart => exact ⟨0, [], Nat.zero_le _, rfl, rfl, rfl, (fun u hu => absurd hu List.not_mem_nil), by exact hF, by simp, (fun u hu => absurd hu List.not_mem_nil), (by show List.Nodup _; simp [E.fpL]), by exact (by repeat (first | (with_reducible refine Below.setCell ?_ (by first | omega | (· simp) | (· (simp; omega))) _) | (with_reducible refine Below.alloc ?_ (by first | omega | (· simp) | (· (simp; omega))) _) | (with_reducible refine Below.drew ?_) | (with_reducible refine zx2 ?_ _) | (with_reducible exact Below.refl _ _) | (with_reducible assumption) | (with_reducible refine Below.trans ?_ (Below.mono (by assumption) (by first | omega | (· simp) | (· (simp; omega))))) | (with_reducible refine Below.trans ?_ (Kp.below (by assumption) (by first | omega | (· simp) | (· (simp; omega))) (by first | omega | (· simp) | (· (simp; omega)))))))⟩
  case round =>
    obtain ⟨k, us, hk, rfl, HL, HD, HT, hf, hge, HO, HN, hb⟩ := hrel
    by_cases hlt : k < l.length
    · have hs' := hs.below hb (Nat.le_refl _)
      have hzb := hb.size
      have hmem := List.getElem_mem hlt
      have hin := (hr.el hmem).below hb (Nat.le_refl _)
      have H := zw21 (h1 _ hmem)
      have hsk : l[k].sz ≤ 1048576 := by have := E.szL_mem hmem; have := HS.out; omega
      obtain ⟨b, o, rfl, _, hc⟩ := hs'.at_ hlt
      obtain ⟨y0, y1, y2, ex, gy0, gy1, gy2, -⟩ := zy5 (h1 _ hmem)
      have HEX := Lib.hid ex
      rw [ex] at hc hin H hsk
      clear ex
      have c0 := hc 0 _ rfl; have c1 := hc 1 _ rfl; have c2 := hc 2 _ rfl
      rw [Nat.add_zero] at c0
      clear hc
      have HF := Lib.hid hf
      clear hf
      go_wp2_with fail
      go_at_call 59
      refine (H _ hin hsk).mono ?_; rintro e w1 ⟨x, he, HDX, htx, hox, hnx, hb1⟩
      have HTX := Lib.hid htx
      obtain ⟨z0, z1, z2, rfl, gz0, gz1, gz2, -⟩ := zy3 htx
      obtain rfl : e = .returned (.agg #[.int .i64 z0, .int .i64 z1, .string z2]) := he
      have hf1 := HF.out.below hb1 HF.out.lt
      obtain ⟨u0, c0'⟩ := hf1.cell (j := k * 3) (by omega); obtain ⟨u1, c1'⟩ := hf1.cell (j := k * 3 + 1) (by omega); obtain ⟨u2, c2'⟩ := hf1.cell (j := k * 3 + 2) (by omega)
      have zfr := hf1.frozen
      have hz1 := hb1.size
      have HOX := Lib.hid hox
      have HNX := Lib.hid hnx
      have HF1 := Lib.hid hf1
      clear hox hnx hf1 htx
      go_wp2
      go_roundw
      case rel =>
        have hl := HL.out
        have hf1 := HF1.out
        have hT : ∀ u ∈ us ++ [(E.agg [.int .i64 z0, .int .i64 z1, .str z2])], u.Ty Try.prog 58 ∧ u.enc.length = 3 := fun u hu => by
          rcases List.mem_append.1 hu with hu | hu
          · exact HT.out u hu
          · obtain rfl := List.mem_singleton.1 hu
            exact ⟨HTX.out, rfl⟩
        have hlen := E.encL_len fun u hu => (HT.out u hu).2
        have hk2 : k < (us ++ [(E.agg [.int .i64 z0, .int .i64 z1, .str z2])]).length := by simp; omega
        have ev := fun j hj => E.encL_at (fun u hu => (hT u hu).2) k hk2 j hj
        have eT : (us ++ [(E.agg [.int .i64 z0, .int .i64 z1, .str z2])])[k] = (E.agg [.int .i64 z0, .int .i64 z1, .str z2]) := by rw [List.getElem_append_right (by omega)]; simp [hl]
        simp only [eT] at ev
        have hf2 : Fill w1 w.heap.size 58 (l.length * 3) (k * 3) (E.encL (us ++ [(E.agg [.int .i64 z0, .int .i64 z1, .str z2])])) := hf1.swap' fun j hj => E.encL_app_lt us _ j (by rw [hlen, hl]; exact hj)
        have K := fun (W : World) (h : Kp w.heap.size (w.heap.size + 1) w1 W) (u : E) (hu : u ∈ us) => ((HO.out u hu).below hb1 (Nat.le_refl _)).kp h (.inr (by omega))
        refine ⟨k + 1, us ++ [(E.agg [.int .i64 z0, .int .i64 z1, .str z2])], by omega, by go_num, by show _ = _; simp [hl], zl18 hlt HD.out (HDX.out.trans (by rw [← HEX.out])), hT, by rw [Nat.add_mul]; exact (((hf2.set (by omega) (ev 0 (by omega))).set (by omega) (ev 1 (by omega))).set (by omega) (ev 2 (by omega))), by simp; omega, ?_, ?_, by exact (by repeat (first | (with_reducible refine Below.setCell ?_ (by first | omega | (· simp) | (· (simp; omega))) _) | (with_reducible refine Below.alloc ?_ (by first | omega | (· simp) | (· (simp; omega))) _) | (with_reducible refine Below.drew ?_) | (with_reducible refine zx2 ?_ _) | (with_reducible exact Below.refl _ _) | (with_reducible assumption) | (with_reducible refine Below.trans ?_ (Below.mono (by assumption) (by first | omega | (· simp) | (· (simp; omega))))) | (with_reducible refine Below.trans ?_ (Kp.below (by assumption) (by first | omega | (· simp) | (· (simp; omega))) (by first | omega | (· simp) | (· (simp; omega)))))))⟩
        · intro u hu
          rcases List.mem_append.1 hu with hu | hu
          · exact (K _ (by repeat (first | (with_reducible exact Kp.refl _ _ _) | (refine Kp.set ?_ (by first | omega | (dsimp only; omega) | (simp; omega)) (by first | omega | (dsimp only; omega) | (simp; omega)) _))) u hu).wider (Nat.le_refl _) (by simp; omega)
          · obtain rfl := List.mem_singleton.1 hu
            exact (HOX.out.kp (lo' := w.heap.size) (hi' := w.heap.size + 1) (by repeat (first | (with_reducible exact Kp.refl _ _ _) | (refine Kp.set ?_ (by first | omega | (dsimp only; omega) | (simp; omega)) (by first | omega | (dsimp only; omega) | (simp; omega)) _))) (.inr (by omega))).wider (by omega) (by simp)
        · refine zb8 HN.out HNX.out fun g hg hg2 => ?_
          obtain ⟨u, hu, hg⟩ := E.mem_fpL.1 hg
          have := (HO.out u hu).lt g hg
          have := HOX.out.lt g hg2
          omega
      case measure => simp [intOf]; omega
    · have hk' : k = l.length := by omega
      subst hk'
      go_wp2
      go_ret
      have hl := HL.out
      have hTy := HT.out
      have own : wr.ownsRow w.heap.size 58 3 (.slice (some ⟨w.heap.size, 0, none⟩) l.length l.length) l.length (E.encL us) := hf.owns (Nat.le_refl _) rfl (by rw [E.encL_len fun u hu => (hTy u hu).2, hl]) (by unfold maxLen; omega)
      rw [← hl] at own
      refine ⟨.lst 3 58 (some ⟨w.heap.size, 0, none⟩) us.length us, by rw [← hl]; rfl, ?_, E.Ty.mk_lst Try.underlying39 (by kernel_rfl) (fun u hu => (hTy u hu).1) (fun u hu => (hTy u hu).2), E.Ho.mk (Ow.of_owns own (Nat.le_refl _)) (fun u hu => (hTy u hu).2) (fun u hu => (HO.out u hu).wider (by omega) (Nat.le_refl _)), ?_, hb⟩
      · show E.d _ = E.d _
        rw [zz12]
        have h := HD.out
        rwa [List.take_length] at h
      · simp only [E.fp, List.singleton_append, List.nodup_cons]
        refine ⟨fun hm => ?_, HN.out⟩
        obtain ⟨u, hu, hg⟩ := E.mem_fpL.1 hm
        have := (HO.out u hu).lt _ hg
        omega
theorem zc18 {e : E} (ht : e.Ty Try.prog 33) : To 37 39 e := by
  obtain ⟨A, c, l, rfl, h1, _⟩ := ht.lst_ Try.underlying33 (k := 3) (by kernel_rfl)
  exact toValS_all' A c l h1
set_option maxRecDepth 100000 in
set_option maxHeartbeats 1000000 in
theorem zx21 {e e' : E} (ht : e.Ty Try.prog 58) (ht' : e'.Ty Try.prog 58) : Eq 67 e e' := by
  obtain ⟨x0, x1, x2, rfl, gx0, gx1, gx2, -⟩ := zy3 ht
  obtain ⟨y0, y1, y2, rfl, gy0, gy1, gy2, -⟩ := zy3 ht'
  intro hd w hr hr'
  simp only [E.d, E.dL, E.agg.injEq, List.cons.injEq, E.int.injEq, E.str.injEq, E.bool.injEq, E.lst.injEq, true_and, and_true] at hd
  obtain ⟨rfl, rfl, rfl⟩ := hd
  change Calls _ _ #[.agg #[.int .i64 x0, .int .i64 x1, .string x2], .agg #[.int .i64 x0, .int .i64 x1, .string x2]] w _
  go_enter Try.func67, Try.ntmps67
  go_wp2
  go_ret
  exact ⟨rfl, (by repeat (first | (with_reducible refine Below.setCell ?_ (by first | omega | (· simp) | (· (simp; omega))) _) | (with_reducible refine Below.alloc ?_ (by first | omega | (· simp) | (· (simp; omega))) _) | (with_reducible refine Below.drew ?_) | (with_reducible refine zx2 ?_ _) | (with_reducible exact Below.refl _ _) | (with_reducible assumption) | (with_reducible refine Below.trans ?_ (Below.mono (by assumption) (by first | omega | (· simp) | (· (simp; omega))))) | (with_reducible refine Below.trans ?_ (Kp.below (by assumption) (by first | omega | (· simp) | (· (simp; omega))) (by first | omega | (· simp) | (· (simp; omega)))))))⟩
set_option maxRecDepth 100000 in
set_option maxHeartbeats 1000000 in
theorem eqValS_all' (A B : Option Addr) (c c' : Nat) (l m : List E) (h1 : ∀ y ∈ l, y.Ty Try.prog 58) (h2 : ∀ y ∈ m, y.Ty Try.prog 58) : Eq 48 (.lst 3 58 A c l) (.lst 3 58 B c' m) := by
  intro hd w hr hr'
  rw [zz12] at hd
  have hs := hr.sl
  have hs' := hr'.sl
  have hml := zk22 hd
  have HD := Lib.hid hd
  clear hd
  have hlen := hs.len_le
  change Calls _ _ #[.slice A l.length c, .slice B m.length c'] w _
  obtain ⟨N, HN⟩ : ∃ N, Hid (m.length = N) := ⟨_, rfl⟩
  have hN : N = l.length := by have := HN.out; omega
  subst hN
  rw [HN.out]
  clear hml
  go_enter Try.func48, Try.ntmps48
  go_wp2
  go_loopw [5] (fun i wr => ∃ (k : Nat), k ≤ l.length ∧ i = .int .i64 k ∧ Below w.heap.size w wr) (fun i _ => l.length - (intOf i).toNat)
  case atStart => exact ⟨0, Nat.zero_le _, rfl, Below.refl _ _⟩
  case round =>
    obtain ⟨k, hk, rfl, hb⟩ := hrel
    by_cases hlt : k < l.length
    · have hltm : k < m.length := by have := HN.out; omega
      have hsb := hs.below hb (Nat.le_refl _)
      have hsb' := hs'.below hb (Nat.le_refl _)
      have hdk := d_at HD.out hlt hltm
      obtain ⟨b, o, rfl, _, hc⟩ := hsb.at_ hlt
      obtain ⟨b', o', rfl, _, hd⟩ := hsb'.at_ hltm
      have hin := (hr.el (List.getElem_mem hlt)).below hb (Nat.le_refl _)
      have hin' := (hr'.el (List.getElem_mem hltm)).below hb (Nat.le_refl _)
      have H := zx21 (h1 _ (List.getElem_mem hlt)) (h2 _ (List.getElem_mem hltm)) hdk
      obtain ⟨x0, x1, x2, ex, gx0, gx1, gx2, -⟩ := zy3 (h1 _ (List.getElem_mem hlt))
      obtain ⟨y0, y1, y2, ey, gy0, gy1, gy2, -⟩ := zy3 (h2 _ (List.getElem_mem hltm))
      rw [ex] at hc hin
      rw [ey] at hd hin'
      rw [ex, ey] at H
      clear ex ey hdk
      have c0 := hc 0 _ rfl; have c1 := hc 1 _ rfl; have c2 := hc 2 _ rfl
      have d0 := hd 0 _ rfl; have d1 := hd 1 _ rfl; have d2 := hd 2 _ rfl
      rw [Nat.add_zero] at c0 d0
      clear hc hd
      have hzb := hb.size
      have HH := Lib.hid H
      clear H
      go_wp2
      go_region_held3 (fun w' => w'.cell? ⟨b, o + k * 3, none⟩ = some (.int .i64 x0) ∧ w'.cell? ⟨b, o + k * 3 + 1, none⟩ = some (.int .i64 x1) ∧ w'.cell? ⟨b, o + k * 3 + 2, none⟩ = some (.string x2) ∧ w'.cell? ⟨b', o' + k * 3, none⟩ = some (.int .i64 y0) ∧ w'.cell? ⟨b', o' + k * 3 + 1, none⟩ = some (.int .i64 y1) ∧ w'.cell? ⟨b', o' + k * 3 + 2, none⟩ = some (.string y2))
        (first | exact ⟨c0, c1, c2, d0, d1, d2⟩ | skip)
        ((go_at_call 67; refine (HH.out _ (by repeat (first | (with_reducible assumption) | (with_reducible refine E.In.drew ?_) | (with_reducible refine E.In.drewN ?_ _) | (with_reducible refine E.In.alloc ?_ _) | (refine E.In.below ?_ (by with_reducible assumption) ?_) | omega | (· simp) | (· (simp; omega)))) (by repeat (first | (with_reducible assumption) | (with_reducible refine E.In.drew ?_) | (with_reducible refine E.In.drewN ?_ _) | (with_reducible refine E.In.alloc ?_ _) | (refine E.In.below ?_ (by with_reducible assumption) ?_) | omega | (· simp) | (· (simp; omega))))).mono ?_; rintro e w1 ⟨rfl, hb1⟩; have c0 := zf2 hb1 c0 (by first | omega | (· simp) | (· (simp; omega))); have c1 := zf2 hb1 c1 (by first | omega | (· simp) | (· (simp; omega))); have c2 := zf2 hb1 c2 (by first | omega | (· simp) | (· (simp; omega))); have d0 := zf2 hb1 d0 (by first | omega | (· simp) | (· (simp; omega))); have d1 := zf2 hb1 d1 (by first | omega | (· simp) | (· (simp; omega))); have d2 := zf2 hb1 d2 (by first | omega | (· simp) | (· (simp; omega)))))
      go_wp2
      go_roundw
      case rel => exact ⟨k + 1, by omega, by go_num, by exact (by repeat (first | (with_reducible refine Below.setCell ?_ (by first | omega | (· simp) | (· (simp; omega))) _) | (with_reducible refine Below.alloc ?_ (by first | omega | (· simp) | (· (simp; omega))) _) | (with_reducible refine Below.drew ?_) | (with_reducible refine zx2 ?_ _) | (with_reducible exact Below.refl _ _) | (with_reducible assumption) | (with_reducible refine Below.trans ?_ (Below.mono (by assumption) (by first | omega | (· simp) | (· (simp; omega))))) | (with_reducible refine Below.trans ?_ (Kp.below (by assumption) (by first | omega | (· simp) | (· (simp; omega))) (by first | omega | (· simp) | (· (simp; omega)))))))⟩
      case measure => simp [intOf]; omega
    · go_wp2
      go_ret
      exact ⟨rfl, hb⟩
theorem zd18 {e e' : E} (ht : e.Ty Try.prog 39) (ht' : e'.Ty Try.prog 39) : Eq 48 e e' := by
  obtain ⟨A, c, l, rfl, h1, _⟩ := ht.lst_ Try.underlying39 (k := 3) (by kernel_rfl)
  obtain ⟨B, c', m, rfl, h2, _⟩ := ht'.lst_ Try.underlying39 (k := 3) (by kernel_rfl)
  exact eqValS_all' A B c c' l m h1 h2
set_option maxRecDepth 100000
def valE (e : E) : Bool := match e with | .agg [.int _ a, .int _ b, .str s] => valOk a b s | _ => false
theorem zy21 {a b : Int} {s : ByteArray} (w : World) (St : Nat → Prop) (φ : Nat → Lc) (K : Nat → Prop) (us' : List Value) (h : VRL w St φ K [.ag (acE (.agg [.int .i64 a, .int .i64 b, .str s]))] us') : us' = [.agg #[.int .i64 a, .int .i64 b, .string s]] := by
  simp only [acE, acL, List.append_nil, List.cons_append, List.nil_append, VRL, VR, CRL, CR] at h
  obtain ⟨u, us1, rfl, ⟨vs, rfl, u1, r1, f1, f1', rfl, e1, ⟨rfl, -, rfl⟩, u2, r2, f2, f2', rfl, rfl, ⟨rfl, -, rfl⟩, u3, r3, f3, f3', rfl, rfl, ⟨rfl, -, rfl⟩, rfl, rfl⟩, rfl⟩ := h
  rfl
theorem zs15 {e : E} (he : e.Ty Try.prog 58) : Ctr Try.prog 41 [.ag (acE e)] [] (.c (.v (.bool (valE e)))) [] := by
  obtain ⟨a, b, s, rfl, ga, gb, gs, -⟩ := zy3 he
  exact zw8 (by kernel_rfl) rfl zy21 fun w => zw12 a b s w (zg11 gb)
theorem zt15 {e : E} (he : e.Ty Try.prog 58) : Ctr Try.prog 34 [.ag (acE e)] [] (.c (.v (.bool (valE e)))) [] := by
  obtain ⟨a, b, s, rfl, ga, gb, gs, -⟩ := zy3 he
  exact zw8 (by kernel_rfl) rfl zy21 fun w => zx12 a b s w (zg11 gb)
theorem zz21 {l : List E} (hl : ∀ e ∈ l, e.Ty Try.prog 58) (hk : ∀ e ∈ l, e.enc.length = 3) (hlen : l.length ≤ 1073741824) (p : E → Bool) (f : FuncId) (hc : ∀ x ∈ l, Ctr Try.prog f (.ag (acE x) :: []) [] (.c (.v (.bool (p x)))) []) : Ctr Try.prog 61 [.c (.ro l.length 3 (acL l)), .c (.fn f [])] [] (.c (.v (.int .i64 (idxF p l)))) [] := by
  refine zm2 Try.func61 rfl rfl ?_
  repeat (first | refine zn ?_ | refine ze ?_ | refine zh ?_ | refine zi ?_ | refine zu ?_ | refine zb fun C => ?_ | refine zp (by kernel_rfl) (by kernel_rfl) fun C => ?_ | refine zc ?_ | refine zr3 ?_ | refine x_bs ?_ | refine x_gr ?_ | refine x_st ?_ | refine x_mv ?_ | refine x_sk ?_ | refine ze4 ?_ | refine x_ix ?_ | refine zf4 ?_ | refine zg4 ?_ | refine zu3 ?_ | refine zv2 ?_ | refine x_ld ?_)
  refine zp3 (fun k : Nat => ⟨tmsF [(0, .c (.ro l.length 3 (acL l))), (1, .c (.fn f [])), (7, .c (.v (.int .i64 l.length))), (8, .c (.v (.int .i64 k)))], hpsF [], 0, [], 19⟩)
    (fun N k => k + N = l.length ∧ ∀ j y, j < k → l[j]? = some y → p y = false) l.length 0 ⟨by omega, by omega⟩ ?_ ?_
  · (refine zo2 _ _ rfl rfl ?_ ?_ <;> (repeat' (first | exact TmOk.nil | exact RwOk.nil | refine TmOk.cons ?_ ?_ | refine RwOk.cons ?_ ?_ | rfl | (refine rnV_id' rfl ?_; (first | rfl | (simp [cloV, cloL, clo, zj, zf, zk, zg, zd]; done))) | (refine zd3 ?_; first | rfl | omega | (rw [zb2 (by omega) (by omega)]; omega)) | (refine zi2 rfl ?_; (first | rfl | (simp [cloV, cloL, clo, zj, zf, zk, zg, zd]; done))) | exact zj4 rfl rfl | (refine ze3 (by rfl) (by rfl) ?_ ?_ <;> (first | rfl | (simp [cloV, cloL, clo, zj, zf, zk, zg, zd]; done))) | (refine rw_rn' rfl rfl ?_; simp; done))))
  rintro N k ⟨hN, hno⟩
  repeat (first | refine zn ?_ | refine ze ?_ | refine zh ?_ | refine zi ?_ | refine zu ?_ | refine zb fun C => ?_ | refine zp (by kernel_rfl) (by kernel_rfl) fun C => ?_ | refine zc ?_ | refine zr3 ?_ | refine x_bs ?_ | refine x_gr ?_ | refine x_st ?_ | refine x_mv ?_ | refine x_sk ?_ | refine ze4 ?_ | refine x_ix ?_ | refine zf4 ?_ | refine zg4 ?_ | refine zu3 ?_ | refine zv2 ?_ | refine x_ld ?_)
  refine zt3 (by rfl) (fun h1 => ?_) fun h1 => ?_
  · have hk' : k < l.length := by simpa using h1
    obtain ⟨x, hx⟩ : ∃ x, l[k]? = some x := ⟨_, List.getElem?_eq_getElem hk'⟩
    have hxt := hl x (List.mem_of_getElem? hx)
    have hcc := hc x (List.mem_of_getElem? hx)
    obtain ⟨y0, y1, y2, rfl, gy0, gy1, gy2, -⟩ := zy3 hxt
    repeat (first | refine zn ?_ | refine ze ?_ | refine zh ?_ | refine zi ?_ | refine zu ?_ | refine zb fun C => ?_ | refine zp (by kernel_rfl) (by kernel_rfl) fun C => ?_ | refine zc ?_ | refine zr3 ?_ | refine x_bs ?_ | refine x_gr ?_ | refine x_st ?_ | refine x_mv ?_ | refine x_sk ?_ | refine ze4 ?_ | refine x_ix ?_ | refine zf4 ?_ | refine zg4 ?_ | refine zu3 ?_ | refine zv2 ?_ | refine x_ld ?_)
    refine zu6 hcc ?_
    repeat (first | refine zn ?_ | refine ze ?_ | refine zh ?_ | refine zi ?_ | refine zu ?_ | refine zb fun C => ?_ | refine zp (by kernel_rfl) (by kernel_rfl) fun C => ?_ | refine zc ?_ | refine zr3 ?_ | refine x_bs ?_ | refine x_gr ?_ | refine x_st ?_ | refine x_mv ?_ | refine x_sk ?_ | refine ze4 ?_ | refine x_ix ?_ | refine zf4 ?_ | refine zg4 ?_ | refine zu3 ?_ | refine zv2 ?_ | refine x_ld ?_)
    refine zt3 (by rfl) (fun h2 => ?_) fun h2 => ?_
    · repeat (first | refine zn ?_ | refine ze ?_ | refine zh ?_ | refine zi ?_ | refine zu ?_ | refine zb fun C => ?_ | refine zp (by kernel_rfl) (by kernel_rfl) fun C => ?_ | refine zc ?_ | refine zr3 ?_ | refine x_bs ?_ | refine x_gr ?_ | refine x_st ?_ | refine x_mv ?_ | refine x_sk ?_ | refine ze4 ?_ | refine x_ix ?_ | refine zf4 ?_ | refine zg4 ?_ | refine zu3 ?_ | refine zv2 ?_ | refine x_ld ?_)
      refine ret0 (x := .c (.v (.int .i64 k))) rfl zn2 ⟨?_, rfl⟩
      rw [zb10 hno hx h2]
    · repeat (first | refine zn ?_ | refine ze ?_ | refine zh ?_ | refine zi ?_ | refine zu ?_ | refine zb fun C => ?_ | refine zp (by kernel_rfl) (by kernel_rfl) fun C => ?_ | refine zc ?_ | refine zr3 ?_ | refine x_bs ?_ | refine x_gr ?_ | refine x_st ?_ | refine x_mv ?_ | refine x_sk ?_ | refine ze4 ?_ | refine x_ix ?_ | refine zf4 ?_ | refine zg4 ?_ | refine zu3 ?_ | refine zv2 ?_ | refine x_ld ?_)
      refine ⟨N - 1, k + 1, by omega, ⟨by omega, fun j z hj hz => ?_⟩, ?_⟩
      · by_cases e : j = k
        · rw [e, hx] at hz; injection hz with hz; subst hz; exact h2
        · exact hno j z (by omega) hz
      · (refine zo2 _ _ rfl rfl ?_ ?_ <;> (repeat' (first | exact TmOk.nil | exact RwOk.nil | refine TmOk.cons ?_ ?_ | refine RwOk.cons ?_ ?_ | rfl | (refine rnV_id' rfl ?_; (first | rfl | (simp [cloV, cloL, clo, zj, zf, zk, zg, zd]; done))) | (refine zd3 ?_; first | rfl | omega | (rw [zb2 (by omega) (by omega)]; omega)) | (refine zi2 rfl ?_; (first | rfl | (simp [cloV, cloL, clo, zj, zf, zk, zg, zd]; done))) | exact zj4 rfl rfl | (refine ze3 (by rfl) (by rfl) ?_ ?_ <;> (first | rfl | (simp [cloV, cloL, clo, zj, zf, zk, zg, zd]; done))) | (refine rw_rn' rfl rfl ?_; simp; done))))
  · have hk' : ¬ k < l.length := by simpa using h1
    repeat (first | refine zn ?_ | refine ze ?_ | refine zh ?_ | refine zi ?_ | refine zu ?_ | refine zb fun C => ?_ | refine zp (by kernel_rfl) (by kernel_rfl) fun C => ?_ | refine zc ?_ | refine zr3 ?_ | refine x_bs ?_ | refine x_gr ?_ | refine x_st ?_ | refine x_mv ?_ | refine x_sk ?_ | refine ze4 ?_ | refine x_ix ?_ | refine zf4 ?_ | refine zg4 ?_ | refine zu3 ?_ | refine zv2 ?_ | refine x_ld ?_)
    refine ret0 (x := .c (.v (.int .i64 (-1)))) rfl zn2 ⟨?_, rfl⟩
    rw [zp6 fun j y hj hy => hno j y (by omega) hy]
theorem za22 {l : List E} (hl : ∀ e ∈ l, e.Ty Try.prog 58) (hk : ∀ e ∈ l, e.enc.length = 3) (hlen : l.length ≤ 1073741824) (p : E → Bool) (f : FuncId) (hc : ∀ x ∈ l, Ctr Try.prog f (.ag (acE x) :: []) [] (.c (.v (.bool (p x)))) []) : Ctr Try.prog 39 [.c (.ro l.length 3 (acL l)), .c (.fn f [])] [] (.c (.v (.bool (l.any p)))) [] := by
  refine zm2 Try.func39 rfl rfl ?_
  have hcc := zz21 hl hk hlen p f hc
  repeat (first | refine zn ?_ | refine ze ?_ | refine zh ?_ | refine zi ?_ | refine zu ?_ | refine zb fun C => ?_ | refine zp (by kernel_rfl) (by kernel_rfl) fun C => ?_ | refine zc ?_ | refine zr3 ?_ | refine x_bs ?_ | refine x_gr ?_ | refine x_st ?_ | refine x_mv ?_ | refine x_sk ?_ | refine ze4 ?_ | refine x_ix ?_ | refine zf4 ?_ | refine zg4 ?_ | refine zu3 ?_ | refine zv2 ?_ | refine x_ld ?_)
  refine zu6 hcc ?_
  repeat (first | refine zn ?_ | refine ze ?_ | refine zh ?_ | refine zi ?_ | refine zu ?_ | refine zb fun C => ?_ | refine zp (by kernel_rfl) (by kernel_rfl) fun C => ?_ | refine zc ?_ | refine zr3 ?_ | refine x_bs ?_ | refine x_gr ?_ | refine x_st ?_ | refine x_mv ?_ | refine x_sk ?_ | refine ze4 ?_ | refine x_ix ?_ | refine zf4 ?_ | refine zg4 ?_ | refine zu3 ?_ | refine zv2 ?_ | refine x_ld ?_)
  refine ret0 (x := .c (.v (.bool (decide (idxF p l ≥ 0))))) rfl zn2 ⟨?_, rfl⟩
  rw [zu7]
theorem zb22 {l : List E} (hl : ∀ e ∈ l, e.Ty Try.prog 70) (hk : ∀ e ∈ l, e.enc.length = 2) (hlen : l.length ≤ 1073741824) (p : E → Bool) (f : FuncId) (hc : ∀ x ∈ l, Ctr Try.prog f (.ag (acE x) :: []) [] (.c (.v (.bool (p x)))) []) : Ctr Try.prog 65 [.c (.ro l.length 2 (acL l)), .c (.fn f [])] [] (.c (.v (.int .i64 (idxF p l)))) [] := by
  refine zm2 Try.func65 rfl rfl ?_
  repeat (first | refine zn ?_ | refine ze ?_ | refine zh ?_ | refine zi ?_ | refine zu ?_ | refine zb fun C => ?_ | refine zp (by kernel_rfl) (by kernel_rfl) fun C => ?_ | refine zc ?_ | refine zr3 ?_ | refine x_bs ?_ | refine x_gr ?_ | refine x_st ?_ | refine x_mv ?_ | refine x_sk ?_ | refine ze4 ?_ | refine x_ix ?_ | refine zf4 ?_ | refine zg4 ?_ | refine zu3 ?_ | refine zv2 ?_ | refine x_ld ?_)
  refine zp3 (fun k : Nat => ⟨tmsF [(0, .c (.ro l.length 2 (acL l))), (1, .c (.fn f [])), (7, .c (.v (.int .i64 l.length))), (8, .c (.v (.int .i64 k)))], hpsF [], 0, [], 19⟩)
    (fun N k => k + N = l.length ∧ ∀ j y, j < k → l[j]? = some y → p y = false) l.length 0 ⟨by omega, by omega⟩ ?_ ?_
  · (refine zo2 _ _ rfl rfl ?_ ?_ <;> (repeat' (first | exact TmOk.nil | exact RwOk.nil | refine TmOk.cons ?_ ?_ | refine RwOk.cons ?_ ?_ | rfl | (refine rnV_id' rfl ?_; (first | rfl | (simp [cloV, cloL, clo, zj, zf, zk, zg, zd]; done))) | (refine zd3 ?_; first | rfl | omega | (rw [zb2 (by omega) (by omega)]; omega)) | (refine zi2 rfl ?_; (first | rfl | (simp [cloV, cloL, clo, zj, zf, zk, zg, zd]; done))) | exact zj4 rfl rfl | (refine ze3 (by rfl) (by rfl) ?_ ?_ <;> (first | rfl | (simp [cloV, cloL, clo, zj, zf, zk, zg, zd]; done))) | (refine rw_rn' rfl rfl ?_; simp; done))))
  rintro N k ⟨hN, hno⟩
  repeat (first | refine zn ?_ | refine ze ?_ | refine zh ?_ | refine zi ?_ | refine zu ?_ | refine zb fun C => ?_ | refine zp (by kernel_rfl) (by kernel_rfl) fun C => ?_ | refine zc ?_ | refine zr3 ?_ | refine x_bs ?_ | refine x_gr ?_ | refine x_st ?_ | refine x_mv ?_ | refine x_sk ?_ | refine ze4 ?_ | refine x_ix ?_ | refine zf4 ?_ | refine zg4 ?_ | refine zu3 ?_ | refine zv2 ?_ | refine x_ld ?_)
  refine zt3 (by rfl) (fun h1 => ?_) fun h1 => ?_
  · have hk' : k < l.length := by simpa using h1
    obtain ⟨x, hx⟩ : ∃ x, l[k]? = some x := ⟨_, List.getElem?_eq_getElem hk'⟩
    have hxt := hl x (List.mem_of_getElem? hx)
    have hcc := hc x (List.mem_of_getElem? hx)
    obtain ⟨y0, y1, rfl, gy0, gy1, -⟩ := zs4 hxt
    repeat (first | refine zn ?_ | refine ze ?_ | refine zh ?_ | refine zi ?_ | refine zu ?_ | refine zb fun C => ?_ | refine zp (by kernel_rfl) (by kernel_rfl) fun C => ?_ | refine zc ?_ | refine zr3 ?_ | refine x_bs ?_ | refine x_gr ?_ | refine x_st ?_ | refine x_mv ?_ | refine x_sk ?_ | refine ze4 ?_ | refine x_ix ?_ | refine zf4 ?_ | refine zg4 ?_ | refine zu3 ?_ | refine zv2 ?_ | refine x_ld ?_)
    refine zu6 hcc ?_
    repeat (first | refine zn ?_ | refine ze ?_ | refine zh ?_ | refine zi ?_ | refine zu ?_ | refine zb fun C => ?_ | refine zp (by kernel_rfl) (by kernel_rfl) fun C => ?_ | refine zc ?_ | refine zr3 ?_ | refine x_bs ?_ | refine x_gr ?_ | refine x_st ?_ | refine x_mv ?_ | refine x_sk ?_ | refine ze4 ?_ | refine x_ix ?_ | refine zf4 ?_ | refine zg4 ?_ | refine zu3 ?_ | refine zv2 ?_ | refine x_ld ?_)
    refine zt3 (by rfl) (fun h2 => ?_) fun h2 => ?_
    · repeat (first | refine zn ?_ | refine ze ?_ | refine zh ?_ | refine zi ?_ | refine zu ?_ | refine zb fun C => ?_ | refine zp (by kernel_rfl) (by kernel_rfl) fun C => ?_ | refine zc ?_ | refine zr3 ?_ | refine x_bs ?_ | refine x_gr ?_ | refine x_st ?_ | refine x_mv ?_ | refine x_sk ?_ | refine ze4 ?_ | refine x_ix ?_ | refine zf4 ?_ | refine zg4 ?_ | refine zu3 ?_ | refine zv2 ?_ | refine x_ld ?_)
      refine ret0 (x := .c (.v (.int .i64 k))) rfl zn2 ⟨?_, rfl⟩
      rw [zb10 hno hx h2]
    · repeat (first | refine zn ?_ | refine ze ?_ | refine zh ?_ | refine zi ?_ | refine zu ?_ | refine zb fun C => ?_ | refine zp (by kernel_rfl) (by kernel_rfl) fun C => ?_ | refine zc ?_ | refine zr3 ?_ | refine x_bs ?_ | refine x_gr ?_ | refine x_st ?_ | refine x_mv ?_ | refine x_sk ?_ | refine ze4 ?_ | refine x_ix ?_ | refine zf4 ?_ | refine zg4 ?_ | refine zu3 ?_ | refine zv2 ?_ | refine x_ld ?_)
      refine ⟨N - 1, k + 1, by omega, ⟨by omega, fun j z hj hz => ?_⟩, ?_⟩
      · by_cases e : j = k
        · rw [e, hx] at hz; injection hz with hz; subst hz; exact h2
        · exact hno j z (by omega) hz
      · (refine zo2 _ _ rfl rfl ?_ ?_ <;> (repeat' (first | exact TmOk.nil | exact RwOk.nil | refine TmOk.cons ?_ ?_ | refine RwOk.cons ?_ ?_ | rfl | (refine rnV_id' rfl ?_; (first | rfl | (simp [cloV, cloL, clo, zj, zf, zk, zg, zd]; done))) | (refine zd3 ?_; first | rfl | omega | (rw [zb2 (by omega) (by omega)]; omega)) | (refine zi2 rfl ?_; (first | rfl | (simp [cloV, cloL, clo, zj, zf, zk, zg, zd]; done))) | exact zj4 rfl rfl | (refine ze3 (by rfl) (by rfl) ?_ ?_ <;> (first | rfl | (simp [cloV, cloL, clo, zj, zf, zk, zg, zd]; done))) | (refine rw_rn' rfl rfl ?_; simp; done))))
  · have hk' : ¬ k < l.length := by simpa using h1
    repeat (first | refine zn ?_ | refine ze ?_ | refine zh ?_ | refine zi ?_ | refine zu ?_ | refine zb fun C => ?_ | refine zp (by kernel_rfl) (by kernel_rfl) fun C => ?_ | refine zc ?_ | refine zr3 ?_ | refine x_bs ?_ | refine x_gr ?_ | refine x_st ?_ | refine x_mv ?_ | refine x_sk ?_ | refine ze4 ?_ | refine x_ix ?_ | refine zf4 ?_ | refine zg4 ?_ | refine zu3 ?_ | refine zv2 ?_ | refine x_ld ?_)
    refine ret0 (x := .c (.v (.int .i64 (-1)))) rfl zn2 ⟨?_, rfl⟩
    rw [zp6 fun j y hj hy => hno j y (by omega) hy]
theorem zc22 {l : List E} (hl : ∀ e ∈ l, e.Ty Try.prog 70) (hk : ∀ e ∈ l, e.enc.length = 2) (hlen : l.length ≤ 1073741824) (p : E → Bool) (f : FuncId) (hc : ∀ x ∈ l, Ctr Try.prog f (.ag (acE x) :: []) [] (.c (.v (.bool (p x)))) []) : Ctr Try.prog 45 [.c (.ro l.length 2 (acL l)), .c (.fn f [])] [] (.c (.v (.bool (l.any p)))) [] := by
  refine zm2 Try.func45 rfl rfl ?_
  have hcc := zb22 hl hk hlen p f hc
  repeat (first | refine zn ?_ | refine ze ?_ | refine zh ?_ | refine zi ?_ | refine zu ?_ | refine zb fun C => ?_ | refine zp (by kernel_rfl) (by kernel_rfl) fun C => ?_ | refine zc ?_ | refine zr3 ?_ | refine x_bs ?_ | refine x_gr ?_ | refine x_st ?_ | refine x_mv ?_ | refine x_sk ?_ | refine ze4 ?_ | refine x_ix ?_ | refine zf4 ?_ | refine zg4 ?_ | refine zu3 ?_ | refine zv2 ?_ | refine x_ld ?_)
  refine zu6 hcc ?_
  repeat (first | refine zn ?_ | refine ze ?_ | refine zh ?_ | refine zi ?_ | refine zu ?_ | refine zb fun C => ?_ | refine zp (by kernel_rfl) (by kernel_rfl) fun C => ?_ | refine zc ?_ | refine zr3 ?_ | refine x_bs ?_ | refine x_gr ?_ | refine x_st ?_ | refine x_mv ?_ | refine x_sk ?_ | refine ze4 ?_ | refine x_ix ?_ | refine zf4 ?_ | refine zg4 ?_ | refine zu3 ?_ | refine zv2 ?_ | refine x_ld ?_)
  refine ret0 (x := .c (.v (.bool (decide (idxF p l ≥ 0))))) rfl zn2 ⟨?_, rfl⟩
  rw [zu7]
theorem zk14 {l : List E} (hl : ∀ e ∈ l, e.Ty Try.prog 9) (hk : ∀ e ∈ l, e.enc.length = 1) (hlen : l.length ≤ 1073741824) (p : E → Bool) (f : FuncId) (hc : ∀ x ∈ l, Ctr Try.prog f (.c (.v (.string (strB x))) :: []) [] (.c (.v (.bool (p x)))) []) : Ctr Try.prog 63 [.c (.ro l.length 1 (acL l)), .c (.fn f [])] [] (.c (.v (.int .i64 (idxF p l)))) [] := by
  refine zm2 Try.func63 rfl rfl ?_
  repeat (first | refine zn ?_ | refine ze ?_ | refine zh ?_ | refine zi ?_ | refine zu ?_ | refine zb fun C => ?_ | refine zp (by kernel_rfl) (by kernel_rfl) fun C => ?_ | refine zc ?_ | refine zr3 ?_ | refine x_bs ?_ | refine x_gr ?_ | refine x_st ?_ | refine x_mv ?_ | refine x_sk ?_ | refine ze4 ?_ | refine x_ix ?_ | refine zf4 ?_ | refine zg4 ?_ | refine zu3 ?_ | refine zv2 ?_ | refine x_ld ?_)
  refine zp3 (fun k : Nat => ⟨tmsF [(0, .c (.ro l.length 1 (acL l))), (1, .c (.fn f [])), (7, .c (.v (.int .i64 l.length))), (8, .c (.v (.int .i64 k)))], hpsF [], 0, [], 19⟩)
    (fun N k => k + N = l.length ∧ ∀ j y, j < k → l[j]? = some y → p y = false) l.length 0 ⟨by omega, by omega⟩ ?_ ?_
  · (refine zo2 _ _ rfl rfl ?_ ?_ <;> (repeat' (first | exact TmOk.nil | exact RwOk.nil | refine TmOk.cons ?_ ?_ | refine RwOk.cons ?_ ?_ | rfl | (refine rnV_id' rfl ?_; (first | rfl | (simp [cloV, cloL, clo, zj, zf, zk, zg, zd]; done))) | (refine zd3 ?_; first | rfl | omega | (rw [zb2 (by omega) (by omega)]; omega)) | (refine zi2 rfl ?_; (first | rfl | (simp [cloV, cloL, clo, zj, zf, zk, zg, zd]; done))) | exact zj4 rfl rfl | (refine ze3 (by rfl) (by rfl) ?_ ?_ <;> (first | rfl | (simp [cloV, cloL, clo, zj, zf, zk, zg, zd]; done))) | (refine rw_rn' rfl rfl ?_; simp; done))))
  rintro N k ⟨hN, hno⟩
  repeat (first | refine zn ?_ | refine ze ?_ | refine zh ?_ | refine zi ?_ | refine zu ?_ | refine zb fun C => ?_ | refine zp (by kernel_rfl) (by kernel_rfl) fun C => ?_ | refine zc ?_ | refine zr3 ?_ | refine x_bs ?_ | refine x_gr ?_ | refine x_st ?_ | refine x_mv ?_ | refine x_sk ?_ | refine ze4 ?_ | refine x_ix ?_ | refine zf4 ?_ | refine zg4 ?_ | refine zu3 ?_ | refine zv2 ?_ | refine x_ld ?_)
  refine zt3 (by rfl) (fun h1 => ?_) fun h1 => ?_
  · have hk' : k < l.length := by simpa using h1
    obtain ⟨x, hx⟩ : ∃ x, l[k]? = some x := ⟨_, List.getElem?_eq_getElem hk'⟩
    have hxt := hl x (List.mem_of_getElem? hx)
    have hcc := hc x (List.mem_of_getElem? hx)
    obtain ⟨y0, rfl, -⟩ := hxt.str_ Try.underlying9
    repeat (first | refine zn ?_ | refine ze ?_ | refine zh ?_ | refine zi ?_ | refine zu ?_ | refine zb fun C => ?_ | refine zp (by kernel_rfl) (by kernel_rfl) fun C => ?_ | refine zc ?_ | refine zr3 ?_ | refine x_bs ?_ | refine x_gr ?_ | refine x_st ?_ | refine x_mv ?_ | refine x_sk ?_ | refine ze4 ?_ | refine x_ix ?_ | refine zf4 ?_ | refine zg4 ?_ | refine zu3 ?_ | refine zv2 ?_ | refine x_ld ?_)
    refine zu6 hcc ?_
    repeat (first | refine zn ?_ | refine ze ?_ | refine zh ?_ | refine zi ?_ | refine zu ?_ | refine zb fun C => ?_ | refine zp (by kernel_rfl) (by kernel_rfl) fun C => ?_ | refine zc ?_ | refine zr3 ?_ | refine x_bs ?_ | refine x_gr ?_ | refine x_st ?_ | refine x_mv ?_ | refine x_sk ?_ | refine ze4 ?_ | refine x_ix ?_ | refine zf4 ?_ | refine zg4 ?_ | refine zu3 ?_ | refine zv2 ?_ | refine x_ld ?_)
    refine zt3 (by rfl) (fun h2 => ?_) fun h2 => ?_
    · repeat (first | refine zn ?_ | refine ze ?_ | refine zh ?_ | refine zi ?_ | refine zu ?_ | refine zb fun C => ?_ | refine zp (by kernel_rfl) (by kernel_rfl) fun C => ?_ | refine zc ?_ | refine zr3 ?_ | refine x_bs ?_ | refine x_gr ?_ | refine x_st ?_ | refine x_mv ?_ | refine x_sk ?_ | refine ze4 ?_ | refine x_ix ?_ | refine zf4 ?_ | refine zg4 ?_ | refine zu3 ?_ | refine zv2 ?_ | refine x_ld ?_)
      refine ret0 (x := .c (.v (.int .i64 k))) rfl zn2 ⟨?_, rfl⟩
      rw [zb10 hno hx h2]
    · repeat (first | refine zn ?_ | refine ze ?_ | refine zh ?_ | refine zi ?_ | refine zu ?_ | refine zb fun C => ?_ | refine zp (by kernel_rfl) (by kernel_rfl) fun C => ?_ | refine zc ?_ | refine zr3 ?_ | refine x_bs ?_ | refine x_gr ?_ | refine x_st ?_ | refine x_mv ?_ | refine x_sk ?_ | refine ze4 ?_ | refine x_ix ?_ | refine zf4 ?_ | refine zg4 ?_ | refine zu3 ?_ | refine zv2 ?_ | refine x_ld ?_)
      refine ⟨N - 1, k + 1, by omega, ⟨by omega, fun j z hj hz => ?_⟩, ?_⟩
      · by_cases e : j = k
        · rw [e, hx] at hz; injection hz with hz; subst hz; exact h2
        · exact hno j z (by omega) hz
      · (refine zo2 _ _ rfl rfl ?_ ?_ <;> (repeat' (first | exact TmOk.nil | exact RwOk.nil | refine TmOk.cons ?_ ?_ | refine RwOk.cons ?_ ?_ | rfl | (refine rnV_id' rfl ?_; (first | rfl | (simp [cloV, cloL, clo, zj, zf, zk, zg, zd]; done))) | (refine zd3 ?_; first | rfl | omega | (rw [zb2 (by omega) (by omega)]; omega)) | (refine zi2 rfl ?_; (first | rfl | (simp [cloV, cloL, clo, zj, zf, zk, zg, zd]; done))) | exact zj4 rfl rfl | (refine ze3 (by rfl) (by rfl) ?_ ?_ <;> (first | rfl | (simp [cloV, cloL, clo, zj, zf, zk, zg, zd]; done))) | (refine rw_rn' rfl rfl ?_; simp; done))))
  · have hk' : ¬ k < l.length := by simpa using h1
    repeat (first | refine zn ?_ | refine ze ?_ | refine zh ?_ | refine zi ?_ | refine zu ?_ | refine zb fun C => ?_ | refine zp (by kernel_rfl) (by kernel_rfl) fun C => ?_ | refine zc ?_ | refine zr3 ?_ | refine x_bs ?_ | refine x_gr ?_ | refine x_st ?_ | refine x_mv ?_ | refine x_sk ?_ | refine ze4 ?_ | refine x_ix ?_ | refine zf4 ?_ | refine zg4 ?_ | refine zu3 ?_ | refine zv2 ?_ | refine x_ld ?_)
    refine ret0 (x := .c (.v (.int .i64 (-1)))) rfl zn2 ⟨?_, rfl⟩
    rw [zp6 fun j y hj hy => hno j y (by omega) hy]
theorem zl14 {l : List E} (hl : ∀ e ∈ l, e.Ty Try.prog 9) (hk : ∀ e ∈ l, e.enc.length = 1) (hlen : l.length ≤ 1073741824) (p : E → Bool) (f : FuncId) (hc : ∀ x ∈ l, Ctr Try.prog f (.c (.v (.string (strB x))) :: []) [] (.c (.v (.bool (p x)))) []) : Ctr Try.prog 42 [.c (.ro l.length 1 (acL l)), .c (.fn f [])] [] (.c (.v (.bool (l.any p)))) [] := by
  refine zm2 Try.func42 rfl rfl ?_
  have hcc := zk14 hl hk hlen p f hc
  repeat (first | refine zn ?_ | refine ze ?_ | refine zh ?_ | refine zi ?_ | refine zu ?_ | refine zb fun C => ?_ | refine zp (by kernel_rfl) (by kernel_rfl) fun C => ?_ | refine zc ?_ | refine zr3 ?_ | refine x_bs ?_ | refine x_gr ?_ | refine x_st ?_ | refine x_mv ?_ | refine x_sk ?_ | refine ze4 ?_ | refine x_ix ?_ | refine zf4 ?_ | refine zg4 ?_ | refine zu3 ?_ | refine zv2 ?_ | refine x_ld ?_)
  refine zu6 hcc ?_
  repeat (first | refine zn ?_ | refine ze ?_ | refine zh ?_ | refine zi ?_ | refine zu ?_ | refine zb fun C => ?_ | refine zp (by kernel_rfl) (by kernel_rfl) fun C => ?_ | refine zc ?_ | refine zr3 ?_ | refine x_bs ?_ | refine x_gr ?_ | refine x_st ?_ | refine x_mv ?_ | refine x_sk ?_ | refine ze4 ?_ | refine x_ix ?_ | refine zf4 ?_ | refine zg4 ?_ | refine zu3 ?_ | refine zv2 ?_ | refine x_ld ?_)
  refine ret0 (x := .c (.v (.bool (decide (idxF p l ≥ 0))))) rfl zn2 ⟨?_, rfl⟩
  rw [zu7]
theorem zz5 {e : E} (h : e.Ty Try.prog 82) : ∃ (x0 : Int) (x1A : Option Addr) (x1c : Nat) (x1l : List E), e = (E.agg [.int .i64 x0, .lst 2 128 x1A x1c x1l]) ∧ ((Lit.int .i64 x0).wf = true) ∧ ((∀ y ∈ x1l, y.Ty Try.prog 128) ∧ (∀ y ∈ x1l, y.enc.length = 2)) ∧ True := by
  obtain ⟨fs, rfl, q0⟩ := h.agg_ Try.underlying82
  change E.TyF _ _ [3, 80] at q0
  obtain ⟨e0, r0, rfl, h0, q1⟩ := q0.cons_
  obtain ⟨e1, r1, rfl, h1, q2⟩ := q1.cons_
  obtain rfl := q2.nil_
  obtain ⟨x0, rfl, gx0⟩ := h0.int_ Try.underlying3
  obtain ⟨x1A, x1c, x1l, rfl, gx1, gx1'⟩ := h1.lst_ Try.underlying80 (k := 2) (by kernel_rfl)
  exact ⟨x0, x1A, x1c, x1l, rfl, gx0, ⟨gx1, gx1'⟩, trivial⟩
theorem zt4 {e : E} (h : e.Ty Try.prog 63) : ∃ (x0 : Int) (x1A : Option Addr) (x1c : Nat) (x1l : List E), e = (E.agg [.int .i64 x0, .lst 2 70 x1A x1c x1l]) ∧ ((Lit.int .i64 x0).wf = true) ∧ ((∀ y ∈ x1l, y.Ty Try.prog 70) ∧ (∀ y ∈ x1l, y.enc.length = 2)) ∧ True := by
  obtain ⟨fs, rfl, q0⟩ := h.agg_ Try.underlying63
  change E.TyF _ _ [3, 61] at q0
  obtain ⟨e0, r0, rfl, h0, q1⟩ := q0.cons_
  obtain ⟨e1, r1, rfl, h1, q2⟩ := q1.cons_
  obtain rfl := q2.nil_
  obtain ⟨x0, rfl, gx0⟩ := h0.int_ Try.underlying3
  obtain ⟨x1A, x1c, x1l, rfl, gx1, gx1'⟩ := h1.lst_ Try.underlying61 (k := 2) (by kernel_rfl)
  exact ⟨x0, x1A, x1c, x1l, rfl, gx0, ⟨gx1, gx1'⟩, trivial⟩
set_option maxRecDepth 100000 in
set_option maxHeartbeats 1000000 in
theorem zd22 {e : E} (ht : e.Ty Try.prog 82) : Sz 55 e := by
  obtain ⟨x0, x1A, x1c, x1l, rfl, gx0, gx1, -⟩ := zz5 ht
  intro left w hr h0 h1
  have HSZ : Hid ((E.agg [.int .i64 x0, .lst 2 128 x1A x1c x1l]).sz = (0 + ((E.lst 2 128 x1A x1c x1l).sz + 0))) := rfl
  change Calls _ _ #[.agg #[.int .i64 x0, .slice x1A x1l.length x1c], .int .i64 left] w _
  have hr1 := (hr.fld (i := 1) rfl).alloc (.cells #[.int .i64 x0, .slice x1A x1l.length x1c] 82)
  go_enter Try.func55, Try.ntmps55
  go_wp2_with fail
  go_at_call 74
  refine ((zx17 (E.Ty.mk_lst Try.underlying80 (by kernel_rfl) gx1.1 gx1.2)) _ _ hr1 (by omega) (by omega)).mono ?_; rintro e w1 ⟨r1, rfl, hr1s, hl1, hb1⟩
  have hz1 := hb1.size; (try simp only [World.size_alloc] at hz1)
  by_cases hn1 : r1 < 0
  · go_wp2
    go_ret
    exact ⟨-1, rfl, .inl (by omega), by omega, by exact (by repeat (first | (with_reducible refine Below.setCell ?_ (by first | omega | (· simp) | (· (simp; omega))) _) | (with_reducible refine Below.alloc ?_ (by first | omega | (· simp) | (· (simp; omega))) _) | (with_reducible refine Below.drew ?_) | (with_reducible refine zx2 ?_ _) | (with_reducible exact Below.refl _ _) | (with_reducible assumption) | (with_reducible refine Below.trans ?_ (Below.mono (by assumption) (by first | omega | (· simp) | (· (simp; omega))))) | (with_reducible refine Below.trans ?_ (Kp.below (by assumption) (by first | omega | (· simp) | (· (simp; omega))) (by first | omega | (· simp) | (· (simp; omega)))))))⟩
  have hq1 := hr1s.resolve_left hn1
  go_wp2
  go_ret
  refine ⟨_, rfl, .inr ?_, by omega, by exact (by repeat (first | (with_reducible refine Below.setCell ?_ (by first | omega | (· simp) | (· (simp; omega))) _) | (with_reducible refine Below.alloc ?_ (by first | omega | (· simp) | (· (simp; omega))) _) | (with_reducible refine Below.drew ?_) | (with_reducible refine zx2 ?_ _) | (with_reducible exact Below.refl _ _) | (with_reducible assumption) | (with_reducible refine Below.trans ?_ (Below.mono (by assumption) (by first | omega | (· simp) | (· (simp; omega))))) | (with_reducible refine Below.trans ?_ (Kp.below (by assumption) (by first | omega | (· simp) | (· (simp; omega))) (by first | omega | (· simp) | (· (simp; omega)))))))⟩
  show _ = _
  rw [HSZ.out]
  have e1 := hq1.out
  push_cast
  omega
set_option maxRecDepth 100000 in
set_option maxHeartbeats 1000000 in
theorem szMFnS_all' (A : Option Addr) (c : Nat) (l : List E) (ht : ∀ y ∈ l, y.Ty Try.prog 82) : Sz 33 (.lst 2 82 A c l) := by
  intro left w hr h0 h1
  have hs := hr.sl
  have hlen := hs.len_le
  have HSZ : Hid ((E.lst 2 82 A c l).sz = l.length + E.szL l) := rfl
  change Calls _ _ #[.slice A l.length c, .int .i64 left] w _
  by_cases hneg : left - l.length < 0
  · go_enter Try.func33, Try.ntmps33
    go_wp2
    go_ret
    exact ⟨-1, rfl, .inl (by omega), by omega, by exact (by repeat (first | (with_reducible refine Below.setCell ?_ (by first | omega | (· simp) | (· (simp; omega))) _) | (with_reducible refine Below.alloc ?_ (by first | omega | (· simp) | (· (simp; omega))) _) | (with_reducible refine Below.drew ?_) | (with_reducible refine zx2 ?_ _) | (with_reducible exact Below.refl _ _) | (with_reducible assumption) | (with_reducible refine Below.trans ?_ (Below.mono (by assumption) (by first | omega | (· simp) | (· (simp; omega))))) | (with_reducible refine Below.trans ?_ (Kp.below (by assumption) (by first | omega | (· simp) | (· (simp; omega))) (by first | omega | (· simp) | (· (simp; omega)))))))⟩
  go_enter Try.func33, Try.ntmps33
  go_wp2
  go_loopw [1, 5] (fun v i wr => ∃ (k : Nat) (cur : Int), k ≤ l.length ∧ i = .int .i64 k ∧ v = .int .i64 cur ∧ 0 ≤ cur ∧ cur ≤ left ∧ Hid (cur + E.szL (l.take k) + l.length = left) ∧ Below w.heap.size w wr) (fun _ i _ => l.length - (intOf i).toNat)
  case atStart => exact ⟨0, _, Nat.zero_le _, rfl, rfl, by omega, by omega, (by show _ = _; simp [E.szL]), Below.refl _ _⟩
  case round =>
    obtain ⟨k, cur, hk, rfl, rfl, hc0, hc1, HQ, hb⟩ := hrel
    have hzb := hb.size
    by_cases hlt : k < l.length
    · have hs' := hs.below hb (Nat.le_refl _)
      have HT := Lib.hid (E.szL_take l k hlt)
      obtain ⟨b, o, rfl, _, hc⟩ := hs'.at_ hlt
      have hin := (hr.el (List.getElem_mem hlt)).below hb (Nat.le_refl _)
      have H := zd22 (ht _ (List.getElem_mem hlt))
      obtain ⟨y0, y1A, y1c, y1l, ex, gy0, gy1, -⟩ := zz5 (ht _ (List.getElem_mem hlt))
      have HEX := Lib.hid ex
      rw [ex] at hc hin H
      clear ex
      have c0 := hc 0 _ rfl; have c1 := hc 1 _ rfl
      rw [Nat.add_zero] at c0
      clear hc
      go_wp2_with fail
      go_at_call 55
      refine (H _ _ hin hc0 (by omega)).mono ?_; rintro e w1 ⟨r, rfl, hrs, hrl, hb1⟩
      by_cases hn : r < 0
      · go_wp2
        go_ret
        exact ⟨-1, rfl, .inl (by omega), by omega, by exact (by repeat (first | (with_reducible refine Below.setCell ?_ (by first | omega | (· simp) | (· (simp; omega))) _) | (with_reducible refine Below.alloc ?_ (by first | omega | (· simp) | (· (simp; omega))) _) | (with_reducible refine Below.drew ?_) | (with_reducible refine zx2 ?_ _) | (with_reducible exact Below.refl _ _) | (with_reducible assumption) | (with_reducible refine Below.trans ?_ (Below.mono (by assumption) (by first | omega | (· simp) | (· (simp; omega))))) | (with_reducible refine Below.trans ?_ (Kp.below (by assumption) (by first | omega | (· simp) | (· (simp; omega))) (by first | omega | (· simp) | (· (simp; omega)))))))⟩
      · have HR := hrs.resolve_left hn
        clear hrs
        go_wp2
        go_roundw
        case rel => exact ⟨k + 1, r, by omega, by go_num, rfl, by omega, by omega, (by show _ = _; have e1 := HQ.out; have e2 := HT.out; have e3 := HR.out; rw [HEX.out] at e2; omega), by exact (by repeat (first | (with_reducible refine Below.setCell ?_ (by first | omega | (· simp) | (· (simp; omega))) _) | (with_reducible refine Below.alloc ?_ (by first | omega | (· simp) | (· (simp; omega))) _) | (with_reducible refine Below.drew ?_) | (with_reducible refine zx2 ?_ _) | (with_reducible exact Below.refl _ _) | (with_reducible assumption) | (with_reducible refine Below.trans ?_ (Below.mono (by assumption) (by first | omega | (· simp) | (· (simp; omega))))) | (with_reducible refine Below.trans ?_ (Kp.below (by assumption) (by first | omega | (· simp) | (· (simp; omega))) (by first | omega | (· simp) | (· (simp; omega)))))))⟩
        case measure => simp [intOf]; omega
    · have hk' : k = l.length := by omega
      subst hk'
      go_wp2
      go_ret
      refine ⟨_, rfl, .inr ?_, by omega, hb⟩
      show _ = _
      have e1 := HQ.out
      rw [List.take_length] at e1
      rw [HSZ.out]
      push_cast
      omega
theorem ze18 {e : E} (ht : e.Ty Try.prog 34) : Sz 33 e := by
  obtain ⟨A, c, l, rfl, h1, _⟩ := ht.lst_ Try.underlying34 (k := 2) (by kernel_rfl)
  exact szMFnS_all' A c l h1
set_option maxRecDepth 100000 in
set_option maxHeartbeats 1000000 in
theorem ze22 {e : E} (ht : e.Ty Try.prog 82) : To 60 63 e := by
  have HT0 := Lib.hid ht
  obtain ⟨x0, x1A, x1c, x1l, rfl, gx0, gx1, -⟩ := zz5 ht
  intro w hr hsz
  have hsz' : (0 + ((E.lst 2 128 x1A x1c x1l).sz + 0)) ≤ 1048576 := hsz
  have hs1 : (E.lst 2 128 x1A x1c x1l).sz ≤ 1048576 := by omega
  clear hsz hsz'
  have hr1 := hr.fld (i := 1) rfl
  have ty1 : (E.lst 2 128 x1A x1c x1l).Ty Try.prog 80 := E.Ty.mk_lst Try.underlying80 (by kernel_rfl) gx1.1 gx1.2
  have HC1 := Lib.hid (zy17 ty1)
  clear ty1
  change Calls _ _ #[.agg #[.int .i64 x0, .slice x1A x1l.length x1c]] w _
  go_enter Try.func60, Try.ntmps60
  go_wp2_with fail
  go_at_call 78
  refine (HC1.out _ (((hr1.alloc _).alloc _).alloc _) hs1).mono ?_; rintro e w1 ⟨v1, he, HD1, ht1, ho1, hn1, hb1⟩
  have HT1 := Lib.hid ht1
  have HN1 := Lib.hid hn1
  obtain ⟨A1, q1, l1, rfl, -, -⟩ := ht1.lst_ Try.underlying61 (k := 2) (by kernel_rfl)
  obtain rfl : e = .returned (.slice A1 l1.length q1) := he
  clear hn1 ht1
  have B0_1 : w1.heap[w.heap.size]? = some (.cells #[.int .i64 x0, .slice x1A x1l.length x1c] 82 (0, 0)) := (hb1.block (w.heap.size) (by simp; omega)).trans zz16.1
  have B1_1 : w1.heap[w.heap.size + 1]? = some (.cells #[.int .i64 0, .slice none 0 0] 63 (0, 0)) := (hb1.block (w.heap.size + 1) (by simp)).trans zz16.2.1
  have B2_1 : w1.heap[w.heap.size + 1 + 1]? = some (.cells #[.int .i64 x0, .slice none 0 0] 63 (0, 0)) := (hb1.block (w.heap.size + 1 + 1) (by simp)).trans zz16.2.2
  have hz1 := hb1.size; simp only [World.size_alloc] at hz1
  have hB1 : Below w.heap.size w w1 := (by exact (by repeat (first | (with_reducible refine Below.setCell ?_ (by first | omega | (· simp) | (· (simp; omega))) _) | (with_reducible refine Below.alloc ?_ (by first | omega | (· simp) | (· (simp; omega))) _) | (with_reducible refine Below.drew ?_) | (with_reducible refine zx2 ?_ _) | (with_reducible exact Below.refl _ _) | (with_reducible assumption) | (with_reducible refine Below.trans ?_ (Below.mono (by assumption) (by first | omega | (· simp) | (· (simp; omega))))) | (with_reducible refine Below.trans ?_ (Kp.below (by assumption) (by first | omega | (· simp) | (· (simp; omega))) (by first | omega | (· simp) | (· (simp; omega))))))) : Below w.heap.size w _).trans (hb1.mono (by simp; omega))
  have ho1 := ho1.wider (lo' := w.heap.size + 1 + 1 + 1) (by simp) (Nat.le_refl _)
  have c1_0 : w1.cell? ⟨w.heap.size, 0, none⟩ = some (.int .i64 x0) := zj1 B0_1 rfl
  have c1_1 : w1.cell? ⟨w.heap.size, 1, none⟩ = some (.slice x1A x1l.length x1c) := zj1 B0_1 rfl
  have d1_0 : w1.cell? ⟨w.heap.size + 1 + 1, 0, none⟩ = some (.int .i64 x0) := zj1 B2_1 rfl
  have d1_1 : w1.cell? ⟨w.heap.size + 1 + 1, 1, none⟩ = some (.slice none 0 0) := zj1 B2_1 rfl
  have f1 := zh11 B2_1
  have r0' := zj1 B1_1 (o := 0) rfl; have r1' := zj1 B1_1 (o := 1) rfl
  have fr' := zh11 B1_1
  go_wp2
  have OWN : Owns w1 (w.heap.size + 1 + 1 + 1) w1.heap.size [(E.int .i64 x0), (E.lst 2 70 A1 q1 l1)] := (Owns.leaf rfl (by simp only [E.Ho]) (Owns.cons (mid := w1.heap.size) ho1 HN1.out Owns.nil (by omega) (by omega)))
  refine bodyPost_ret (v := .agg #[.int .i64 x0, .slice A1 l1.length q1]) (zu15 (t := 63) (fr := (0, 0)) rfl rfl Try.underlying63 (by kernel_rfl) ?_) rfl ⟨(E.agg [(E.int .i64 x0), (E.lst 2 70 A1 q1 l1)]), rfl, ?_, E.Ty.mk_agg Try.underlying63 (E.TyF.mk_cons (show E.Ty _ _ _ from ⟨Try.underlying3, gx0⟩) (E.TyF.mk_cons HT1.out (E.TyF.mk_nil))), ?_, ?_, ?_⟩
  · simp only [zj9, B1_1, B2_1]; simp [setAt]
  · show E.d _ = E.d _
    simp only [E.d, E.dL]
    have y1 := HD1.out; simp only [E.d, E.dL] at y1
    simp only [E.agg.injEq, List.cons.injEq, E.lst.injEq, E.int.injEq, E.str.injEq, E.bool.injEq, true_and, and_true] at *
    simp [*]
  · exact ((E.Ho.mk_agg OWN.1).kp (lo' := w.heap.size + 1) (hi' := w.heap.size + 1 + 1 + 1) (by repeat (first | (with_reducible exact Kp.refl _ _ _) | (refine Kp.set ?_ (by first | omega | (dsimp only; omega) | (simp; omega)) (by first | omega | (dsimp only; omega) | (simp; omega)) _))) (.inr (by omega))).wider (by omega) (by simp)
  · exact OWN.2
  · exact hB1.trans (Kp.below (lo := w.heap.size + 1) (hi := w.heap.size + 1 + 1 + 1) (by repeat (first | (with_reducible exact Kp.refl _ _ _) | (refine Kp.set ?_ (by first | omega | (dsimp only; omega) | (simp; omega)) (by first | omega | (dsimp only; omega) | (simp; omega)) _))) (by omega) (by omega))
theorem einfoMFn : (Try.prog.info? 63).map (fun i => (i.zero, i.size, i.bytes)) = some (some (.agg #[.int .i64 0, .slice none 0 0]), 2, 32) := by kernel_rfl
set_option maxRecDepth 100000 in
set_option maxHeartbeats 1000000 in
theorem toMFnS_all' (A : Option Addr) (c : Nat) (l : List E) (h1 : ∀ y ∈ l, y.Ty Try.prog 82) : To 38 40 (.lst 2 82 A c l) := by
  intro w hr hsz
  have hs := hr.sl
  have eS : (E.lst 2 82 A c l).sz = l.length + E.szL l := rfl
  have hn : l.length ≤ 1048576 := by omega
  have HS := Lib.hid (show l.length + E.szL l ≤ 1048576 by omega)
  clear eS hsz
  have hmk := zi22 Try.underlying40 einfoMFn l.length (by omega) (by omega)
  have hF := Fill.new w 63 #[.int .i64 0, .slice none 0 0] (l.length * 2) ([] : List Value)
  change Calls _ _ #[.slice A l.length c] w _
  go_enter Try.func38, Try.ntmps38
  go_wp2
  go_loopw [4] (fun i wr => ∃ (k : Nat) (us : List E), k ≤ l.length ∧ i = .int .i64 k ∧ Hid (us.length = k) ∧ Hid (us.map E.d = (l.take k).map E.d) ∧ Hid (∀ u ∈ us, u.Ty Try.prog 63 ∧ u.enc.length = 2) ∧ Fill wr w.heap.size 63 (l.length * 2) (k * 2) (E.encL us) ∧ w.heap.size + 1 ≤ wr.heap.size ∧ Hid (∀ u ∈ us, u.Ho wr (w.heap.size + 1) wr.heap.size) ∧ Hid ((E.fpL us).Nodup) ∧ Below w.heap.size w wr) (fun i _ => l.length - (intOf i).toNat)
  case atStart => exact ⟨0, [], Nat.zero_le _, rfl, rfl, rfl, (fun u hu => absurd hu List.not_mem_nil), by exact hF, by simp, (fun u hu => absurd hu List.not_mem_nil), (by show List.Nodup _; simp [E.fpL]), by exact (by repeat (first | (with_reducible refine Below.setCell ?_ (by first | omega | (· simp) | (· (simp; omega))) _) | (with_reducible refine Below.alloc ?_ (by first | omega | (· simp) | (· (simp; omega))) _) | (with_reducible refine Below.drew ?_) | (with_reducible refine zx2 ?_ _) | (with_reducible exact Below.refl _ _) | (with_reducible assumption) | (with_reducible refine Below.trans ?_ (Below.mono (by assumption) (by first | omega | (· simp) | (· (simp; omega))))) | (with_reducible refine Below.trans ?_ (Kp.below (by assumption) (by first | omega | (· simp) | (· (simp; omega))) (by first | omega | (· simp) | (· (simp; omega)))))))⟩
  case round =>
    obtain ⟨k, us, hk, rfl, HL, HD, HT, hf, hge, HO, HN, hb⟩ := hrel
    by_cases hlt : k < l.length
    · have hs' := hs.below hb (Nat.le_refl _)
      have hzb := hb.size
      have hmem := List.getElem_mem hlt
      have hin := (hr.el hmem).below hb (Nat.le_refl _)
      have H := ze22 (h1 _ hmem)
      have hsk : l[k].sz ≤ 1048576 := by have := E.szL_mem hmem; have := HS.out; omega
      obtain ⟨b, o, rfl, _, hc⟩ := hs'.at_ hlt
      obtain ⟨y0, y1A, y1c, y1l, ex, gy0, gy1, -⟩ := zz5 (h1 _ hmem)
      have HEX := Lib.hid ex
      rw [ex] at hc hin H hsk
      clear ex
      have c0 := hc 0 _ rfl; have c1 := hc 1 _ rfl
      rw [Nat.add_zero] at c0
      clear hc
      have HF := Lib.hid hf
      clear hf
      go_wp2_with fail
      go_at_call 60
      refine (H _ hin hsk).mono ?_; rintro e w1 ⟨x, he, HDX, htx, hox, hnx, hb1⟩
      have HTX := Lib.hid htx
      obtain ⟨z0, z1A, z1c, z1l, rfl, gz0, gz1, -⟩ := zt4 htx
      obtain rfl : e = .returned (.agg #[.int .i64 z0, .slice z1A z1l.length z1c]) := he
      have hf1 := HF.out.below hb1 HF.out.lt
      obtain ⟨u0, c0'⟩ := hf1.cell (j := k * 2) (by omega); obtain ⟨u1, c1'⟩ := hf1.cell (j := k * 2 + 1) (by omega)
      have zfr := hf1.frozen
      have hz1 := hb1.size
      have HOX := Lib.hid hox
      have HNX := Lib.hid hnx
      have HF1 := Lib.hid hf1
      clear hox hnx hf1 htx
      go_wp2
      go_roundw
      case rel =>
        have hl := HL.out
        have hf1 := HF1.out
        have hT : ∀ u ∈ us ++ [(E.agg [.int .i64 z0, .lst 2 70 z1A z1c z1l])], u.Ty Try.prog 63 ∧ u.enc.length = 2 := fun u hu => by
          rcases List.mem_append.1 hu with hu | hu
          · exact HT.out u hu
          · obtain rfl := List.mem_singleton.1 hu
            exact ⟨HTX.out, rfl⟩
        have hlen := E.encL_len fun u hu => (HT.out u hu).2
        have hk2 : k < (us ++ [(E.agg [.int .i64 z0, .lst 2 70 z1A z1c z1l])]).length := by simp; omega
        have ev := fun j hj => E.encL_at (fun u hu => (hT u hu).2) k hk2 j hj
        have eT : (us ++ [(E.agg [.int .i64 z0, .lst 2 70 z1A z1c z1l])])[k] = (E.agg [.int .i64 z0, .lst 2 70 z1A z1c z1l]) := by rw [List.getElem_append_right (by omega)]; simp [hl]
        simp only [eT] at ev
        have hf2 : Fill w1 w.heap.size 63 (l.length * 2) (k * 2) (E.encL (us ++ [(E.agg [.int .i64 z0, .lst 2 70 z1A z1c z1l])])) := hf1.swap' fun j hj => E.encL_app_lt us _ j (by rw [hlen, hl]; exact hj)
        have K := fun (W : World) (h : Kp w.heap.size (w.heap.size + 1) w1 W) (u : E) (hu : u ∈ us) => ((HO.out u hu).below hb1 (Nat.le_refl _)).kp h (.inr (by omega))
        refine ⟨k + 1, us ++ [(E.agg [.int .i64 z0, .lst 2 70 z1A z1c z1l])], by omega, by go_num, by show _ = _; simp [hl], zl18 hlt HD.out (HDX.out.trans (by rw [← HEX.out])), hT, by rw [Nat.add_mul]; exact ((hf2.set (by omega) (ev 0 (by omega))).set (by omega) (ev 1 (by omega))), by simp; omega, ?_, ?_, by exact (by repeat (first | (with_reducible refine Below.setCell ?_ (by first | omega | (· simp) | (· (simp; omega))) _) | (with_reducible refine Below.alloc ?_ (by first | omega | (· simp) | (· (simp; omega))) _) | (with_reducible refine Below.drew ?_) | (with_reducible refine zx2 ?_ _) | (with_reducible exact Below.refl _ _) | (with_reducible assumption) | (with_reducible refine Below.trans ?_ (Below.mono (by assumption) (by first | omega | (· simp) | (· (simp; omega))))) | (with_reducible refine Below.trans ?_ (Kp.below (by assumption) (by first | omega | (· simp) | (· (simp; omega))) (by first | omega | (· simp) | (· (simp; omega)))))))⟩
        · intro u hu
          rcases List.mem_append.1 hu with hu | hu
          · exact (K _ (by repeat (first | (with_reducible exact Kp.refl _ _ _) | (refine Kp.set ?_ (by first | omega | (dsimp only; omega) | (simp; omega)) (by first | omega | (dsimp only; omega) | (simp; omega)) _))) u hu).wider (Nat.le_refl _) (by simp; omega)
          · obtain rfl := List.mem_singleton.1 hu
            exact (HOX.out.kp (lo' := w.heap.size) (hi' := w.heap.size + 1) (by repeat (first | (with_reducible exact Kp.refl _ _ _) | (refine Kp.set ?_ (by first | omega | (dsimp only; omega) | (simp; omega)) (by first | omega | (dsimp only; omega) | (simp; omega)) _))) (.inr (by omega))).wider (by omega) (by simp)
        · refine zb8 HN.out HNX.out fun g hg hg2 => ?_
          obtain ⟨u, hu, hg⟩ := E.mem_fpL.1 hg
          have := (HO.out u hu).lt g hg
          have := HOX.out.lt g hg2
          omega
      case measure => simp [intOf]; omega
    · have hk' : k = l.length := by omega
      subst hk'
      go_wp2
      go_ret
      have hl := HL.out
      have hTy := HT.out
      have own : wr.ownsRow w.heap.size 63 2 (.slice (some ⟨w.heap.size, 0, none⟩) l.length l.length) l.length (E.encL us) := hf.owns (Nat.le_refl _) rfl (by rw [E.encL_len fun u hu => (hTy u hu).2, hl]) (by unfold maxLen; omega)
      rw [← hl] at own
      refine ⟨.lst 2 63 (some ⟨w.heap.size, 0, none⟩) us.length us, by rw [← hl]; rfl, ?_, E.Ty.mk_lst Try.underlying40 (by kernel_rfl) (fun u hu => (hTy u hu).1) (fun u hu => (hTy u hu).2), E.Ho.mk (Ow.of_owns own (Nat.le_refl _)) (fun u hu => (hTy u hu).2) (fun u hu => (HO.out u hu).wider (by omega) (Nat.le_refl _)), ?_, hb⟩
      · show E.d _ = E.d _
        rw [zz12]
        have h := HD.out
        rwa [List.take_length] at h
      · simp only [E.fp, List.singleton_append, List.nodup_cons]
        refine ⟨fun hm => ?_, HN.out⟩
        obtain ⟨u, hu, hg⟩ := E.mem_fpL.1 hm
        have := (HO.out u hu).lt _ hg
        omega
theorem zf18 {e : E} (ht : e.Ty Try.prog 34) : To 38 40 e := by
  obtain ⟨A, c, l, rfl, h1, _⟩ := ht.lst_ Try.underlying34 (k := 2) (by kernel_rfl)
  exact toMFnS_all' A c l h1
set_option maxRecDepth 100000 in
set_option maxHeartbeats 1000000 in
theorem zf22 {e e' : E} (ht : e.Ty Try.prog 63) (ht' : e'.Ty Try.prog 63) : Eq 68 e e' := by
  obtain ⟨x0, x1A, x1c, x1l, rfl, gx0, gx1, -⟩ := zt4 ht
  obtain ⟨y0, y1A, y1c, y1l, rfl, gy0, gy1, -⟩ := zt4 ht'
  intro hd w hr hr'
  simp only [E.d, E.dL, E.agg.injEq, List.cons.injEq, E.int.injEq, E.str.injEq, E.bool.injEq, E.lst.injEq, true_and, and_true] at hd
  obtain ⟨rfl, hd1⟩ := hd
  have hr1 := ((hr.fld (i := 1) rfl).alloc (.cells #[.int .i64 x0, .slice x1A x1l.length x1c] 63)).alloc (.cells #[.int .i64 x0, .slice y1A y1l.length y1c] 63)
  have hs1 := ((hr'.fld (i := 1) rfl).alloc (.cells #[.int .i64 x0, .slice x1A x1l.length x1c] 63)).alloc (.cells #[.int .i64 x0, .slice y1A y1l.length y1c] 63)
  have t1 : (E.lst 2 70 x1A x1c x1l).Ty Try.prog 61 := E.Ty.mk_lst Try.underlying61 (by kernel_rfl) gx1.1 gx1.2
  have u1 : (E.lst 2 70 y1A y1c y1l).Ty Try.prog 61 := E.Ty.mk_lst Try.underlying61 (by kernel_rfl) gy1.1 gy1.2
  have HC1 := Lib.hid (zz17 t1 u1 (by simp only [E.d, E.dL, E.agg.injEq, List.cons.injEq, E.int.injEq, E.str.injEq, E.bool.injEq, E.lst.injEq, true_and, and_true]; exact hd1))
  clear t1 u1
  clear hd1
  change Calls _ _ #[.agg #[.int .i64 x0, .slice x1A x1l.length x1c], .agg #[.int .i64 x0, .slice y1A y1l.length y1c]] w _
  go_enter Try.func68, Try.ntmps68
  go_wp2_with fail
  go_at_call 82
  refine (HC1.out _ hr1 hs1).mono ?_; rintro e w1 ⟨rfl, hb1⟩
  have hz1 := hb1.size; (try simp only [World.size_alloc] at hz1)
  go_wp2
  go_ret
  exact ⟨rfl, (by repeat (first | (with_reducible refine Below.setCell ?_ (by first | omega | (· simp) | (· (simp; omega))) _) | (with_reducible refine Below.alloc ?_ (by first | omega | (· simp) | (· (simp; omega))) _) | (with_reducible refine Below.drew ?_) | (with_reducible refine zx2 ?_ _) | (with_reducible exact Below.refl _ _) | (with_reducible assumption) | (with_reducible refine Below.trans ?_ (Below.mono (by assumption) (by first | omega | (· simp) | (· (simp; omega))))) | (with_reducible refine Below.trans ?_ (Kp.below (by assumption) (by first | omega | (· simp) | (· (simp; omega))) (by first | omega | (· simp) | (· (simp; omega)))))))⟩
set_option maxRecDepth 100000 in
set_option maxHeartbeats 1000000 in
theorem eqMFnS_all' (A B : Option Addr) (c c' : Nat) (l m : List E) (h1 : ∀ y ∈ l, y.Ty Try.prog 63) (h2 : ∀ y ∈ m, y.Ty Try.prog 63) : Eq 49 (.lst 2 63 A c l) (.lst 2 63 B c' m) := by
  intro hd w hr hr'
  rw [zz12] at hd
  have hs := hr.sl
  have hs' := hr'.sl
  have hml := zk22 hd
  have HD := Lib.hid hd
  clear hd
  have hlen := hs.len_le
  change Calls _ _ #[.slice A l.length c, .slice B m.length c'] w _
  obtain ⟨N, HN⟩ : ∃ N, Hid (m.length = N) := ⟨_, rfl⟩
  have hN : N = l.length := by have := HN.out; omega
  subst hN
  rw [HN.out]
  clear hml
  go_enter Try.func49, Try.ntmps49
  go_wp2
  go_loopw [5] (fun i wr => ∃ (k : Nat), k ≤ l.length ∧ i = .int .i64 k ∧ Below w.heap.size w wr) (fun i _ => l.length - (intOf i).toNat)
  case atStart => exact ⟨0, Nat.zero_le _, rfl, Below.refl _ _⟩
  case round =>
    obtain ⟨k, hk, rfl, hb⟩ := hrel
    by_cases hlt : k < l.length
    · have hltm : k < m.length := by have := HN.out; omega
      have hsb := hs.below hb (Nat.le_refl _)
      have hsb' := hs'.below hb (Nat.le_refl _)
      have hdk := d_at HD.out hlt hltm
      obtain ⟨b, o, rfl, _, hc⟩ := hsb.at_ hlt
      obtain ⟨b', o', rfl, _, hd⟩ := hsb'.at_ hltm
      have hin := (hr.el (List.getElem_mem hlt)).below hb (Nat.le_refl _)
      have hin' := (hr'.el (List.getElem_mem hltm)).below hb (Nat.le_refl _)
      have H := zf22 (h1 _ (List.getElem_mem hlt)) (h2 _ (List.getElem_mem hltm)) hdk
      obtain ⟨x0, x1A, x1c, x1l, ex, gx0, gx1, -⟩ := zt4 (h1 _ (List.getElem_mem hlt))
      obtain ⟨y0, y1A, y1c, y1l, ey, gy0, gy1, -⟩ := zt4 (h2 _ (List.getElem_mem hltm))
      rw [ex] at hc hin
      rw [ey] at hd hin'
      rw [ex, ey] at H
      clear ex ey hdk
      have c0 := hc 0 _ rfl; have c1 := hc 1 _ rfl
      have d0 := hd 0 _ rfl; have d1 := hd 1 _ rfl
      rw [Nat.add_zero] at c0 d0
      clear hc hd
      have hzb := hb.size
      have HH := Lib.hid H
      clear H
      go_wp2
      go_region_held3 (fun w' => w'.cell? ⟨b, o + k * 2, none⟩ = some (.int .i64 x0) ∧ w'.cell? ⟨b, o + k * 2 + 1, none⟩ = some (.slice x1A x1l.length x1c) ∧ w'.cell? ⟨b', o' + k * 2, none⟩ = some (.int .i64 y0) ∧ w'.cell? ⟨b', o' + k * 2 + 1, none⟩ = some (.slice y1A y1l.length y1c))
        (first | exact ⟨c0, c1, d0, d1⟩ | skip)
        ((go_at_call 68; refine (HH.out _ (by repeat (first | (with_reducible assumption) | (with_reducible refine E.In.drew ?_) | (with_reducible refine E.In.drewN ?_ _) | (with_reducible refine E.In.alloc ?_ _) | (refine E.In.below ?_ (by with_reducible assumption) ?_) | omega | (· simp) | (· (simp; omega)))) (by repeat (first | (with_reducible assumption) | (with_reducible refine E.In.drew ?_) | (with_reducible refine E.In.drewN ?_ _) | (with_reducible refine E.In.alloc ?_ _) | (refine E.In.below ?_ (by with_reducible assumption) ?_) | omega | (· simp) | (· (simp; omega))))).mono ?_; rintro e w1 ⟨rfl, hb1⟩; have c0 := zf2 hb1 c0 (by first | omega | (· simp) | (· (simp; omega))); have c1 := zf2 hb1 c1 (by first | omega | (· simp) | (· (simp; omega))); have d0 := zf2 hb1 d0 (by first | omega | (· simp) | (· (simp; omega))); have d1 := zf2 hb1 d1 (by first | omega | (· simp) | (· (simp; omega)))))
      go_wp2
      go_roundw
      case rel => exact ⟨k + 1, by omega, by go_num, by exact (by repeat (first | (with_reducible refine Below.setCell ?_ (by first | omega | (· simp) | (· (simp; omega))) _) | (with_reducible refine Below.alloc ?_ (by first | omega | (· simp) | (· (simp; omega))) _) | (with_reducible refine Below.drew ?_) | (with_reducible refine zx2 ?_ _) | (with_reducible exact Below.refl _ _) | (with_reducible assumption) | (with_reducible refine Below.trans ?_ (Below.mono (by assumption) (by first | omega | (· simp) | (· (simp; omega))))) | (with_reducible refine Below.trans ?_ (Kp.below (by assumption) (by first | omega | (· simp) | (· (simp; omega))) (by first | omega | (· simp) | (· (simp; omega)))))))⟩
      case measure => simp [intOf]; omega
    · go_wp2
      go_ret
      exact ⟨rfl, hb⟩
theorem zg18 {e e' : E} (ht : e.Ty Try.prog 40) (ht' : e'.Ty Try.prog 40) : Eq 49 e e' := by
  obtain ⟨A, c, l, rfl, h1, _⟩ := ht.lst_ Try.underlying40 (k := 2) (by kernel_rfl)
  obtain ⟨B, c', m, rfl, h2, _⟩ := ht'.lst_ Try.underlying40 (k := 2) (by kernel_rfl)
  exact eqMFnS_all' A B c c' l m h1 h2
end Go.Proofs.Ytfdjognmechcfaa
