/- The reference's reader of regular expressions: alternatives; ParseRex: by the abstract machine. -/
import Derived.StillTailTactics
import Derived.Test.YtghljnfbbaklnaaModuleOkT
namespace Go.Proofs.Ytghljnfbbaklnaa
open Go.RowKit
set_option maxRecDepth 100000
set_option maxHeartbeats 8000000 in
theorem l3Alt_c {s : ByteArray} (hs : s.size ≤ 1048576) {cat : PS → E × PS} {p0 : PS} (hp : Pre s p0)
    (hg : ∀ q, Pre s q → p0.a ≤ q.a → GoodS s q (cat q))
    (hi : ∀ q, Pre s q → p0.a ≤ q.a → Ctr Try.prog 128 [.c (.pt 0 0)] [rdrS s q] (.ag (owE (cat q).1)) [rdrS s (cat q).2]) :
    Ctr Try.prog 120 [.c (.pt 0 0)] [rdrS s p0] (.ag (owE (altC s cat p0).1)) [rdrS s (altC s cat p0).2] := by
  have hic0 := hi p0 hp (Nat.le_refl _)
  have hg0 := hg p0 hp (Nat.le_refl _)
  have hL0 := GoodLS.one hg0
  have hr : altC s cat p0 = (oneOr 5 (altLoopS s cat (s.size + 1) [(cat p0).1] (cat p0).2).1, (altLoopS s cat (s.size + 1) [(cat p0).1] (cat p0).2).2) := rfl
  rw [hr]
  clear hr
  obtain ⟨⟨e, q0⟩, hq0⟩ : ∃ r, cat p0 = r := ⟨_, rfl⟩
  rw [hq0] at hic0 hg0 hL0 ⊢
  have hfi : Fine e := hg0.fine
  dsimp only at hic0 hL0 ⊢
  cases hfi with
  | mk k t l hk ht hl2 =>
  refine zm2 Try.func120 rfl rfl ?_
  repeat' (first | ((apply f_wo); first | ((apply f_mv); first | refine zg1 (v := .c _) ?_ | refine za ?_) | ((apply f_as); first | refine zf1 (v := .c _) ?_ | refine za ?_) | ((apply f_ld); first | refine zw ?_ | refine zi1 ?_ | refine n_ld ?_) | ((apply f_ca); first | refine zl2 0 (hic0) ?_) | ((apply f_bi); first | refine zd1 ?_ | refine zc1 ?_ | refine ze1 ?_ | refine zq2 ?_ | refine zq2 (hnu := zl _) ?_ | refine zv1 ?_ | refine zv1 (hnu := zl _) ?_ | refine za ?_) | ((apply f_st); first | refine n_st ?_ | refine zt1 ?_) | ((apply f_ia); first | refine n_ix ?_ | refine zc2 ?_ | refine za ?_) | ((apply zz1); first | refine za1 ?_ | refine za ?_) | refine n_al ?_ | refine n_bs ?_ | refine za ?_) | ((apply f_w); first | refine zy ?_ | refine zc ?_) | refine zb fun C => ?_ | refine zn ?_ | refine ze ?_ | refine zh ?_ | refine zi ?_ | refine zx rfl ?_ | refine zv rfl ?_)
  refine zp3 (fun q : List E × PS => ⟨tmsF [(0, .c (.pt 0 0)), (2, .c (.pt 2 0)), (3, .c (.sl 9 q.1.length))], hpsF [(0, 0, ⟨0, 0, 0, true, rdrS s q.2⟩), (2, 2, ⟨141, 0, 0, true, [.v (.int .i64 0), .v (.string ByteArray.empty), .v (.slice none 0 0)]⟩), (9, 9, ⟨141, 3, q.1.length, false, owL q.1⟩)], 1, [0, 2, 9], 22⟩)
    (fun N q => GoodLS s p0 q.1 q.2 ∧ s.size + 1 ≤ q.2.a + N ∧ altLoopS s cat N q.1 q.2 = altLoopS s cat (s.size + 1) [rexE k t l] q0) (s.size + 1) ([rexE k t l], q0) ⟨hL0, by dsimp only; omega, rfl⟩ ?_ ?_
  · refine (ze8 (i := 6) (j := 600) rfl rfl rfl (pre := [_, _]) (post := []) rfl).trans ?_
    (refine zm7 (fun j => if j = 9 then 6 else j) _ _ rfl rfl ?_ ?_ <;> (repeat' (first | exact TmOk.nil | exact RwOk.nil | refine TmOk.cons ?_ ?_ | refine RwOk.cons ?_ ?_ | rfl | (refine rnV_id' rfl ?_; (first | rfl | (simp [cloV, cloL, clo, zj, zf, zk, zg, zd]; done))) | (refine zd3 ?_; first | rfl | omega | (rw [zb2 (by omega) (by omega)]; omega)) | (refine zi2 rfl ?_; (first | rfl | (simp [cloV, cloL, clo, zj, zf, zk, zg, zd]; done))) | exact zj4 rfl rfl | (refine ze3 (by rfl) (by rfl) ?_ ?_ <;> (first | rfl | (simp [cloV, cloL, clo, zj, zf, zk, zg, zd]; done))) | (refine rw_rn' rfl rfl ?_; simp; done))))
  rintro N ⟨L, q⟩ ⟨hgl, hN, htot⟩
  dsimp only at hgl hN htot ⊢
  have hpre := hgl.pre hp
  have hbar := zo10 hs (c := 124) (by omega) (p := q)
  obtain ⟨a, d, b⟩ := q
  have hlen := hgl.len.1
  have hale : a ≤ s.size := hgl.le
  dsimp only at hlen hN
  cases hgo : isB s 124 ⟨a, d, b⟩ with
  | true =>
    obtain ⟨hb, hlt, hv⟩ := zg9 hgo
    dsimp only at hb hlt hv
    subst hb
    rw [zj7 hgo, hgo] at hbar
    obtain ⟨M, rfl⟩ : ∃ M, N = M + 1 := ⟨N - 1, by omega⟩
    have hpre2 : Pre s ⟨a + 1, d, false⟩ := ⟨by show a + 1 ≤ _; omega, hpre.2.1, hpre.2.2⟩
    have hge : p0.a ≤ a := hgl.ge
    have hic := hi ⟨a + 1, d, false⟩ hpre2 (by show p0.a ≤ a + 1; omega)
    have hgd := hg ⟨a + 1, d, false⟩ hpre2 (by show p0.a ≤ a + 1; omega)
    have hst : altLoopS s cat (M + 1) L ⟨a, d, false⟩ = altLoopS s cat M (L ++ [(cat ⟨a + 1, d, false⟩).1]) (cat ⟨a + 1, d, false⟩).2 := by
      show (if isB s 124 ⟨a, d, false⟩ then _ else _) = _
      rw [if_pos hgo]; rfl
    rw [hst] at htot
    clear hst hi hg hic0
    have hge2 : a + 1 ≤ (cat ⟨a + 1, d, false⟩).2.a := hgd.ge
    have hgl2 := hgl.step rfl (r := cat ⟨a + 1, d, false⟩) ⟨⟨hgd.fine, by show a ≤ _; omega, hgd.le, hgd.dg, hgd.dl, hgd.nb⟩, fun _ => by show a < _; omega⟩
    obtain ⟨⟨e2, q2⟩, hq2⟩ : ∃ r, cat ⟨a + 1, d, false⟩ = r := ⟨_, rfl⟩
    rw [hq2] at hic htot hgd hgl2 hge2
    dsimp only at hic htot hgd hgl2 hge2
    have hfi2 : Fine e2 := hgd.fine
    cases hfi2 with
    | mk k' t' l' hk' ht' hl2' =>
    unfold rdrS at hbar hic ⊢
    dsimp only [PS.go] at hbar hic ⊢
    repeat' (first | ((apply f_wo); first | ((apply f_mv); first | refine zg1 (v := .c _) ?_ | refine za ?_) | ((apply f_as); first | refine zf1 (v := .c _) ?_ | refine za ?_) | ((apply f_ld); first | refine zw ?_ | refine zi1 ?_ | refine n_ld ?_) | ((apply f_ca); first | refine zl2 0 (hbar) ?_ | refine zl2 0 (hic) ?_) | ((apply f_bi); first | refine zd1 ?_ | refine zc1 ?_ | refine ze1 ?_ | refine zq2 ?_ | refine zq2 (hnu := zl _) ?_ | refine zv1 ?_ | refine zv1 (hnu := zl _) ?_ | refine za ?_) | ((apply f_st); first | refine n_st ?_ | refine zt1 ?_) | ((apply f_ia); first | refine n_ix ?_ | refine zc2 ?_ | refine za ?_) | ((apply zz1); first | refine za1 ?_ | refine za ?_) | refine n_al ?_ | refine n_bs ?_ | refine za ?_) | ((apply f_w); first | refine zy ?_ | refine zc ?_) | refine zb fun C => ?_ | refine zn ?_ | refine ze ?_ | refine zh ?_ | refine zi ?_ | refine zx rfl ?_ | refine zv rfl ?_)
    refine ⟨M, (L ++ [rexE k' t' l'], q2), by omega, ⟨hgl2, by dsimp only; omega, htot⟩, ?_⟩
    dsimp only
    rw [List.length_append, List.length_singleton]
    refine (ze8 (i := 13) (j := 1200) rfl rfl rfl (pre := owL L ++ [.v (.int .i64 k'), .v (.string t')]) (post := []) (by rw [List.append_assoc]; rfl)).trans ?_
    (refine zm7 (fun j => if j = 9 then 13 else j) _ _ rfl rfl ?_ ?_ <;> (repeat' (first | exact TmOk.nil | exact RwOk.nil | refine TmOk.cons ?_ ?_ | refine RwOk.cons ?_ ?_ | rfl | (refine rnV_id' rfl ?_; (first | rfl | (simp [cloV, cloL, clo, zj, zf, zk, zg, zd]; done))) | (refine zd3 ?_; first | rfl | omega | (rw [zb2 (by omega) (by omega)]; omega)) | (refine zi2 rfl ?_; (first | rfl | (simp [cloV, cloL, clo, zj, zf, zk, zg, zd]; done))) | exact zj4 rfl rfl | (refine ze3 (by rfl) (by rfl) ?_ ?_ <;> (first | rfl | (simp [cloV, cloL, clo, zj, zf, zk, zg, zd]; done))) | (refine rw_rn' rfl rfl ?_; simp; done))))
    exact za20 (r := ⟨141, 3, L.length + 1, false, (owL L ++ [.v (.int .i64 k'), .v (.string t')]) ++ [.ow 141 l'.length 3 (owL l')]⟩) rfl (by rw [zd8, List.append_assoc]; rfl) (by first | rfl | (simp [cloV, cloL, clo, zj, zf, zk, zg, zd]; done))
  | false =>
    rw [zo15 hgo] at htot
    rw [← htot]
    rw [zq10 hgo, hgo] at hbar
    have hfine := hgl.fine
    have hne := hgl.ne
    clear htot hi hg hic0 hL0 hgl hpre hg0
    unfold rdrS at hbar ⊢
    dsimp only at hbar ⊢
    match L, hfine, hne with
    | [], _, h0 => exact absurd h0 (by simp)
    | [x], hf, _ =>
      have hx := hf x (List.mem_singleton.2 rfl)
      cases hx with
      | mk k' t' l' hk' ht' hl2' =>
      repeat' (first | ((apply f_wo); first | ((apply f_mv); first | refine zg1 (v := .c _) ?_ | refine za ?_) | ((apply f_as); first | refine zf1 (v := .c _) ?_ | refine za ?_) | ((apply f_ld); first | refine zw ?_ | refine zi1 ?_ | refine n_ld ?_) | ((apply f_ca); first | refine zl2 0 (hbar) ?_) | ((apply f_bi); first | refine zd1 ?_ | refine zc1 ?_ | refine ze1 ?_ | refine zq2 ?_ | refine zq2 (hnu := zl _) ?_ | refine zv1 ?_ | refine zv1 (hnu := zl _) ?_ | refine za ?_) | ((apply f_st); first | refine n_st ?_ | refine zt1 ?_) | ((apply f_ia); first | refine n_ix ?_ | refine zc2 ?_ | refine za ?_) | ((apply zz1); first | refine za1 ?_ | refine za ?_) | refine n_al ?_ | refine n_bs ?_ | refine za ?_) | ((apply f_w); first | refine zy ?_ | refine zc ?_) | refine zb fun C => ?_ | refine zn ?_ | refine ze ?_ | refine zh ?_ | refine zi ?_)
      refine zv rfl ?_
      refine zm4 (g_rev 800 (i := 9) rfl rfl (pre := [.v (.int .i64 k'), .v (.string t')]) (post := []) rfl) ?_
      repeat' (first | ((apply f_wo); first | ((apply f_mv); first | refine zg1 (v := .c _) ?_ | refine za ?_) | ((apply f_as); first | refine zf1 (v := .c _) ?_ | refine za ?_) | ((apply f_ld); first | refine zw ?_ | refine zi1 ?_ | refine n_ld ?_) | ((apply f_bi); first | refine zd1 ?_ | refine zc1 ?_ | refine ze1 ?_ | refine zq2 ?_ | refine zq2 (hnu := zl _) ?_ | refine zv1 ?_ | refine zv1 (hnu := zl _) ?_ | refine za ?_) | ((apply f_st); first | refine n_st ?_ | refine zt1 ?_) | ((apply f_ia); first | refine n_ix ?_ | refine zc2 ?_ | refine za ?_) | ((apply zz1); first | refine za1 ?_ | refine za ?_) | refine n_al ?_ | refine n_bs ?_ | refine za ?_) | ((apply f_w); first | refine zy ?_ | refine zc ?_) | refine zb fun C => ?_ | refine zn ?_ | refine ze ?_ | refine zh ?_ | refine zi ?_ | refine zx rfl ?_ | refine zv rfl ?_)
      refine zu ?_; refine ret1 rfl (zl3 (zu2 rfl (zu2 rfl (zk3 rfl rfl rfl (by first | exact zg _ | exact zf _ | exact bytC_clo _ | (simp [cloL, clo, zg, zf, zk, zj, zd]; done) | (simp [cloL, clo, opC, opL, zg, zf, zk, zj, zd]; done)) zs2)))) rfl (by first | rfl | (simp [cloL, clo, zg, zf, zk, zj, zd]; done)) rfl ⟨?_, ?_⟩ <;> rfl
    | x :: y :: r, hf, _ =>
      have hlen2 : (x :: y :: r).length = r.length + 2 := rfl
      repeat' (first | ((apply f_wo); first | ((apply f_mv); first | refine zg1 (v := .c _) ?_ | refine za ?_) | ((apply f_as); first | refine zf1 (v := .c _) ?_ | refine za ?_) | ((apply f_ld); first | refine zw ?_ | refine zi1 ?_ | refine n_ld ?_) | ((apply f_ca); first | refine zl2 0 (hbar) ?_) | ((apply f_bi); first | refine zd1 ?_ | refine zc1 ?_ | refine ze1 ?_ | refine zq2 ?_ | refine zq2 (hnu := zl _) ?_ | refine zv1 ?_ | refine zv1 (hnu := zl _) ?_ | refine za ?_) | ((apply f_st); first | refine n_st ?_ | refine zt1 ?_) | ((apply f_ia); first | refine n_ix ?_ | refine zc2 ?_ | refine za ?_) | ((apply zz1); first | refine za1 ?_ | refine za ?_) | refine n_al ?_ | refine n_bs ?_ | refine za ?_) | ((apply f_w); first | refine zy ?_ | refine zc ?_) | refine zb fun C => ?_ | refine zn ?_ | refine ze ?_ | refine zh ?_ | refine zi ?_ | refine zx rfl ?_ | refine zv rfl ?_)
      refine zu ?_; refine ret1 rfl (zl3 (zu2 rfl (zu2 rfl (zk3 rfl rfl rfl (by first | exact zg _ | exact zf _ | exact bytC_clo _ | (simp [cloL, clo, zg, zf, zk, zj, zd]; done) | (simp [cloL, clo, opC, opL, zg, zf, zk, zj, zd]; done)) zs2)))) rfl (by first | rfl | (simp [cloL, clo, zg, zf, zk, zj, zd]; done)) rfl ⟨?_, ?_⟩ <;> rfl
theorem altS_c {s : ByteArray} (hs : s.size ≤ 1048576) (f : Nat) : ∀ p : PS, Pre s p → s.size + 1 ≤ p.a + f → Ctr Try.prog 120 [.c (.pt 0 0)] [rdrS s p] (.ag (owE (altS s f p).1)) [rdrS s (altS s f p).2] := by
  induction f with
  | zero => intro p h1 h2; have := h1.1; omega
  | succ f ih =>
    intro p h1 h2
    have hkid : ∀ r : PS, Pre s r → p.a ≤ r.a → r.b = false → r.a < s.size → r.d ≤ 7 → GoodS s ⟨r.a + 1, r.d + 1, r.b⟩ (altS s f ⟨r.a + 1, r.d + 1, r.b⟩) := fun r hr hra hb hlt hd => zh14 hs f _ ⟨by show r.a + 1 ≤ _; omega, by show r.d + 1 ≤ 9; omega, fun _ => by show r.d + 1 ≤ 8; omega⟩ (by show s.size + 1 ≤ r.a + 1 + f; omega)
    have hat : ∀ r : PS, Pre s r → p.a ≤ r.a → GoodS s r (atomS s (altS s f) r) ∧ ((atomS s (altS s f) r).2.b = false → r.a < (atomS s (altS s f) r).2.a) := fun r hr hra => zu11 hs hr fun hb hlt hd => hkid r hr hra hb hlt hd
    refine l3Alt_c hs h1 (fun q hq hqa => zg14 hq fun r hr hra => zo8 (hat r hr (by omega))) fun q hq hqa => ?_
    refine l3Cat_c hs hq (fun r hr hra => zo8 (hat r hr (by omega))) fun r hr hra => ?_
    refine l3Item_c hs (hat r hr (by omega)).1 ?_
    have hpre : r.b = false → r.a < s.size → Pre s (r.go 1) := fun hb hlt => ⟨by show r.a + 1 ≤ _; omega, hr.2.1, hr.2.2⟩
    refine l3Atom_c hs hr (fun hb hlt => ?_) fun hb hlt => zn10 (hpre hb hlt) hb fun hd => hkid r hr (by omega) hb hlt hd
    exact zr21 hs (hpre hb hlt) hb (fun hd => hkid r hr (by omega) hb hlt hd) fun hd => ih _ ⟨by show r.a + 1 ≤ _; omega, by have := hd; show r.d + 1 ≤ 9; have h7 : r.d ≤ 7 := hd; omega, fun _ => by show r.d + 1 ≤ 8; have h7 : r.d ≤ 7 := hd; omega⟩ (by show s.size + 1 ≤ r.a + 1 + f; omega)
set_option maxHeartbeats 4000000 in
theorem zb11 {s : ByteArray} (hs : s.size ≤ 1048576) : Ctr Try.prog 104 [.c (.v (.string s))] [] (.tu [.ag (owE (rexR s)), .c (.v (.bool (parI s)))]) [] := by
  rw [rexR_S, zo16]
  by_cases hbig : 1000 < s.size
  · have hP : parS s = false := by unfold parS; rw [decide_eq_false (by omega)]; rfl
    rw [hP]
    refine zm2 Try.func104 rfl rfl ?_
    repeat' (first | ((apply f_wo); first | ((apply f_gs); first | refine n_sk ?_) | ((apply f_mv); first | (refine zw1 ?_ ?_ <;> intro hG <;> (try cases hG)) | refine zg1 (v := .c _) ?_ | refine za ?_) | ((apply f_as); first | refine zf1 (v := .c _) ?_ | refine za ?_) | ((apply f_fa); first | refine n_fa ?_ | refine zk1 ?_) | ((apply f_ld); first | refine zp1 ?_ | refine zb1 ?_ | refine zw ?_ | refine zi1 ?_ | refine n_ld ?_) | ((apply f_bi); first | refine zd1 ?_ | refine zc1 ?_ | refine ze1 ?_ | refine za ?_) | ((apply f_st); first | refine n_st ?_ | refine zt1 ?_) | ((apply zy2); first | refine zk2 ?_ | refine zo5 ?_ | refine za ?_) | ((apply zq3); first | refine zh1 ?_ | refine za ?_) | ((apply f_pk); first | refine zu1 (v := .c _) ?_ | refine za ?_) | refine n_al ?_ | refine n_bo ?_ | refine za ?_) | ((apply f_w); first | refine zy ?_ | refine zc ?_) | refine zb fun C => ?_ | refine zn ?_ | refine ze ?_ | refine zh ?_ | refine zi ?_)
    refine zt (by rfl) (fun hC => ?_) fun hC => by exfalso; simp only [decide_eq_false_iff_not] at hC; omega
    repeat' (first | ((apply f_wo); first | ((apply f_gs); first | refine n_sk ?_) | ((apply f_mv); first | (refine zw1 ?_ ?_ <;> intro hG <;> (try cases hG)) | refine zg1 (v := .c _) ?_ | refine za ?_) | ((apply f_as); first | refine zf1 (v := .c _) ?_ | refine za ?_) | ((apply f_fa); first | refine n_fa ?_ | refine zk1 ?_) | ((apply f_ld); first | refine zp1 ?_ | refine zb1 ?_ | refine zw ?_ | refine zi1 ?_ | refine n_ld ?_) | ((apply f_bi); first | refine zd1 ?_ | refine zc1 ?_ | refine ze1 ?_ | refine za ?_) | ((apply f_st); first | refine n_st ?_ | refine zt1 ?_) | ((apply zy2); first | refine zk2 ?_ | refine zo5 ?_ | refine za ?_) | ((apply zq3); first | refine zh1 ?_ | refine za ?_) | ((apply f_pk); first | refine zu1 (v := .c _) ?_ | refine za ?_) | refine n_al ?_ | refine n_bo ?_ | refine za ?_) | ((apply f_w); first | refine zy ?_ | refine zc ?_) | refine zb fun C => ?_ | refine zn ?_ | refine ze ?_ | refine zh ?_ | refine zi ?_ | refine zx rfl ?_ | refine zv rfl ?_)
    refine zm4 (ze6 900 (i := 2) 141 3 rfl rfl (pre := [_, _]) (post := []) rfl) ?_
    refine zu ?_; refine ret0 rfl (ze7 (zz3 (zl3 (zu2 rfl (zu2 rfl (zk3 rfl rfl rfl (by first | exact zg _ | exact zf _ | exact bytC_clo _ | (simp [cloL, clo, zg, zf, zk, zj, zd]; done) | (simp [cloL, clo, opC, opL, zg, zf, zk, zj, zd]; done)) zs2)))) (zz3 zn2 zx5))) ⟨?_, rfl⟩
    rfl
  have hpre : Pre s p00 := ⟨Nat.zero_le _, by show (0 : Nat) ≤ 9; omega, fun _ => by show (0 : Nat) ≤ 8; omega⟩
  have halt := altS_c hs (s.size + 8) p00 hpre (by show s.size + 1 ≤ 0 + (s.size + 8); omega)
  have hgd := zh14 hs (s.size + 8) p00 hpre (by show s.size + 1 ≤ 0 + (s.size + 8); omega)
  have hsz : (altS s (s.size + 8) p00).2.b = false → (altS s (s.size + 8) p00).1.sz ≤ 4194304 := fun hb => by
    have h1 := (zk16 (s.size + 8) p00 rfl (by show (0 : Nat) ≤ 8; omega) hb).1
    have h2 := (zp8 hs).2.2
    unfold readI at h2
    rw [h1] at h2; omega
  unfold parS
  unfold readS
  rw [decide_eq_true (show s.size ≤ 1000 by omega)]
  obtain ⟨⟨e, q⟩, hq⟩ : ∃ r, altS s (s.size + 8) p00 = r := ⟨_, rfl⟩
  rw [hq] at halt hgd hsz ⊢
  have hf : Fine e := hgd.fine
  dsimp only at halt hsz ⊢
  have hty := hf.ty.1
  obtain ⟨qa, qd, qb⟩ := q
  dsimp only at hsz
  cases qb with
  | true =>
    cases hf with
    | mk k t l hk ht hl2 =>
    unfold rdrS at halt
    dsimp only [p00] at halt ⊢
    refine zm2 Try.func104 rfl rfl ?_
    repeat' (first | ((apply f_wo); first | ((apply f_gs); first | refine n_sk ?_) | ((apply f_mv); first | (refine zw1 ?_ ?_ <;> intro hG <;> (try cases hG)) | refine zg1 (v := .c _) ?_ | refine za ?_) | ((apply f_as); first | refine zf1 (v := .c _) ?_ | refine za ?_) | ((apply f_fa); first | refine n_fa ?_ | refine zk1 ?_) | ((apply f_ld); first | refine zp1 ?_ | refine zb1 ?_ | refine zw ?_ | refine zi1 ?_ | refine n_ld ?_) | ((apply f_bi); first | refine zd1 ?_ | refine zc1 ?_ | refine ze1 ?_ | refine za ?_) | ((apply f_st); first | refine n_st ?_ | refine zt1 ?_) | ((apply zy2); first | refine zk2 ?_ | refine zo5 ?_ | refine za ?_) | ((apply zq3); first | refine zh1 ?_ | refine za ?_) | ((apply f_pk); first | refine zu1 (v := .c _) ?_ | refine za ?_) | refine n_al ?_ | refine n_bo ?_ | refine za ?_) | ((apply f_w); first | refine zy ?_ | refine zc ?_) | refine zb fun C => ?_ | refine zn ?_ | refine ze ?_ | refine zh ?_ | refine zi ?_)
    refine zt (by rfl) (fun hC => by exfalso; simp only [decide_eq_true_iff] at hC; omega) fun hC => ?_
    repeat' (first | ((apply f_wo); first | ((apply f_gs); first | refine n_sk ?_) | ((apply f_mv); first | (refine zw1 ?_ ?_ <;> intro hG <;> (try cases hG)) | refine zg1 (v := .c _) ?_ | refine za ?_) | ((apply f_as); first | refine zf1 (v := .c _) ?_ | refine za ?_) | ((apply f_fa); first | refine n_fa ?_ | refine zk1 ?_) | ((apply f_ld); first | refine zp1 ?_ | refine zb1 ?_ | refine zw ?_ | refine zi1 ?_ | refine n_ld ?_) | ((apply f_ca); first | refine zl2 12 (halt) ?_) | ((apply f_bi); first | refine zd1 ?_ | refine zc1 ?_ | refine ze1 ?_ | refine za ?_) | ((apply f_st); first | refine n_st ?_ | refine zt1 ?_) | ((apply zy2); first | refine zk2 ?_ | refine zo5 ?_ | refine za ?_) | ((apply zq3); first | refine zh1 ?_ | refine za ?_) | ((apply f_pk); first | refine zu1 (v := .c _) ?_ | refine za ?_) | refine n_al ?_ | refine n_bo ?_ | refine za ?_) | ((apply f_w); first | refine zy ?_ | refine zc ?_) | refine zb fun C => ?_ | refine zn ?_ | refine ze ?_ | refine zh ?_ | refine zi ?_ | refine zx rfl ?_ | refine zv rfl ?_)
    refine zm4 (ze6 900 (i := 2) 141 3 rfl rfl (pre := [_, _]) (post := []) rfl) ?_
    refine zu ?_; refine ret0 rfl (ze7 (zz3 (zl3 (zu2 rfl (zu2 rfl (zk3 rfl rfl rfl (by first | exact zg _ | exact zf _ | exact bytC_clo _ | (simp [cloL, clo, zg, zf, zk, zj, zd]; done) | (simp [cloL, clo, opC, opL, zg, zf, zk, zj, zd]; done)) zs2)))) (zz3 zn2 zx5))) ⟨?_, rfl⟩
    rfl
  | false =>
    have c2 := zv12 hty (hsz rfl)
    cases hf with
    | mk k t l hk ht hl2 =>
    unfold rdrS at halt
    dsimp only [p00] at halt ⊢
    refine zm2 Try.func104 rfl rfl ?_
    repeat' (first | ((apply f_wo); first | ((apply f_gs); first | refine n_sk ?_) | ((apply f_mv); first | (refine zw1 ?_ ?_ <;> intro hG <;> (try cases hG)) | refine zg1 (v := .c _) ?_ | refine za ?_) | ((apply f_as); first | refine zf1 (v := .c _) ?_ | refine za ?_) | ((apply f_fa); first | refine n_fa ?_ | refine zk1 ?_) | ((apply f_ld); first | refine zp1 ?_ | refine zb1 ?_ | refine zw ?_ | refine zi1 ?_ | refine n_ld ?_) | ((apply f_bi); first | refine zd1 ?_ | refine zc1 ?_ | refine ze1 ?_ | refine za ?_) | ((apply f_st); first | refine n_st ?_ | refine zt1 ?_) | ((apply zy2); first | refine zk2 ?_ | refine zo5 ?_ | refine za ?_) | ((apply zq3); first | refine zh1 ?_ | refine za ?_) | ((apply f_pk); first | refine zu1 (v := .c _) ?_ | refine za ?_) | refine n_al ?_ | refine n_bo ?_ | refine za ?_) | ((apply f_w); first | refine zy ?_ | refine zc ?_) | refine zb fun C => ?_ | refine zn ?_ | refine ze ?_ | refine zh ?_ | refine zi ?_)
    refine zt (by rfl) (fun hC => by exfalso; simp only [decide_eq_true_iff] at hC; omega) fun hC => ?_
    repeat' (first | ((apply f_wo); first | ((apply f_gs); first | refine n_sk ?_) | ((apply f_mv); first | (refine zw1 ?_ ?_ <;> intro hG <;> (try cases hG)) | refine zg1 (v := .c _) ?_ | refine za ?_) | ((apply f_as); first | refine zf1 (v := .c _) ?_ | refine za ?_) | ((apply f_fa); first | refine n_fa ?_ | refine zk1 ?_) | ((apply f_ld); first | refine zp1 ?_ | refine zb1 ?_ | refine zw ?_ | refine zi1 ?_ | refine n_ld ?_) | ((apply f_ca); first | refine zl2 12 (halt) ?_ | refine zr2 (c2) ?_ | refine zp2 (c2) ?_) | ((apply f_bi); first | refine zd1 ?_ | refine zc1 ?_ | refine ze1 ?_ | refine za ?_) | ((apply f_st); first | refine n_st ?_ | refine zt1 ?_) | ((apply zy2); first | refine zk2 ?_ | refine zo5 ?_ | refine za ?_) | ((apply zq3); first | refine zh1 ?_ | refine za ?_) | ((apply f_pk); first | refine zu1 (v := .c _) ?_ | refine za ?_) | refine n_al ?_ | refine n_bo ?_ | refine za ?_) | ((apply f_w); first | refine zy ?_ | refine zc ?_) | refine zb fun C => ?_ | refine zn ?_ | refine ze ?_ | refine zh ?_ | refine zi ?_)
    · repeat' (first | ((apply f_wo); first | ((apply f_gs); first | refine n_sk ?_) | ((apply f_mv); first | (refine zw1 ?_ ?_ <;> intro hG <;> (try cases hG)) | refine zg1 (v := .c _) ?_ | refine za ?_) | ((apply f_as); first | refine zf1 (v := .c _) ?_ | refine za ?_) | ((apply f_fa); first | refine n_fa ?_ | refine zk1 ?_) | ((apply f_ld); first | refine zp1 ?_ | refine zb1 ?_ | refine zw ?_ | refine zi1 ?_ | refine n_ld ?_) | ((apply f_bi); first | refine zd1 ?_ | refine zc1 ?_ | refine ze1 ?_ | refine za ?_) | ((apply f_st); first | refine n_st ?_ | refine zt1 ?_) | ((apply zy2); first | refine zk2 ?_ | refine zo5 ?_ | refine za ?_) | ((apply zq3); first | refine zh1 ?_ | refine za ?_) | ((apply f_pk); first | refine zu1 (v := .c _) ?_ | refine za ?_) | refine n_al ?_ | refine n_bo ?_ | refine za ?_) | ((apply f_w); first | refine zy ?_ | refine zc ?_) | refine zb fun C => ?_ | refine zn ?_ | refine ze ?_ | refine zh ?_ | refine zi ?_ | refine zx rfl ?_ | refine zv rfl ?_)
      refine zm4 (ze6 900 (i := 2) 141 3 rfl rfl (pre := [_, _]) (post := []) rfl) ?_
      refine zu ?_; refine ret0 rfl (ze7 (zz3 (zl3 (zu2 rfl (zu2 rfl (zk3 rfl rfl rfl (by first | exact zg _ | exact zf _ | exact bytC_clo _ | (simp [cloL, clo, zg, zf, zk, zj, zd]; done) | (simp [cloL, clo, opC, opL, zg, zf, zk, zj, zd]; done)) zs2)))) (zz3 zn2 zx5))) ⟨?_, rfl⟩
      have hP : (true && !false && (qa == s.size) && (rexT (rexE k t l)).toList == s.toList) = false := by clear halt c2; first | (simp_all; done) | (simp_all; (try intros); omega)
      rw [hP]; rfl
    · refine zt (by rfl) (fun hC => ?_) fun hC => ?_
      · repeat' (first | ((apply f_wo); first | ((apply f_gs); first | refine n_sk ?_) | ((apply f_mv); first | (refine zw1 ?_ ?_ <;> intro hG <;> (try cases hG)) | refine zg1 (v := .c _) ?_ | refine za ?_) | ((apply f_as); first | refine zf1 (v := .c _) ?_ | refine za ?_) | ((apply f_fa); first | refine n_fa ?_ | refine zk1 ?_) | ((apply f_ld); first | refine zp1 ?_ | refine zb1 ?_ | refine zw ?_ | refine zi1 ?_ | refine n_ld ?_) | ((apply f_bi); first | refine zd1 ?_ | refine zc1 ?_ | refine ze1 ?_ | refine za ?_) | ((apply f_st); first | refine n_st ?_ | refine zt1 ?_) | ((apply zy2); first | refine zk2 ?_ | refine zo5 ?_ | refine za ?_) | ((apply zq3); first | refine zh1 ?_ | refine za ?_) | ((apply f_pk); first | refine zu1 (v := .c _) ?_ | refine za ?_) | refine n_al ?_ | refine n_bo ?_ | refine za ?_) | ((apply f_w); first | refine zy ?_ | refine zc ?_) | refine zb fun C => ?_ | refine zn ?_ | refine ze ?_ | refine zh ?_ | refine zi ?_ | refine zx rfl ?_ | refine zv rfl ?_)
        refine zm4 (ze6 900 (i := 2) 141 3 rfl rfl (pre := [_, _]) (post := []) rfl) ?_
        refine zu ?_; refine ret0 rfl (ze7 (zz3 (zl3 (zu2 rfl (zu2 rfl (zk3 rfl rfl rfl (by first | exact zg _ | exact zf _ | exact bytC_clo _ | (simp [cloL, clo, zg, zf, zk, zj, zd]; done) | (simp [cloL, clo, opC, opL, zg, zf, zk, zj, zd]; done)) zs2)))) (zz3 zn2 zx5))) ⟨?_, rfl⟩
        have hP : (true && !false && (qa == s.size) && (rexT (rexE k t l)).toList == s.toList) = false := by clear halt c2; first | (simp_all; done) | (simp_all; (try intros); omega)
        rw [hP]; rfl
      · repeat' (first | ((apply f_wo); first | ((apply f_gs); first | refine n_sk ?_) | ((apply f_mv); first | (refine zw1 ?_ ?_ <;> intro hG <;> (try cases hG)) | refine zg1 (v := .c _) ?_ | refine za ?_) | ((apply f_as); first | refine zf1 (v := .c _) ?_ | refine za ?_) | ((apply f_fa); first | refine n_fa ?_ | refine zk1 ?_) | ((apply f_ld); first | refine zp1 ?_ | refine zb1 ?_ | refine zw ?_ | refine zi1 ?_ | refine n_ld ?_) | ((apply f_bi); first | refine zd1 ?_ | refine zc1 ?_ | refine ze1 ?_ | refine za ?_) | ((apply f_st); first | refine n_st ?_ | refine zt1 ?_) | ((apply zy2); first | refine zk2 ?_ | refine zo5 ?_ | refine za ?_) | ((apply zq3); first | refine zh1 ?_ | refine za ?_) | ((apply f_pk); first | refine zu1 (v := .c _) ?_ | refine za ?_) | refine n_al ?_ | refine n_bo ?_ | refine za ?_) | ((apply f_w); first | refine zy ?_ | refine zc ?_) | refine zb fun C => ?_ | refine zn ?_ | refine ze ?_ | refine zh ?_ | refine zi ?_ | refine zx rfl ?_ | refine zv rfl ?_)
        refine zu ?_; refine ret0 rfl (ze7 (zz3 (zl3 (zu2 rfl (zu2 rfl (zk3 rfl rfl rfl (by first | exact zg _ | exact zf _ | exact bytC_clo _ | (simp [cloL, clo, zg, zf, zk, zj, zd]; done) | (simp [cloL, clo, opC, opL, zg, zf, zk, zj, zd]; done)) zs2)))) (zz3 zn2 zx5))) ⟨?_, rfl⟩
        have hP : (true && !false && (qa == s.size) && (rexT (rexE k t l)).toList == s.toList) = true := by clear halt c2; first | (simp_all; done) | (simp_all; (try intros); omega)
        rw [hP]; rfl
theorem zl6 {e : E} (h : e.Ty Try.prog 171) : ∃ (x0 : Int) (x1 : Int), e = (E.agg [.int .i64 x0, .int .i64 x1]) ∧ ((Lit.int .i64 x0).wf = true) ∧ ((Lit.int .i64 x1).wf = true) ∧ True := by
  obtain ⟨fs, rfl, q0⟩ := h.agg_ Try.underlying171
  change E.TyF _ _ [3, 3] at q0
  obtain ⟨e0, r0, rfl, h0, q1⟩ := q0.cons_
  obtain ⟨e1, r1, rfl, h1, q2⟩ := q1.cons_
  obtain rfl := q2.nil_
  obtain ⟨x0, rfl, gx0⟩ := h0.int_ Try.underlying3
  obtain ⟨x1, rfl, gx1⟩ := h1.int_ Try.underlying3
  exact ⟨x0, x1, rfl, gx0, gx1, trivial⟩
theorem zs4 {e : E} (h : e.Ty Try.prog 111) : ∃ (x0 : Int) (x1 : Int), e = (E.agg [.int .i64 x0, .int .i64 x1]) ∧ ((Lit.int .i64 x0).wf = true) ∧ ((Lit.int .i64 x1).wf = true) ∧ True := by
  obtain ⟨fs, rfl, q0⟩ := h.agg_ Try.underlying111
  change E.TyF _ _ [3, 3] at q0
  obtain ⟨e0, r0, rfl, h0, q1⟩ := q0.cons_
  obtain ⟨e1, r1, rfl, h1, q2⟩ := q1.cons_
  obtain rfl := q2.nil_
  obtain ⟨x0, rfl, gx0⟩ := h0.int_ Try.underlying3
  obtain ⟨x1, rfl, gx1⟩ := h1.int_ Try.underlying3
  exact ⟨x0, x1, rfl, gx0, gx1, trivial⟩
set_option maxRecDepth 100000 in
set_option maxHeartbeats 1000000 in
theorem szInsS_all' (A : Option Addr) (c : Nat) (l : List E) (ht : ∀ y ∈ l, y.Ty Try.prog 171) : Sz 119 (.lst 2 171 A c l) := by
  intro left w hr h0 h1
  have hs := hr.sl
  have hlen := hs.len_le
  have HSZ : Hid ((E.lst 2 171 A c l).sz = l.length + E.szL l) := rfl
  change Calls _ _ #[.slice A l.length c, .int .i64 left] w _
  have hz0 : E.szL l = 0 := E.szL_zero fun y hy => by
    obtain ⟨y0, y1, rfl, gy0, gy1, -⟩ := zl6 (ht y hy)
    rfl
  have HZ0 := Lib.hid hz0
  clear hz0
  go_enter Try.func119, Try.ntmps119
  by_cases hn : left - l.length < 0
  · go_wp2
    go_ret
    exact ⟨-1, rfl, .inl (by omega), by omega, by exact (by repeat (first | (with_reducible refine Below.setCell ?_ (by first | omega | (· simp) | (· (simp; omega))) _) | (with_reducible refine Below.alloc ?_ (by first | omega | (· simp) | (· (simp; omega))) _) | (with_reducible refine Below.drew ?_) | (with_reducible refine zx2 ?_ _) | (with_reducible exact Below.refl _ _) | (with_reducible assumption) | (with_reducible refine Below.trans ?_ (Below.mono (by assumption) (by first | omega | (· simp) | (· (simp; omega))))) | (with_reducible refine Below.trans ?_ (Kp.below (by assumption) (by first | omega | (· simp) | (· (simp; omega))) (by first | omega | (· simp) | (· (simp; omega)))))))⟩
  go_wp2
  go_ret
  refine ⟨_, rfl, .inr ?_, by omega, by exact (by repeat (first | (with_reducible refine Below.setCell ?_ (by first | omega | (· simp) | (· (simp; omega))) _) | (with_reducible refine Below.alloc ?_ (by first | omega | (· simp) | (· (simp; omega))) _) | (with_reducible refine Below.drew ?_) | (with_reducible refine zx2 ?_ _) | (with_reducible exact Below.refl _ _) | (with_reducible assumption) | (with_reducible refine Below.trans ?_ (Below.mono (by assumption) (by first | omega | (· simp) | (· (simp; omega))))) | (with_reducible refine Below.trans ?_ (Kp.below (by assumption) (by first | omega | (· simp) | (· (simp; omega))) (by first | omega | (· simp) | (· (simp; omega)))))))⟩
  show _ = _
  rw [HSZ.out, HZ0.out]
  push_cast
  omega
theorem zx17 {e : E} (ht : e.Ty Try.prog 136) : Sz 119 e := by
  obtain ⟨A, c, l, rfl, h1, _⟩ := ht.lst_ Try.underlying136 (k := 2) (by kernel_rfl)
  exact szInsS_all' A c l h1
set_option maxRecDepth 100000 in
set_option maxHeartbeats 1000000 in
theorem zt21 {e : E} (ht : e.Ty Try.prog 171) : To 132 111 e := by
  have HT0 := Lib.hid ht
  obtain ⟨x0, x1, rfl, gx0, gx1, -⟩ := zl6 ht
  intro w hr hsz
  have hsz' : (0 + (0 + 0)) ≤ 1048576 := hsz
  clear hsz hsz'
  change Calls _ _ #[.agg #[.int .i64 x0, .int .i64 x1]] w _
  go_enter Try.func132, Try.ntmps132
  go_wp2
  refine bodyPost_ret (v := .agg #[.int .i64 x0, .int .i64 x1]) (by simp [results, Try.results132, go_sem]) rfl ⟨(E.agg [.int .i64 x0, .int .i64 x1]), rfl, rfl, E.Ty.mk_agg Try.underlying111 (E.TyF.mk_cons (show E.Ty _ _ _ from ⟨Try.underlying3, gx0⟩) (E.TyF.mk_cons (show E.Ty _ _ _ from ⟨Try.underlying3, gx1⟩) (E.TyF.mk_nil))), ?_, ?_, by exact (by repeat (first | (with_reducible refine Below.setCell ?_ (by first | omega | (· simp) | (· (simp; omega))) _) | (with_reducible refine Below.alloc ?_ (by first | omega | (· simp) | (· (simp; omega))) _) | (with_reducible refine Below.drew ?_) | (with_reducible refine zx2 ?_ _) | (with_reducible exact Below.refl _ _) | (with_reducible assumption) | (with_reducible refine Below.trans ?_ (Below.mono (by assumption) (by first | omega | (· simp) | (· (simp; omega))))) | (with_reducible refine Below.trans ?_ (Kp.below (by assumption) (by first | omega | (· simp) | (· (simp; omega))) (by first | omega | (· simp) | (· (simp; omega)))))))⟩
  · simp [E.Ho, E.HoL]
  · simp [E.fp, E.fpL]
theorem einfoIns : (Try.prog.info? 111).map (fun i => (i.zero, i.size, i.bytes)) = some (some (.agg #[.int .i64 0, .int .i64 0]), 2, 16) := by kernel_rfl
set_option maxRecDepth 100000 in
set_option maxHeartbeats 1000000 in
theorem toInsS_all' (A : Option Addr) (c : Nat) (l : List E) (h1 : ∀ y ∈ l, y.Ty Try.prog 171) : To 123 101 (.lst 2 171 A c l) := by
  intro w hr hsz
  have hs := hr.sl
  have eS : (E.lst 2 171 A c l).sz = l.length + E.szL l := rfl
  have hn : l.length ≤ 1048576 := by omega
  have HS := Lib.hid (show l.length + E.szL l ≤ 1048576 by omega)
  clear eS hsz
  have hmk := zi22 Try.underlying101 einfoIns l.length (by omega) (by omega)
  have hF := Fill.new w 111 #[.int .i64 0, .int .i64 0] (l.length * 2) ([] : List Value)
  change Calls _ _ #[.slice A l.length c] w _
  go_enter Try.func123, Try.ntmps123
  go_wp2
  go_loopw [4] (fun i wr => ∃ (k : Nat) (us : List E), k ≤ l.length ∧ i = .int .i64 k ∧ Hid (us.length = k) ∧ Hid (us.map E.d = (l.take k).map E.d) ∧ Hid (∀ u ∈ us, u.Ty Try.prog 111 ∧ u.enc.length = 2) ∧ Fill wr w.heap.size 111 (l.length * 2) (k * 2) (E.encL us) ∧ w.heap.size + 1 ≤ wr.heap.size ∧ Hid (∀ u ∈ us, u.Ho wr (w.heap.size + 1) wr.heap.size) ∧ Hid ((E.fpL us).Nodup) ∧ Below w.heap.size w wr) (fun i _ => l.length - (intOf i).toNat)
  case atStart => exact ⟨0, [], Nat.zero_le _, rfl, rfl, rfl, (fun u hu => absurd hu List.not_mem_nil), by exact hF, by simp, (fun u hu => absurd hu List.not_mem_nil), (by show List.Nodup _; simp [E.fpL]), by exact (by repeat (first | (with_reducible refine Below.setCell ?_ (by first | omega | (· simp) | (· (simp; omega))) _) | (with_reducible refine Below.alloc ?_ (by first | omega | (· simp) | (· (simp; omega))) _) | (with_reducible refine Below.drew ?_) | (with_reducible refine zx2 ?_ _) | (with_reducible exact Below.refl _ _) | (with_reducible assumption) | (with_reducible refine Below.trans ?_ (Below.mono (by assumption) (by first | omega | (· simp) | (· (simp; omega))))) | (with_reducible refine Below.trans ?_ (Kp.below (by assumption) (by first | omega | (· simp) | (· (simp; omega))) (by first | omega | (· simp) | (· (simp; omega)))))))⟩
  case round =>
    obtain ⟨k, us, hk, rfl, HL, HD, HT, hf, hge, HO, HN, hb⟩ := hrel
    by_cases hlt : k < l.length
    · have hs' := hs.below hb (Nat.le_refl _)
      have hzb := hb.size
      have hmem := List.getElem_mem hlt
      have hin := (hr.el hmem).below hb (Nat.le_refl _)
      have H := zt21 (h1 _ hmem)
      have hsk : l[k].sz ≤ 1048576 := by have := E.szL_mem hmem; have := HS.out; omega
      obtain ⟨b, o, rfl, _, hc⟩ := hs'.at_ hlt
      obtain ⟨y0, y1, ex, gy0, gy1, -⟩ := zl6 (h1 _ hmem)
      have HEX := Lib.hid ex
      rw [ex] at hc hin H hsk
      clear ex
      have c0 := hc 0 _ rfl; have c1 := hc 1 _ rfl
      rw [Nat.add_zero] at c0
      clear hc
      have HF := Lib.hid hf
      clear hf
      go_wp2_with fail
      go_at_call 132
      refine (H _ hin hsk).mono ?_; rintro e w1 ⟨x, he, HDX, htx, hox, hnx, hb1⟩
      have HTX := Lib.hid htx
      obtain ⟨z0, z1, rfl, gz0, gz1, -⟩ := zs4 htx
      obtain rfl : e = .returned (.agg #[.int .i64 z0, .int .i64 z1]) := he
      have hf1 := HF.out.below hb1 HF.out.lt
      obtain ⟨u0, c0'⟩ := hf1.cell (j := k * 2) (by omega); obtain ⟨u1, c1'⟩ := hf1.cell (j := k * 2 + 1) (by omega)
      have zfr := hf1.frozen
      have hz1 := hb1.size
      have HOX := Lib.hid hox
      have HNX := Lib.hid hnx
      have HF1 := Lib.hid hf1
      clear hox hnx hf1 htx
      go_wp2
      go_roundw
      case rel =>
        have hl := HL.out
        have hf1 := HF1.out
        have hT : ∀ u ∈ us ++ [(E.agg [.int .i64 z0, .int .i64 z1])], u.Ty Try.prog 111 ∧ u.enc.length = 2 := fun u hu => by
          rcases List.mem_append.1 hu with hu | hu
          · exact HT.out u hu
          · obtain rfl := List.mem_singleton.1 hu
            exact ⟨HTX.out, rfl⟩
        have hlen := E.encL_len fun u hu => (HT.out u hu).2
        have hk2 : k < (us ++ [(E.agg [.int .i64 z0, .int .i64 z1])]).length := by simp; omega
        have ev := fun j hj => E.encL_at (fun u hu => (hT u hu).2) k hk2 j hj
        have eT : (us ++ [(E.agg [.int .i64 z0, .int .i64 z1])])[k] = (E.agg [.int .i64 z0, .int .i64 z1]) := by rw [List.getElem_append_right (by omega)]; simp [hl]
        simp only [eT] at ev
        have hf2 : Fill w1 w.heap.size 111 (l.length * 2) (k * 2) (E.encL (us ++ [(E.agg [.int .i64 z0, .int .i64 z1])])) := hf1.swap' fun j hj => E.encL_app_lt us _ j (by rw [hlen, hl]; exact hj)
        have K := fun (W : World) (h : Kp w.heap.size (w.heap.size + 1) w1 W) (u : E) (hu : u ∈ us) => ((HO.out u hu).below hb1 (Nat.le_refl _)).kp h (.inr (by omega))
        refine ⟨k + 1, us ++ [(E.agg [.int .i64 z0, .int .i64 z1])], by omega, by go_num, by show _ = _; simp [hl], zl18 hlt HD.out (HDX.out.trans (by rw [← HEX.out])), hT, by rw [Nat.add_mul]; exact ((hf2.set (by omega) (ev 0 (by omega))).set (by omega) (ev 1 (by omega))), by simp; omega, ?_, ?_, by exact (by repeat (first | (with_reducible refine Below.setCell ?_ (by first | omega | (· simp) | (· (simp; omega))) _) | (with_reducible refine Below.alloc ?_ (by first | omega | (· simp) | (· (simp; omega))) _) | (with_reducible refine Below.drew ?_) | (with_reducible refine zx2 ?_ _) | (with_reducible exact Below.refl _ _) | (with_reducible assumption) | (with_reducible refine Below.trans ?_ (Below.mono (by assumption) (by first | omega | (· simp) | (· (simp; omega))))) | (with_reducible refine Below.trans ?_ (Kp.below (by assumption) (by first | omega | (· simp) | (· (simp; omega))) (by first | omega | (· simp) | (· (simp; omega)))))))⟩
        · intro u hu
          rcases List.mem_append.1 hu with hu | hu
          · exact (K _ (by repeat (first | (with_reducible exact Kp.refl _ _ _) | (refine Kp.set ?_ (by first | omega | (dsimp only; omega) | (simp; omega)) (by first | omega | (dsimp only; omega) | (simp; omega)) _))) u hu).wider (Nat.le_refl _) (by simp; omega)
          · obtain rfl := List.mem_singleton.1 hu
            exact (HOX.out.kp (lo' := w.heap.size) (hi' := w.heap.size + 1) (by repeat (first | (with_reducible exact Kp.refl _ _ _) | (refine Kp.set ?_ (by first | omega | (dsimp only; omega) | (simp; omega)) (by first | omega | (dsimp only; omega) | (simp; omega)) _))) (.inr (by omega))).wider (by omega) (by simp)
        · refine zb8 HN.out HNX.out fun g hg hg2 => ?_
          obtain ⟨u, hu, hg⟩ := E.mem_fpL.1 hg
          have := (HO.out u hu).lt g hg
          have := HOX.out.lt g hg2
          omega
      case measure => simp [intOf]; omega
    · have hk' : k = l.length := by omega
      subst hk'
      go_wp2
      go_ret
      have hl := HL.out
      have hTy := HT.out
      have own : wr.ownsRow w.heap.size 111 2 (.slice (some ⟨w.heap.size, 0, none⟩) l.length l.length) l.length (E.encL us) := hf.owns (Nat.le_refl _) rfl (by rw [E.encL_len fun u hu => (hTy u hu).2, hl]) (by unfold maxLen; omega)
      rw [← hl] at own
      refine ⟨.lst 2 111 (some ⟨w.heap.size, 0, none⟩) us.length us, by rw [← hl]; rfl, ?_, E.Ty.mk_lst Try.underlying101 (by kernel_rfl) (fun u hu => (hTy u hu).1) (fun u hu => (hTy u hu).2), E.Ho.mk (Ow.of_owns own (Nat.le_refl _)) (fun u hu => (hTy u hu).2) (fun u hu => (HO.out u hu).wider (by omega) (Nat.le_refl _)), ?_, hb⟩
      · show E.d _ = E.d _
        rw [zz12]
        have h := HD.out
        rwa [List.take_length] at h
      · simp only [E.fp, List.singleton_append, List.nodup_cons]
        refine ⟨fun hm => ?_, HN.out⟩
        obtain ⟨u, hu, hg⟩ := E.mem_fpL.1 hm
        have := (HO.out u hu).lt _ hg
        omega
theorem zy17 {e : E} (ht : e.Ty Try.prog 136) : To 123 101 e := by
  obtain ⟨A, c, l, rfl, h1, _⟩ := ht.lst_ Try.underlying136 (k := 2) (by kernel_rfl)
  exact toInsS_all' A c l h1
set_option maxRecDepth 100000 in
set_option maxHeartbeats 1000000 in
theorem zu21 {e e' : E} (ht : e.Ty Try.prog 111) (ht' : e'.Ty Try.prog 111) : Eq 137 e e' := by
  obtain ⟨x0, x1, rfl, gx0, gx1, -⟩ := zs4 ht
  obtain ⟨y0, y1, rfl, gy0, gy1, -⟩ := zs4 ht'
  intro hd w hr hr'
  simp only [E.d, E.dL, E.agg.injEq, List.cons.injEq, E.int.injEq, E.str.injEq, E.bool.injEq, E.lst.injEq, true_and, and_true] at hd
  obtain ⟨rfl, rfl⟩ := hd
  change Calls _ _ #[.agg #[.int .i64 x0, .int .i64 x1], .agg #[.int .i64 x0, .int .i64 x1]] w _
  go_enter Try.func137, Try.ntmps137
  go_wp2
  go_ret
  exact ⟨rfl, (by repeat (first | (with_reducible refine Below.setCell ?_ (by first | omega | (· simp) | (· (simp; omega))) _) | (with_reducible refine Below.alloc ?_ (by first | omega | (· simp) | (· (simp; omega))) _) | (with_reducible refine Below.drew ?_) | (with_reducible refine zx2 ?_ _) | (with_reducible exact Below.refl _ _) | (with_reducible assumption) | (with_reducible refine Below.trans ?_ (Below.mono (by assumption) (by first | omega | (· simp) | (· (simp; omega))))) | (with_reducible refine Below.trans ?_ (Kp.below (by assumption) (by first | omega | (· simp) | (· (simp; omega))) (by first | omega | (· simp) | (· (simp; omega)))))))⟩
set_option maxRecDepth 100000 in
set_option maxHeartbeats 1000000 in
theorem eqInsS_all' (A B : Option Addr) (c c' : Nat) (l m : List E) (h1 : ∀ y ∈ l, y.Ty Try.prog 111) (h2 : ∀ y ∈ m, y.Ty Try.prog 111) : Eq 127 (.lst 2 111 A c l) (.lst 2 111 B c' m) := by
  intro hd w hr hr'
  rw [zz12] at hd
  have hs := hr.sl
  have hs' := hr'.sl
  have hml := zk22 hd
  have HD := Lib.hid hd
  clear hd
  have hlen := hs.len_le
  change Calls _ _ #[.slice A l.length c, .slice B m.length c'] w _
  obtain ⟨N, HN⟩ : ∃ N, Hid (m.length = N) := ⟨_, rfl⟩
  have hN : N = l.length := by have := HN.out; omega
  subst hN
  rw [HN.out]
  clear hml
  go_enter Try.func127, Try.ntmps127
  go_wp2
  go_loopw [5] (fun i wr => ∃ (k : Nat), k ≤ l.length ∧ i = .int .i64 k ∧ Below w.heap.size w wr) (fun i _ => l.length - (intOf i).toNat)
  case atStart => exact ⟨0, Nat.zero_le _, rfl, Below.refl _ _⟩
  case round =>
    obtain ⟨k, hk, rfl, hb⟩ := hrel
    by_cases hlt : k < l.length
    · have hltm : k < m.length := by have := HN.out; omega
      have hsb := hs.below hb (Nat.le_refl _)
      have hsb' := hs'.below hb (Nat.le_refl _)
      have hdk := d_at HD.out hlt hltm
      obtain ⟨b, o, rfl, _, hc⟩ := hsb.at_ hlt
      obtain ⟨b', o', rfl, _, hd⟩ := hsb'.at_ hltm
      have hin := (hr.el (List.getElem_mem hlt)).below hb (Nat.le_refl _)
      have hin' := (hr'.el (List.getElem_mem hltm)).below hb (Nat.le_refl _)
      have H := zu21 (h1 _ (List.getElem_mem hlt)) (h2 _ (List.getElem_mem hltm)) hdk
      obtain ⟨x0, x1, ex, gx0, gx1, -⟩ := zs4 (h1 _ (List.getElem_mem hlt))
      obtain ⟨y0, y1, ey, gy0, gy1, -⟩ := zs4 (h2 _ (List.getElem_mem hltm))
      rw [ex] at hc hin
      rw [ey] at hd hin'
      rw [ex, ey] at H
      clear ex ey hdk
      have c0 := hc 0 _ rfl; have c1 := hc 1 _ rfl
      have d0 := hd 0 _ rfl; have d1 := hd 1 _ rfl
      rw [Nat.add_zero] at c0 d0
      clear hc hd
      have hzb := hb.size
      have HH := Lib.hid H
      clear H
      go_wp2
      go_region_held3 (fun w' => w'.cell? ⟨b, o + k * 2, none⟩ = some (.int .i64 x0) ∧ w'.cell? ⟨b, o + k * 2 + 1, none⟩ = some (.int .i64 x1) ∧ w'.cell? ⟨b', o' + k * 2, none⟩ = some (.int .i64 y0) ∧ w'.cell? ⟨b', o' + k * 2 + 1, none⟩ = some (.int .i64 y1))
        (first | exact ⟨c0, c1, d0, d1⟩ | skip)
        ((go_at_call 137; refine (HH.out _ (by repeat (first | (with_reducible assumption) | (with_reducible refine E.In.drew ?_) | (with_reducible refine E.In.drewN ?_ _) | (with_reducible refine E.In.alloc ?_ _) | (refine E.In.below ?_ (by with_reducible assumption) ?_) | omega | (· simp) | (· (simp; omega)))) (by repeat (first | (with_reducible assumption) | (with_reducible refine E.In.drew ?_) | (with_reducible refine E.In.drewN ?_ _) | (with_reducible refine E.In.alloc ?_ _) | (refine E.In.below ?_ (by with_reducible assumption) ?_) | omega | (· simp) | (· (simp; omega))))).mono ?_; rintro e w1 ⟨rfl, hb1⟩; have c0 := zf2 hb1 c0 (by first | omega | (· simp) | (· (simp; omega))); have c1 := zf2 hb1 c1 (by first | omega | (· simp) | (· (simp; omega))); have d0 := zf2 hb1 d0 (by first | omega | (· simp) | (· (simp; omega))); have d1 := zf2 hb1 d1 (by first | omega | (· simp) | (· (simp; omega)))))
      go_wp2
      go_roundw
      case rel => exact ⟨k + 1, by omega, by go_num, by exact (by repeat (first | (with_reducible refine Below.setCell ?_ (by first | omega | (· simp) | (· (simp; omega))) _) | (with_reducible refine Below.alloc ?_ (by first | omega | (· simp) | (· (simp; omega))) _) | (with_reducible refine Below.drew ?_) | (with_reducible refine zx2 ?_ _) | (with_reducible exact Below.refl _ _) | (with_reducible assumption) | (with_reducible refine Below.trans ?_ (Below.mono (by assumption) (by first | omega | (· simp) | (· (simp; omega))))) | (with_reducible refine Below.trans ?_ (Kp.below (by assumption) (by first | omega | (· simp) | (· (simp; omega))) (by first | omega | (· simp) | (· (simp; omega)))))))⟩
      case measure => simp [intOf]; omega
    · go_wp2
      go_ret
      exact ⟨rfl, hb⟩
theorem zz17 {e e' : E} (ht : e.Ty Try.prog 101) (ht' : e'.Ty Try.prog 101) : Eq 127 e e' := by
  obtain ⟨A, c, l, rfl, h1, _⟩ := ht.lst_ Try.underlying101 (k := 2) (by kernel_rfl)
  obtain ⟨B, c', m, rfl, h2, _⟩ := ht'.lst_ Try.underlying101 (k := 2) (by kernel_rfl)
  exact eqInsS_all' A B c c' l m h1 h2
def hasNum (x : Int) : Bool := [2,3,4,5,6,7,13,16,17,18,19,20,21,24,25,32,34,36].any fun y => x == y
theorem zr15 (x : Int) : Ctr Try.prog 112 [.c (.v (.int .i64 x))] [] (.c (.v (.bool (hasNum x)))) [] := by
  refine zm2 Try.func112 rfl rfl ?_
  repeat' (first | refine zn ?_ | refine ze ?_ | refine zh ?_ | refine zi ?_ | refine zb fun C => ?_ | refine zp (by kernel_rfl) (by kernel_rfl) fun C => ?_ | refine zc ?_ | (refine x_gm ?_ ?_ <;> intro hG <;> (try cases hG)) | refine zr3 ?_ | refine x_bs ?_ | refine x_gr ?_ | refine x_st ?_ | refine x_mv ?_ | refine x_sk ?_ | refine ze4 ?_ | refine x_ix ?_ | refine zf4 ?_ | refine zg4 ?_ | refine zu3 ?_ | refine zv2 ?_ | refine x_ld ?_ | refine zf15 ?_ | (refine zt3 (by rfl) ?_ ?_ <;> intro hC <;> (try cases hC)))
  all_goals first
    | (exfalso; simp_all; done)
    | (refine zu ?_
       refine ret0 rfl zn2 ⟨?_, rfl⟩
       refine congrArg (fun s => AV.c (AC.v (Value.bool s))) ?_
       simp at *
       simp [hasNum, *]; done)
    | skip
theorem l17Has_c (x : Int) : Ctr Try.prog 122 [.c (.v (.int .i64 x))] [] (.c (.v (.bool (hasNum x)))) [] := by
  refine zm2 Try.func122 rfl rfl ?_
  repeat' (first | refine zn ?_ | refine ze ?_ | refine zh ?_ | refine zi ?_ | refine zb fun C => ?_ | refine zp (by kernel_rfl) (by kernel_rfl) fun C => ?_ | refine zc ?_ | (refine x_gm ?_ ?_ <;> intro hG <;> (try cases hG)) | refine zr3 ?_ | refine x_bs ?_ | refine x_gr ?_ | refine x_st ?_ | refine x_mv ?_ | refine x_sk ?_ | refine ze4 ?_ | refine x_ix ?_ | refine zf4 ?_ | refine zg4 ?_ | refine zu3 ?_ | refine zv2 ?_ | refine x_ld ?_ | refine zf15 ?_ | (refine zt3 (by rfl) ?_ ?_ <;> intro hC <;> (try cases hC)))
  all_goals first
    | (exfalso; simp_all; done)
    | (refine zu ?_
       refine ret0 rfl zn2 ⟨?_, rfl⟩
       refine congrArg (fun s => AV.c (AC.v (Value.bool s))) ?_
       simp at *
       simp [hasNum, *]; done)
    | skip
def insOkS (x n : Int) : Bool :=
  if inR x 1 41 && inR n 0 10000 then (if x == 7 then decide (n ≤ 11) else if x == 13 then decide (n ≤ 1) else if x == 34 then inR n 1 5 else hasNum x || n == 0) else false
def insOkJ (x n : Int) : Bool :=
  if !inR x 1 41 || !hasNum x then inR x 1 41 && n == 0 else if x == 7 then inR n 0 11 else if x == 13 then inR n 0 1 else if x == 34 then inR n 1 5 else inR n 0 10000
theorem za18 (x n : Int) : insOkJ x n = insOkS x n := by
  have hb : hasNum 7 = true ∧ hasNum 13 = true ∧ hasNum 34 = true := by decide
  unfold insOkJ insOkS inR
  rw [Bool.eq_iff_iff]
  by_cases e1 : x = 7
  · subst e1; simp [hb.1]; omega
  by_cases e2 : x = 13
  · subst e2; simp [hb.2.1]; omega
  by_cases e3 : x = 34
  · subst e3; simp [hb.2.2]; omega
  cases hh : hasNum x
  · simp [e1, e2, e3]; omega
  · simp [e1, e2, e3]
    split <;> omega
set_option maxHeartbeats 1000000 in
theorem zr10 (x n : Int) : Ctr Try.prog 77 [.ag [.v (.int .i64 x), .v (.int .i64 n)]] [] (.c (.v (.bool (insOkS x n)))) [] := by
  rw [← za18]
  refine zm2 Try.func77 rfl rfl ?_
  repeat' (first | refine zn ?_ | refine ze ?_ | refine zh ?_ | refine zi ?_ | refine zb fun C => ?_ | refine zp (by kernel_rfl) (by kernel_rfl) fun C => ?_ | refine zc ?_ | (refine x_gm ?_ ?_ <;> intro hG <;> (try cases hG)) | refine zr3 ?_ | refine x_bs ?_ | refine x_gr ?_ | refine x_st ?_ | refine x_mv ?_ | refine x_sk ?_ | refine ze4 ?_ | refine x_ix ?_ | refine zf4 ?_ | refine zg4 ?_ | refine zu3 ?_ | refine zv2 ?_ | refine x_ld ?_ | refine zu6 (zr15 _) ?_ | refine zu6 (zs5 _ _ _) ?_ | (refine zt3 (by rfl) ?_ ?_ <;> intro hC <;> (try cases hC)))
  all_goals first
    | (exfalso; simp_all; done)
    | (refine zu ?_
       refine ret0 rfl zn2 ⟨?_, rfl⟩
       refine congrArg (fun s => AV.c (AC.v (Value.bool s))) ?_
       simp_all [insOkJ]; done)
set_option maxHeartbeats 1000000 in
theorem zs10 (x n : Int) : Ctr Try.prog 105 [.ag [.v (.int .i64 x), .v (.int .i64 n)]] [] (.c (.v (.bool (insOkS x n)))) [] := by
  refine zm2 Try.func105 rfl rfl ?_
  repeat' (first | refine zn ?_ | refine ze ?_ | refine zh ?_ | refine zi ?_ | refine zb fun C => ?_ | refine zp (by kernel_rfl) (by kernel_rfl) fun C => ?_ | refine zc ?_ | (refine x_gm ?_ ?_ <;> intro hG <;> (try cases hG)) | refine zr3 ?_ | refine x_bs ?_ | refine x_gr ?_ | refine x_st ?_ | refine x_mv ?_ | refine x_sk ?_ | refine ze4 ?_ | refine x_ix ?_ | refine zf4 ?_ | refine zg4 ?_ | refine zu3 ?_ | refine zv2 ?_ | refine x_ld ?_ | refine zu6 (l17Has_c _) ?_ | refine zu6 (zk6 _ _ _) ?_ | (refine zt3 (by rfl) ?_ ?_ <;> intro hC <;> (try cases hC)))
  all_goals first
    | (exfalso; simp_all; done)
    | (refine zu ?_
       refine ret0 rfl zn2 ⟨?_, rfl⟩
       refine congrArg (fun s => AV.c (AC.v (Value.bool s))) ?_
       simp_all [insOkS]; done)
end Go.Proofs.Ytghljnfbbaklnaa
namespace Go.Proofs.Ytghljnfbbaklnaa
open Go.RowKit
end Go.Proofs.Ytghljnfbbaklnaa
namespace Go.Proofs.Ytghljnfbbaklnaa
open Go.RowKit
structure GVal where
  k : Int
  n : Int
  s : ByteArray
structure GCell where
  refs : Int
  v : GVal
end Go.Proofs.Ytghljnfbbaklnaa
namespace Go.Proofs.Ytghljnfbbaklnaa
open Go.RowKit
end Go.Proofs.Ytghljnfbbaklnaa
namespace Go.Proofs.Ytghljnfbbaklnaa
open Go.RowKit
end Go.Proofs.Ytghljnfbbaklnaa
