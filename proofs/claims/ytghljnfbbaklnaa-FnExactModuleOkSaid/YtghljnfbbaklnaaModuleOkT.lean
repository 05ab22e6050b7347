/- The program's reader of regular expressions: rows of items: by the abstract machine. -/
import Derived.Test.YtghljnfbbaklnaaModuleOkS
namespace Go.Proofs.Ytghljnfbbaklnaa
open Go.RowKit
set_option maxRecDepth 100000
theorem zp15 {s : ByteArray} {item : PS → E × PS} {p : PS} (h : goI s p = false) : ∀ (n : Nat) (l : List E), catLoopI s item n l p = (l, p)
  | 0, _ => rfl
  | n + 1, l => by unfold catLoopI; rw [if_neg (by rw [h]; simp)]
theorem zj14 {s : ByteArray} {a d v : Nat} {b : Bool} (hv : bAt s a = v) : goI s ⟨a, d, b⟩ = (!b && !(v == 0) && !(v == 124) && !(v == 41)) := by unfold goI; rw [hv]
set_option maxHeartbeats 8000000 in
theorem cat_c {s : ByteArray} (hs : s.size ≤ 1048576) {item : PS → E × PS} {p0 : PS} (hp : p0.a ≤ s.size) (hd : p0.d ≤ 1048577)
    (hg : ∀ q, q.a < s.size → q.d = p0.d → p0.a ≤ q.a → Good s q (item q) 1 1 0)
    (hi : ∀ q, q.a < s.size → q.d = p0.d → p0.a ≤ q.a → Ctr Try.prog 143 [.c (.pt 0 0)] [rdrI s q] (.ag (owE (item q).1)) [rdrI s (item q).2]) :
    Ctr Try.prog 133 [.c (.pt 0 0)] [rdrI s p0] (.ag (owE (catI s item p0).1)) [rdrI s (catI s item p0).2] := by
  refine zm2 Try.func133 rfl rfl ?_
  repeat' (first | ((apply f_wo); first | ((apply f_gs); first | refine n_sk ?_) | ((apply f_mv); first | (refine zw1 ?_ ?_ <;> intro hG <;> (try cases hG)) | refine zg1 (v := .c _) ?_ | refine za ?_) | ((apply f_as); first | refine zf1 (v := .c _) ?_ | refine za ?_) | ((apply f_fa); first | refine n_fa ?_ | refine zk1 ?_) | ((apply f_ld); first | refine zp1 ?_ | refine zb1 ?_ | refine zw ?_ | refine zi1 ?_ | refine n_ld ?_) | ((apply f_bi); first | refine zd1 ?_ | refine zc1 ?_ | refine ze1 ?_ | refine zq2 ?_ | refine zq2 (hnu := zl _) ?_ | refine zv1 ?_ | refine zv1 (hnu := zl _) ?_ | refine za ?_) | ((apply f_st); first | refine n_st ?_ | refine zt1 ?_) | ((apply f_ia); first | refine n_ix ?_ | refine zc2 ?_ | refine za ?_) | ((apply zz1); first | refine za1 ?_ | refine za ?_) | ((apply zy2); first | refine zy1 ?_ | refine za ?_) | ((apply f_no); first | refine zj2 ?_ | refine za ?_) | ((apply f_pk); first | refine zu1 (v := .c _) ?_ | refine za ?_) | refine n_al ?_ | refine n_bs ?_ | refine za ?_) | ((apply f_w); first | refine zy ?_ | refine zc ?_) | refine zb fun C => ?_ | refine zn ?_ | refine ze ?_ | refine zh ?_ | refine zi ?_)
  refine zp3 (fun q : List E × PS => ⟨tmsF [(0, .c (.pt 0 0)), (2, .c (.pt 2 0)), (3, .c (.sl 9 q.1.length))], hpsF [(0, 0, ⟨0, 0, 0, true, rdrI s q.2⟩), (2, 2, ⟨141, 0, 0, true, [.v (.int .i64 0), .v (.string ByteArray.empty), .v (.slice none 0 0)]⟩), (9, 9, ⟨141, 3, q.1.length, false, owL q.1⟩)], 1, [0, 2, 9], 44⟩)
    (fun N q => GoodL s p0 q.1 q.2 0 ∧ s.size + 2 ≤ q.2.a + N ∧ catLoopI s item N q.1 q.2 = catLoopI s item (s.size + 2) [] p0) (s.size + 2) ([], p0) ⟨⟨fun _ h => absurd h List.not_mem_nil, Nat.le_refl _, hp, rfl, by simp, by simp [E.szL]⟩, by dsimp only; omega, rfl⟩ ?_ ?_
  · refine (g_nilT 9 (t := 3) 141 3 rfl rfl).trans ?_
    (refine zo2 _ _ rfl rfl ?_ ?_ <;> (repeat' (first | exact TmOk.nil | exact RwOk.nil | refine TmOk.cons ?_ ?_ | refine RwOk.cons ?_ ?_ | rfl | (refine rnV_id' rfl ?_; (first | rfl | (simp [cloV, cloL, clo, zj, zf, zk, zg, zd]; done))) | (refine zd3 ?_; first | rfl | omega | (rw [zb2 (by omega) (by omega)]; omega)) | (refine zi2 rfl ?_; (first | rfl | (simp [cloV, cloL, clo, zj, zf, zk, zg, zd]; done))) | exact zj4 rfl rfl | (refine ze3 (by rfl) (by rfl) ?_ ?_ <;> (first | rfl | (simp [cloV, cloL, clo, zj, zf, zk, zg, zd]; done))) | (refine rw_rn' rfl rfl ?_; simp; done))))
  rintro N ⟨L, q⟩ ⟨hgl, hN, htot⟩
  dsimp only at hgl hN htot ⊢
  obtain ⟨k1, k2, k3, k4, k5, k6⟩ := hgl
  have hnx := zt11 hs (p := q)
  obtain ⟨M, rfl⟩ : ∃ M, N = M + 1 := ⟨N - 1, by omega⟩
  have htail : catI s item p0 = if (catLoopI s item (M + 1) L q).1.length = 0 then (zeroR, (catLoopI s item (M + 1) L q).2.bad) else (oneOr 4 (catLoopI s item (M + 1) L q).1, (catLoopI s item (M + 1) L q).2) := by unfold catI; rw [← htot]
  cases hgo : goI s q with
  | true =>
    obtain ⟨hb, hlt, -⟩ := goI_lt hgo
    obtain ⟨g1, g2, g3, g4, g5⟩ := hg q hlt k4 k2
    have hic := hi q hlt k4 k2
    have hst : catLoopI s item (M + 1) L q = catLoopI s item M (L ++ [(item q).1]) (item q).2 := by
      show (if goI s q then _ else _) = _
      rw [if_pos hgo]
    rw [hst] at htot
    clear htail hst hi hg
    obtain ⟨⟨e, q2⟩, hq2⟩ : ∃ r, item q = r := ⟨_, rfl⟩
    rw [hq2] at hic htot g1 g2 g3 g4 g5
    dsimp only at hic htot g1 g2 g3 g4 g5
    cases g1 with
    | mk k t l hk ht hl2 =>
    obtain ⟨a, d, b⟩ := q
    have hb : b = false := hb
    subst hb
    obtain ⟨v, hv⟩ : ∃ v, bAt s a = v := ⟨_, rfl⟩
    rw [zj14 hv] at hgo
    simp only [Bool.and_eq_true, Bool.not_eq_true', beq_eq_false_iff_ne] at hgo
    have hnx : Ctr Try.prog 134 [.c (.pt 0 0)] [rdrI s ⟨a, d, false⟩] (.c (.v (.int .u8 (v : Int)))) [rdrI s ⟨a, d, false⟩] := by rw [← hv]; exact hnx
    unfold rdrI at hnx hic ⊢
    dsimp only at hnx hic k2 k3 k4 k5 k6 hN g2 g3 g4 g5 ⊢
    repeat' (first | ((apply f_wo); first | ((apply f_gs); first | refine n_sk ?_) | ((apply f_mv); first | (refine zw1 ?_ ?_ <;> intro hG <;> (try cases hG)) | refine zg1 (v := .c _) ?_ | refine za ?_) | ((apply f_as); first | refine zf1 (v := .c _) ?_ | refine za ?_) | ((apply f_fa); first | refine n_fa ?_ | refine zk1 ?_) | ((apply f_ld); first | refine zp1 ?_ | refine zb1 ?_ | refine zw ?_ | refine zi1 ?_ | refine n_ld ?_) | ((apply f_ca); first | refine zl2 0 (hnx) ?_ | refine zl2 0 (hic) ?_) | ((apply f_bi); first | refine zd1 ?_ | refine zc1 ?_ | refine ze1 ?_ | refine zq2 ?_ | refine zq2 (hnu := zl _) ?_ | refine zv1 ?_ | refine zv1 (hnu := zl _) ?_ | refine za ?_) | ((apply f_st); first | refine n_st ?_ | refine zt1 ?_) | ((apply f_ia); first | refine n_ix ?_ | refine zc2 ?_ | refine za ?_) | ((apply zz1); first | refine za1 ?_ | refine za ?_) | ((apply zy2); first | refine zy1 ?_ | refine za ?_) | ((apply f_no); first | refine zj2 ?_ | refine za ?_) | ((apply f_pk); first | refine zu1 (v := .c _) ?_ | refine za ?_) | refine n_al ?_ | refine n_bs ?_ | refine za ?_) | ((apply f_w); first | refine zy ?_ | refine zc ?_) | refine zb fun C => ?_ | refine zn ?_ | refine ze ?_ | refine zh ?_ | refine zi ?_)
    all_goals first
      | (exfalso; simp at hG; omega)
      | skip
    refine zt (by rfl) (fun hC => ?_) fun hC => absurd (bne_eq_false_iff_eq.1 hC) (by omega)
    repeat' (first | ((apply f_wo); first | ((apply f_gs); first | refine n_sk ?_) | ((apply f_mv); first | (refine zw1 ?_ ?_ <;> intro hG <;> (try cases hG)) | refine zg1 (v := .c _) ?_ | refine za ?_) | ((apply f_as); first | refine zf1 (v := .c _) ?_ | refine za ?_) | ((apply f_fa); first | refine n_fa ?_ | refine zk1 ?_) | ((apply f_ld); first | refine zp1 ?_ | refine zb1 ?_ | refine zw ?_ | refine zi1 ?_ | refine n_ld ?_) | ((apply f_ca); first | refine zl2 0 (hnx) ?_ | refine zl2 0 (hic) ?_) | ((apply f_bi); first | refine zd1 ?_ | refine zc1 ?_ | refine ze1 ?_ | refine zq2 ?_ | refine zq2 (hnu := zl _) ?_ | refine zv1 ?_ | refine zv1 (hnu := zl _) ?_ | refine za ?_) | ((apply f_st); first | refine n_st ?_ | refine zt1 ?_) | ((apply f_ia); first | refine n_ix ?_ | refine zc2 ?_ | refine za ?_) | ((apply zz1); first | refine za1 ?_ | refine za ?_) | ((apply zy2); first | refine zy1 ?_ | refine za ?_) | ((apply f_no); first | refine zj2 ?_ | refine za ?_) | ((apply f_pk); first | refine zu1 (v := .c _) ?_ | refine za ?_) | refine n_al ?_ | refine n_bs ?_ | refine za ?_) | ((apply f_w); first | refine zy ?_ | refine zc ?_) | refine zb fun C => ?_ | refine zn ?_ | refine ze ?_ | refine zh ?_ | refine zi ?_ | refine zx rfl ?_ | refine zv rfl ?_)
    refine ⟨M, (L ++ [rexE k t l], q2), by omega, ⟨⟨fun x hx => ?_, ?_, g3, ?_, ?_, ?_⟩, ?_, htot⟩, ?_⟩
    · rcases List.mem_append.1 hx with hx | hx
      · exact k1 x hx
      · obtain rfl := List.mem_singleton.1 hx; exact .mk k t l hk ht hl2
    · dsimp only; omega
    · dsimp only; omega
    · dsimp only; rw [List.length_append, List.length_singleton]; omega
    · dsimp only; rw [zr7, List.length_append, List.length_singleton]; omega
    · dsimp only; omega
    · dsimp only
      rw [List.length_append, List.length_singleton]
      refine (ze8 (i := 28) (j := 2700) rfl rfl rfl (pre := owL L ++ [.v (.int .i64 k), .v (.string t)]) (post := []) (by rw [List.append_assoc]; rfl)).trans ?_
      (refine zm7 (fun j => if j = 9 then 28 else j) _ _ rfl rfl ?_ ?_ <;> (repeat' (first | exact TmOk.nil | exact RwOk.nil | refine TmOk.cons ?_ ?_ | refine RwOk.cons ?_ ?_ | rfl | (refine rnV_id' rfl ?_; (first | rfl | (simp [cloV, cloL, clo, zj, zf, zk, zg, zd]; done))) | (refine zd3 ?_; first | rfl | omega | (rw [zb2 (by omega) (by omega)]; omega)) | (refine zi2 rfl ?_; (first | rfl | (simp [cloV, cloL, clo, zj, zf, zk, zg, zd]; done))) | exact zj4 rfl rfl | (refine ze3 (by rfl) (by rfl) ?_ ?_ <;> (first | rfl | (simp [cloV, cloL, clo, zj, zf, zk, zg, zd]; done))) | (refine rw_rn' rfl rfl ?_; simp; done))))
      exact za20 (r := ⟨141, 3, L.length + 1, false, (owL L ++ [.v (.int .i64 k), .v (.string t)]) ++ [.ow 141 l.length 3 (owL l)]⟩) rfl (by rw [zd8, List.append_assoc]; rfl) (by first | rfl | (simp [cloV, cloL, clo, zj, zf, zk, zg, zd]; done))
  | false =>
    rw [zp15 hgo] at htail
    rw [htail]
    clear htail hi hg htot
    obtain ⟨a, d, b⟩ := q
    obtain ⟨v, hv⟩ : ∃ v, bAt s a = v := ⟨_, rfl⟩
    rw [zj14 hv] at hgo
    have hnx : Ctr Try.prog 134 [.c (.pt 0 0)] [rdrI s ⟨a, d, b⟩] (.c (.v (.int .u8 (v : Int)))) [rdrI s ⟨a, d, b⟩] := by rw [← hv]; exact hnx
    unfold rdrI at hnx ⊢
    dsimp only [PS.bad] at hnx k2 k3 k4 k5 k6 hN ⊢
    have hgo' : b = true ∨ v = 0 ∨ v = 124 ∨ v = 41 := by
      cases b with
      | true => exact .inl rfl
      | false => right; simp at hgo; omega
    match L, k1 with
    | [], _ =>
      rw [if_pos (show ([] : List E).length = 0 from rfl)]
      cases b <;> repeat' (first | ((apply f_wo); first | ((apply f_gs); first | refine n_sk ?_) | ((apply f_mv); first | (refine zw1 ?_ ?_ <;> intro hG <;> (try cases hG)) | refine zg1 (v := .c _) ?_ | refine za ?_) | ((apply f_as); first | refine zf1 (v := .c _) ?_ | refine za ?_) | ((apply f_fa); first | refine n_fa ?_ | refine zk1 ?_) | ((apply f_ld); first | refine zp1 ?_ | refine zb1 ?_ | refine zw ?_ | refine zi1 ?_ | refine n_ld ?_) | ((apply f_ca); first | refine zl2 0 (hnx) ?_) | ((apply f_bi); first | refine zd1 ?_ | refine zc1 ?_ | refine ze1 ?_ | refine zq2 ?_ | refine zq2 (hnu := zl _) ?_ | refine zv1 ?_ | refine zv1 (hnu := zl _) ?_ | refine za ?_) | ((apply f_st); first | refine n_st ?_ | refine zt1 ?_) | ((apply f_ia); first | refine n_ix ?_ | refine zc2 ?_ | refine za ?_) | ((apply zz1); first | refine za1 ?_ | refine za ?_) | ((apply zy2); first | refine zy1 ?_ | refine za ?_) | ((apply f_no); first | refine zj2 ?_ | refine za ?_) | ((apply f_pk); first | refine zu1 (v := .c _) ?_ | refine za ?_) | refine n_al ?_ | refine n_bs ?_ | refine za ?_) | ((apply f_w); first | refine zy ?_ | refine zc ?_) | refine zb fun C => ?_ | refine zn ?_ | refine ze ?_ | refine zh ?_ | refine zi ?_)
      all_goals first
        | refine zv rfl ?_
        | refine zt (by rfl) (fun hC => by exfalso; clear hnx; simp only [bne_iff_ne, ne_eq, Bool.false_eq_true, false_or] at *; omega) fun hC => ?_
      all_goals
        repeat' (first | ((apply f_wo); first | ((apply f_gs); first | refine n_sk ?_) | ((apply f_mv); first | (refine zw1 ?_ ?_ <;> intro hG <;> (try cases hG)) | refine zg1 (v := .c _) ?_ | refine za ?_) | ((apply f_as); first | refine zf1 (v := .c _) ?_ | refine za ?_) | ((apply f_fa); first | refine n_fa ?_ | refine zk1 ?_) | ((apply f_ld); first | refine zp1 ?_ | refine zb1 ?_ | refine zw ?_ | refine zi1 ?_ | refine n_ld ?_) | ((apply f_bi); first | refine zd1 ?_ | refine zc1 ?_ | refine ze1 ?_ | refine zq2 ?_ | refine zq2 (hnu := zl _) ?_ | refine zv1 ?_ | refine zv1 (hnu := zl _) ?_ | refine za ?_) | ((apply f_st); first | refine n_st ?_ | refine zt1 ?_) | ((apply f_ia); first | refine n_ix ?_ | refine zc2 ?_ | refine za ?_) | ((apply zz1); first | refine za1 ?_ | refine za ?_) | ((apply zy2); first | refine zy1 ?_ | refine za ?_) | ((apply f_no); first | refine zj2 ?_ | refine za ?_) | ((apply f_pk); first | refine zu1 (v := .c _) ?_ | refine za ?_) | refine n_al ?_ | refine n_bs ?_ | refine za ?_) | ((apply f_w); first | refine zy ?_ | refine zc ?_) | refine zb fun C => ?_ | refine zn ?_ | refine ze ?_ | refine zh ?_ | refine zi ?_ | refine zx rfl ?_ | refine zv rfl ?_)
        refine zm4 (ze6 900 (i := 2) 141 3 rfl rfl (pre := [_, _]) (post := []) rfl) ?_; refine zu ?_; refine ret1 rfl (zl3 (zu2 rfl (zu2 rfl (zk3 rfl rfl rfl (by first | exact zg _ | exact zf _ | exact bytC_clo _ | (simp [cloL, clo, zg, zf, zk, zj, zd]; done) | (simp [cloL, clo, opC, opL, zg, zf, zk, zj, zd]; done)) zs2)))) rfl (by first | rfl | (simp [cloL, clo, zg, zf, zk, zj, zd]; done)) rfl ⟨?_, ?_⟩
        · rfl
        · rfl
    | [x], hf =>
      rw [if_neg (show ¬ [x].length = 0 by simp)]
      have hx := hf x (List.mem_singleton.2 rfl)
      cases hx with
      | mk k t l hk ht hl2 =>
      cases b <;> repeat' (first | ((apply f_wo); first | ((apply f_gs); first | refine n_sk ?_) | ((apply f_mv); first | (refine zw1 ?_ ?_ <;> intro hG <;> (try cases hG)) | refine zg1 (v := .c _) ?_ | refine za ?_) | ((apply f_as); first | refine zf1 (v := .c _) ?_ | refine za ?_) | ((apply f_fa); first | refine n_fa ?_ | refine zk1 ?_) | ((apply f_ld); first | refine zp1 ?_ | refine zb1 ?_ | refine zw ?_ | refine zi1 ?_ | refine n_ld ?_) | ((apply f_ca); first | refine zl2 0 (hnx) ?_) | ((apply f_bi); first | refine zd1 ?_ | refine zc1 ?_ | refine ze1 ?_ | refine zq2 ?_ | refine zq2 (hnu := zl _) ?_ | refine zv1 ?_ | refine zv1 (hnu := zl _) ?_ | refine za ?_) | ((apply f_st); first | refine n_st ?_ | refine zt1 ?_) | ((apply f_ia); first | refine n_ix ?_ | refine zc2 ?_ | refine za ?_) | ((apply zz1); first | refine za1 ?_ | refine za ?_) | ((apply zy2); first | refine zy1 ?_ | refine za ?_) | ((apply f_no); first | refine zj2 ?_ | refine za ?_) | ((apply f_pk); first | refine zu1 (v := .c _) ?_ | refine za ?_) | refine n_al ?_ | refine n_bs ?_ | refine za ?_) | ((apply f_w); first | refine zy ?_ | refine zc ?_) | refine zb fun C => ?_ | refine zn ?_ | refine ze ?_ | refine zh ?_ | refine zi ?_)
      all_goals first
        | refine zv rfl ?_
        | refine zt (by rfl) (fun hC => by exfalso; clear hnx; simp only [bne_iff_ne, ne_eq, Bool.false_eq_true, false_or] at *; omega) fun hC => ?_
      all_goals
        refine zm4 (g_rev 800 (i := 9) rfl rfl (pre := [.v (.int .i64 k), .v (.string t)]) (post := []) rfl) ?_
        repeat' (first | ((apply f_wo); first | ((apply f_gs); first | refine n_sk ?_) | ((apply f_mv); first | (refine zw1 ?_ ?_ <;> intro hG <;> (try cases hG)) | refine zg1 (v := .c _) ?_ | refine za ?_) | ((apply f_as); first | refine zf1 (v := .c _) ?_ | refine za ?_) | ((apply f_fa); first | refine n_fa ?_ | refine zk1 ?_) | ((apply f_ld); first | refine zp1 ?_ | refine zb1 ?_ | refine zw ?_ | refine zi1 ?_ | refine n_ld ?_) | ((apply f_bi); first | refine zd1 ?_ | refine zc1 ?_ | refine ze1 ?_ | refine zq2 ?_ | refine zq2 (hnu := zl _) ?_ | refine zv1 ?_ | refine zv1 (hnu := zl _) ?_ | refine za ?_) | ((apply f_st); first | refine n_st ?_ | refine zt1 ?_) | ((apply f_ia); first | refine n_ix ?_ | refine zc2 ?_ | refine za ?_) | ((apply zz1); first | refine za1 ?_ | refine za ?_) | ((apply zy2); first | refine zy1 ?_ | refine za ?_) | ((apply f_no); first | refine zj2 ?_ | refine za ?_) | ((apply f_pk); first | refine zu1 (v := .c _) ?_ | refine za ?_) | refine n_al ?_ | refine n_bs ?_ | refine za ?_) | ((apply f_w); first | refine zy ?_ | refine zc ?_) | refine zb fun C => ?_ | refine zn ?_ | refine ze ?_ | refine zh ?_ | refine zi ?_ | refine zx rfl ?_ | refine zv rfl ?_)
        refine zu ?_; refine ret1 rfl (zl3 (zu2 rfl (zu2 rfl (zk3 rfl rfl rfl (by first | exact zg _ | exact zf _ | exact bytC_clo _ | (simp [cloL, clo, zg, zf, zk, zj, zd]; done) | (simp [cloL, clo, opC, opL, zg, zf, zk, zj, zd]; done)) zs2)))) rfl (by first | rfl | (simp [cloL, clo, zg, zf, zk, zj, zd]; done)) rfl ⟨?_, ?_⟩
        · rfl
        · rfl
    | x :: y :: r, hf =>
      rw [if_neg (show ¬ (x :: y :: r).length = 0 by simp)]
      have hlen : (x :: y :: r).length = r.length + 2 := rfl
      cases b <;> repeat' (first | ((apply f_wo); first | ((apply f_gs); first | refine n_sk ?_) | ((apply f_mv); first | (refine zw1 ?_ ?_ <;> intro hG <;> (try cases hG)) | refine zg1 (v := .c _) ?_ | refine za ?_) | ((apply f_as); first | refine zf1 (v := .c _) ?_ | refine za ?_) | ((apply f_fa); first | refine n_fa ?_ | refine zk1 ?_) | ((apply f_ld); first | refine zp1 ?_ | refine zb1 ?_ | refine zw ?_ | refine zi1 ?_ | refine n_ld ?_) | ((apply f_ca); first | refine zl2 0 (hnx) ?_) | ((apply f_bi); first | refine zd1 ?_ | refine zc1 ?_ | refine ze1 ?_ | refine zq2 ?_ | refine zq2 (hnu := zl _) ?_ | refine zv1 ?_ | refine zv1 (hnu := zl _) ?_ | refine za ?_) | ((apply f_st); first | refine n_st ?_ | refine zt1 ?_) | ((apply f_ia); first | refine n_ix ?_ | refine zc2 ?_ | refine za ?_) | ((apply zz1); first | refine za1 ?_ | refine za ?_) | ((apply zy2); first | refine zy1 ?_ | refine za ?_) | ((apply f_no); first | refine zj2 ?_ | refine za ?_) | ((apply f_pk); first | refine zu1 (v := .c _) ?_ | refine za ?_) | refine n_al ?_ | refine n_bs ?_ | refine za ?_) | ((apply f_w); first | refine zy ?_ | refine zc ?_) | refine zb fun C => ?_ | refine zn ?_ | refine ze ?_ | refine zh ?_ | refine zi ?_)
      all_goals first
        | refine zv rfl ?_
        | refine zt (by rfl) (fun hC => by exfalso; clear hnx; simp only [bne_iff_ne, ne_eq, Bool.false_eq_true, false_or] at *; omega) fun hC => ?_
      all_goals
        repeat' (first | ((apply f_wo); first | ((apply f_gs); first | refine n_sk ?_) | ((apply f_mv); first | (refine zw1 ?_ ?_ <;> intro hG <;> (try cases hG)) | refine zg1 (v := .c _) ?_ | refine za ?_) | ((apply f_as); first | refine zf1 (v := .c _) ?_ | refine za ?_) | ((apply f_fa); first | refine n_fa ?_ | refine zk1 ?_) | ((apply f_ld); first | refine zp1 ?_ | refine zb1 ?_ | refine zw ?_ | refine zi1 ?_ | refine n_ld ?_) | ((apply f_bi); first | refine zd1 ?_ | refine zc1 ?_ | refine ze1 ?_ | refine zq2 ?_ | refine zq2 (hnu := zl _) ?_ | refine zv1 ?_ | refine zv1 (hnu := zl _) ?_ | refine za ?_) | ((apply f_st); first | refine n_st ?_ | refine zt1 ?_) | ((apply f_ia); first | refine n_ix ?_ | refine zc2 ?_ | refine za ?_) | ((apply zz1); first | refine za1 ?_ | refine za ?_) | ((apply zy2); first | refine zy1 ?_ | refine za ?_) | ((apply f_no); first | refine zj2 ?_ | refine za ?_) | ((apply f_pk); first | refine zu1 (v := .c _) ?_ | refine za ?_) | refine n_al ?_ | refine n_bs ?_ | refine za ?_) | ((apply f_w); first | refine zy ?_ | refine zc ?_) | refine zb fun C => ?_ | refine zn ?_ | refine ze ?_ | refine zh ?_ | refine zi ?_)
        refine zt (by rfl) (fun hC => by exfalso; simp at hC; omega) fun hC => ?_
        repeat' (first | ((apply f_wo); first | ((apply f_gs); first | refine n_sk ?_) | ((apply f_mv); first | (refine zw1 ?_ ?_ <;> intro hG <;> (try cases hG)) | refine zg1 (v := .c _) ?_ | refine za ?_) | ((apply f_as); first | refine zf1 (v := .c _) ?_ | refine za ?_) | ((apply f_fa); first | refine n_fa ?_ | refine zk1 ?_) | ((apply f_ld); first | refine zp1 ?_ | refine zb1 ?_ | refine zw ?_ | refine zi1 ?_ | refine n_ld ?_) | ((apply f_bi); first | refine zd1 ?_ | refine zc1 ?_ | refine ze1 ?_ | refine zq2 ?_ | refine zq2 (hnu := zl _) ?_ | refine zv1 ?_ | refine zv1 (hnu := zl _) ?_ | refine za ?_) | ((apply f_st); first | refine n_st ?_ | refine zt1 ?_) | ((apply f_ia); first | refine n_ix ?_ | refine zc2 ?_ | refine za ?_) | ((apply zz1); first | refine za1 ?_ | refine za ?_) | ((apply zy2); first | refine zy1 ?_ | refine za ?_) | ((apply f_no); first | refine zj2 ?_ | refine za ?_) | ((apply f_pk); first | refine zu1 (v := .c _) ?_ | refine za ?_) | refine n_al ?_ | refine n_bs ?_ | refine za ?_) | ((apply f_w); first | refine zy ?_ | refine zc ?_) | refine zb fun C => ?_ | refine zn ?_ | refine ze ?_ | refine zh ?_ | refine zi ?_)
        refine zt (by rfl) (fun hC => by exfalso; simp at hC; omega) fun hC => ?_
        repeat' (first | ((apply f_wo); first | ((apply f_gs); first | refine n_sk ?_) | ((apply f_mv); first | (refine zw1 ?_ ?_ <;> intro hG <;> (try cases hG)) | refine zg1 (v := .c _) ?_ | refine za ?_) | ((apply f_as); first | refine zf1 (v := .c _) ?_ | refine za ?_) | ((apply f_fa); first | refine n_fa ?_ | refine zk1 ?_) | ((apply f_ld); first | refine zp1 ?_ | refine zb1 ?_ | refine zw ?_ | refine zi1 ?_ | refine n_ld ?_) | ((apply f_bi); first | refine zd1 ?_ | refine zc1 ?_ | refine ze1 ?_ | refine zq2 ?_ | refine zq2 (hnu := zl _) ?_ | refine zv1 ?_ | refine zv1 (hnu := zl _) ?_ | refine za ?_) | ((apply f_st); first | refine n_st ?_ | refine zt1 ?_) | ((apply f_ia); first | refine n_ix ?_ | refine zc2 ?_ | refine za ?_) | ((apply zz1); first | refine za1 ?_ | refine za ?_) | ((apply zy2); first | refine zy1 ?_ | refine za ?_) | ((apply f_no); first | refine zj2 ?_ | refine za ?_) | ((apply f_pk); first | refine zu1 (v := .c _) ?_ | refine za ?_) | refine n_al ?_ | refine n_bs ?_ | refine za ?_) | ((apply f_w); first | refine zy ?_ | refine zc ?_) | refine zb fun C => ?_ | refine zn ?_ | refine ze ?_ | refine zh ?_ | refine zi ?_)
        refine zu ?_; refine ret1 rfl (zl3 (zu2 rfl (zu2 rfl (zk3 rfl rfl rfl (by first | exact zg _ | exact zf _ | exact bytC_clo _ | (simp [cloL, clo, zg, zf, zk, zj, zd]; done) | (simp [cloL, clo, opC, opL, zg, zf, zk, zj, zd]; done)) zs2)))) rfl (by first | rfl | (simp [cloL, clo, zg, zf, zk, zj, zd]; done)) rfl ⟨?_, ?_⟩
        · rfl
        · rfl
theorem zq15 {s : ByteArray} {cat : PS → E × PS} {p : PS} (h : barI s p = false) : ∀ (n : Nat) (l : List E), altLoopI s cat n l p = (l, p)
  | 0, _ => rfl
  | n + 1, l => by unfold altLoopI; rw [if_neg (by rw [h]; simp)]
theorem zw17 {s : ByteArray} {a d v : Nat} {b : Bool} (hv : bAt s a = v) : barI s ⟨a, d, b⟩ = (!b && (v == 124)) := by unfold barI; rw [hv]
set_option maxHeartbeats 8000000 in
theorem alt_c {s : ByteArray} (hs : s.size ≤ 1048576) {cat : PS → E × PS} {p : PS} (hp : p.a ≤ s.size) (hd : p.d ≤ p.a)
    (hg : ∀ q, q.a ≤ s.size → q.d = p.d + 1 → p.a ≤ q.a → Good s q (cat q) 0 0 0)
    (hi : ∀ q, q.a ≤ s.size → q.d = p.d + 1 → p.a ≤ q.a → Ctr Try.prog 133 [.c (.pt 0 0)] [rdrI s q] (.ag (owE (cat q).1)) [rdrI s (cat q).2]) :
    Ctr Try.prog 124 [.c (.pt 0 0)] [rdrI s p] (.ag (owE (altB s cat p).1)) [rdrI s (altB s cat p).2] := by
  obtain ⟨a, d, b⟩ := p
  dsimp only at hp hd hg hi
  obtain ⟨bb, hbb, hcase⟩ : ∃ bb, (b || decide (40 < d + 1)) = bb ∧ ((40 < d + 1 ∧ bb = true) ∨ (¬ 40 < d + 1 ∧ bb = b)) := by
    by_cases h : 40 < d + 1
    · exact ⟨true, by rw [decide_eq_true h, Bool.or_true], .inl ⟨h, rfl⟩⟩
    · exact ⟨b, by rw [decide_eq_false h, Bool.or_false], .inr ⟨h, rfl⟩⟩
  have hic := hi ⟨a, d + 1, bb⟩ hp rfl (Nat.le_refl _)
  obtain ⟨g1, g2, g3, g4, g5⟩ := hg ⟨a, d + 1, bb⟩ hp rfl (Nat.le_refl _)
  obtain ⟨⟨e, q0⟩, hq0⟩ : ∃ r, cat ⟨a, d + 1, bb⟩ = r := ⟨_, rfl⟩
  have htot0 : altB s cat ⟨a, d, b⟩ = (oneOr 5 (altLoopI s cat (s.size + 1) [e] q0).1, ⟨(altLoopI s cat (s.size + 1) [e] q0).2.a, (altLoopI s cat (s.size + 1) [e] q0).2.d - 1, (altLoopI s cat (s.size + 1) [e] q0).2.b⟩) := by
    unfold altB
    dsimp only
    rw [hbb, hq0]
  rw [htot0]
  clear htot0 hbb
  rw [hq0] at hic g1 g2 g3 g4 g5
  dsimp only at hic g1 g2 g3 g4 g5
  cases g1 with
  | mk k t l hk ht hl2 =>
  refine zm2 Try.func124 rfl rfl ?_
  unfold rdrI at hic ⊢
  dsimp only at hic ⊢
  repeat' (first | ((apply f_wo); first | ((apply f_gs); first | refine n_sk ?_) | ((apply f_mv); first | (refine zw1 ?_ ?_ <;> intro hG <;> (try cases hG)) | refine zg1 (v := .c _) ?_ | refine za ?_) | ((apply f_as); first | refine zf1 (v := .c _) ?_ | refine za ?_) | ((apply f_fa); first | refine n_fa ?_ | refine zk1 ?_) | ((apply f_ld); first | refine zp1 ?_ | refine zb1 ?_ | refine zw ?_ | refine zi1 ?_ | refine n_ld ?_) | ((apply f_bi); first | refine zd1 ?_ | refine zc1 ?_ | refine ze1 ?_ | refine zq2 ?_ | refine zq2 (hnu := zl _) ?_ | refine zv1 ?_ | refine zv1 (hnu := zl _) ?_ | refine za ?_) | ((apply f_st); first | refine n_st ?_ | refine zt1 ?_) | ((apply f_ia); first | refine n_ix ?_ | refine zc2 ?_ | refine za ?_) | ((apply zz1); first | refine za1 ?_ | refine zd2 ?_ | refine za ?_) | ((apply zq3); first | refine zh1 ?_ | refine za ?_) | ((apply zs1); first | refine zo ?_ | refine zr1 ?_ | refine za ?_) | ((apply f_no); first | refine zj2 ?_ | refine za ?_) | ((apply f_pk); first | refine zu1 (v := .c _) ?_ | refine za ?_) | ((apply f_bb); first | refine zg2 ?_ | refine zh2 ?_ | refine za ?_) | refine n_al ?_ | refine n_bs ?_ | refine za ?_) | ((apply f_w); first | refine zy ?_ | refine zc ?_) | refine zb fun C => ?_ | refine zn ?_ | refine ze ?_ | refine zh ?_ | refine zi ?_)
  rcases hcase with ⟨h40, rfl⟩ | ⟨h40, rfl⟩
  all_goals first
    | refine zt (by rfl) (fun hC => ?_) fun hC => absurd (of_decide_eq_false hC) (Decidable.not_not.2 (by omega))
    | refine zt (by rfl) (fun hC => absurd (of_decide_eq_true hC) (by omega)) fun hC => ?_
  all_goals
    repeat' (first | ((apply f_wo); first | ((apply f_gs); first | refine n_sk ?_) | ((apply f_mv); first | (refine zw1 ?_ ?_ <;> intro hG <;> (try cases hG)) | refine zg1 (v := .c _) ?_ | refine za ?_) | ((apply f_as); first | refine zf1 (v := .c _) ?_ | refine za ?_) | ((apply f_fa); first | refine n_fa ?_ | refine zk1 ?_) | ((apply f_ld); first | refine zp1 ?_ | refine zb1 ?_ | refine zw ?_ | refine zi1 ?_ | refine n_ld ?_) | ((apply f_ca); first | refine zl2 0 (hic) ?_) | ((apply f_bi); first | refine zd1 ?_ | refine zc1 ?_ | refine ze1 ?_ | refine zq2 ?_ | refine zq2 (hnu := zl _) ?_ | refine zv1 ?_ | refine zv1 (hnu := zl _) ?_ | refine za ?_) | ((apply f_st); first | refine n_st ?_ | refine zt1 ?_) | ((apply f_ia); first | refine n_ix ?_ | refine zc2 ?_ | refine za ?_) | ((apply zz1); first | refine za1 ?_ | refine zd2 ?_ | refine za ?_) | ((apply zq3); first | refine zh1 ?_ | refine za ?_) | ((apply zs1); first | refine zo ?_ | refine zr1 ?_ | refine za ?_) | ((apply f_no); first | refine zj2 ?_ | refine za ?_) | ((apply f_pk); first | refine zu1 (v := .c _) ?_ | refine za ?_) | ((apply f_bb); first | refine zg2 ?_ | refine zh2 ?_ | refine za ?_) | refine n_al ?_ | refine n_bs ?_ | refine za ?_) | ((apply f_w); first | refine zy ?_ | refine zc ?_) | refine zb fun C => ?_ | refine zn ?_ | refine ze ?_ | refine zh ?_ | refine zi ?_)
    refine zp3 (fun q : List E × PS => ⟨tmsF [(0, .c (.pt 0 0)), (2, .c (.pt 2 0)), (3, .c (.sl 9 q.1.length))], hpsF [(0, 0, ⟨0, 0, 0, true, rdrI s q.2⟩), (2, 2, ⟨141, 0, 0, true, [.v (.int .i64 0), .v (.string ByteArray.empty), .v (.slice none 0 0)]⟩), (9, 9, ⟨141, 3, q.1.length, false, owL q.1⟩)], 1, [0, 2, 9], 59⟩)
      (fun N q => GoodL s ⟨a, d + 1, true⟩ q.1 q.2 1 ∧ 0 < q.1.length ∧ s.size + 1 ≤ q.2.a + N ∧ altLoopI s cat N q.1 q.2 = altLoopI s cat (s.size + 1) [rexE k t l] q0) (s.size + 1) ([rexE k t l], q0) ⟨⟨fun x hx => by obtain rfl := List.mem_singleton.1 hx; exact .mk k t l hk ht hl2, by dsimp only; omega, g3, g4, by dsimp only; rw [List.length_singleton]; omega, by dsimp only; simp only [E.szL, List.length_singleton]; omega⟩, by simp, by dsimp only; omega, rfl⟩ ?_ ?_
    · refine (ze8 (i := 21) (j := 2100) rfl rfl rfl (pre := [_, _]) (post := []) rfl).trans ?_
      (refine zm7 (fun j => if j = 9 then 21 else j) _ _ rfl rfl ?_ ?_ <;> (repeat' (first | exact TmOk.nil | exact RwOk.nil | refine TmOk.cons ?_ ?_ | refine RwOk.cons ?_ ?_ | rfl | (refine rnV_id' rfl ?_; (first | rfl | (simp [cloV, cloL, clo, zj, zf, zk, zg, zd]; done))) | (refine zd3 ?_; first | rfl | omega | (rw [zb2 (by omega) (by omega)]; omega)) | (refine zi2 rfl ?_; (first | rfl | (simp [cloV, cloL, clo, zj, zf, zk, zg, zd]; done))) | exact zj4 rfl rfl | (refine ze3 (by rfl) (by rfl) ?_ ?_ <;> (first | rfl | (simp [cloV, cloL, clo, zj, zf, zk, zg, zd]; done))) | (refine rw_rn' rfl rfl ?_; simp; done))))
    rintro N ⟨L, q⟩ ⟨hgl, hL0, hN, htot⟩
    dsimp only at hgl hL0 hN htot ⊢
    obtain ⟨k1, k2, k3, k4, k5, k6⟩ := hgl
    have hnx := zt11 hs (p := q)
    obtain ⟨M, rfl⟩ : ∃ M, N = M + 1 := ⟨N - 1, by omega⟩
    obtain ⟨qa, qd, qb⟩ := q
    obtain ⟨v, hv⟩ : ∃ v, bAt s qa = v := ⟨_, rfl⟩
    have hnx : Ctr Try.prog 134 [.c (.pt 0 0)] [rdrI s ⟨qa, qd, qb⟩] (.c (.v (.int .u8 (v : Int)))) [rdrI s ⟨qa, qd, qb⟩] := by rw [← hv]; exact hnx
    have hbar := zw17 (d := qd) (b := qb) hv
    dsimp only at k2 k3 k4 k5 k6 hN
    cases hgo : barI s ⟨qa, qd, qb⟩ with
    | true =>
      rw [hgo] at hbar
      have hgo2 := hbar.symm
      simp only [Bool.and_eq_true, Bool.not_eq_true', beq_iff_eq] at hgo2
      obtain ⟨rfl, rfl⟩ := hgo2
      have hlt : qa < s.size := zw4 (by rw [hv]; decide)
      have hst : altLoopI s cat (M + 1) L ⟨qa, qd, false⟩ = altLoopI s cat M (L ++ [(cat ⟨qa + 1, qd, false⟩).1]) (cat ⟨qa + 1, qd, false⟩).2 := by
        show (if barI s ⟨qa, qd, false⟩ then _ else _) = _
        rw [if_pos hgo]; rfl
      rw [hst] at htot
      have hic2 := hi ⟨qa + 1, qd, false⟩ (by dsimp only; omega) k4 (by dsimp only; omega)
      obtain ⟨e1, e2, e3, e4, e5⟩ := hg ⟨qa + 1, qd, false⟩ (by dsimp only; omega) k4 (by dsimp only; omega)
      clear hst hi hg hic
      obtain ⟨⟨e', q2⟩, hq2⟩ : ∃ r, cat ⟨qa + 1, qd, false⟩ = r := ⟨_, rfl⟩
      rw [hq2] at hic2 htot e1 e2 e3 e4 e5
      dsimp only at hic2 htot e1 e2 e3 e4 e5
      cases e1 with
      | mk k' t' l' hk' ht' hl2' =>
      unfold rdrI at hnx hic2 ⊢
      dsimp only at hnx hic2 ⊢
      repeat' (first | ((apply f_wo); first | ((apply f_gs); first | refine n_sk ?_) | ((apply f_mv); first | (refine zw1 ?_ ?_ <;> intro hG <;> (try cases hG)) | refine zg1 (v := .c _) ?_ | refine za ?_) | ((apply f_as); first | refine zf1 (v := .c _) ?_ | refine za ?_) | ((apply f_fa); first | refine n_fa ?_ | refine zk1 ?_) | ((apply f_ld); first | refine zp1 ?_ | refine zb1 ?_ | refine zw ?_ | refine zi1 ?_ | refine n_ld ?_) | ((apply f_ca); first | refine zl2 0 (hnx) ?_ | refine zl2 0 (hic2) ?_) | ((apply f_bi); first | refine zd1 ?_ | refine zc1 ?_ | refine ze1 ?_ | refine zq2 ?_ | refine zq2 (hnu := zl _) ?_ | refine zv1 ?_ | refine zv1 (hnu := zl _) ?_ | refine za ?_) | ((apply f_st); first | refine n_st ?_ | refine zt1 ?_) | ((apply f_ia); first | refine n_ix ?_ | refine zc2 ?_ | refine za ?_) | ((apply zz1); first | refine za1 ?_ | refine zd2 ?_ | refine za ?_) | ((apply zq3); first | refine zh1 ?_ | refine za ?_) | ((apply zs1); first | refine zo ?_ | refine zr1 ?_ | refine za ?_) | ((apply f_no); first | refine zj2 ?_ | refine za ?_) | ((apply f_pk); first | refine zu1 (v := .c _) ?_ | refine za ?_) | ((apply f_bb); first | refine zg2 ?_ | refine zh2 ?_ | refine za ?_) | refine n_al ?_ | refine n_bs ?_ | refine za ?_) | ((apply f_w); first | refine zy ?_ | refine zc ?_) | refine zb fun C => ?_ | refine zn ?_ | refine ze ?_ | refine zh ?_ | refine zi ?_ | refine zx rfl ?_ | refine zv rfl ?_)
      refine ⟨M, (L ++ [rexE k' t' l'], q2), by omega, ⟨⟨fun x hx => ?_, ?_, e3, ?_, ?_, ?_⟩, ?_, ?_, htot⟩, ?_⟩
      · rcases List.mem_append.1 hx with hx | hx
        · exact k1 x hx
        · obtain rfl := List.mem_singleton.1 hx; exact .mk k' t' l' hk' ht' hl2'
      · dsimp only; omega
      · dsimp only; omega
      · dsimp only; rw [List.length_append, List.length_singleton]; omega
      · dsimp only; rw [zr7, List.length_append, List.length_singleton]; omega
      · dsimp only; rw [List.length_append, List.length_singleton]; omega
      · dsimp only; omega
      · dsimp only
        rw [List.length_append, List.length_singleton]
        refine (ze8 (i := 43) (j := 4200) rfl rfl rfl (pre := owL L ++ [.v (.int .i64 k'), .v (.string t')]) (post := []) (by rw [List.append_assoc]; rfl)).trans ?_
        (refine zm7 (fun j => if j = 9 then 43 else j) _ _ rfl rfl ?_ ?_ <;> (repeat' (first | exact TmOk.nil | exact RwOk.nil | refine TmOk.cons ?_ ?_ | refine RwOk.cons ?_ ?_ | rfl | (refine rnV_id' rfl ?_; (first | rfl | (simp [cloV, cloL, clo, zj, zf, zk, zg, zd]; done))) | (refine zd3 ?_; first | rfl | omega | (rw [zb2 (by omega) (by omega)]; omega)) | (refine zi2 rfl ?_; (first | rfl | (simp [cloV, cloL, clo, zj, zf, zk, zg, zd]; done))) | exact zj4 rfl rfl | (refine ze3 (by rfl) (by rfl) ?_ ?_ <;> (first | rfl | (simp [cloV, cloL, clo, zj, zf, zk, zg, zd]; done))) | (refine rw_rn' rfl rfl ?_; simp; done))))
        exact za20 (r := ⟨141, 3, L.length + 1, false, (owL L ++ [.v (.int .i64 k'), .v (.string t')]) ++ [.ow 141 l'.length 3 (owL l')]⟩) rfl (by rw [zd8, List.append_assoc]; rfl) (by first | rfl | (simp [cloV, cloL, clo, zj, zf, zk, zg, zd]; done))
    | false =>
      rw [zq15 hgo] at htot
      rw [← htot]
      rw [hgo] at hbar
      clear htot hi hg hic
      have hbar' : qb = true ∨ v ≠ 124 := by
        cases qb with
        | true => exact .inl rfl
        | false => right; simp at hbar; exact hbar
      have hqd : ((qd : Nat) : Int) - 1 = ((qd - 1 : Nat) : Int) := by omega
      unfold rdrI at hnx ⊢
      dsimp only at hnx ⊢
      match L, k1, hL0 with
      | [], _, h0 => exact absurd h0 (by simp)
      | [x], hf, _ =>
        have hx := hf x (List.mem_singleton.2 rfl)
        cases hx with
        | mk k' t' l' hk' ht' hl2' =>
        cases qb <;> repeat' (first | ((apply f_wo); first | ((apply f_gs); first | refine n_sk ?_) | ((apply f_mv); first | (refine zw1 ?_ ?_ <;> intro hG <;> (try cases hG)) | refine zg1 (v := .c _) ?_ | refine za ?_) | ((apply f_as); first | refine zf1 (v := .c _) ?_ | refine za ?_) | ((apply f_fa); first | refine n_fa ?_ | refine zk1 ?_) | ((apply f_ld); first | refine zp1 ?_ | refine zb1 ?_ | refine zw ?_ | refine zi1 ?_ | refine n_ld ?_) | ((apply f_ca); first | refine zl2 0 (hnx) ?_) | ((apply f_bi); first | refine zd1 ?_ | refine zc1 ?_ | refine ze1 ?_ | refine zq2 ?_ | refine zq2 (hnu := zl _) ?_ | refine zv1 ?_ | refine zv1 (hnu := zl _) ?_ | refine za ?_) | ((apply f_st); first | refine n_st ?_ | refine zt1 ?_) | ((apply f_ia); first | refine n_ix ?_ | refine zc2 ?_ | refine za ?_) | ((apply zz1); first | refine za1 ?_ | refine zd2 ?_ | refine za ?_) | ((apply zq3); first | refine zh1 ?_ | refine za ?_) | ((apply zs1); first | refine zo ?_ | refine zr1 ?_ | refine za ?_) | ((apply f_no); first | refine zj2 ?_ | refine za ?_) | ((apply f_pk); first | refine zu1 (v := .c _) ?_ | refine za ?_) | ((apply f_bb); first | refine zg2 ?_ | refine zh2 ?_ | refine za ?_) | refine n_al ?_ | refine n_bs ?_ | refine za ?_) | ((apply f_w); first | refine zy ?_ | refine zc ?_) | refine zb fun C => ?_ | refine zn ?_ | refine ze ?_ | refine zh ?_ | refine zi ?_)
        all_goals first
          | refine zv rfl ?_
          | refine zt (by rfl) (fun hC => by exfalso; clear hnx; simp only [beq_iff_eq, Bool.false_eq_true, false_or] at *; omega) fun hC => ?_
        all_goals
          refine zm4 (g_rev 800 (i := 9) rfl rfl (pre := [.v (.int .i64 k'), .v (.string t')]) (post := []) rfl) ?_
          repeat' (first | ((apply f_wo); first | ((apply f_gs); first | refine n_sk ?_) | ((apply f_mv); first | (refine zw1 ?_ ?_ <;> intro hG <;> (try cases hG)) | refine zg1 (v := .c _) ?_ | refine za ?_) | ((apply f_as); first | refine zf1 (v := .c _) ?_ | refine za ?_) | ((apply f_fa); first | refine n_fa ?_ | refine zk1 ?_) | ((apply f_ld); first | refine zp1 ?_ | refine zb1 ?_ | refine zw ?_ | refine zi1 ?_ | refine n_ld ?_) | ((apply f_bi); first | refine zd1 ?_ | refine zc1 ?_ | refine ze1 ?_ | refine zq2 ?_ | refine zq2 (hnu := zl _) ?_ | refine zv1 ?_ | refine zv1 (hnu := zl _) ?_ | refine za ?_) | ((apply f_st); first | refine n_st ?_ | refine zt1 ?_) | ((apply f_ia); first | refine n_ix ?_ | refine zc2 ?_ | refine za ?_) | ((apply zz1); first | refine za1 ?_ | refine zd2 ?_ | refine za ?_) | ((apply zq3); first | refine zh1 ?_ | refine za ?_) | ((apply zs1); first | refine zo ?_ | refine zr1 ?_ | refine za ?_) | ((apply f_no); first | refine zj2 ?_ | refine za ?_) | ((apply f_pk); first | refine zu1 (v := .c _) ?_ | refine za ?_) | ((apply f_bb); first | refine zg2 ?_ | refine zh2 ?_ | refine za ?_) | refine n_al ?_ | refine n_bs ?_ | refine za ?_) | ((apply f_w); first | refine zy ?_ | refine zc ?_) | refine zb fun C => ?_ | refine zn ?_ | refine ze ?_ | refine zh ?_ | refine zi ?_ | refine zx rfl ?_ | refine zv rfl ?_)
          refine zu ?_; refine ret1 rfl (zl3 (zu2 rfl (zu2 rfl (zk3 rfl rfl rfl (by first | exact zg _ | exact zf _ | exact bytC_clo _ | (simp [cloL, clo, zg, zf, zk, zj, zd]; done) | (simp [cloL, clo, opC, opL, zg, zf, zk, zj, zd]; done)) zs2)))) rfl (by first | rfl | (simp [cloL, clo, zg, zf, zk, zj, zd]; done)) rfl ⟨?_, ?_⟩
          · rfl
          · rw [← hqd]; rfl
      | x :: y :: r, hf, _ =>
        have hlen : (x :: y :: r).length = r.length + 2 := rfl
        cases qb <;> repeat' (first | ((apply f_wo); first | ((apply f_gs); first | refine n_sk ?_) | ((apply f_mv); first | (refine zw1 ?_ ?_ <;> intro hG <;> (try cases hG)) | refine zg1 (v := .c _) ?_ | refine za ?_) | ((apply f_as); first | refine zf1 (v := .c _) ?_ | refine za ?_) | ((apply f_fa); first | refine n_fa ?_ | refine zk1 ?_) | ((apply f_ld); first | refine zp1 ?_ | refine zb1 ?_ | refine zw ?_ | refine zi1 ?_ | refine n_ld ?_) | ((apply f_ca); first | refine zl2 0 (hnx) ?_) | ((apply f_bi); first | refine zd1 ?_ | refine zc1 ?_ | refine ze1 ?_ | refine zq2 ?_ | refine zq2 (hnu := zl _) ?_ | refine zv1 ?_ | refine zv1 (hnu := zl _) ?_ | refine za ?_) | ((apply f_st); first | refine n_st ?_ | refine zt1 ?_) | ((apply f_ia); first | refine n_ix ?_ | refine zc2 ?_ | refine za ?_) | ((apply zz1); first | refine za1 ?_ | refine zd2 ?_ | refine za ?_) | ((apply zq3); first | refine zh1 ?_ | refine za ?_) | ((apply zs1); first | refine zo ?_ | refine zr1 ?_ | refine za ?_) | ((apply f_no); first | refine zj2 ?_ | refine za ?_) | ((apply f_pk); first | refine zu1 (v := .c _) ?_ | refine za ?_) | ((apply f_bb); first | refine zg2 ?_ | refine zh2 ?_ | refine za ?_) | refine n_al ?_ | refine n_bs ?_ | refine za ?_) | ((apply f_w); first | refine zy ?_ | refine zc ?_) | refine zb fun C => ?_ | refine zn ?_ | refine ze ?_ | refine zh ?_ | refine zi ?_)
        all_goals first
          | refine zv rfl ?_
          | refine zt (by rfl) (fun hC => by exfalso; clear hnx; simp only [beq_iff_eq, Bool.false_eq_true, false_or] at *; omega) fun hC => ?_
        all_goals
          repeat' (first | ((apply f_wo); first | ((apply f_gs); first | refine n_sk ?_) | ((apply f_mv); first | (refine zw1 ?_ ?_ <;> intro hG <;> (try cases hG)) | refine zg1 (v := .c _) ?_ | refine za ?_) | ((apply f_as); first | refine zf1 (v := .c _) ?_ | refine za ?_) | ((apply f_fa); first | refine n_fa ?_ | refine zk1 ?_) | ((apply f_ld); first | refine zp1 ?_ | refine zb1 ?_ | refine zw ?_ | refine zi1 ?_ | refine n_ld ?_) | ((apply f_bi); first | refine zd1 ?_ | refine zc1 ?_ | refine ze1 ?_ | refine zq2 ?_ | refine zq2 (hnu := zl _) ?_ | refine zv1 ?_ | refine zv1 (hnu := zl _) ?_ | refine za ?_) | ((apply f_st); first | refine n_st ?_ | refine zt1 ?_) | ((apply f_ia); first | refine n_ix ?_ | refine zc2 ?_ | refine za ?_) | ((apply zz1); first | refine za1 ?_ | refine zd2 ?_ | refine za ?_) | ((apply zq3); first | refine zh1 ?_ | refine za ?_) | ((apply zs1); first | refine zo ?_ | refine zr1 ?_ | refine za ?_) | ((apply f_no); first | refine zj2 ?_ | refine za ?_) | ((apply f_pk); first | refine zu1 (v := .c _) ?_ | refine za ?_) | ((apply f_bb); first | refine zg2 ?_ | refine zh2 ?_ | refine za ?_) | refine n_al ?_ | refine n_bs ?_ | refine za ?_) | ((apply f_w); first | refine zy ?_ | refine zc ?_) | refine zb fun C => ?_ | refine zn ?_ | refine ze ?_ | refine zh ?_ | refine zi ?_)
          refine zt (by rfl) (fun hC => by exfalso; simp at hC; omega) fun hC => ?_
          repeat' (first | ((apply f_wo); first | ((apply f_gs); first | refine n_sk ?_) | ((apply f_mv); first | (refine zw1 ?_ ?_ <;> intro hG <;> (try cases hG)) | refine zg1 (v := .c _) ?_ | refine za ?_) | ((apply f_as); first | refine zf1 (v := .c _) ?_ | refine za ?_) | ((apply f_fa); first | refine n_fa ?_ | refine zk1 ?_) | ((apply f_ld); first | refine zp1 ?_ | refine zb1 ?_ | refine zw ?_ | refine zi1 ?_ | refine n_ld ?_) | ((apply f_bi); first | refine zd1 ?_ | refine zc1 ?_ | refine ze1 ?_ | refine zq2 ?_ | refine zq2 (hnu := zl _) ?_ | refine zv1 ?_ | refine zv1 (hnu := zl _) ?_ | refine za ?_) | ((apply f_st); first | refine n_st ?_ | refine zt1 ?_) | ((apply f_ia); first | refine n_ix ?_ | refine zc2 ?_ | refine za ?_) | ((apply zz1); first | refine za1 ?_ | refine zd2 ?_ | refine za ?_) | ((apply zq3); first | refine zh1 ?_ | refine za ?_) | ((apply zs1); first | refine zo ?_ | refine zr1 ?_ | refine za ?_) | ((apply f_no); first | refine zj2 ?_ | refine za ?_) | ((apply f_pk); first | refine zu1 (v := .c _) ?_ | refine za ?_) | ((apply f_bb); first | refine zg2 ?_ | refine zh2 ?_ | refine za ?_) | refine n_al ?_ | refine n_bs ?_ | refine za ?_) | ((apply f_w); first | refine zy ?_ | refine zc ?_) | refine zb fun C => ?_ | refine zn ?_ | refine ze ?_ | refine zh ?_ | refine zi ?_)
          refine zu ?_; refine ret1 rfl (zl3 (zu2 rfl (zu2 rfl (zk3 rfl rfl rfl (by first | exact zg _ | exact zf _ | exact bytC_clo _ | (simp [cloL, clo, zg, zf, zk, zj, zd]; done) | (simp [cloL, clo, opC, opL, zg, zf, zk, zj, zd]; done)) zs2)))) rfl (by first | rfl | (simp [cloL, clo, zg, zf, zk, zj, zd]; done)) rfl ⟨?_, ?_⟩
          · rfl
          · rw [← hqd]; rfl
theorem altI_c {s : ByteArray} (hs : s.size ≤ 1048576) (f : Nat) : ∀ p : PS, p.a ≤ s.size → p.d ≤ p.a → s.size + 1 ≤ p.a + f → Ctr Try.prog 124 [.c (.pt 0 0)] [rdrI s p] (.ag (owE (altI s f p).1)) [rdrI s (altI s f p).2] := by
  induction f with
  | zero => intro p h1 h2 h3; omega
  | succ f ih =>
    intro p h1 h2 h3
    have hat : ∀ r : PS, r.a < s.size → p.a ≤ r.a → Good s r (atomI s (altI s f) r) 1 1 0 := fun r hr hra => zr11 hs hr (zj10 hs f _ (by show r.a + 1 ≤ _; omega) (by show s.size + 1 ≤ r.a + 1 + f; omega))
    refine alt_c hs h1 h2 (fun q hq hqd hqa => zb14 hq fun r hr hrd hra => zm8 (hat r hr (by omega))) fun q hq hqd hqa => ?_
    refine cat_c hs hq (by omega) (fun r hr hrd hra => zm8 (hat r hr (by omega))) fun r hr hrd hra => ?_
    refine item_c hs (hat r hr (by omega)) ?_
    exact atom_c hs hr (by omega) (zj10 hs f _ (by show r.a + 1 ≤ _; omega) (by show s.size + 1 ≤ r.a + 1 + f; omega)) (ih _ (by show r.a + 1 ≤ _; omega) (by show r.d ≤ r.a + 1; omega) (by show s.size + 1 ≤ r.a + 1 + f; omega))
theorem zp8 {s : ByteArray} (hs : s.size ≤ 1048576) : Fine (readI s).1 ∧ (readI s).2.a ≤ s.size ∧ (readI s).1.sz ≤ 2 * s.size + 1 := by
  obtain ⟨g1, g2, g3, g4, g5⟩ := zj10 hs (s.size + 8) p00 (Nat.zero_le _) (by show s.size + 1 ≤ 0 + (s.size + 8); omega)
  have e0 : p00.a = 0 := rfl
  exact ⟨g1, g3, by unfold readI; omega⟩
set_option maxHeartbeats 4000000 in
theorem za11 {s : ByteArray} (hs : s.size ≤ 1048576) : Ctr Try.prog 110 [.c (.v (.string s))] [] (.tu [.ag (owE (rexR s)), .c (.v (.bool (parI s)))]) [] := by
  have halt := altI_c hs (s.size + 8) p00 (Nat.zero_le _) (Nat.le_refl _) (by show s.size + 1 ≤ 0 + (s.size + 8); omega)
  obtain ⟨hf, hle, hsz⟩ := zp8 hs
  unfold rexR parI
  unfold readI at hf hle hsz ⊢
  obtain ⟨⟨e, q⟩, hq⟩ : ∃ r, altI s (s.size + 8) p00 = r := ⟨_, rfl⟩
  rw [hq] at halt hf hle hsz ⊢
  dsimp only at halt hf hle hsz ⊢
  have hty := hf.ty.1
  have c1 := zm10 hty (by omega)
  have c2 := zs12 hty (by omega)
  cases hf with
  | mk k t l hk ht hl2 =>
  obtain ⟨qa, qd, qb⟩ := q
  unfold rdrI at halt
  dsimp only [p00] at halt hle ⊢
  refine zm2 Try.func110 rfl rfl ?_
  repeat' (first | ((apply f_wo); first | ((apply f_gs); first | refine n_sk ?_) | ((apply f_mv); first | (refine zw1 ?_ ?_ <;> intro hG <;> (try cases hG)) | refine zg1 (v := .c _) ?_ | refine za ?_) | ((apply f_as); first | refine zf1 (v := .c _) ?_ | refine za ?_) | ((apply f_fa); first | refine n_fa ?_ | refine zk1 ?_) | ((apply f_ld); first | refine zp1 ?_ | refine zb1 ?_ | refine zw ?_ | refine zi1 ?_ | refine n_ld ?_) | ((apply f_ca); first | refine zl2 8 (halt) ?_ | refine zr2 (c1) ?_ | refine zp2 (c1) ?_ | refine zr2 (c2) ?_ | refine zp2 (c2) ?_) | ((apply f_bi); first | refine zd1 ?_ | refine zc1 ?_ | refine ze1 ?_ | refine za ?_) | ((apply f_st); first | refine n_st ?_ | refine zt1 ?_) | ((apply zy2); first | refine zk2 ?_ | refine zo5 ?_ | refine za ?_) | ((apply f_no); first | refine zj2 ?_ | refine za ?_) | ((apply f_pk); first | refine zu1 (v := .c _) ?_ | refine za ?_) | refine n_al ?_ | refine n_bo ?_ | refine za ?_) | ((apply f_w); first | refine zy ?_ | refine zc ?_) | refine zb fun C => ?_ | refine zn ?_ | refine ze ?_ | refine zh ?_ | refine zi ?_)
  · repeat' (first | ((apply f_wo); first | ((apply f_gs); first | refine n_sk ?_) | ((apply f_mv); first | (refine zw1 ?_ ?_ <;> intro hG <;> (try cases hG)) | refine zg1 (v := .c _) ?_ | refine za ?_) | ((apply f_as); first | refine zf1 (v := .c _) ?_ | refine za ?_) | ((apply f_fa); first | refine n_fa ?_ | refine zk1 ?_) | ((apply f_ld); first | refine zp1 ?_ | refine zb1 ?_ | refine zw ?_ | refine zi1 ?_ | refine n_ld ?_) | ((apply f_bi); first | refine zd1 ?_ | refine zc1 ?_ | refine ze1 ?_ | refine za ?_) | ((apply f_st); first | refine n_st ?_ | refine zt1 ?_) | ((apply zy2); first | refine zk2 ?_ | refine zo5 ?_ | refine za ?_) | ((apply f_no); first | refine zj2 ?_ | refine za ?_) | ((apply f_pk); first | refine zu1 (v := .c _) ?_ | refine za ?_) | refine n_al ?_ | refine n_bo ?_ | refine za ?_) | ((apply f_w); first | refine zy ?_ | refine zc ?_) | refine zb fun C => ?_ | refine zn ?_ | refine ze ?_ | refine zh ?_ | refine zi ?_ | refine zx rfl ?_ | refine zv rfl ?_)
    refine zm4 (ze6 900 (i := 2) 141 3 rfl rfl (pre := [_, _]) (post := []) rfl) ?_
    refine zu ?_; refine ret0 rfl (ze7 (zz3 (zl3 (zu2 rfl (zu2 rfl (zk3 rfl rfl rfl (by first | exact zg _ | exact zf _ | exact bytC_clo _ | (simp [cloL, clo, zg, zf, zk, zj, zd]; done) | (simp [cloL, clo, opC, opL, zg, zf, zk, zj, zd]; done)) zs2)))) (zz3 zn2 zx5))) ⟨?_, rfl⟩
    have hP : (!true && (qa == s.size) && rexOkI (rexE k t l) && (rexT (rexE k t l)).toList == s.toList) = false := by clear halt c1 c2; first | (simp_all; done) | (simp_all; (try intros); omega)
    rw [hP]; rfl
  · repeat' (first | ((apply f_wo); first | ((apply f_gs); first | refine n_sk ?_) | ((apply f_mv); first | (refine zw1 ?_ ?_ <;> intro hG <;> (try cases hG)) | refine zg1 (v := .c _) ?_ | refine za ?_) | ((apply f_as); first | refine zf1 (v := .c _) ?_ | refine za ?_) | ((apply f_fa); first | refine n_fa ?_ | refine zk1 ?_) | ((apply f_ld); first | refine zp1 ?_ | refine zb1 ?_ | refine zw ?_ | refine zi1 ?_ | refine n_ld ?_) | ((apply f_bi); first | refine zd1 ?_ | refine zc1 ?_ | refine ze1 ?_ | refine za ?_) | ((apply f_st); first | refine n_st ?_ | refine zt1 ?_) | ((apply zy2); first | refine zk2 ?_ | refine zo5 ?_ | refine za ?_) | ((apply f_no); first | refine zj2 ?_ | refine za ?_) | ((apply f_pk); first | refine zu1 (v := .c _) ?_ | refine za ?_) | refine n_al ?_ | refine n_bo ?_ | refine za ?_) | ((apply f_w); first | refine zy ?_ | refine zc ?_) | refine zb fun C => ?_ | refine zn ?_ | refine ze ?_ | refine zh ?_ | refine zi ?_ | refine zx rfl ?_ | refine zv rfl ?_)
    refine zm4 (ze6 900 (i := 2) 141 3 rfl rfl (pre := [_, _]) (post := []) rfl) ?_
    refine zu ?_; refine ret0 rfl (ze7 (zz3 (zl3 (zu2 rfl (zu2 rfl (zk3 rfl rfl rfl (by first | exact zg _ | exact zf _ | exact bytC_clo _ | (simp [cloL, clo, zg, zf, zk, zj, zd]; done) | (simp [cloL, clo, opC, opL, zg, zf, zk, zj, zd]; done)) zs2)))) (zz3 zn2 zx5))) ⟨?_, rfl⟩
    have hP : (!false && (qa == s.size) && rexOkI (rexE k t l) && (rexT (rexE k t l)).toList == s.toList) = false := by clear halt c1 c2; first | (simp_all; done) | (simp_all; (try intros); omega)
    rw [hP]; rfl
  · repeat' (first | ((apply f_wo); first | ((apply f_gs); first | refine n_sk ?_) | ((apply f_mv); first | (refine zw1 ?_ ?_ <;> intro hG <;> (try cases hG)) | refine zg1 (v := .c _) ?_ | refine za ?_) | ((apply f_as); first | refine zf1 (v := .c _) ?_ | refine za ?_) | ((apply f_fa); first | refine n_fa ?_ | refine zk1 ?_) | ((apply f_ld); first | refine zp1 ?_ | refine zb1 ?_ | refine zw ?_ | refine zi1 ?_ | refine n_ld ?_) | ((apply f_bi); first | refine zd1 ?_ | refine zc1 ?_ | refine ze1 ?_ | refine za ?_) | ((apply f_st); first | refine n_st ?_ | refine zt1 ?_) | ((apply zy2); first | refine zk2 ?_ | refine zo5 ?_ | refine za ?_) | ((apply f_no); first | refine zj2 ?_ | refine za ?_) | ((apply f_pk); first | refine zu1 (v := .c _) ?_ | refine za ?_) | refine n_al ?_ | refine n_bo ?_ | refine za ?_) | ((apply f_w); first | refine zy ?_ | refine zc ?_) | refine zb fun C => ?_ | refine zn ?_ | refine ze ?_ | refine zh ?_ | refine zi ?_ | refine zx rfl ?_ | refine zv rfl ?_)
    refine zm4 (ze6 900 (i := 2) 141 3 rfl rfl (pre := [_, _]) (post := []) rfl) ?_
    refine zu ?_; refine ret0 rfl (ze7 (zz3 (zl3 (zu2 rfl (zu2 rfl (zk3 rfl rfl rfl (by first | exact zg _ | exact zf _ | exact bytC_clo _ | (simp [cloL, clo, zg, zf, zk, zj, zd]; done) | (simp [cloL, clo, opC, opL, zg, zf, zk, zj, zd]; done)) zs2)))) (zz3 zn2 zx5))) ⟨?_, rfl⟩
    have hP : (!false && (qa == s.size) && rexOkI (rexE k t l) && (rexT (rexE k t l)).toList == s.toList) = false := by clear halt c1 c2; first | (simp_all; done) | (simp_all; (try intros); omega)
    rw [hP]; rfl
  · refine zt (by rfl) (fun hC => ?_) fun hC => ?_
    · repeat' (first | ((apply f_wo); first | ((apply f_gs); first | refine n_sk ?_) | ((apply f_mv); first | (refine zw1 ?_ ?_ <;> intro hG <;> (try cases hG)) | refine zg1 (v := .c _) ?_ | refine za ?_) | ((apply f_as); first | refine zf1 (v := .c _) ?_ | refine za ?_) | ((apply f_fa); first | refine n_fa ?_ | refine zk1 ?_) | ((apply f_ld); first | refine zp1 ?_ | refine zb1 ?_ | refine zw ?_ | refine zi1 ?_ | refine n_ld ?_) | ((apply f_bi); first | refine zd1 ?_ | refine zc1 ?_ | refine ze1 ?_ | refine za ?_) | ((apply f_st); first | refine n_st ?_ | refine zt1 ?_) | ((apply zy2); first | refine zk2 ?_ | refine zo5 ?_ | refine za ?_) | ((apply f_no); first | refine zj2 ?_ | refine za ?_) | ((apply f_pk); first | refine zu1 (v := .c _) ?_ | refine za ?_) | refine n_al ?_ | refine n_bo ?_ | refine za ?_) | ((apply f_w); first | refine zy ?_ | refine zc ?_) | refine zb fun C => ?_ | refine zn ?_ | refine ze ?_ | refine zh ?_ | refine zi ?_ | refine zx rfl ?_ | refine zv rfl ?_)
      refine zm4 (ze6 900 (i := 2) 141 3 rfl rfl (pre := [_, _]) (post := []) rfl) ?_
      refine zu ?_; refine ret0 rfl (ze7 (zz3 (zl3 (zu2 rfl (zu2 rfl (zk3 rfl rfl rfl (by first | exact zg _ | exact zf _ | exact bytC_clo _ | (simp [cloL, clo, zg, zf, zk, zj, zd]; done) | (simp [cloL, clo, opC, opL, zg, zf, zk, zj, zd]; done)) zs2)))) (zz3 zn2 zx5))) ⟨?_, rfl⟩
      have hP : (!false && (qa == s.size) && rexOkI (rexE k t l) && (rexT (rexE k t l)).toList == s.toList) = false := by clear halt c1 c2; first | (simp_all; done) | (simp_all; (try intros); omega)
      rw [hP]; rfl
    · repeat' (first | ((apply f_wo); first | ((apply f_gs); first | refine n_sk ?_) | ((apply f_mv); first | (refine zw1 ?_ ?_ <;> intro hG <;> (try cases hG)) | refine zg1 (v := .c _) ?_ | refine za ?_) | ((apply f_as); first | refine zf1 (v := .c _) ?_ | refine za ?_) | ((apply f_fa); first | refine n_fa ?_ | refine zk1 ?_) | ((apply f_ld); first | refine zp1 ?_ | refine zb1 ?_ | refine zw ?_ | refine zi1 ?_ | refine n_ld ?_) | ((apply f_bi); first | refine zd1 ?_ | refine zc1 ?_ | refine ze1 ?_ | refine za ?_) | ((apply f_st); first | refine n_st ?_ | refine zt1 ?_) | ((apply zy2); first | refine zk2 ?_ | refine zo5 ?_ | refine za ?_) | ((apply f_no); first | refine zj2 ?_ | refine za ?_) | ((apply f_pk); first | refine zu1 (v := .c _) ?_ | refine za ?_) | refine n_al ?_ | refine n_bo ?_ | refine za ?_) | ((apply f_w); first | refine zy ?_ | refine zc ?_) | refine zb fun C => ?_ | refine zn ?_ | refine ze ?_ | refine zh ?_ | refine zi ?_ | refine zx rfl ?_ | refine zv rfl ?_)
      refine zu ?_; refine ret0 rfl (ze7 (zz3 (zl3 (zu2 rfl (zu2 rfl (zk3 rfl rfl rfl (by first | exact zg _ | exact zf _ | exact bytC_clo _ | (simp [cloL, clo, zg, zf, zk, zj, zd]; done) | (simp [cloL, clo, opC, opL, zg, zf, zk, zj, zd]; done)) zs2)))) (zz3 zn2 zx5))) ⟨?_, rfl⟩
      have hP : (!false && (qa == s.size) && rexOkI (rexE k t l) && (rexT (rexE k t l)).toList == s.toList) = true := by clear halt c1 c2; first | (simp_all; done) | (simp_all; (try intros); omega)
      rw [hP]; rfl
end Go.Proofs.Ytghljnfbbaklnaa
