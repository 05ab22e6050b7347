/- The program's RexOk: by the abstract machine. -/
import Derived.Test.YtghljnfbbaklnaaModuleOkK
namespace Go.Proofs.Ytghljnfbbaklnaa
open Go.RowKit
set_option maxRecDepth 100000
theorem isLoop_c {x : E} (hx : x.Ty Try.prog 141) : Ctr Try.prog 148 [.ag (acE x)] [] (.c (.v (.bool (loopK x.rk)))) [] := by
  obtain ⟨y0, y1, y2A, y2c, y2l, rfl, gy0, gy1, gy2, -⟩ := zq1 hx
  refine zm2 Try.func148 rfl rfl ?_
  repeat' (first | ((apply f_wo); first | ((apply f_gs); first | refine n_sk ?_) | ((apply f_mv); first | (refine zw1 ?_ ?_ <;> intro hG <;> (try cases hG)) | refine zg1 (v := .c _) ?_ | refine za ?_) | ((apply f_as); first | refine zf1 (v := .c _) ?_ | refine za ?_) | ((apply f_fa); first | refine n_fa ?_ | refine zk1 ?_) | ((apply f_ld); first | refine zp1 ?_ | refine zb1 ?_ | refine n_ld ?_) | ((apply zz1); first | refine za1 ?_ | refine za ?_) | ((apply f_pk); first | refine zu1 (v := .c _) ?_ | refine za ?_) | refine n_bo ?_ | refine za ?_) | ((apply f_w); first | refine zy ?_ | refine zc ?_) | refine zb fun C => ?_ | refine zn ?_ | refine ze ?_ | refine zh ?_ | refine zi ?_ | (refine zt (by rfl) ?_ ?_ <;> intro hC <;> (try cases hC)))
  all_goals
    (first | refine zu ?_ | skip); refine ret0 rfl zn2 ⟨?_, rfl⟩; refine congrArg (fun s => AV.c (AC.v (Value.bool s))) ?_
    simp only [E.rk]
    unfold loopK
    (rw [Bool.eq_iff_iff]; (try simp only [Bool.and_eq_true, Bool.or_eq_true, Bool.not_eq_true', decide_eq_true_iff, decide_eq_false_iff_not, beq_iff_eq, Bool.and_eq_false_iff, Bool.or_eq_false_iff, bne_iff_ne, ne_eq, Bool.true_eq_false, Bool.false_eq_true, true_iff, false_iff, iff_true, iff_false] at *); first | omega | (simp at *; omega))
theorem cloRex_c {x : E} (hx : x.Ty Try.prog 141) (k : Int) {c1 c2 : AC} (h1 : clo c1 = true) (h2 : clo c2 = true) : Ctr Try.prog 147 [.ag (acE x), .c (.pt 0 0)] [[.v (.int .i64 k), c1, c2]] (.c (.v (.bool (x.rk == k)))) [[.v (.int .i64 k), c1, c2]] := by
  obtain ⟨y0, y1, y2A, y2c, y2l, rfl, gy0, gy1, gy2, -⟩ := zq1 hx
  refine zm2 Try.func147 rfl rfl ?_
  repeat' (first | ((apply f_wo); first | ((apply f_as); first | refine zf1 (v := .c _) ?_ | refine za ?_) | ((apply f_fa); first | refine n_fa ?_ | refine zk1 ?_) | ((apply f_ld); first | refine zp1 ?_ | refine zb1 ?_ | refine n_ld ?_) | ((apply zz1); first | refine za1 ?_ | refine za ?_) | refine n_bo ?_ | refine za ?_) | ((apply f_w); first | refine zy ?_ | refine zc ?_) | refine zb fun C => ?_ | refine zn ?_ | refine ze ?_ | refine zh ?_ | refine zi ?_ | (refine zt (by rfl) ?_ ?_ <;> intro hC <;> (try cases hC)))
  refine zu ?_
  exact ret1 (x := .c (.v (.bool (y0 == k)))) (rw := ⟨0, 0, 0, true, [.v (.int .i64 k), c1, c2]⟩) rfl rfl rfl (by simp [cloL, clo, h1, h2]) rfl ⟨rfl, rfl⟩
theorem zq12 {s : ByteArray} : (s.toList == (ByteArray.mk #[]).toList) = (s.size == 0) := by
  rw [Bool.eq_iff_iff]
  simp only [beq_iff_eq]
  exact ⟨fun h => by have := toList_inj h; rw [this]; rfl, fun h => by rw [zp7 h]; rfl⟩
theorem ib0 {n : Nat} : ((n : Int) == 0) = (n == 0) := by rw [Bool.eq_iff_iff]; simp only [beq_iff_eq]; omega
theorem ib1 {n : Nat} : ((n : Int) == 1) = (n == 1) := by rw [Bool.eq_iff_iff]; simp only [beq_iff_eq]; omega
theorem inR28 {n : Nat} : inR (n : Int) 2 8 = (decide (2 ≤ n) && decide (n ≤ 8)) := by
  unfold inR
  rw [Bool.eq_iff_iff]; simp only [Bool.and_eq_true, decide_eq_true_iff]; omega
theorem zr12 {x0 : Int} {x1 : ByteArray} {A : Option Addr} {c : Nat} {l : List E} : headI (E.agg [.int .i64 x0, .str x1, .lst 3 141 A c l]) = (headR x0 x1 l && !((x0 == 4 || x0 == 5) && l.any fun x => x.rk == x0)) := rfl
theorem zs16 {l : List E} {y : E} (h1 : l.length = 1) (h2 : l[0]? = some y) : l = [y] := by
  match l, h1, h2 with
  | [z], _, h2 => simpa using h2
theorem zt16 {x0 : Int} {x1 : ByteArray} {l : List E} (h : ∀ k : Int, 1 ≤ k → k ≤ 11 → x0 ≠ k) : headR x0 x1 l = false := by
  unfold headR
  have h1 := h 1 (by omega) (by omega); have h2 := h 2 (by omega) (by omega); have h3 := h 3 (by omega) (by omega); have h4 := h 4 (by omega) (by omega); have h5 := h 5 (by omega) (by omega); have h6 := h 6 (by omega) (by omega)
  have h7 := h 7 (by omega) (by omega); have h8 := h 8 (by omega) (by omega); have h9 := h 9 (by omega) (by omega); have h10 := h 10 (by omega) (by omega); have h11 := h 11 (by omega) (by omega)
  simp [h1, h2, h3, h4, h5, h6, h7, h8, h9, h10, h11]
set_option maxHeartbeats 8000000 in
theorem zr17 {f : Nat} (ih : ∀ (e : E) (deep : Nat), e.Ty Try.prog 141 → e.sz ≤ 4194304 → deep + f = 7 → Ctr Try.prog 135 [.ag (acE e), .c (.v (.int .i64 (deep : Int)))] [] (.c (.v (.int .i64 ((partsI f e : Nat) : Int)))) []) (e : E) (deep : Nat) (he : e.Ty Try.prog 141) (hsz : e.sz ≤ 4194304) (hd : deep + (f + 1) = 7) : Ctr Try.prog 135 [.ag (acE e), .c (.v (.int .i64 (deep : Int)))] [] (.c (.v (.int .i64 ((partsI (f + 1) e : Nat) : Int)))) [] := by
  obtain ⟨x0, x1, x2A, x2c, l, rfl, gx0, gx1, gx2, -⟩ := zq1 he
  simp only [E.sz, E.szL] at hsz
  have hl : l.length ≤ 4194304 := by omega
  refine zm2 Try.func135 rfl rfl ?_
  repeat' (first | ((apply f_wo); first | ((apply f_gs); first | refine n_sk ?_) | ((apply f_mv); first | (refine zw1 ?_ ?_ <;> intro hG <;> (try cases hG)) | refine zg1 (v := .c _) ?_ | refine za ?_) | ((apply f_as); first | refine zf1 (v := .c _) ?_ | refine za ?_) | ((apply f_fa); first | refine n_fa ?_ | refine zk1 ?_) | ((apply f_ld); first | refine zp1 ?_ | refine zb1 ?_ | refine zw ?_ | refine zi1 ?_ | refine n_ld ?_) | ((apply f_bi); first | refine zd1 ?_ | refine zc1 ?_ | refine ze1 ?_ | refine za ?_) | ((apply f_st); first | refine n_st ?_ | refine zt1 ?_) | ((apply f_ia); first | refine n_ix ?_ | refine zc2 ?_ | refine za ?_) | ((apply zz1); first | refine za1 ?_ | refine zr4 ?_ | refine za ?_) | ((apply za2); first | refine zq ?_ | refine za ?_) | ((apply zq3); first | refine zh1 ?_ | refine za ?_) | ((apply zs3); first | refine zo1 ?_ | refine za ?_) | ((apply zs1); first | refine zo ?_ | refine zr1 ?_ | refine za ?_) | ((apply f_no); first | refine zj2 ?_ | refine za ?_) | ((apply f_pk); first | refine zu1 (v := .c _) ?_ | refine za ?_) | refine n_al ?_ | refine n_bo ?_ | refine zx3 ?_ | refine za ?_) | ((apply f_w); first | refine zy ?_ | refine zc ?_) | refine zb fun C => ?_ | refine zf12 ?_ | refine zh ?_ | refine zi ?_)
  refine zn ?_
  repeat' (first | ((apply f_wo); first | ((apply f_gs); first | refine n_sk ?_) | ((apply f_mv); first | (refine zw1 ?_ ?_ <;> intro hG <;> (try cases hG)) | refine zg1 (v := .c _) ?_ | refine za ?_) | ((apply f_as); first | refine zf1 (v := .c _) ?_ | refine za ?_) | ((apply f_fa); first | refine n_fa ?_ | refine zk1 ?_) | ((apply f_ld); first | refine zp1 ?_ | refine zb1 ?_ | refine zw ?_ | refine zi1 ?_ | refine n_ld ?_) | ((apply f_bi); first | refine zd1 ?_ | refine zc1 ?_ | refine ze1 ?_ | refine za ?_) | ((apply f_st); first | refine n_st ?_ | refine zt1 ?_) | ((apply f_ia); first | refine n_ix ?_ | refine zc2 ?_ | refine za ?_) | ((apply zz1); first | refine za1 ?_ | refine zr4 ?_ | refine za ?_) | ((apply za2); first | refine zq ?_ | refine za ?_) | ((apply zq3); first | refine zh1 ?_ | refine za ?_) | ((apply zs3); first | refine zo1 ?_ | refine za ?_) | ((apply zs1); first | refine zo ?_ | refine zr1 ?_ | refine za ?_) | ((apply f_no); first | refine zj2 ?_ | refine za ?_) | ((apply f_pk); first | refine zu1 (v := .c _) ?_ | refine za ?_) | refine n_al ?_ | refine n_bo ?_ | refine zx3 ?_ | refine za ?_) | ((apply f_w); first | refine zy ?_ | refine zc ?_) | refine zb fun C => ?_ | refine zf12 ?_ | refine zh ?_ | refine zi ?_)
  refine zt3 (by rfl) (fun h => by simp at h; omega) fun h => ?_
  refine zh ?_
  repeat' (first | ((apply f_wo); first | ((apply f_gs); first | refine n_sk ?_) | ((apply f_mv); first | (refine zw1 ?_ ?_ <;> intro hG <;> (try cases hG)) | refine zg1 (v := .c _) ?_ | refine za ?_) | ((apply f_as); first | refine zf1 (v := .c _) ?_ | refine za ?_) | ((apply f_fa); first | refine n_fa ?_ | refine zk1 ?_) | ((apply f_ld); first | refine zp1 ?_ | refine zb1 ?_ | refine zw ?_ | refine zi1 ?_ | refine n_ld ?_) | ((apply f_bi); first | refine zd1 ?_ | refine zc1 ?_ | refine ze1 ?_ | refine za ?_) | ((apply f_st); first | refine n_st ?_ | refine zt1 ?_) | ((apply f_ia); first | refine n_ix ?_ | refine zc2 ?_ | refine za ?_) | ((apply zz1); first | refine za1 ?_ | refine zr4 ?_ | refine za ?_) | ((apply za2); first | refine zq ?_ | refine za ?_) | ((apply zq3); first | refine zh1 ?_ | refine za ?_) | ((apply zs3); first | refine zo1 ?_ | refine za ?_) | ((apply zs1); first | refine zo ?_ | refine zr1 ?_ | refine za ?_) | ((apply f_no); first | refine zj2 ?_ | refine za ?_) | ((apply f_pk); first | refine zu1 (v := .c _) ?_ | refine za ?_) | refine n_al ?_ | refine n_bo ?_ | refine zx3 ?_ | refine za ?_) | ((apply f_w); first | refine zy ?_ | refine zc ?_) | refine zb fun C => ?_ | refine zf12 ?_ | refine zh ?_ | refine zi ?_)
  refine awp_join ⟨tmsF [(1, .c (.v (.int .i64 (deep : Int)))), (2, .c (.pt 2 0)), (5, .c (.v (.bool (headI (E.agg [.int .i64 x0, .str x1, .lst 3 141 x2A x2c l])))))], hpsF [(2, 2, ⟨141, 0, 0, true, [.v (.int .i64 x0), .v (.string x1), .ro l.length 3 (acL l)]⟩)], 0, [2], 115⟩ ?_ ?_
  · have c1 := setOk_c (s := x1) (by omega)
    have c2 := zl10 (zn7 x1 0)
    have c3 := zz20 gx2.1 gx2.2 (by omega) (b := [.v (.int .i64 x0), .v (.string x1), .ro l.length 3 (acL l)]) (by simp [cloL, clo, zf]) (fun x => x.rk == x0) 147 (fun x hx => cloRex_c (gx2.1 x hx) x0 rfl (by simp [clo, zf]))
    rw [zr12]
    clear ih he
    by_cases hin : x0 = 1 ∨ x0 = 2 ∨ x0 = 3 ∨ x0 = 4 ∨ x0 = 5 ∨ x0 = 9 ∨ x0 = 10 ∨ x0 = 11
    · rcases hin with rfl | rfl | rfl | rfl | rfl | rfl | rfl | rfl
      all_goals
        repeat' (first | ((apply f_wo); first | ((apply f_gs); first | refine n_sk ?_) | ((apply f_mv); first | (refine zw1 ?_ ?_ <;> intro hG <;> (try cases hG)) | refine zg1 (v := .c _) ?_ | refine za ?_) | ((apply f_as); first | refine zf1 (v := .c _) ?_ | refine za ?_) | ((apply f_fa); first | refine n_fa ?_ | refine zk1 ?_) | ((apply f_ld); first | refine zp1 ?_ | refine zb1 ?_ | refine zw ?_ | refine zi1 ?_ | refine n_ld ?_) | ((apply f_ca); first | refine zr2 (c1) ?_ | refine zp2 (c1) ?_ | refine zr2 (c2) ?_ | refine zp2 (c2) ?_ | refine zr2 ((zs5 _ _ _)) ?_ | refine zp2 ((zs5 _ _ _)) ?_ | refine zl2 2 (c3) ?_) | ((apply f_bi); first | refine zd1 ?_ | refine zc1 ?_ | refine ze1 ?_ | refine za ?_) | ((apply f_st); first | refine n_st ?_ | refine zt1 ?_) | ((apply f_ia); first | refine n_ix ?_ | refine zc2 ?_ | refine za ?_) | ((apply zz1); first | refine za1 ?_ | refine zr4 ?_ | refine za ?_) | ((apply za2); first | refine zq ?_ | refine za ?_) | ((apply zq3); first | refine zh1 ?_ | refine za ?_) | ((apply zs3); first | refine zo1 ?_ | refine za ?_) | ((apply zs1); first | refine zo ?_ | refine zr1 ?_ | refine za ?_) | ((apply f_no); first | refine zj2 ?_ | refine za ?_) | ((apply f_pk); first | refine zu1 (v := .c _) ?_ | refine za ?_) | refine n_al ?_ | refine n_bo ?_ | refine zx3 ?_ | refine za ?_) | ((apply f_w); first | refine zy ?_ | refine zc ?_) | refine zb fun C => ?_ | refine zn ?_ | refine ze ?_ | refine zh ?_ | refine zi ?_ | (refine zt (by rfl) ?_ ?_ <;> intro hC <;> (try cases hC)))
      all_goals
        (show Gh _ _
         refine zo2 _ _ rfl rfl (TmOk.cons rfl (TmOk.cons rfl (TmOk.cons (zg12 rfl (Lib.hid ?_)) TmOk.nil))) (RwOk.cons (zi2 rfl ?_) RwOk.nil)
         · unfold headR
           clear c1 c2 c3 gx0 gx1 gx2 hsz hl hd h
           (try simp only [zq12, ib0, ib1, inR28] at *)
           first
             | (simp_all; done)
             | (simp_all; intros; omega)
         · simp [cloL, clo, zf])
    · by_cases hlp : x0 = 6 ∨ x0 = 7 ∨ x0 = 8
      · by_cases hl1 : l.length = 1
        · obtain ⟨y, hy⟩ : ∃ y, l[0]? = some y := ⟨_, List.getElem?_eq_getElem (by omega)⟩
          have hgk := gx2.2
          have hyt := gx2.1 y (List.mem_of_getElem? hy)
          have c4 := isLoop_c hyt
          have hl2 := zs16 hl1 hy
          obtain ⟨y0, y1, y2A, y2c, y2l, rfl, gy0, gy1, gy2, -⟩ := zq1 hyt
          have hh : headR x0 x1 l = (x1.size == 0 && !(loopK y0)) := by
            rw [hl2]
            unfold headR
            rcases hlp with rfl | rfl | rfl <;> simp [E.rk]
          have hh2 : (headR x0 x1 l && !((x0 == 4 || x0 == 5) && l.any fun x => x.rk == x0)) = (x1.size == 0 && !(loopK y0)) := by
            rw [hh]
            rcases hlp with rfl | rfl | rfl <;> simp
          rw [hh2]
          clear hh hh2 c1 c2 c3
          rcases hlp with rfl | rfl | rfl
          all_goals
            repeat' (first | ((apply f_wo); first | ((apply f_gs); first | refine n_sk ?_) | ((apply f_mv); first | (refine zw1 ?_ ?_ <;> intro hG <;> (try cases hG)) | refine zg1 (v := .c _) ?_ | refine za ?_) | ((apply f_as); first | refine zf1 (v := .c _) ?_ | refine za ?_) | ((apply f_fa); first | refine n_fa ?_ | refine zk1 ?_) | ((apply f_ld); first | refine zp1 ?_ | refine zb1 ?_ | refine zw ?_ | refine zi1 ?_ | refine n_ld ?_) | ((apply f_ca); first | refine zr2 (c4) ?_ | refine zp2 (c4) ?_) | ((apply f_bi); first | refine zd1 ?_ | refine zc1 ?_ | refine ze1 ?_ | refine za ?_) | ((apply f_st); first | refine n_st ?_ | refine zt1 ?_) | ((apply f_ia); first | refine n_ix ?_ | refine zc2 ?_ | refine za ?_) | ((apply zz1); first | refine za1 ?_ | refine zr4 ?_ | refine za ?_) | ((apply za2); first | refine zq ?_ | refine za ?_) | ((apply zq3); first | refine zh1 ?_ | refine za ?_) | ((apply zs3); first | refine zo1 ?_ | refine za ?_) | ((apply zs1); first | refine zo ?_ | refine zr1 ?_ | refine za ?_) | ((apply f_no); first | refine zj2 ?_ | refine za ?_) | ((apply f_pk); first | refine zu1 (v := .c _) ?_ | refine za ?_) | refine n_al ?_ | refine n_bo ?_ | refine zx3 ?_ | refine za ?_) | ((apply f_w); first | refine zy ?_ | refine zc ?_) | refine zb fun C => ?_ | refine zn ?_ | refine ze ?_ | refine zh ?_ | refine zi ?_ | (refine zt (by rfl) ?_ ?_ <;> intro hC <;> (try cases hC)))
          all_goals first
            | (exfalso; simp [hl1] at hG; done)
            | (show Gh _ _
               refine zo2 _ _ rfl rfl (TmOk.cons rfl (TmOk.cons rfl (TmOk.cons (zg12 rfl (Lib.hid ?_)) TmOk.nil))) (RwOk.cons (zi2 rfl ?_) RwOk.nil)
               · clear c4 gx0 gx1 gx2 gy0 gy1 gy2 hsz hl hd h hgk hyt
                 (try simp only [E.rk, zq12, ib0, ib1, inR28] at *)
                 first
                   | (simp_all; done)
                   | (simp_all; intros; omega)
               · simp [cloL, clo, zf])
        · have hh : (headR x0 x1 l && !((x0 == 4 || x0 == 5) && l.any fun x => x.rk == x0)) = false := by
            unfold headR
            rcases hlp with rfl | rfl | rfl <;> simp [hl1]
          have hl1' : ((l.length : Int) == 1) = false := by rw [ib1]; simpa using hl1
          rw [hh]
          clear hh c1 c2 c3
          rcases hlp with rfl | rfl | rfl
          all_goals
            repeat' (first | ((apply f_wo); first | ((apply f_gs); first | refine n_sk ?_) | ((apply f_mv); first | (refine zw1 ?_ ?_ <;> intro hG <;> (try cases hG)) | refine zg1 (v := .c _) ?_ | refine za ?_) | ((apply f_as); first | refine zf1 (v := .c _) ?_ | refine za ?_) | ((apply f_fa); first | refine n_fa ?_ | refine zk1 ?_) | ((apply f_ld); first | refine zp1 ?_ | refine zb1 ?_ | refine zw ?_ | refine zi1 ?_ | refine n_ld ?_) | ((apply f_bi); first | refine zd1 ?_ | refine zc1 ?_ | refine ze1 ?_ | refine za ?_) | ((apply f_st); first | refine n_st ?_ | refine zt1 ?_) | ((apply f_ia); first | refine n_ix ?_ | refine zc2 ?_ | refine za ?_) | ((apply zz1); first | refine za1 ?_ | refine zr4 ?_ | refine za ?_) | ((apply za2); first | refine zq ?_ | refine za ?_) | ((apply zq3); first | refine zh1 ?_ | refine za ?_) | ((apply zs3); first | refine zo1 ?_ | refine za ?_) | ((apply zs1); first | refine zo ?_ | refine zr1 ?_ | refine za ?_) | ((apply f_no); first | refine zj2 ?_ | refine za ?_) | ((apply f_pk); first | refine zu1 (v := .c _) ?_ | refine za ?_) | refine n_al ?_ | refine n_bo ?_ | refine zx3 ?_ | refine za ?_) | ((apply f_w); first | refine zy ?_ | refine zc ?_) | refine zb fun C => ?_ | refine zn ?_ | refine ze ?_ | refine zh ?_ | refine zi ?_ | (refine zt (by rfl) ?_ ?_ <;> intro hC <;> (try cases hC)))
          all_goals first
            | (exfalso; rw [hl1'] at hG; cases hG; done)
            | (show Gh _ _
               refine zo2 _ _ rfl rfl (TmOk.cons rfl (TmOk.cons rfl (TmOk.cons (zg12 rfl (Lib.hid ?_)) TmOk.nil))) (RwOk.cons (zi2 rfl ?_) RwOk.nil)
               · first
                   | rfl
                   | simp_all
               · simp [cloL, clo, zf])
      · have hk : ∀ k : Int, 1 ≤ k → k ≤ 11 → x0 ≠ k := fun k g1 g2 g3 => by omega
        rw [zt16 hk, Bool.false_and]
        clear c1 c2 c3
        repeat' (first | ((apply f_wo); first | ((apply f_gs); first | refine n_sk ?_) | ((apply f_mv); first | (refine zw1 ?_ ?_ <;> intro hG <;> (try cases hG)) | refine zg1 (v := .c _) ?_ | refine za ?_) | ((apply f_as); first | refine zf1 (v := .c _) ?_ | refine za ?_) | ((apply f_fa); first | refine n_fa ?_ | refine zk1 ?_) | ((apply f_ld); first | refine zp1 ?_ | refine zb1 ?_ | refine zw ?_ | refine zi1 ?_ | refine n_ld ?_) | ((apply f_bi); first | refine zd1 ?_ | refine zc1 ?_ | refine ze1 ?_ | refine za ?_) | ((apply f_st); first | refine n_st ?_ | refine zt1 ?_) | ((apply f_ia); first | refine n_ix ?_ | refine zc2 ?_ | refine za ?_) | ((apply zz1); first | refine za1 ?_ | refine zr4 ?_ | refine za ?_) | ((apply za2); first | refine zq ?_ | refine za ?_) | ((apply zq3); first | refine zh1 ?_ | refine za ?_) | ((apply zs3); first | refine zo1 ?_ | refine za ?_) | ((apply zs1); first | refine zo ?_ | refine zr1 ?_ | refine za ?_) | ((apply f_no); first | refine zj2 ?_ | refine za ?_) | ((apply f_pk); first | refine zu1 (v := .c _) ?_ | refine za ?_) | refine n_al ?_ | refine n_bo ?_ | refine zx3 ?_ | refine za ?_) | ((apply f_w); first | refine zy ?_ | refine zc ?_) | refine zb fun C => ?_ | refine zn ?_ | refine ze ?_ | refine zh ?_ | refine zi ?_)
        iterate 15
          (first
            | refine zv rfl ?_
            | refine zt (by rfl) (fun hC => absurd (eq_of_beq hC) (hk _ (by omega) (by omega))) fun hC => ?_
            | skip) <;> repeat' (first | ((apply f_wo); first | ((apply f_gs); first | refine n_sk ?_) | ((apply f_mv); first | (refine zw1 ?_ ?_ <;> intro hG <;> (try cases hG)) | refine zg1 (v := .c _) ?_ | refine za ?_) | ((apply f_as); first | refine zf1 (v := .c _) ?_ | refine za ?_) | ((apply f_fa); first | refine n_fa ?_ | refine zk1 ?_) | ((apply f_ld); first | refine zp1 ?_ | refine zb1 ?_ | refine zw ?_ | refine zi1 ?_ | refine n_ld ?_) | ((apply f_bi); first | refine zd1 ?_ | refine zc1 ?_ | refine ze1 ?_ | refine za ?_) | ((apply f_st); first | refine n_st ?_ | refine zt1 ?_) | ((apply f_ia); first | refine n_ix ?_ | refine zc2 ?_ | refine za ?_) | ((apply zz1); first | refine za1 ?_ | refine zr4 ?_ | refine za ?_) | ((apply za2); first | refine zq ?_ | refine za ?_) | ((apply zq3); first | refine zh1 ?_ | refine za ?_) | ((apply zs3); first | refine zo1 ?_ | refine za ?_) | ((apply zs1); first | refine zo ?_ | refine zr1 ?_ | refine za ?_) | ((apply f_no); first | refine zj2 ?_ | refine za ?_) | ((apply f_pk); first | refine zu1 (v := .c _) ?_ | refine za ?_) | refine n_al ?_ | refine n_bo ?_ | refine zx3 ?_ | refine za ?_) | ((apply f_w); first | refine zy ?_ | refine zc ?_) | refine zb fun C => ?_ | refine zn ?_ | refine ze ?_ | refine zh ?_ | refine zi ?_)
        (show Gh _ _
         refine zo2 _ _ rfl rfl (TmOk.cons rfl (TmOk.cons rfl (TmOk.cons (zg12 rfl (Lib.hid ?_)) TmOk.nil))) (RwOk.cons (zi2 rfl ?_) RwOk.nil)
         · rfl
         · simp [cloL, clo, zf])
  · cases hh : headI (E.agg [.int .i64 x0, .str x1, .lst 3 141 x2A x2c l]) with
    | false =>
      repeat' (first | ((apply f_wo); first | ((apply f_gs); first | refine n_sk ?_) | ((apply f_mv); first | (refine zw1 ?_ ?_ <;> intro hG <;> (try cases hG)) | refine zg1 (v := .c _) ?_ | refine za ?_) | ((apply f_as); first | refine zf1 (v := .c _) ?_ | refine za ?_) | ((apply f_fa); first | refine n_fa ?_ | refine zk1 ?_) | ((apply f_ld); first | refine zp1 ?_ | refine zb1 ?_ | refine zw ?_ | refine zi1 ?_ | refine n_ld ?_) | ((apply f_bi); first | refine zd1 ?_ | refine zc1 ?_ | refine ze1 ?_ | refine za ?_) | ((apply f_st); first | refine n_st ?_ | refine zt1 ?_) | ((apply f_ia); first | refine n_ix ?_ | refine zc2 ?_ | refine za ?_) | ((apply zz1); first | refine za1 ?_ | refine zr4 ?_ | refine za ?_) | ((apply za2); first | refine zq ?_ | refine za ?_) | ((apply zq3); first | refine zh1 ?_ | refine za ?_) | ((apply zs3); first | refine zo1 ?_ | refine za ?_) | ((apply zs1); first | refine zo ?_ | refine zr1 ?_ | refine za ?_) | ((apply f_no); first | refine zj2 ?_ | refine za ?_) | ((apply f_pk); first | refine zu1 (v := .c _) ?_ | refine za ?_) | refine n_al ?_ | refine n_bo ?_ | refine zx3 ?_ | refine za ?_) | ((apply f_w); first | refine zy ?_ | refine zc ?_) | refine zb fun C => ?_ | refine zn ?_ | refine ze ?_ | refine zh ?_ | refine zi ?_ | refine zx rfl ?_ | refine zv rfl ?_)
      refine zu ?_
      refine ret0 (x := .c (.v (.int .i64 61))) rfl zn2 ⟨?_, rfl⟩
      unfold partsI; rw [hh]; rfl
    | true =>
      have hres : partsI (f + 1) (E.agg [.int .i64 x0, .str x1, .lst 3 141 x2A x2c l]) = sumI (partsI f) l 1 := by unfold partsI; rw [hh]; rfl
      rw [hres]
      clear hres
      generalize hT : sumI (partsI f) l 1 = tot
      repeat' (first | ((apply f_wo); first | ((apply f_gs); first | refine n_sk ?_) | ((apply f_mv); first | (refine zw1 ?_ ?_ <;> intro hG <;> (try cases hG)) | refine zg1 (v := .c _) ?_ | refine za ?_) | ((apply f_as); first | refine zf1 (v := .c _) ?_ | refine za ?_) | ((apply f_fa); first | refine n_fa ?_ | refine zk1 ?_) | ((apply f_ld); first | refine zp1 ?_ | refine zb1 ?_ | refine zw ?_ | refine zi1 ?_ | refine n_ld ?_) | ((apply f_bi); first | refine zd1 ?_ | refine zc1 ?_ | refine ze1 ?_ | refine za ?_) | ((apply f_st); first | refine n_st ?_ | refine zt1 ?_) | ((apply f_ia); first | refine n_ix ?_ | refine zc2 ?_ | refine za ?_) | ((apply zz1); first | refine za1 ?_ | refine zr4 ?_ | refine za ?_) | ((apply za2); first | refine zq ?_ | refine za ?_) | ((apply zq3); first | refine zh1 ?_ | refine za ?_) | ((apply zs3); first | refine zo1 ?_ | refine za ?_) | ((apply zs1); first | refine zo ?_ | refine zr1 ?_ | refine za ?_) | ((apply f_no); first | refine zj2 ?_ | refine za ?_) | ((apply f_pk); first | refine zu1 (v := .c _) ?_ | refine za ?_) | refine n_al ?_ | refine n_bo ?_ | refine zx3 ?_ | refine za ?_) | ((apply f_w); first | refine zy ?_ | refine zc ?_) | refine zb fun C => ?_ | refine zn ?_ | refine ze ?_ | refine zh ?_ | refine zi ?_ | refine zx rfl ?_ | refine zv rfl ?_)
      refine zp3 (fun d : Nat × Nat => ⟨tmsF [(1, .c (.v (.int .i64 (deep : Int)))), (6, .c (.v (.int .i64 (d.2 : Int)))), (99, .c (.ro l.length 3 (acL l))), (100, .c (.v (.int .i64 l.length))), (101, .c (.v (.int .i64 (d.1 : Int))))], hpsF [], 0, [], 115⟩) (fun N d => d.1 + N = l.length ∧ d.2 ≤ 60 ∧ sumI (partsI f) (l.drop d.1) d.2 = tot) l.length (0, 1) ⟨by simp, by simp, hT⟩ ?_ ?_
      · (refine zo2 _ _ rfl rfl ?_ ?_ <;> (repeat' (first | exact TmOk.nil | exact RwOk.nil | refine TmOk.cons ?_ ?_ | refine RwOk.cons ?_ ?_ | rfl | (refine rnV_id' rfl ?_; (first | rfl | (simp [cloV, cloL, clo, zj, zf, zk, zg, zd]; done))) | (refine zd3 ?_; first | rfl | omega | (rw [zb2 (by omega) (by omega)]; omega)) | (refine zi2 rfl ?_; (first | rfl | (simp [cloV, cloL, clo, zj, zf, zk, zg, zd]; done))) | exact zj4 rfl rfl | (refine ze3 (by rfl) (by rfl) ?_ ?_ <;> (first | rfl | (simp [cloV, cloL, clo, zj, zf, zk, zg, zd]; done))) | (refine rw_rn' rfl rfl ?_; simp; done))))
      rintro N ⟨k, n⟩ ⟨hN, hn, hs⟩
      dsimp only at hN hn hs ⊢
      repeat' (first | ((apply f_wo); first | ((apply f_gs); first | refine n_sk ?_) | ((apply f_mv); first | (refine zw1 ?_ ?_ <;> intro hG <;> (try cases hG)) | refine zg1 (v := .c _) ?_ | refine za ?_) | ((apply f_as); first | refine zf1 (v := .c _) ?_ | refine za ?_) | ((apply f_fa); first | refine n_fa ?_ | refine zk1 ?_) | ((apply f_ld); first | refine zp1 ?_ | refine zb1 ?_ | refine zw ?_ | refine zi1 ?_ | refine n_ld ?_) | ((apply f_bi); first | refine zd1 ?_ | refine zc1 ?_ | refine ze1 ?_ | refine za ?_) | ((apply f_st); first | refine n_st ?_ | refine zt1 ?_) | ((apply f_ia); first | refine n_ix ?_ | refine zc2 ?_ | refine za ?_) | ((apply zz1); first | refine za1 ?_ | refine zr4 ?_ | refine za ?_) | ((apply za2); first | refine zq ?_ | refine za ?_) | ((apply zq3); first | refine zh1 ?_ | refine za ?_) | ((apply zs3); first | refine zo1 ?_ | refine za ?_) | ((apply zs1); first | refine zo ?_ | refine zr1 ?_ | refine za ?_) | ((apply f_no); first | refine zj2 ?_ | refine za ?_) | ((apply f_pk); first | refine zu1 (v := .c _) ?_ | refine za ?_) | refine n_al ?_ | refine n_bo ?_ | refine zx3 ?_ | refine za ?_) | ((apply f_w); first | refine zy ?_ | refine zc ?_) | refine zb fun C => ?_ | refine zn ?_ | refine ze ?_ | refine zh ?_ | refine zi ?_)
      refine zt (by rfl) (fun h1 => ?_) fun h1 => ?_
      · have hk : k < l.length := by simpa using h1
        obtain ⟨x, hx⟩ : ∃ x, l[k]? = some x := ⟨_, List.getElem?_eq_getElem hk⟩
        have hxt := gx2.1 x (List.mem_of_getElem? hx)
        have hxs := E.szL_mem (List.mem_of_getElem? hx)
        have hc := ih x (deep + 1) hxt (by omega) (by omega)
        have hb := zf20 f x
        have hd1 : l.drop k = x :: l.drop (k + 1) := by rw [List.drop_eq_getElem_cons hk]; congr 1; rw [List.getElem?_eq_getElem hk] at hx; exact Option.some.inj hx
        rw [hd1] at hs
        unfold sumI at hs
        have hgk := gx2.2
        obtain ⟨y0, y1, y2A, y2c, y2l, rfl, gy0, gy1, gy2, -⟩ := zq1 hxt
        repeat' (first | ((apply f_wo); first | ((apply f_gs); first | refine n_sk ?_) | ((apply f_mv); first | (refine zw1 ?_ ?_ <;> intro hG <;> (try cases hG)) | refine zg1 (v := .c _) ?_ | refine za ?_) | ((apply f_as); first | refine zf1 (v := .c _) ?_ | refine za ?_) | ((apply f_fa); first | refine n_fa ?_ | refine zk1 ?_) | ((apply f_ld); first | refine zp1 ?_ | refine zb1 ?_ | refine zw ?_ | refine zi1 ?_ | refine n_ld ?_) | ((apply f_ca); first | refine zr2 (hc) ?_ | refine zp2 (hc) ?_) | ((apply f_bi); first | refine zd1 ?_ | refine zc1 ?_ | refine ze1 ?_ | refine za ?_) | ((apply f_st); first | refine n_st ?_ | refine zt1 ?_) | ((apply f_ia); first | refine n_ix ?_ | refine zc2 ?_ | refine za ?_) | ((apply zz1); first | refine za1 ?_ | refine zr4 ?_ | refine za ?_) | ((apply za2); first | refine zq ?_ | refine za ?_) | ((apply zq3); first | refine zh1 ?_ | refine za ?_) | ((apply zs3); first | refine zo1 ?_ | refine za ?_) | ((apply zs1); first | refine zo ?_ | refine zr1 ?_ | refine za ?_) | ((apply f_no); first | refine zj2 ?_ | refine za ?_) | ((apply f_pk); first | refine zu1 (v := .c _) ?_ | refine za ?_) | refine n_al ?_ | refine n_bo ?_ | refine zx3 ?_ | refine za ?_) | ((apply f_w); first | refine zy ?_ | refine zc ?_) | refine zb fun C => ?_ | refine zn ?_ | refine ze ?_ | refine zh ?_ | refine zi ?_)
        refine zt (by rfl) (fun h2 => ?_) fun h2 => ?_
        · have h3 : 61 ≤ n + partsI f (E.agg [.int .i64 y0, .str y1, .lst 3 141 y2A y2c y2l]) := by simp at h2; omega
          repeat' (first | ((apply f_wo); first | ((apply f_gs); first | refine n_sk ?_) | ((apply f_mv); first | (refine zw1 ?_ ?_ <;> intro hG <;> (try cases hG)) | refine zg1 (v := .c _) ?_ | refine za ?_) | ((apply f_as); first | refine zf1 (v := .c _) ?_ | refine za ?_) | ((apply f_fa); first | refine n_fa ?_ | refine zk1 ?_) | ((apply f_ld); first | refine zp1 ?_ | refine zb1 ?_ | refine zw ?_ | refine zi1 ?_ | refine n_ld ?_) | ((apply f_bi); first | refine zd1 ?_ | refine zc1 ?_ | refine ze1 ?_ | refine za ?_) | ((apply f_st); first | refine n_st ?_ | refine zt1 ?_) | ((apply f_ia); first | refine n_ix ?_ | refine zc2 ?_ | refine za ?_) | ((apply zz1); first | refine za1 ?_ | refine zr4 ?_ | refine za ?_) | ((apply za2); first | refine zq ?_ | refine za ?_) | ((apply zq3); first | refine zh1 ?_ | refine za ?_) | ((apply zs3); first | refine zo1 ?_ | refine za ?_) | ((apply zs1); first | refine zo ?_ | refine zr1 ?_ | refine za ?_) | ((apply f_no); first | refine zj2 ?_ | refine za ?_) | ((apply f_pk); first | refine zu1 (v := .c _) ?_ | refine za ?_) | refine n_al ?_ | refine n_bo ?_ | refine zx3 ?_ | refine za ?_) | ((apply f_w); first | refine zy ?_ | refine zc ?_) | refine zb fun C => ?_ | refine zn ?_ | refine ze ?_ | refine zh ?_ | refine zi ?_ | refine zx rfl ?_ | refine zv rfl ?_)
          refine zu ?_
          refine ret0 (x := .c (.v (.int .i64 61))) rfl zn2 ⟨?_, rfl⟩
          rw [if_pos h3] at hs
          rw [← hs]; rfl
        · have h3 : ¬ 61 ≤ n + partsI f (E.agg [.int .i64 y0, .str y1, .lst 3 141 y2A y2c y2l]) := by simp at h2; omega
          rw [if_neg h3] at hs
          repeat' (first | ((apply f_wo); first | ((apply f_gs); first | refine n_sk ?_) | ((apply f_mv); first | (refine zw1 ?_ ?_ <;> intro hG <;> (try cases hG)) | refine zg1 (v := .c _) ?_ | refine za ?_) | ((apply f_as); first | refine zf1 (v := .c _) ?_ | refine za ?_) | ((apply f_fa); first | refine n_fa ?_ | refine zk1 ?_) | ((apply f_ld); first | refine zp1 ?_ | refine zb1 ?_ | refine zw ?_ | refine zi1 ?_ | refine n_ld ?_) | ((apply f_bi); first | refine zd1 ?_ | refine zc1 ?_ | refine ze1 ?_ | refine za ?_) | ((apply f_st); first | refine n_st ?_ | refine zt1 ?_) | ((apply f_ia); first | refine n_ix ?_ | refine zc2 ?_ | refine za ?_) | ((apply zz1); first | refine za1 ?_ | refine zr4 ?_ | refine za ?_) | ((apply za2); first | refine zq ?_ | refine za ?_) | ((apply zq3); first | refine zh1 ?_ | refine za ?_) | ((apply zs3); first | refine zo1 ?_ | refine za ?_) | ((apply zs1); first | refine zo ?_ | refine zr1 ?_ | refine za ?_) | ((apply f_no); first | refine zj2 ?_ | refine za ?_) | ((apply f_pk); first | refine zu1 (v := .c _) ?_ | refine za ?_) | refine n_al ?_ | refine n_bo ?_ | refine zx3 ?_ | refine za ?_) | ((apply f_w); first | refine zy ?_ | refine zc ?_) | refine zb fun C => ?_ | refine zn ?_ | refine ze ?_ | refine zh ?_ | refine zi ?_ | refine zx rfl ?_ | refine zv rfl ?_)
          refine ⟨N - 1, (k + 1, n + partsI f (E.agg [.int .i64 y0, .str y1, .lst 3 141 y2A y2c y2l])), by omega, ⟨by dsimp only; omega, by dsimp only; omega, hs⟩, ?_⟩
          (refine zo2 _ _ rfl rfl ?_ ?_ <;> (repeat' (first | exact TmOk.nil | exact RwOk.nil | refine TmOk.cons ?_ ?_ | refine RwOk.cons ?_ ?_ | rfl | (refine rnV_id' rfl ?_; (first | rfl | (simp [cloV, cloL, clo, zj, zf, zk, zg, zd]; done))) | (refine zd3 ?_; first | rfl | omega | (rw [zb2 (by omega) (by omega)]; omega)) | (refine zi2 rfl ?_; (first | rfl | (simp [cloV, cloL, clo, zj, zf, zk, zg, zd]; done))) | exact zj4 rfl rfl | (refine ze3 (by rfl) (by rfl) ?_ ?_ <;> (first | rfl | (simp [cloV, cloL, clo, zj, zf, zk, zg, zd]; done))) | (refine rw_rn' rfl rfl ?_; simp; done))))
      · have hk : k = l.length := by simp at h1; omega
        repeat' (first | ((apply f_wo); first | ((apply f_gs); first | refine n_sk ?_) | ((apply f_mv); first | (refine zw1 ?_ ?_ <;> intro hG <;> (try cases hG)) | refine zg1 (v := .c _) ?_ | refine za ?_) | ((apply f_as); first | refine zf1 (v := .c _) ?_ | refine za ?_) | ((apply f_fa); first | refine n_fa ?_ | refine zk1 ?_) | ((apply f_ld); first | refine zp1 ?_ | refine zb1 ?_ | refine zw ?_ | refine zi1 ?_ | refine n_ld ?_) | ((apply f_bi); first | refine zd1 ?_ | refine zc1 ?_ | refine ze1 ?_ | refine za ?_) | ((apply f_st); first | refine n_st ?_ | refine zt1 ?_) | ((apply f_ia); first | refine n_ix ?_ | refine zc2 ?_ | refine za ?_) | ((apply zz1); first | refine za1 ?_ | refine zr4 ?_ | refine za ?_) | ((apply za2); first | refine zq ?_ | refine za ?_) | ((apply zq3); first | refine zh1 ?_ | refine za ?_) | ((apply zs3); first | refine zo1 ?_ | refine za ?_) | ((apply zs1); first | refine zo ?_ | refine zr1 ?_ | refine za ?_) | ((apply f_no); first | refine zj2 ?_ | refine za ?_) | ((apply f_pk); first | refine zu1 (v := .c _) ?_ | refine za ?_) | refine n_al ?_ | refine n_bo ?_ | refine zx3 ?_ | refine za ?_) | ((apply f_w); first | refine zy ?_ | refine zc ?_) | refine zb fun C => ?_ | refine zn ?_ | refine ze ?_ | refine zh ?_ | refine zi ?_ | refine zx rfl ?_ | refine zv rfl ?_)
        refine zu ?_
        refine ret0 (x := .c (.v (.int .i64 (n : Int)))) rfl zn2 ⟨?_, rfl⟩
        rw [hk, List.drop_length] at hs
        rw [← hs]; rfl
theorem zs17 (f : Nat) : ∀ (e : E) (deep : Nat), e.Ty Try.prog 141 → e.sz ≤ 4194304 → deep + f = 7 → Ctr Try.prog 135 [.ag (acE e), .c (.v (.int .i64 (deep : Int)))] [] (.c (.v (.int .i64 ((partsI f e : Nat) : Int)))) [] := by
  induction f with
  | zero =>
    intro e deep he hsz hd
    obtain ⟨x0, x1, x2A, x2c, l, rfl, gx0, gx1, gx2, -⟩ := zq1 he
    refine zm2 Try.func135 rfl rfl ?_
    obtain rfl : deep = 7 := by omega
    repeat' (first | ((apply f_wo); first | ((apply f_gs); first | refine n_sk ?_) | ((apply f_mv); first | (refine zw1 ?_ ?_ <;> intro hG <;> (try cases hG)) | refine zg1 (v := .c _) ?_ | refine za ?_) | ((apply f_as); first | refine zf1 (v := .c _) ?_ | refine za ?_) | ((apply f_fa); first | refine n_fa ?_ | refine zk1 ?_) | ((apply f_ld); first | refine zp1 ?_ | refine zb1 ?_ | refine zw ?_ | refine zi1 ?_ | refine n_ld ?_) | ((apply f_bi); first | refine zd1 ?_ | refine zc1 ?_ | refine ze1 ?_ | refine za ?_) | ((apply f_st); first | refine n_st ?_ | refine zt1 ?_) | ((apply f_ia); first | refine n_ix ?_ | refine zc2 ?_ | refine za ?_) | ((apply zz1); first | refine za1 ?_ | refine zr4 ?_ | refine za ?_) | ((apply za2); first | refine zq ?_ | refine za ?_) | ((apply zq3); first | refine zh1 ?_ | refine za ?_) | ((apply zs3); first | refine zo1 ?_ | refine za ?_) | ((apply zs1); first | refine zo ?_ | refine zr1 ?_ | refine za ?_) | ((apply f_no); first | refine zj2 ?_ | refine za ?_) | ((apply f_pk); first | refine zu1 (v := .c _) ?_ | refine za ?_) | refine n_al ?_ | refine n_bo ?_ | refine zx3 ?_ | refine za ?_) | ((apply f_w); first | refine zy ?_ | refine zc ?_) | refine zb fun C => ?_ | refine zn ?_ | refine ze ?_ | refine zh ?_ | refine zi ?_ | refine zx rfl ?_ | refine zv rfl ?_)
    refine zu ?_
    exact ret0 (x := .c (.v (.int .i64 61))) rfl zn2 ⟨rfl, rfl⟩
  | succ f ih => exact zr17 ih
def intE : E → Int
  | .int _ z => z
  | _ => 0
theorem indInt_c {l : List E} (hl : ∀ e ∈ l, e.Ty Try.prog 3) (hk : ∀ e ∈ l, e.enc.length = 1) (hlen : l.length ≤ 1073741824) (v : Int) : Ctr Try.prog 162 [.c (.ro l.length 1 (acL l)), .c (.v (.int .i64 v))] [] (.c (.v (.int .i64 (idxF (fun e => v == intE e) l)))) [] := by
  refine zm2 Try.func162 rfl rfl ?_
  repeat (first | refine zn ?_ | refine ze ?_ | refine zh ?_ | refine zi ?_ | refine zu ?_ | refine zb fun C => ?_ | refine zp (by kernel_rfl) (by kernel_rfl) fun C => ?_ | refine zc ?_ | refine zr3 ?_ | refine x_bs ?_ | refine x_gr ?_ | refine x_st ?_ | refine x_mv ?_ | refine x_sk ?_ | refine ze4 ?_ | refine x_ix ?_ | refine zf4 ?_ | refine zg4 ?_ | refine zu3 ?_ | refine zv2 ?_ | refine x_ld ?_)
  refine zp3 (fun k : Nat => ⟨tmsF [(0, .c (.ro l.length 1 (acL l))), (1, .c (.v (.int .i64 v))), (7, .c (.v (.int .i64 l.length))), (8, .c (.v (.int .i64 k)))], hpsF [], 0, [], 19⟩)
    (fun N k => k + N = l.length ∧ ∀ j y, j < k → l[j]? = some y → (fun e => v == intE e) y = false) l.length 0 ⟨by omega, by omega⟩ ?_ ?_
  · (refine zo2 _ _ rfl rfl ?_ ?_ <;> (repeat' (first | exact TmOk.nil | exact RwOk.nil | refine TmOk.cons ?_ ?_ | refine RwOk.cons ?_ ?_ | rfl | (refine rnV_id' rfl ?_; (first | rfl | (simp [cloV, cloL, clo, zj, zf, zk, zg, zd]; done))) | (refine zd3 ?_; first | rfl | omega | (rw [zb2 (by omega) (by omega)]; omega)) | (refine zi2 rfl ?_; (first | rfl | (simp [cloV, cloL, clo, zj, zf, zk, zg, zd]; done))) | exact zj4 rfl rfl | (refine ze3 (by rfl) (by rfl) ?_ ?_ <;> (first | rfl | (simp [cloV, cloL, clo, zj, zf, zk, zg, zd]; done))) | (refine rw_rn' rfl rfl ?_; simp; done))))
  rintro N k ⟨hN, hno⟩
  repeat (first | refine zn ?_ | refine ze ?_ | refine zh ?_ | refine zi ?_ | refine zu ?_ | refine zb fun C => ?_ | refine zp (by kernel_rfl) (by kernel_rfl) fun C => ?_ | refine zc ?_ | refine zr3 ?_ | refine x_bs ?_ | refine x_gr ?_ | refine x_st ?_ | refine x_mv ?_ | refine x_sk ?_ | refine ze4 ?_ | refine x_ix ?_ | refine zf4 ?_ | refine zg4 ?_ | refine zu3 ?_ | refine zv2 ?_ | refine x_ld ?_)
  refine zt3 (by rfl) (fun h1 => ?_) fun h1 => ?_
  · have hk' : k < l.length := by simpa using h1
    obtain ⟨x, hx⟩ : ∃ x, l[k]? = some x := ⟨_, List.getElem?_eq_getElem hk'⟩
    have hxt := hl x (List.mem_of_getElem? hx)
    obtain ⟨y0, rfl, -⟩ := hxt.int_ Try.underlying3
    repeat (first | refine zn ?_ | refine ze ?_ | refine zh ?_ | refine zi ?_ | refine zu ?_ | refine zb fun C => ?_ | refine zp (by kernel_rfl) (by kernel_rfl) fun C => ?_ | refine zc ?_ | refine zr3 ?_ | refine x_bs ?_ | refine x_gr ?_ | refine x_st ?_ | refine x_mv ?_ | refine x_sk ?_ | refine ze4 ?_ | refine x_ix ?_ | refine zf4 ?_ | refine zg4 ?_ | refine zu3 ?_ | refine zv2 ?_ | refine x_ld ?_)
    refine zt3 (by rfl) (fun h2 => ?_) fun h2 => ?_
    · repeat (first | refine zn ?_ | refine ze ?_ | refine zh ?_ | refine zi ?_ | refine zu ?_ | refine zb fun C => ?_ | refine zp (by kernel_rfl) (by kernel_rfl) fun C => ?_ | refine zc ?_ | refine zr3 ?_ | refine x_bs ?_ | refine x_gr ?_ | refine x_st ?_ | refine x_mv ?_ | refine x_sk ?_ | refine ze4 ?_ | refine x_ix ?_ | refine zf4 ?_ | refine zg4 ?_ | refine zu3 ?_ | refine zv2 ?_ | refine x_ld ?_)
      refine ret0 (x := .c (.v (.int .i64 k))) rfl zn2 ⟨?_, rfl⟩
      rw [zb10 hno hx (by simpa [intE, strB] using h2)]
    · repeat (first | refine zn ?_ | refine ze ?_ | refine zh ?_ | refine zi ?_ | refine zu ?_ | refine zb fun C => ?_ | refine zp (by kernel_rfl) (by kernel_rfl) fun C => ?_ | refine zc ?_ | refine zr3 ?_ | refine x_bs ?_ | refine x_gr ?_ | refine x_st ?_ | refine x_mv ?_ | refine x_sk ?_ | refine ze4 ?_ | refine x_ix ?_ | refine zf4 ?_ | refine zg4 ?_ | refine zu3 ?_ | refine zv2 ?_ | refine x_ld ?_)
      refine ⟨N - 1, k + 1, by omega, ⟨by omega, fun j z hj hz => ?_⟩, ?_⟩
      · by_cases e : j = k
        · rw [e, hx] at hz; injection hz with hz; subst hz; simpa [intE, strB] using h2
        · exact hno j z (by omega) hz
      · (refine zo2 _ _ rfl rfl ?_ ?_ <;> (repeat' (first | exact TmOk.nil | exact RwOk.nil | refine TmOk.cons ?_ ?_ | refine RwOk.cons ?_ ?_ | rfl | (refine rnV_id' rfl ?_; (first | rfl | (simp [cloV, cloL, clo, zj, zf, zk, zg, zd]; done))) | (refine zd3 ?_; first | rfl | omega | (rw [zb2 (by omega) (by omega)]; omega)) | (refine zi2 rfl ?_; (first | rfl | (simp [cloV, cloL, clo, zj, zf, zk, zg, zd]; done))) | exact zj4 rfl rfl | (refine ze3 (by rfl) (by rfl) ?_ ?_ <;> (first | rfl | (simp [cloV, cloL, clo, zj, zf, zk, zg, zd]; done))) | (refine rw_rn' rfl rfl ?_; simp; done))))
  · have hk' : ¬ k < l.length := by simpa using h1
    repeat (first | refine zn ?_ | refine ze ?_ | refine zh ?_ | refine zi ?_ | refine zu ?_ | refine zb fun C => ?_ | refine zp (by kernel_rfl) (by kernel_rfl) fun C => ?_ | refine zc ?_ | refine zr3 ?_ | refine x_bs ?_ | refine x_gr ?_ | refine x_st ?_ | refine x_mv ?_ | refine x_sk ?_ | refine ze4 ?_ | refine x_ix ?_ | refine zf4 ?_ | refine zg4 ?_ | refine zu3 ?_ | refine zv2 ?_ | refine x_ld ?_)
    refine ret0 (x := .c (.v (.int .i64 (-1)))) rfl zn2 ⟨?_, rfl⟩
    rw [zp6 fun j y hj hy => hno j y (by omega) hy]
theorem hasInt_c {l : List E} (hl : ∀ e ∈ l, e.Ty Try.prog 3) (hk : ∀ e ∈ l, e.enc.length = 1) (hlen : l.length ≤ 1073741824) (v : Int) : Ctr Try.prog 150 [.c (.ro l.length 1 (acL l)), .c (.v (.int .i64 v))] [] (.c (.v (.bool (l.any (fun e => v == intE e))))) [] := by
  refine zm2 Try.func150 rfl rfl ?_
  have hcc := indInt_c hl hk hlen v
  repeat (first | refine zn ?_ | refine ze ?_ | refine zh ?_ | refine zi ?_ | refine zu ?_ | refine zb fun C => ?_ | refine zp (by kernel_rfl) (by kernel_rfl) fun C => ?_ | refine zc ?_ | refine zr3 ?_ | refine x_bs ?_ | refine x_gr ?_ | refine x_st ?_ | refine x_mv ?_ | refine x_sk ?_ | refine ze4 ?_ | refine x_ix ?_ | refine zf4 ?_ | refine zg4 ?_ | refine zu3 ?_ | refine zv2 ?_ | refine x_ld ?_)
  refine zu6 hcc ?_
  repeat (first | refine zn ?_ | refine ze ?_ | refine zh ?_ | refine zi ?_ | refine zu ?_ | refine zb fun C => ?_ | refine zp (by kernel_rfl) (by kernel_rfl) fun C => ?_ | refine zc ?_ | refine zr3 ?_ | refine x_bs ?_ | refine x_gr ?_ | refine x_st ?_ | refine x_mv ?_ | refine x_sk ?_ | refine ze4 ?_ | refine x_ix ?_ | refine zf4 ?_ | refine zg4 ?_ | refine zu3 ?_ | refine zv2 ?_ | refine x_ld ?_)
  refine ret0 (x := .c (.v (.bool (decide (idxF (fun e => v == intE e) l ≥ 0))))) rfl zn2 ⟨?_, rfl⟩
  rw [zu7]
theorem zm10 {e : E} (he : e.Ty Try.prog 141) (hsz : e.sz ≤ 4194304) : Ctr Try.prog 125 [.ag (acE e)] [] (.c (.v (.bool (rexOkI e)))) [] := by
  have hc := zs17 6 e 1 he hsz rfl
  obtain ⟨x0, x1, x2A, x2c, l, rfl, gx0, gx1, gx2, -⟩ := zq1 he
  refine zm2 Try.func125 rfl rfl ?_
  repeat' (first | ((apply f_wo); first | ((apply f_as); first | refine zf1 (v := .c _) ?_ | refine za ?_) | ((apply f_ld); first | refine zw ?_ | refine zi1 ?_ | refine n_ld ?_) | ((apply f_ca); first | refine zr2 (hc) ?_ | refine zp2 (hc) ?_) | ((apply zb6); first | refine zj3 ?_ | refine za ?_) | refine n_bo ?_ | refine za ?_) | ((apply f_w); first | refine zy ?_ | refine zc ?_) | refine zb fun C => ?_ | refine zn ?_ | refine ze ?_ | refine zh ?_ | refine zi ?_ | (refine zt (by rfl) ?_ ?_ <;> intro hC <;> (try cases hC)))
  (first | refine zu ?_ | skip); refine ret0 rfl zn2 ⟨?_, rfl⟩; refine congrArg (fun s => AV.c (AC.v (Value.bool s))) ?_
  unfold rexOkI
  (rw [Bool.eq_iff_iff]; (try simp only [Bool.and_eq_true, Bool.or_eq_true, Bool.not_eq_true', decide_eq_true_iff, decide_eq_false_iff_not, beq_iff_eq, Bool.and_eq_false_iff, Bool.or_eq_false_iff, bne_iff_ne, ne_eq, Bool.true_eq_false, Bool.false_eq_true, true_iff, false_iff, iff_true, iff_false] at *); first | omega | (simp at *; omega))
def withK (ks : List Int) (k : Int) (t : ByteArray) : ByteArray := if ks.any (fun x => k == x) then ⟨#[40]⟩ ++ t ++ ⟨#[41]⟩ else t
theorem zg21 (a : List (List UInt8)) (x sep : List UInt8) : Lib.join (a ++ [x]) sep = (if a = [] then [] else Lib.join a sep ++ sep) ++ x := by
  cases a with
  | nil => simp [Lib.join_one]
  | cons y r =>
    rw [List.cons_append, Lib.join_cons, Lib.join_cons, if_neg (by simp)]
    simp [Lib.joinTail, List.append_assoc]
theorem zs11 (a b : List UInt8) : (ByteArray.mk (a ++ b).toArray) = ⟨a.toArray⟩ ++ ⟨b.toArray⟩ := by rw [ByteArray.mk_append_mk]
theorem mk_eta (s : ByteArray) : (ByteArray.mk s.data.toList.toArray) = s := by cases s; rfl
theorem zt17 {a : List E} (x : E) (sep : ByteArray) : joinB (a ++ [x]) sep = (if a = [] then ByteArray.empty else joinB a sep ++ sep) ++ strB x := by
  unfold joinB
  rw [List.map_append, List.map_cons, List.map_nil, zg21, zs11, mk_eta]
  congr 1
  by_cases h : a = []
  · subst h; rfl
  · rw [if_neg h, if_neg (by simpa using h), zs11, mk_eta]
end Go.Proofs.Ytghljnfbbaklnaa
