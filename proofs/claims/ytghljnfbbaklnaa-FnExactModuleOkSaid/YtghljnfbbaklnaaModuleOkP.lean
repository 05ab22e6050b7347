/- The reference's RexOk, RexText: by the abstract machine. -/
import Derived.Test.YtghljnfbbaklnaaModuleOkO
namespace Go.Proofs.Ytghljnfbbaklnaa
open Go.RowKit
set_option maxRecDepth 100000
theorem zo21 {f : Nat} {e : E} (h : partsS (f + 1) e ≤ 60) : ∀ x ∈ e.rl, partsS f x ≤ 60 := by unfold partsS at h; exact (ze10 h).2
def kidOk (f : Nat) (k : Int) (x : E) : Bool := okS f x && !(x.rk == k && !loopK k)
theorem okS_all {f : Nat} {x0 : Int} {x1 : ByteArray} {A : Option Addr} {c : Nat} {l : List E} : okS (f + 1) (E.agg [.int .i64 x0, .str x1, .lst 3 141 A c l]) = (l.all (kidOk f x0) && headR x0 x1 l) := rfl
theorem zw16 {p : E → Bool} {l : List E} {k : Nat} {x : E} (hx : l[k]? = some x) (h : p x = false) : l.all p = false := List.all_eq_false.2 ⟨x, List.mem_of_getElem? hx, by simp [h]⟩
theorem zu12 {p : E → Bool} {l : List E} (h : ∀ j y, j < l.length → l[j]? = some y → p y = true) : l.all p = true := List.all_eq_true.2 fun y hy => by
  obtain ⟨j, hj, rfl⟩ := List.getElem_of_mem hy
  exact h j _ hj (List.getElem?_eq_getElem hj)
set_option maxHeartbeats 8000000 in
theorem l3Ok_n (f : Nat) : ∀ (e : E), e.Ty Try.prog 141 → e.sz ≤ 4194304 → partsS f e ≤ 60 → Ctr Try.prog 140 [.ag (acE e)] [] (.c (.v (.bool (okS f e)))) [] := by
  induction f with
  | zero => intro e _ _ h; exact absurd h (by unfold partsS; omega)
  | succ f ih =>
    intro e he hsz hp
    have hkid := zo21 hp
    obtain ⟨x0, x1, x2A, x2c, l, rfl, gx0, gx1, gx2, -⟩ := zq1 he
    have hkid : ∀ x ∈ l, partsS f x ≤ 60 := hkid
    simp only [E.sz, E.szL] at hsz
    have hl : l.length ≤ 4194304 := by omega
    rw [okS_all]
    refine zm2 Try.func140 rfl rfl ?_
    repeat' (first | ((apply f_wo); first | ((apply f_gs); first | refine n_sk ?_) | ((apply f_mv); first | (refine zw1 ?_ ?_ <;> intro hG <;> (try cases hG)) | refine zg1 (v := .c _) ?_ | refine za ?_) | ((apply f_as); first | refine zf1 (v := .c _) ?_ | refine za ?_) | ((apply f_fa); first | refine n_fa ?_ | refine zk1 ?_) | ((apply f_ld); first | refine zp1 ?_ | refine zb1 ?_ | refine zw ?_ | refine zi1 ?_ | refine n_ld ?_) | ((apply f_bi); first | refine zd1 ?_ | refine zc1 ?_ | refine ze1 ?_ | refine za ?_) | ((apply f_ia); first | refine n_ix ?_ | refine zc2 ?_ | refine za ?_) | ((apply zz1); first | refine za1 ?_ | refine zr4 ?_ | refine za ?_) | ((apply za2); first | refine zq ?_ | refine za ?_) | ((apply zs1); first | refine zo ?_ | refine zr1 ?_ | refine za ?_) | ((apply f_no); first | refine zj2 ?_ | refine za ?_) | ((apply f_pk); first | refine zu1 (v := .c _) ?_ | refine za ?_) | refine n_bo ?_ | refine zx3 ?_ | refine za ?_) | ((apply f_w); first | refine zy ?_ | refine zc ?_) | ((apply d_wo); first | ((apply d_gs); first | refine o_sk ?_ | refine za4 ?_) | ((apply d_bo); (refine o_gm ?_ ?_ <;> intro hG <;> (try cases hG))) | ((apply d_mv); refine zr ?_) | ((apply d_as); refine zr ?_) | ((apply d_fa); first | refine o_fa ?_ | refine zb4 ?_) | ((apply d_ld); first | refine zc4 ?_ | refine zz2 ?_ | refine za3 ?_ | refine zd4 ?_ | refine zr ?_ | refine o_ld ?_) | ((apply d_bi); first | refine zn3 ?_ | refine zm3 ?_ | refine zo3 ?_ | refine zw2 ?_ | refine zw2 (hnu := zl _) ?_ | refine zx1 ?_ | refine zx1 (hnu := zl _) ?_ | refine zr ?_) | ((apply d_ia); first | refine o_ix ?_ | refine zz6 ?_ | refine zr ?_) | ((apply d_bb); first | refine zl1 ?_ | refine zm1 ?_ | refine zn1 ?_ | refine zw3 ?_ | refine zr ?_) | refine o_bo ?_ | refine zo4 ?_ | refine zr ?_) | ((apply d_w); first | refine zy ?_ | refine zc ?_) | refine zb fun C => ?_ | refine zp (by kernel_rfl) (by kernel_rfl) fun C => ?_ | refine zn ?_ | refine ze ?_ | refine zh ?_ | refine zi ?_)
    refine zp3 (fun k : Nat => ⟨tmsF [(1, .c (.pt 1 0)), (3, .c (.v (.int .i64 (k : Int))))], hpsF [(1, 1, ⟨141, 0, 0, true, [.v (.int .i64 x0), .v (.string x1), .ro l.length 3 (acL l)]⟩)], 0, [1], 114⟩) (fun N k => k + N = l.length ∧ ∀ j y, j < k → l[j]? = some y → kidOk f x0 y = true) l.length 0 ⟨by omega, by omega⟩ ?_ ?_
    · (refine zo2 _ _ rfl rfl ?_ ?_ <;> (repeat' (first | exact TmOk.nil | exact RwOk.nil | refine TmOk.cons ?_ ?_ | refine RwOk.cons ?_ ?_ | rfl | (refine rnV_id' rfl ?_; (first | rfl | (simp [cloV, cloL, clo, zj, zf, zk, zg, zd]; done))) | (refine zd3 ?_; first | rfl | omega | (rw [zb2 (by omega) (by omega)]; omega)) | (refine zi2 rfl ?_; (first | rfl | (simp [cloV, cloL, clo, zj, zf, zk, zg, zd]; done))) | exact zj4 rfl rfl | (refine ze3 (by rfl) (by rfl) ?_ ?_ <;> (first | rfl | (simp [cloV, cloL, clo, zj, zf, zk, zg, zd]; done))) | (refine rw_rn' rfl rfl ?_; simp; done))))
    rintro N k ⟨hN, hno⟩
    repeat' (first | ((apply f_wo); first | ((apply f_gs); first | refine n_sk ?_) | ((apply f_mv); first | (refine zw1 ?_ ?_ <;> intro hG <;> (try cases hG)) | refine zg1 (v := .c _) ?_ | refine za ?_) | ((apply f_as); first | refine zf1 (v := .c _) ?_ | refine za ?_) | ((apply f_fa); first | refine n_fa ?_ | refine zk1 ?_) | ((apply f_ld); first | refine zp1 ?_ | refine zb1 ?_ | refine zw ?_ | refine zi1 ?_ | refine n_ld ?_) | ((apply f_bi); first | refine zd1 ?_ | refine zc1 ?_ | refine ze1 ?_ | refine za ?_) | ((apply f_ia); first | refine n_ix ?_ | refine zc2 ?_ | refine za ?_) | ((apply zz1); first | refine za1 ?_ | refine zr4 ?_ | refine za ?_) | ((apply za2); first | refine zq ?_ | refine za ?_) | ((apply zs1); first | refine zo ?_ | refine zr1 ?_ | refine za ?_) | ((apply f_no); first | refine zj2 ?_ | refine za ?_) | ((apply f_pk); first | refine zu1 (v := .c _) ?_ | refine za ?_) | refine n_bo ?_ | refine zx3 ?_ | refine za ?_) | ((apply f_w); first | refine zy ?_ | refine zc ?_) | ((apply d_wo); first | ((apply d_gs); first | refine o_sk ?_ | refine za4 ?_) | ((apply d_bo); (refine o_gm ?_ ?_ <;> intro hG <;> (try cases hG))) | ((apply d_mv); refine zr ?_) | ((apply d_as); refine zr ?_) | ((apply d_fa); first | refine o_fa ?_ | refine zb4 ?_) | ((apply d_ld); first | refine zc4 ?_ | refine zz2 ?_ | refine za3 ?_ | refine zd4 ?_ | refine zr ?_ | refine o_ld ?_) | ((apply d_bi); first | refine zn3 ?_ | refine zm3 ?_ | refine zo3 ?_ | refine zw2 ?_ | refine zw2 (hnu := zl _) ?_ | refine zx1 ?_ | refine zx1 (hnu := zl _) ?_ | refine zr ?_) | ((apply d_ia); first | refine o_ix ?_ | refine zz6 ?_ | refine zr ?_) | ((apply d_bb); first | refine zl1 ?_ | refine zm1 ?_ | refine zn1 ?_ | refine zw3 ?_ | refine zr ?_) | refine o_bo ?_ | refine zo4 ?_ | refine zr ?_) | ((apply d_w); first | refine zy ?_ | refine zc ?_) | refine zb fun C => ?_ | refine zp (by kernel_rfl) (by kernel_rfl) fun C => ?_ | refine zn ?_ | refine ze ?_ | refine zh ?_ | refine zi ?_)
    refine zt (by rfl) (fun h1 => ?_) fun h1 => ?_
    · have hk' : k < l.length := by simpa using h1
      obtain ⟨x, hx⟩ : ∃ x, l[k]? = some x := ⟨_, List.getElem?_eq_getElem hk'⟩
      have hxm := List.mem_of_getElem? hx
      have hxt := gx2.1 x hxm
      have hxz := E.szL_mem hxm
      have hgk := gx2.2
      have hc := ih x hxt (by omega) (hkid x hxm)
      have hrk : ∀ y0 y1 A c l', x = E.agg [.int .i64 y0, .str y1, .lst 3 141 A c l'] → kidOk f x0 x = (okS f x && !(y0 == x0 && !loopK x0)) := fun y0 y1 A c l' e => by subst e; rfl
      obtain ⟨y0, y1, y2A, y2c, y2l, rfl, gy0, gy1, gy2, -⟩ := zq1 hxt
      have hrk := hrk _ _ _ _ _ rfl
      generalize hok : okS f (E.agg [E.int IntKind.i64 y0, E.str y1, E.lst 3 141 y2A y2c y2l]) = ok at hc hrk
      repeat' (first | ((apply f_wo); first | ((apply f_gs); first | refine n_sk ?_) | ((apply f_mv); first | (refine zw1 ?_ ?_ <;> intro hG <;> (try cases hG)) | refine zg1 (v := .c _) ?_ | refine za ?_) | ((apply f_as); first | refine zf1 (v := .c _) ?_ | refine za ?_) | ((apply f_fa); first | refine n_fa ?_ | refine zk1 ?_) | ((apply f_ld); first | refine zp1 ?_ | refine zb1 ?_ | refine zw ?_ | refine zi1 ?_ | refine n_ld ?_) | ((apply f_ca); first | refine zr2 (hc) ?_ | refine zp2 (hc) ?_ | refine zr2 ((zu5 _)) ?_ | refine zp2 ((zu5 _)) ?_) | ((apply f_bi); first | refine zd1 ?_ | refine zc1 ?_ | refine ze1 ?_ | refine za ?_) | ((apply f_ia); first | refine n_ix ?_ | refine zc2 ?_ | refine za ?_) | ((apply zz1); first | refine za1 ?_ | refine zr4 ?_ | refine za ?_) | ((apply za2); first | refine zq ?_ | refine za ?_) | ((apply zs1); first | refine zo ?_ | refine zr1 ?_ | refine za ?_) | ((apply f_no); first | refine zj2 ?_ | refine za ?_) | ((apply f_pk); first | refine zu1 (v := .c _) ?_ | refine za ?_) | refine n_bo ?_ | refine zx3 ?_ | refine za ?_) | ((apply f_w); first | refine zy ?_ | refine zc ?_) | ((apply d_wo); first | ((apply d_gs); first | refine o_sk ?_ | refine za4 ?_) | ((apply d_bo); (refine o_gm ?_ ?_ <;> intro hG <;> (try cases hG))) | ((apply d_mv); refine zr ?_) | ((apply d_as); refine zr ?_) | ((apply d_fa); first | refine o_fa ?_ | refine zb4 ?_) | ((apply d_ld); first | refine zc4 ?_ | refine zz2 ?_ | refine za3 ?_ | refine zd4 ?_ | refine zr ?_ | refine o_ld ?_) | ((apply d_ca); first | refine zn5 (hc) ?_ | refine zn5 ((zu5 _)) ?_) | ((apply d_bi); first | refine zn3 ?_ | refine zm3 ?_ | refine zo3 ?_ | refine zw2 ?_ | refine zw2 (hnu := zl _) ?_ | refine zx1 ?_ | refine zx1 (hnu := zl _) ?_ | refine zr ?_) | ((apply d_ia); first | refine o_ix ?_ | refine zz6 ?_ | refine zr ?_) | ((apply d_bb); first | refine zl1 ?_ | refine zm1 ?_ | refine zn1 ?_ | refine zw3 ?_ | refine zr ?_) | refine o_bo ?_ | refine zo4 ?_ | refine zr ?_) | ((apply d_w); first | refine zy ?_ | refine zc ?_) | refine zb fun C => ?_ | refine zp (by kernel_rfl) (by kernel_rfl) fun C => ?_ | refine zn ?_ | refine ze ?_ | refine zh ?_ | refine zi ?_ | (refine zt (by rfl) ?_ ?_ <;> intro hC <;> (try cases hC)))
      all_goals first
        | (refine zu ?_
           refine ret0 (x := .c (.v (.bool false))) rfl zn2 ⟨?_, rfl⟩
           rw [zw16 hx (by rw [hrk]; clear hc ih; simp_all), Bool.false_and])
        | (refine ⟨N - 1, k + 1, by omega, ⟨by omega, fun j z hj hz => ?_⟩, ?_⟩
           · by_cases e : j = k
             · rw [e, hx] at hz; injection hz with hz; subst hz; rw [hrk]; clear hc ih; simp_all
             · exact hno j z (by omega) hz
           · (refine zo2 _ _ rfl rfl ?_ ?_ <;> (repeat' (first | exact TmOk.nil | exact RwOk.nil | refine TmOk.cons ?_ ?_ | refine RwOk.cons ?_ ?_ | rfl | (refine rnV_id' rfl ?_; (first | rfl | (simp [cloV, cloL, clo, zj, zf, zk, zg, zd]; done))) | (refine zd3 ?_; first | rfl | omega | (rw [zb2 (by omega) (by omega)]; omega)) | (refine zi2 rfl ?_; (first | rfl | (simp [cloV, cloL, clo, zj, zf, zk, zg, zd]; done))) | exact zj4 rfl rfl | (refine ze3 (by rfl) (by rfl) ?_ ?_ <;> (first | rfl | (simp [cloV, cloL, clo, zj, zf, zk, zg, zd]; done))) | (refine rw_rn' rfl rfl ?_; simp; done)))))
    · have hk' : ¬ k < l.length := by simpa using h1
      rw [zu12 (p := kidOk f x0) fun j y hj hy => hno j y (by omega) hy, Bool.true_and]
      clear hno h1 ih hN hp
      have c1 := l3Set_c (s := x1) (by omega)
      have c2 := zt12 (zn7 x1 0)
      by_cases hin : x0 = 1 ∨ x0 = 2 ∨ x0 = 3 ∨ x0 = 4 ∨ x0 = 5 ∨ x0 = 9 ∨ x0 = 10 ∨ x0 = 11
      · rcases hin with rfl | rfl | rfl | rfl | rfl | rfl | rfl | rfl
        all_goals
          repeat' (first | ((apply f_wo); first | ((apply f_gs); first | refine n_sk ?_) | ((apply f_mv); first | (refine zw1 ?_ ?_ <;> intro hG <;> (try cases hG)) | refine zg1 (v := .c _) ?_ | refine za ?_) | ((apply f_as); first | refine zf1 (v := .c _) ?_ | refine za ?_) | ((apply f_fa); first | refine n_fa ?_ | refine zk1 ?_) | ((apply f_ld); first | refine zp1 ?_ | refine zb1 ?_ | refine zw ?_ | refine zi1 ?_ | refine n_ld ?_) | ((apply f_ca); first | refine zr2 (c1) ?_ | refine zp2 (c1) ?_ | refine zr2 (c2) ?_ | refine zp2 (c2) ?_ | refine zr2 ((zk6 _ _ _)) ?_ | refine zp2 ((zk6 _ _ _)) ?_) | ((apply f_bi); first | refine zd1 ?_ | refine zc1 ?_ | refine ze1 ?_ | refine za ?_) | ((apply f_ia); first | refine n_ix ?_ | refine zc2 ?_ | refine za ?_) | ((apply zz1); first | refine za1 ?_ | refine zr4 ?_ | refine za ?_) | ((apply za2); first | refine zq ?_ | refine za ?_) | ((apply zs1); first | refine zo ?_ | refine zr1 ?_ | refine za ?_) | ((apply f_no); first | refine zj2 ?_ | refine za ?_) | ((apply f_pk); first | refine zu1 (v := .c _) ?_ | refine za ?_) | refine n_bo ?_ | refine zx3 ?_ | refine za ?_) | ((apply f_w); first | refine zy ?_ | refine zc ?_) | ((apply d_wo); first | ((apply d_gs); first | refine o_sk ?_ | refine za4 ?_) | ((apply d_bo); (refine o_gm ?_ ?_ <;> intro hG <;> (try cases hG))) | ((apply d_mv); refine zr ?_) | ((apply d_as); refine zr ?_) | ((apply d_fa); first | refine o_fa ?_ | refine zb4 ?_) | ((apply d_ld); first | refine zc4 ?_ | refine zz2 ?_ | refine za3 ?_ | refine zd4 ?_ | refine zr ?_ | refine o_ld ?_) | ((apply d_ca); first | refine zn5 (c1) ?_ | refine zn5 (c2) ?_ | refine zn5 ((zk6 _ _ _)) ?_) | ((apply d_bi); first | refine zn3 ?_ | refine zm3 ?_ | refine zo3 ?_ | refine zw2 ?_ | refine zw2 (hnu := zl _) ?_ | refine zx1 ?_ | refine zx1 (hnu := zl _) ?_ | refine zr ?_) | ((apply d_ia); first | refine o_ix ?_ | refine zz6 ?_ | refine zr ?_) | ((apply d_bb); first | refine zl1 ?_ | refine zm1 ?_ | refine zn1 ?_ | refine zw3 ?_ | refine zr ?_) | refine o_bo ?_ | refine zo4 ?_ | refine zr ?_) | ((apply d_w); first | refine zy ?_ | refine zc ?_) | refine zb fun C => ?_ | refine zp (by kernel_rfl) (by kernel_rfl) fun C => ?_ | refine zn ?_ | refine ze ?_ | refine zh ?_ | refine zi ?_ | (refine zt (by rfl) ?_ ?_ <;> intro hC <;> (try cases hC)))
        all_goals
          (first | refine zu ?_ | skip); refine ret0 rfl zn2 ⟨?_, rfl⟩; refine congrArg (fun s => AV.c (AC.v (Value.bool s))) ?_
          clear c1 c2 gx0 gx1 gx2 he hsz hkid
          unfold headR
          (try simp only [zq12, ib0, ib1, inR28] at *)
          first
            | (simp_all; done)
            | (simp_all; intros; omega)
      by_cases hlp : x0 = 6 ∨ x0 = 7 ∨ x0 = 8
      · by_cases hl1 : l.length = 1
        · obtain ⟨y, hy⟩ : ∃ y, l[0]? = some y := ⟨_, List.getElem?_eq_getElem (by omega)⟩
          have hl2 : l = [y] := zs16 hl1 hy
          have hyt := gx2.1 y (List.mem_of_getElem? hy)
          have hgk := gx2.2
          obtain ⟨y0, y1, y2A, y2c, y2l, rfl, gy0, gy1, gy2, -⟩ := zq1 hyt
          have hr : headR x0 x1 l = (x1.size == 0 && !(loopK y0)) := by
            rw [hl2]; unfold headR
            rcases hlp with rfl | rfl | rfl <;> simp [E.rk]
          rw [hr]
          clear hr
          rcases hlp with rfl | rfl | rfl
          all_goals
            repeat' (first | ((apply f_wo); first | ((apply f_gs); first | refine n_sk ?_) | ((apply f_mv); first | (refine zw1 ?_ ?_ <;> intro hG <;> (try cases hG)) | refine zg1 (v := .c _) ?_ | refine za ?_) | ((apply f_as); first | refine zf1 (v := .c _) ?_ | refine za ?_) | ((apply f_fa); first | refine n_fa ?_ | refine zk1 ?_) | ((apply f_ld); first | refine zp1 ?_ | refine zb1 ?_ | refine zw ?_ | refine zi1 ?_ | refine n_ld ?_) | ((apply f_ca); first | refine zr2 ((zu5 _)) ?_ | refine zp2 ((zu5 _)) ?_) | ((apply f_bi); first | refine zd1 ?_ | refine zc1 ?_ | refine ze1 ?_ | refine za ?_) | ((apply f_ia); first | refine n_ix ?_ | refine zc2 ?_ | refine za ?_) | ((apply zz1); first | refine za1 ?_ | refine zr4 ?_ | refine za ?_) | ((apply za2); first | refine zq ?_ | refine za ?_) | ((apply zs1); first | refine zo ?_ | refine zr1 ?_ | refine za ?_) | ((apply f_no); first | refine zj2 ?_ | refine za ?_) | ((apply f_pk); first | refine zu1 (v := .c _) ?_ | refine za ?_) | refine n_bo ?_ | refine zx3 ?_ | refine za ?_) | ((apply f_w); first | refine zy ?_ | refine zc ?_) | ((apply d_wo); first | ((apply d_gs); first | refine o_sk ?_ | refine za4 ?_) | ((apply d_bo); (refine o_gm ?_ ?_ <;> intro hG <;> (try cases hG))) | ((apply d_mv); refine zr ?_) | ((apply d_as); refine zr ?_) | ((apply d_fa); first | refine o_fa ?_ | refine zb4 ?_) | ((apply d_ld); first | refine zc4 ?_ | refine zz2 ?_ | refine za3 ?_ | refine zd4 ?_ | refine zr ?_ | refine o_ld ?_) | ((apply d_ca); first | refine zn5 ((zu5 _)) ?_) | ((apply d_bi); first | refine zn3 ?_ | refine zm3 ?_ | refine zo3 ?_ | refine zw2 ?_ | refine zw2 (hnu := zl _) ?_ | refine zx1 ?_ | refine zx1 (hnu := zl _) ?_ | refine zr ?_) | ((apply d_ia); first | refine o_ix ?_ | refine zz6 ?_ | refine zr ?_) | ((apply d_bb); first | refine zl1 ?_ | refine zm1 ?_ | refine zn1 ?_ | refine zw3 ?_ | refine zr ?_) | refine o_bo ?_ | refine zo4 ?_ | refine zr ?_) | ((apply d_w); first | refine zy ?_ | refine zc ?_) | refine zb fun C => ?_ | refine zp (by kernel_rfl) (by kernel_rfl) fun C => ?_ | refine zn ?_ | refine ze ?_ | refine zh ?_ | refine zi ?_ | (refine zt (by rfl) ?_ ?_ <;> intro hC <;> (try cases hC)))
          all_goals
            (first | refine zu ?_ | skip); refine ret0 rfl zn2 ⟨?_, rfl⟩; refine congrArg (fun s => AV.c (AC.v (Value.bool s))) ?_
            clear c1 c2 gx0 gx1 gx2 he hsz hkid hgk hyt gy0 gy1 gy2
            (try simp only [zq12, ib0, ib1, inR28] at *)
            first
              | (simp_all; done)
              | (simp_all; intros; omega)
        · have hr : headR x0 x1 l = false := by
            unfold headR
            rcases hlp with rfl | rfl | rfl <;> simp [hl1]
          have hl1' : ((l.length : Int) == 1) = false := by rw [ib1]; simpa using hl1
          rw [hr]
          clear hr
          rcases hlp with rfl | rfl | rfl
          all_goals
            repeat' (first | ((apply f_wo); first | ((apply f_gs); first | refine n_sk ?_) | ((apply f_mv); first | (refine zw1 ?_ ?_ <;> intro hG <;> (try cases hG)) | refine zg1 (v := .c _) ?_ | refine za ?_) | ((apply f_as); first | refine zf1 (v := .c _) ?_ | refine za ?_) | ((apply f_fa); first | refine n_fa ?_ | refine zk1 ?_) | ((apply f_ld); first | refine zp1 ?_ | refine zb1 ?_ | refine zw ?_ | refine zi1 ?_ | refine n_ld ?_) | ((apply f_bi); first | refine zd1 ?_ | refine zc1 ?_ | refine ze1 ?_ | refine za ?_) | ((apply f_ia); first | refine n_ix ?_ | refine zc2 ?_ | refine za ?_) | ((apply zz1); first | refine za1 ?_ | refine zr4 ?_ | refine za ?_) | ((apply za2); first | refine zq ?_ | refine za ?_) | ((apply zs1); first | refine zo ?_ | refine zr1 ?_ | refine za ?_) | ((apply f_no); first | refine zj2 ?_ | refine za ?_) | ((apply f_pk); first | refine zu1 (v := .c _) ?_ | refine za ?_) | refine n_bo ?_ | refine zx3 ?_ | refine za ?_) | ((apply f_w); first | refine zy ?_ | refine zc ?_) | ((apply d_wo); first | ((apply d_gs); first | refine o_sk ?_ | refine za4 ?_) | ((apply d_bo); (refine o_gm ?_ ?_ <;> intro hG <;> (try cases hG))) | ((apply d_mv); refine zr ?_) | ((apply d_as); refine zr ?_) | ((apply d_fa); first | refine o_fa ?_ | refine zb4 ?_) | ((apply d_ld); first | refine zc4 ?_ | refine zz2 ?_ | refine za3 ?_ | refine zd4 ?_ | refine zr ?_ | refine o_ld ?_) | ((apply d_bi); first | refine zn3 ?_ | refine zm3 ?_ | refine zo3 ?_ | refine zw2 ?_ | refine zw2 (hnu := zl _) ?_ | refine zx1 ?_ | refine zx1 (hnu := zl _) ?_ | refine zr ?_) | ((apply d_ia); first | refine o_ix ?_ | refine zz6 ?_ | refine zr ?_) | ((apply d_bb); first | refine zl1 ?_ | refine zm1 ?_ | refine zn1 ?_ | refine zw3 ?_ | refine zr ?_) | refine o_bo ?_ | refine zo4 ?_ | refine zr ?_) | ((apply d_w); first | refine zy ?_ | refine zc ?_) | refine zb fun C => ?_ | refine zp (by kernel_rfl) (by kernel_rfl) fun C => ?_ | refine zn ?_ | refine ze ?_ | refine zh ?_ | refine zi ?_ | (refine zt (by rfl) ?_ ?_ <;> intro hC <;> (try cases hC)))
          all_goals first
            | (exfalso; rw [hl1'] at hG; cases hG; done)
            | ((first | refine zu ?_ | skip); refine ret0 rfl zn2 ⟨?_, rfl⟩; refine congrArg (fun s => AV.c (AC.v (Value.bool s))) ?_; rfl)
      have hk0 : ∀ k : Int, 1 ≤ k → k ≤ 11 → x0 ≠ k := fun k g1 g2 g3 => by omega
      rw [zt16 hk0]
      repeat' (first | ((apply f_wo); first | ((apply f_gs); first | refine n_sk ?_) | ((apply f_mv); first | (refine zw1 ?_ ?_ <;> intro hG <;> (try cases hG)) | refine zg1 (v := .c _) ?_ | refine za ?_) | ((apply f_as); first | refine zf1 (v := .c _) ?_ | refine za ?_) | ((apply f_fa); first | refine n_fa ?_ | refine zk1 ?_) | ((apply f_ld); first | refine zp1 ?_ | refine zb1 ?_ | refine zw ?_ | refine zi1 ?_ | refine n_ld ?_) | ((apply f_bi); first | refine zd1 ?_ | refine zc1 ?_ | refine ze1 ?_ | refine za ?_) | ((apply f_ia); first | refine n_ix ?_ | refine zc2 ?_ | refine za ?_) | ((apply zz1); first | refine za1 ?_ | refine zr4 ?_ | refine za ?_) | ((apply za2); first | refine zq ?_ | refine za ?_) | ((apply zs1); first | refine zo ?_ | refine zr1 ?_ | refine za ?_) | ((apply f_no); first | refine zj2 ?_ | refine za ?_) | ((apply f_pk); first | refine zu1 (v := .c _) ?_ | refine za ?_) | refine n_bo ?_ | refine zx3 ?_ | refine za ?_) | ((apply f_w); first | refine zy ?_ | refine zc ?_) | ((apply d_wo); first | ((apply d_gs); first | refine o_sk ?_ | refine za4 ?_) | ((apply d_bo); (refine o_gm ?_ ?_ <;> intro hG <;> (try cases hG))) | ((apply d_mv); refine zr ?_) | ((apply d_as); refine zr ?_) | ((apply d_fa); first | refine o_fa ?_ | refine zb4 ?_) | ((apply d_ld); first | refine zc4 ?_ | refine zz2 ?_ | refine za3 ?_ | refine zd4 ?_ | refine zr ?_ | refine o_ld ?_) | ((apply d_bi); first | refine zn3 ?_ | refine zm3 ?_ | refine zo3 ?_ | refine zw2 ?_ | refine zw2 (hnu := zl _) ?_ | refine zx1 ?_ | refine zx1 (hnu := zl _) ?_ | refine zr ?_) | ((apply d_ia); first | refine o_ix ?_ | refine zz6 ?_ | refine zr ?_) | ((apply d_bb); first | refine zl1 ?_ | refine zm1 ?_ | refine zn1 ?_ | refine zw3 ?_ | refine zr ?_) | refine o_bo ?_ | refine zo4 ?_ | refine zr ?_) | ((apply d_w); first | refine zy ?_ | refine zc ?_) | refine zb fun C => ?_ | refine zp (by kernel_rfl) (by kernel_rfl) fun C => ?_ | refine zn ?_ | refine ze ?_ | refine zh ?_ | refine zi ?_)
      iterate 20
        (first
          | refine zv rfl ?_
          | refine zt (by rfl) (fun hC => absurd (eq_of_beq hC) (hk0 _ (by omega) (by omega))) fun hC => ?_
          | skip) <;> repeat' (first | ((apply f_wo); first | ((apply f_gs); first | refine n_sk ?_) | ((apply f_mv); first | (refine zw1 ?_ ?_ <;> intro hG <;> (try cases hG)) | refine zg1 (v := .c _) ?_ | refine za ?_) | ((apply f_as); first | refine zf1 (v := .c _) ?_ | refine za ?_) | ((apply f_fa); first | refine n_fa ?_ | refine zk1 ?_) | ((apply f_ld); first | refine zp1 ?_ | refine zb1 ?_ | refine zw ?_ | refine zi1 ?_ | refine n_ld ?_) | ((apply f_bi); first | refine zd1 ?_ | refine zc1 ?_ | refine ze1 ?_ | refine za ?_) | ((apply f_ia); first | refine n_ix ?_ | refine zc2 ?_ | refine za ?_) | ((apply zz1); first | refine za1 ?_ | refine zr4 ?_ | refine za ?_) | ((apply za2); first | refine zq ?_ | refine za ?_) | ((apply zs1); first | refine zo ?_ | refine zr1 ?_ | refine za ?_) | ((apply f_no); first | refine zj2 ?_ | refine za ?_) | ((apply f_pk); first | refine zu1 (v := .c _) ?_ | refine za ?_) | refine n_bo ?_ | refine zx3 ?_ | refine za ?_) | ((apply f_w); first | refine zy ?_ | refine zc ?_) | ((apply d_wo); first | ((apply d_gs); first | refine o_sk ?_ | refine za4 ?_) | ((apply d_bo); (refine o_gm ?_ ?_ <;> intro hG <;> (try cases hG))) | ((apply d_mv); refine zr ?_) | ((apply d_as); refine zr ?_) | ((apply d_fa); first | refine o_fa ?_ | refine zb4 ?_) | ((apply d_ld); first | refine zc4 ?_ | refine zz2 ?_ | refine za3 ?_ | refine zd4 ?_ | refine zr ?_ | refine o_ld ?_) | ((apply d_bi); first | refine zn3 ?_ | refine zm3 ?_ | refine zo3 ?_ | refine zw2 ?_ | refine zw2 (hnu := zl _) ?_ | refine zx1 ?_ | refine zx1 (hnu := zl _) ?_ | refine zr ?_) | ((apply d_ia); first | refine o_ix ?_ | refine zz6 ?_ | refine zr ?_) | ((apply d_bb); first | refine zl1 ?_ | refine zm1 ?_ | refine zn1 ?_ | refine zw3 ?_ | refine zr ?_) | refine o_bo ?_ | refine zo4 ?_ | refine zr ?_) | ((apply d_w); first | refine zy ?_ | refine zc ?_) | refine zb fun C => ?_ | refine zp (by kernel_rfl) (by kernel_rfl) fun C => ?_ | refine zn ?_ | refine ze ?_ | refine zh ?_ | refine zi ?_)
      (first | refine zu ?_ | skip); refine ret0 rfl zn2 ⟨?_, rfl⟩; refine congrArg (fun s => AV.c (AC.v (Value.bool s))) ?_
      rfl
theorem zm15 {e : E} (he : e.Ty Try.prog 141) (hsz : e.sz ≤ 4194304) : Ctr Try.prog 130 [.ag (acE e)] [] (.c (.v (.bool (rexOkS e)))) [] := by
  have c1 := zn21 6 e 1 (by omega) he hsz rfl
  by_cases hp : partsS 6 e ≤ 60
  · have c2 := l3Ok_n 6 e he hsz hp
    have hr : rexOkS e = okS 6 e := by unfold rexOkS; rw [decide_eq_true hp, Bool.true_and]
    rw [hr]
    clear hr
    obtain ⟨x0, x1, x2A, x2c, l, rfl, gx0, gx1, gx2, -⟩ := zq1 he
    refine zm2 Try.func130 rfl rfl ?_
    repeat' (first | ((apply f_wo); first | ((apply f_gs); first | refine n_sk ?_) | ((apply f_mv); first | (refine zw1 ?_ ?_ <;> intro hG <;> (try cases hG)) | refine zg1 (v := .c _) ?_ | refine za ?_) | ((apply f_as); first | refine zf1 (v := .c _) ?_ | refine za ?_) | ((apply f_ld); first | refine zw ?_ | refine zi1 ?_ | refine n_ld ?_) | ((apply f_ca); first | refine zr2 (c1) ?_ | refine zp2 (c1) ?_ | refine zr2 (c2) ?_ | refine zp2 (c2) ?_) | ((apply zb6); first | refine zj3 ?_ | refine za ?_) | ((apply f_pk); first | refine zu1 (v := .c _) ?_ | refine za ?_) | refine n_bo ?_ | refine za ?_) | ((apply f_w); first | refine zy ?_ | refine zc ?_) | refine zb fun C => ?_ | refine zn ?_ | refine ze ?_ | refine zh ?_ | refine zi ?_)
    · (first | refine zu ?_ | skip); refine ret0 rfl zn2 ⟨?_, rfl⟩; refine congrArg (fun s => AV.c (AC.v (Value.bool s))) ?_
      rfl
    · exfalso; simp only [decide_eq_false_iff_not] at hG; omega
  · have hr : rexOkS e = false := by unfold rexOkS; rw [decide_eq_false hp, Bool.false_and]
    rw [hr]
    clear hr
    obtain ⟨x0, x1, x2A, x2c, l, rfl, gx0, gx1, gx2, -⟩ := zq1 he
    refine zm2 Try.func130 rfl rfl ?_
    repeat' (first | ((apply f_wo); first | ((apply f_gs); first | refine n_sk ?_) | ((apply f_mv); first | (refine zw1 ?_ ?_ <;> intro hG <;> (try cases hG)) | refine zg1 (v := .c _) ?_ | refine za ?_) | ((apply f_as); first | refine zf1 (v := .c _) ?_ | refine za ?_) | ((apply f_ld); first | refine zw ?_ | refine zi1 ?_ | refine n_ld ?_) | ((apply f_ca); first | refine zr2 (c1) ?_ | refine zp2 (c1) ?_) | ((apply zb6); first | refine zj3 ?_ | refine za ?_) | ((apply f_pk); first | refine zu1 (v := .c _) ?_ | refine za ?_) | refine n_bo ?_ | refine za ?_) | ((apply f_w); first | refine zy ?_ | refine zc ?_) | refine zb fun C => ?_ | refine zn ?_ | refine ze ?_ | refine zh ?_ | refine zi ?_)
    · exfalso; simp only [decide_eq_true_iff] at hG; omega
    · repeat' (first | ((apply f_wo); first | ((apply f_gs); first | refine n_sk ?_) | ((apply f_mv); first | (refine zw1 ?_ ?_ <;> intro hG <;> (try cases hG)) | refine zg1 (v := .c _) ?_ | refine za ?_) | ((apply f_as); first | refine zf1 (v := .c _) ?_ | refine za ?_) | ((apply f_ld); first | refine zw ?_ | refine zi1 ?_ | refine n_ld ?_) | ((apply zb6); first | refine zj3 ?_ | refine za ?_) | ((apply f_pk); first | refine zu1 (v := .c _) ?_ | refine za ?_) | refine n_bo ?_ | refine za ?_) | ((apply f_w); first | refine zy ?_ | refine zc ?_) | refine zb fun C => ?_ | refine zn ?_ | refine ze ?_ | refine zh ?_ | refine zi ?_ | refine zx rfl ?_ | refine zv rfl ?_)
      (first | refine zu ?_ | skip); refine ret0 rfl zn2 ⟨?_, rfl⟩; refine congrArg (fun s => AV.c (AC.v (Value.bool s))) ?_
      rfl
set_option maxHeartbeats 4000000 in
theorem zx16 {g : E → ByteArray} {b : ByteArray} (hb : b.size ≤ 1) {l : List E} (hl : ∀ x ∈ l, x.Ty Try.prog 141) (hk3 : ∀ x ∈ l, x.enc.length = 3) (hlen : l.length ≤ 8) (hsz : ∀ x ∈ l, (g x).size ≤ 960)
    (hg : ∀ x ∈ l, Ctr Try.prog 131 [.ag (acE x)] [] (.c (.v (.string (g x)))) []) :
    Ctr Try.prog 141 [.c (.ro l.length 3 (acL l)), .c (.v (.string b)), .c (.v (.int .i64 5))] [] (.c (.v (.string (joinT g b l)))) [] := by
  refine zm2 Try.func141 rfl rfl ?_
  repeat' (first | ((apply f_wo); first | ((apply f_mv); first | refine zg1 (v := .c _) ?_ | refine za ?_) | ((apply f_as); first | refine zf1 (v := .c _) ?_ | refine za ?_) | ((apply f_fa); first | refine n_fa ?_ | refine zk1 ?_) | ((apply f_ld); first | refine zp1 ?_ | refine zb1 ?_ | refine zw ?_ | refine zi1 ?_ | refine n_ld ?_) | ((apply f_bi); first | refine zd1 ?_ | refine zc1 ?_ | refine ze1 ?_ | refine za ?_) | ((apply f_ia); first | refine n_ix ?_ | refine zc2 ?_ | refine za ?_) | ((apply zz1); first | refine za1 ?_ | refine za ?_) | ((apply za2); first | refine zq ?_ | refine za ?_) | ((apply zq3); first | refine zh1 ?_ | refine za ?_) | ((apply zs1); first | refine zo ?_ | refine zr1 ?_ | refine za ?_) | refine za ?_) | ((apply f_w); first | refine zy ?_ | refine zc ?_) | refine zb fun C => ?_ | refine zn ?_ | refine ze ?_ | refine zh ?_ | refine zi ?_)
  refine zp3 (fun k : Nat => ⟨tmsF [(0, .c (.ro l.length 3 (acL l))), (1, .c (.v (.string b))), (2, .c (.v (.int .i64 5))), (7, .c (.v (.string (joinT g b (l.take k))))), (8, .c (.v (.int .i64 k)))], hpsF [], 0, [], 44⟩)
    (fun N k => k + N = l.length) l.length 0 (by omega) ?_ ?_
  · (refine zo2 _ _ rfl rfl ?_ ?_ <;> (repeat' (first | exact TmOk.nil | exact RwOk.nil | refine TmOk.cons ?_ ?_ | refine RwOk.cons ?_ ?_ | rfl | (refine rnV_id' rfl ?_; (first | rfl | (simp [cloV, cloL, clo, zj, zf, zk, zg, zd]; done))) | (refine zd3 ?_; first | rfl | omega | (rw [zb2 (by omega) (by omega)]; omega)) | (refine zi2 rfl ?_; (first | rfl | (simp [cloV, cloL, clo, zj, zf, zk, zg, zd]; done))) | exact zj4 rfl rfl | (refine ze3 (by rfl) (by rfl) ?_ ?_ <;> (first | rfl | (simp [cloV, cloL, clo, zj, zf, zk, zg, zd]; done))) | (refine rw_rn' rfl rfl ?_; simp; done))))
  rintro N k hN
  repeat' (first | ((apply f_wo); first | ((apply f_mv); first | refine zg1 (v := .c _) ?_ | refine za ?_) | ((apply f_as); first | refine zf1 (v := .c _) ?_ | refine za ?_) | ((apply f_fa); first | refine n_fa ?_ | refine zk1 ?_) | ((apply f_ld); first | refine zp1 ?_ | refine zb1 ?_ | refine zw ?_ | refine zi1 ?_ | refine n_ld ?_) | ((apply f_bi); first | refine zd1 ?_ | refine zc1 ?_ | refine ze1 ?_ | refine za ?_) | ((apply f_ia); first | refine n_ix ?_ | refine zc2 ?_ | refine za ?_) | ((apply zz1); first | refine za1 ?_ | refine za ?_) | ((apply za2); first | refine zq ?_ | refine za ?_) | ((apply zq3); first | refine zh1 ?_ | refine za ?_) | ((apply zs1); first | refine zo ?_ | refine zr1 ?_ | refine za ?_) | refine za ?_) | ((apply f_w); first | refine zy ?_ | refine zc ?_) | refine zb fun C => ?_ | refine zn ?_ | refine ze ?_ | refine zh ?_ | refine zi ?_)
  refine zt (by rfl) (fun hk1 => ?_) fun hk1 => ?_
  · have hk' : k < l.length := by simpa using hk1
    obtain ⟨x, hx⟩ : ∃ x, l[k]? = some x := ⟨_, List.getElem?_eq_getElem hk'⟩
    have hxm := List.mem_of_getElem? hx
    have hxt := hl x hxm
    have hc := hg x hxm
    have hz1 := zd7 (b := b) hsz k (by omega)
    have hz2 := hsz x hxm
    have hz3 : k * (960 + 2 + b.size) ≤ 8 * 963 := Nat.mul_le_mul (by omega) (by omega)
    have e := zc7 g b hx
    have o1 : (ByteArray.mk #[40]).size = 1 := rfl
    have o2 : (ByteArray.mk #[41]).size = 1 := rfl
    have hgk := hk3
    have hkk : ∀ y0 y1 A c l', x = E.agg [.int .i64 y0, .str y1, .lst 3 141 A c l'] → brk g x = if y0 = 5 then ⟨#[40]⟩ ++ g x ++ ⟨#[41]⟩ else g x := fun y0 y1 A c l' h => by subst h; rfl
    obtain ⟨y0, y1, y2A, y2c, y2l, rfl, gy0, gy1, gy2, -⟩ := zq1 hxt
    have hkk := hkk _ _ _ _ _ rfl
    rw [hkk] at e
    generalize hgx : g (E.agg [E.int IntKind.i64 y0, E.str y1, E.lst 3 141 y2A y2c y2l]) = t at hc hz2 e
    generalize hJ : joinT g b (l.take k) = J at hz1 e ⊢
    have s1 : (J ++ b).size = J.size + b.size := ByteArray.size_append' ..
    have s2 : (J ++ b ++ ⟨#[40]⟩).size = J.size + b.size + 1 := by rw [ByteArray.size_append', s1]; rfl
    have s3 : (J ++ ⟨#[40]⟩).size = J.size + 1 := by rw [ByteArray.size_append']; rfl
    have s4 : (J ++ b ++ ⟨#[40]⟩ ++ t).size = J.size + b.size + 1 + t.size := by rw [ByteArray.size_append', s2]
    have s5 : (J ++ ⟨#[40]⟩ ++ t).size = J.size + 1 + t.size := by rw [ByteArray.size_append', s3]
    repeat' (first | ((apply f_wo); first | ((apply f_mv); first | refine zg1 (v := .c _) ?_ | refine za ?_) | ((apply f_as); first | refine zf1 (v := .c _) ?_ | refine za ?_) | ((apply f_fa); first | refine n_fa ?_ | refine zk1 ?_) | ((apply f_ld); first | refine zp1 ?_ | refine zb1 ?_ | refine zw ?_ | refine zi1 ?_ | refine n_ld ?_) | ((apply f_bi); first | refine zd1 ?_ | refine zc1 ?_ | refine ze1 ?_ | refine za ?_) | ((apply f_ia); first | refine n_ix ?_ | refine zc2 ?_ | refine za ?_) | ((apply zz1); first | refine za1 ?_ | refine za ?_) | ((apply za2); first | refine zq ?_ | refine za ?_) | ((apply zq3); first | refine zh1 ?_ | refine za ?_) | ((apply zs1); first | refine zo ?_ | refine zr1 ?_ | refine za ?_) | refine za ?_) | ((apply f_w); first | refine zy ?_ | refine zc ?_) | refine zb fun C => ?_ | refine zn ?_ | refine ze ?_ | refine zh ?_ | refine zi ?_)
    by_cases hk0 : k = 0
    · subst hk0
      refine zv rfl ?_
      repeat' (first | ((apply f_wo); first | ((apply f_mv); first | refine zg1 (v := .c _) ?_ | refine za ?_) | ((apply f_as); first | refine zf1 (v := .c _) ?_ | refine za ?_) | ((apply f_fa); first | refine n_fa ?_ | refine zk1 ?_) | ((apply f_ld); first | refine zp1 ?_ | refine zb1 ?_ | refine zw ?_ | refine zi1 ?_ | refine n_ld ?_) | ((apply f_bi); first | refine zd1 ?_ | refine zc1 ?_ | refine ze1 ?_ | refine za ?_) | ((apply f_ia); first | refine n_ix ?_ | refine zc2 ?_ | refine za ?_) | ((apply zz1); first | refine za1 ?_ | refine za ?_) | ((apply za2); first | refine zq ?_ | refine za ?_) | ((apply zq3); first | refine zh1 ?_ | refine za ?_) | ((apply zs1); first | refine zo ?_ | refine zr1 ?_ | refine za ?_) | refine za ?_) | ((apply f_w); first | refine zy ?_ | refine zc ?_) | refine zb fun C => ?_ | refine zn ?_ | refine ze ?_ | refine zh ?_ | refine zi ?_)
      obtain rfl : J = ByteArray.empty := hJ.symm
      refine zt (by rfl) (fun h5 => ?_) fun h5 => ?_
      · repeat' (first | ((apply f_wo); first | ((apply f_mv); first | refine zg1 (v := .c _) ?_ | refine za ?_) | ((apply f_as); first | refine zf1 (v := .c _) ?_ | refine za ?_) | ((apply f_fa); first | refine n_fa ?_ | refine zk1 ?_) | ((apply f_ld); first | refine zp1 ?_ | refine zb1 ?_ | refine zw ?_ | refine zi1 ?_ | refine n_ld ?_) | ((apply f_ca); first | refine zr2 (hc) ?_ | refine zp2 (hc) ?_) | ((apply f_bi); first | refine zd1 ?_ | refine zc1 ?_ | refine ze1 ?_ | refine za ?_) | ((apply f_ia); first | refine n_ix ?_ | refine zc2 ?_ | refine za ?_) | ((apply zz1); first | refine za1 ?_ | refine za ?_) | ((apply za2); first | refine zq ?_ | refine za ?_) | ((apply zq3); first | refine zh1 ?_ | refine za ?_) | ((apply zs1); first | refine zo ?_ | refine zr1 ?_ | refine za ?_) | refine za ?_) | ((apply f_w); first | refine zy ?_ | refine zc ?_) | refine zb fun C => ?_ | refine zn ?_ | refine ze ?_ | refine zh ?_ | refine zi ?_ | (refine zt (by rfl) ?_ ?_ <;> intro hC <;> (try cases hC)))
        refine ⟨N - 1, 1, by omega, by omega, ?_⟩
        rw [e, if_pos rfl, if_pos (eq_of_beq h5)]
        simp only [zk8, zy6]
        (refine zo2 _ _ rfl rfl ?_ ?_ <;> (repeat' (first | exact TmOk.nil | exact RwOk.nil | refine TmOk.cons ?_ ?_ | refine RwOk.cons ?_ ?_ | rfl | (refine rnV_id' rfl ?_; (first | rfl | (simp [cloV, cloL, clo, zj, zf, zk, zg, zd]; done))) | (refine zd3 ?_; first | rfl | omega | (rw [zb2 (by omega) (by omega)]; omega)) | (refine zi2 rfl ?_; (first | rfl | (simp [cloV, cloL, clo, zj, zf, zk, zg, zd]; done))) | exact zj4 rfl rfl | (refine ze3 (by rfl) (by rfl) ?_ ?_ <;> (first | rfl | (simp [cloV, cloL, clo, zj, zf, zk, zg, zd]; done))) | (refine rw_rn' rfl rfl ?_; simp; done))))
      · repeat' (first | ((apply f_wo); first | ((apply f_mv); first | refine zg1 (v := .c _) ?_ | refine za ?_) | ((apply f_as); first | refine zf1 (v := .c _) ?_ | refine za ?_) | ((apply f_fa); first | refine n_fa ?_ | refine zk1 ?_) | ((apply f_ld); first | refine zp1 ?_ | refine zb1 ?_ | refine zw ?_ | refine zi1 ?_ | refine n_ld ?_) | ((apply f_ca); first | refine zr2 (hc) ?_ | refine zp2 (hc) ?_) | ((apply f_bi); first | refine zd1 ?_ | refine zc1 ?_ | refine ze1 ?_ | refine za ?_) | ((apply f_ia); first | refine n_ix ?_ | refine zc2 ?_ | refine za ?_) | ((apply zz1); first | refine za1 ?_ | refine za ?_) | ((apply za2); first | refine zq ?_ | refine za ?_) | ((apply zq3); first | refine zh1 ?_ | refine za ?_) | ((apply zs1); first | refine zo ?_ | refine zr1 ?_ | refine za ?_) | refine za ?_) | ((apply f_w); first | refine zy ?_ | refine zc ?_) | refine zb fun C => ?_ | refine zn ?_ | refine ze ?_ | refine zh ?_ | refine zi ?_ | (refine zt (by rfl) ?_ ?_ <;> intro hC <;> (try cases hC)))
        refine ⟨N - 1, 1, by omega, by omega, ?_⟩
        rw [e, if_pos rfl, if_neg (fun h => by rw [h] at h5; cases h5)]
        (refine zo2 _ _ rfl rfl ?_ ?_ <;> (repeat' (first | exact TmOk.nil | exact RwOk.nil | refine TmOk.cons ?_ ?_ | refine RwOk.cons ?_ ?_ | rfl | (refine rnV_id' rfl ?_; (first | rfl | (simp [cloV, cloL, clo, zj, zf, zk, zg, zd]; done))) | (refine zd3 ?_; first | rfl | omega | (rw [zb2 (by omega) (by omega)]; omega)) | (refine zi2 rfl ?_; (first | rfl | (simp [cloV, cloL, clo, zj, zf, zk, zg, zd]; done))) | exact zj4 rfl rfl | (refine ze3 (by rfl) (by rfl) ?_ ?_ <;> (first | rfl | (simp [cloV, cloL, clo, zj, zf, zk, zg, zd]; done))) | (refine rw_rn' rfl rfl ?_; simp; done))))
    · refine zt (by rfl) (fun _ => ?_) fun hC => by exfalso; simp only [decide_eq_false_iff_not] at hC; omega
      repeat' (first | ((apply f_wo); first | ((apply f_mv); first | refine zg1 (v := .c _) ?_ | refine za ?_) | ((apply f_as); first | refine zf1 (v := .c _) ?_ | refine za ?_) | ((apply f_fa); first | refine n_fa ?_ | refine zk1 ?_) | ((apply f_ld); first | refine zp1 ?_ | refine zb1 ?_ | refine zw ?_ | refine zi1 ?_ | refine n_ld ?_) | ((apply f_bi); first | refine zd1 ?_ | refine zc1 ?_ | refine ze1 ?_ | refine za ?_) | ((apply f_ia); first | refine n_ix ?_ | refine zc2 ?_ | refine za ?_) | ((apply zz1); first | refine za1 ?_ | refine za ?_) | ((apply za2); first | refine zq ?_ | refine za ?_) | ((apply zq3); first | refine zh1 ?_ | refine za ?_) | ((apply zs1); first | refine zo ?_ | refine zr1 ?_ | refine za ?_) | refine za ?_) | ((apply f_w); first | refine zy ?_ | refine zc ?_) | refine zb fun C => ?_ | refine zn ?_ | refine ze ?_ | refine zh ?_ | refine zi ?_)
      refine zt (by rfl) (fun h5 => ?_) fun h5 => ?_
      · repeat' (first | ((apply f_wo); first | ((apply f_mv); first | refine zg1 (v := .c _) ?_ | refine za ?_) | ((apply f_as); first | refine zf1 (v := .c _) ?_ | refine za ?_) | ((apply f_fa); first | refine n_fa ?_ | refine zk1 ?_) | ((apply f_ld); first | refine zp1 ?_ | refine zb1 ?_ | refine zw ?_ | refine zi1 ?_ | refine n_ld ?_) | ((apply f_ca); first | refine zr2 (hc) ?_ | refine zp2 (hc) ?_) | ((apply f_bi); first | refine zd1 ?_ | refine zc1 ?_ | refine ze1 ?_ | refine za ?_) | ((apply f_ia); first | refine n_ix ?_ | refine zc2 ?_ | refine za ?_) | ((apply zz1); first | refine za1 ?_ | refine za ?_) | ((apply za2); first | refine zq ?_ | refine za ?_) | ((apply zq3); first | refine zh1 ?_ | refine za ?_) | ((apply zs1); first | refine zo ?_ | refine zr1 ?_ | refine za ?_) | refine za ?_) | ((apply f_w); first | refine zy ?_ | refine zc ?_) | refine zb fun C => ?_ | refine zn ?_ | refine ze ?_ | refine zh ?_ | refine zi ?_ | (refine zt (by rfl) ?_ ?_ <;> intro hC <;> (try cases hC)))
        refine ⟨N - 1, k + 1, by omega, by omega, ?_⟩
        rw [e, if_neg hk0, if_pos (eq_of_beq h5)]
        simp only [zy6]
        (refine zo2 _ _ rfl rfl ?_ ?_ <;> (repeat' (first | exact TmOk.nil | exact RwOk.nil | refine TmOk.cons ?_ ?_ | refine RwOk.cons ?_ ?_ | rfl | (refine rnV_id' rfl ?_; (first | rfl | (simp [cloV, cloL, clo, zj, zf, zk, zg, zd]; done))) | (refine zd3 ?_; first | rfl | omega | (rw [zb2 (by omega) (by omega)]; omega)) | (refine zi2 rfl ?_; (first | rfl | (simp [cloV, cloL, clo, zj, zf, zk, zg, zd]; done))) | exact zj4 rfl rfl | (refine ze3 (by rfl) (by rfl) ?_ ?_ <;> (first | rfl | (simp [cloV, cloL, clo, zj, zf, zk, zg, zd]; done))) | (refine rw_rn' rfl rfl ?_; simp; done))))
      · repeat' (first | ((apply f_wo); first | ((apply f_mv); first | refine zg1 (v := .c _) ?_ | refine za ?_) | ((apply f_as); first | refine zf1 (v := .c _) ?_ | refine za ?_) | ((apply f_fa); first | refine n_fa ?_ | refine zk1 ?_) | ((apply f_ld); first | refine zp1 ?_ | refine zb1 ?_ | refine zw ?_ | refine zi1 ?_ | refine n_ld ?_) | ((apply f_ca); first | refine zr2 (hc) ?_ | refine zp2 (hc) ?_) | ((apply f_bi); first | refine zd1 ?_ | refine zc1 ?_ | refine ze1 ?_ | refine za ?_) | ((apply f_ia); first | refine n_ix ?_ | refine zc2 ?_ | refine za ?_) | ((apply zz1); first | refine za1 ?_ | refine za ?_) | ((apply za2); first | refine zq ?_ | refine za ?_) | ((apply zq3); first | refine zh1 ?_ | refine za ?_) | ((apply zs1); first | refine zo ?_ | refine zr1 ?_ | refine za ?_) | refine za ?_) | ((apply f_w); first | refine zy ?_ | refine zc ?_) | refine zb fun C => ?_ | refine zn ?_ | refine ze ?_ | refine zh ?_ | refine zi ?_ | (refine zt (by rfl) ?_ ?_ <;> intro hC <;> (try cases hC)))
        refine ⟨N - 1, k + 1, by omega, by omega, ?_⟩
        rw [e, if_neg hk0, if_neg (fun h => by rw [h] at h5; cases h5)]
        (refine zo2 _ _ rfl rfl ?_ ?_ <;> (repeat' (first | exact TmOk.nil | exact RwOk.nil | refine TmOk.cons ?_ ?_ | refine RwOk.cons ?_ ?_ | rfl | (refine rnV_id' rfl ?_; (first | rfl | (simp [cloV, cloL, clo, zj, zf, zk, zg, zd]; done))) | (refine zd3 ?_; first | rfl | omega | (rw [zb2 (by omega) (by omega)]; omega)) | (refine zi2 rfl ?_; (first | rfl | (simp [cloV, cloL, clo, zj, zf, zk, zg, zd]; done))) | exact zj4 rfl rfl | (refine ze3 (by rfl) (by rfl) ?_ ?_ <;> (first | rfl | (simp [cloV, cloL, clo, zj, zf, zk, zg, zd]; done))) | (refine rw_rn' rfl rfl ?_; simp; done))))
  · have hk' : ¬ k < l.length := by simpa using hk1
    repeat' (first | ((apply f_wo); first | ((apply f_mv); first | refine zg1 (v := .c _) ?_ | refine za ?_) | ((apply f_as); first | refine zf1 (v := .c _) ?_ | refine za ?_) | ((apply f_fa); first | refine n_fa ?_ | refine zk1 ?_) | ((apply f_ld); first | refine zp1 ?_ | refine zb1 ?_ | refine zw ?_ | refine zi1 ?_ | refine n_ld ?_) | ((apply f_bi); first | refine zd1 ?_ | refine zc1 ?_ | refine ze1 ?_ | refine za ?_) | ((apply f_ia); first | refine n_ix ?_ | refine zc2 ?_ | refine za ?_) | ((apply zz1); first | refine za1 ?_ | refine za ?_) | ((apply za2); first | refine zq ?_ | refine za ?_) | ((apply zq3); first | refine zh1 ?_ | refine za ?_) | ((apply zs1); first | refine zo ?_ | refine zr1 ?_ | refine za ?_) | refine za ?_) | ((apply f_w); first | refine zy ?_ | refine zc ?_) | refine zb fun C => ?_ | refine zn ?_ | refine ze ?_ | refine zh ?_ | refine zi ?_ | (refine zt (by rfl) ?_ ?_ <;> intro hC <;> (try cases hC)))
    refine zu ?_
    refine ret0 (x := .c (.v (.string (joinT g b (l.take k))))) rfl zn2 ⟨?_, rfl⟩
    rw [List.take_of_length_le (by omega)]
theorem l3One_c {g : E → ByteArray} {x : E} (hx : x.Ty Try.prog 141) (hsz : (g x).size ≤ 960) (hg : Ctr Try.prog 131 [.ag (acE x)] [] (.c (.v (.string (g x)))) []) :
    Ctr Try.prog 142 [.ag (acE x)] [] (.c (.v (.string (oneT g x)))) [] := by
  have hkk : ∀ y0 y1 A c l', x = E.agg [.int .i64 y0, .str y1, .lst 3 141 A c l'] → oneT g x = if y0 = 4 ∨ y0 = 5 then ⟨#[40]⟩ ++ g x ++ ⟨#[41]⟩ else g x := fun y0 y1 A c l' h => by subst h; rfl
  obtain ⟨y0, y1, y2A, y2c, y2l, rfl, gy0, gy1, gy2, -⟩ := zq1 hx
  rw [hkk _ _ _ _ _ rfl]
  clear hkk
  generalize g (E.agg [E.int IntKind.i64 y0, E.str y1, E.lst 3 141 y2A y2c y2l]) = t at *
  refine zm2 Try.func142 rfl rfl ?_
  have s3 : (ByteArray.mk #[40] ++ t).size = 1 + t.size := by rw [ByteArray.size_append']; rfl
  repeat' (first | ((apply f_wo); first | ((apply f_gs); first | refine n_sk ?_) | ((apply f_mv); first | (refine zw1 ?_ ?_ <;> intro hG <;> (try cases hG)) | refine zg1 (v := .c _) ?_ | refine za ?_) | ((apply f_as); first | refine zf1 (v := .c _) ?_ | refine za ?_) | ((apply f_fa); first | refine n_fa ?_ | refine zk1 ?_) | ((apply f_ld); first | refine zp1 ?_ | refine zb1 ?_ | refine zw ?_ | refine zi1 ?_ | refine n_ld ?_) | ((apply f_ca); first | refine zr2 (hg) ?_ | refine zp2 (hg) ?_) | ((apply zz1); first | refine za1 ?_ | refine za ?_) | ((apply zs1); first | refine zo ?_ | refine zr1 ?_ | refine za ?_) | ((apply f_pk); first | refine zu1 (v := .c _) ?_ | refine za ?_) | refine n_bo ?_ | refine za ?_) | ((apply f_w); first | refine zy ?_ | refine zc ?_) | refine zb fun C => ?_ | refine zn ?_ | refine ze ?_ | refine zh ?_ | refine zi ?_ | (refine zt (by rfl) ?_ ?_ <;> intro hC <;> (try cases hC)))
  all_goals
    refine zu ?_
    refine ret0 rfl zn2 ⟨?_, rfl⟩
    clear hg
    first
      | (rw [if_pos (by simp only [beq_iff_eq] at *; omega)]; done)
      | (rw [if_neg (by simp only [beq_eq_false_iff_ne, ne_eq] at *; omega)]; done)
set_option maxHeartbeats 8000000 in
theorem l3Text_n (f : Nat) : ∀ (e : E), e.Ty Try.prog 141 → e.sz ≤ 4194304 → partsI f e ≤ 60 → Ctr Try.prog 131 [.ag (acE e)] [] (.c (.v (.string (textS f e)))) [] := by
  induction f with
  | zero => intro e _ _ h; exact absurd h (by unfold partsI; omega)
  | succ f ih =>
    intro e he hsz hp
    obtain ⟨hhd, hkid⟩ := zf14 hp
    have hts := zp9 hp
    obtain ⟨x0, x1, x2A, x2c, l, rfl, gx0, gx1, gx2, -⟩ := zq1 he
    simp only [E.sz, E.szL] at hsz
    have hkid : ∀ x ∈ l, partsI f x ≤ 60 := hkid
    have hxs : ∀ x ∈ l, (textS f x).size ≤ 960 := fun x hx => zp9 (hkid x hx)
    have hcs : ∀ x ∈ l, Ctr Try.prog 131 [.ag (acE x)] [] (.c (.v (.string (textS f x)))) [] := fun x hx => ih x (gx2.1 x hx) (by have := E.szL_mem hx; omega) (hkid x hx)
    have hh2 := hhd
    rw [zr12] at hh2
    simp only [Bool.and_eq_true, Bool.not_eq_true'] at hh2
    obtain ⟨hh, hno⟩ := hh2
    clear hhd ih hp
    refine zm2 Try.func131 rfl rfl ?_
    rcases zz4 hh with ⟨rfl, h1, h2, h3⟩ | ⟨rfl, h1, h3⟩ | ⟨rfl | rfl | rfl | rfl, h1, h3⟩ | ⟨rfl | rfl, h1, h2, h3⟩ | ⟨rfl | rfl | rfl, h1, y, h3, h4⟩
    case inl =>
      repeat' (first | ((apply f_wo); first | ((apply f_as); first | refine zf1 (v := .c _) ?_ | refine za ?_) | ((apply f_fa); first | refine n_fa ?_ | refine zk1 ?_) | ((apply f_ld); first | refine zp1 ?_ | refine zb1 ?_ | refine zw ?_ | refine zi1 ?_ | refine n_ld ?_) | ((apply f_ia); first | refine n_ix ?_ | refine zc2 ?_ | refine za ?_) | ((apply zz1); first | refine za1 ?_ | refine za ?_) | ((apply zs1); first | refine zo ?_ | refine zr1 ?_ | refine za ?_) | refine n_bo ?_ | refine za ?_) | ((apply f_w); first | refine zy ?_ | refine zc ?_) | refine zb fun C => ?_ | refine zn ?_ | refine ze ?_ | refine zh ?_ | refine zi ?_ | (refine zt (by rfl) ?_ ?_ <;> intro hC <;> (try cases hC)))
      refine zu ?_; refine ret0 rfl zn2 ⟨?_, rfl⟩
      rfl
    case inr.inl =>
      repeat' (first | ((apply f_wo); first | ((apply f_as); first | refine zf1 (v := .c _) ?_ | refine za ?_) | ((apply f_fa); first | refine n_fa ?_ | refine zk1 ?_) | ((apply f_ld); first | refine zp1 ?_ | refine zb1 ?_ | refine zw ?_ | refine zi1 ?_ | refine n_ld ?_) | ((apply f_ia); first | refine n_ix ?_ | refine zc2 ?_ | refine za ?_) | ((apply zz1); first | refine za1 ?_ | refine za ?_) | ((apply zs1); first | refine zo ?_ | refine zr1 ?_ | refine za ?_) | refine n_bo ?_ | refine za ?_) | ((apply f_w); first | refine zy ?_ | refine zc ?_) | refine zb fun C => ?_ | refine zn ?_ | refine ze ?_ | refine zh ?_ | refine zi ?_ | (refine zt (by rfl) ?_ ?_ <;> intro hC <;> (try cases hC)))
      refine zu ?_; refine ret0 rfl zn2 ⟨?_, rfl⟩
      rfl
    case inr.inr.inl.inl =>
      repeat' (first | ((apply f_wo); first | ((apply f_as); first | refine zf1 (v := .c _) ?_ | refine za ?_) | ((apply f_fa); first | refine n_fa ?_ | refine zk1 ?_) | ((apply f_ld); first | refine zp1 ?_ | refine zb1 ?_ | refine zw ?_ | refine zi1 ?_ | refine n_ld ?_) | ((apply f_ia); first | refine n_ix ?_ | refine zc2 ?_ | refine za ?_) | ((apply zz1); first | refine za1 ?_ | refine za ?_) | ((apply zs1); first | refine zo ?_ | refine zr1 ?_ | refine za ?_) | refine n_bo ?_ | refine za ?_) | ((apply f_w); first | refine zy ?_ | refine zc ?_) | refine zb fun C => ?_ | refine zn ?_ | refine ze ?_ | refine zh ?_ | refine zi ?_ | (refine zt (by rfl) ?_ ?_ <;> intro hC <;> (try cases hC)))
      refine zu ?_; refine ret0 rfl zn2 ⟨?_, rfl⟩
      rfl
    case inr.inr.inl.inr.inl =>
      repeat' (first | ((apply f_wo); first | ((apply f_as); first | refine zf1 (v := .c _) ?_ | refine za ?_) | ((apply f_fa); first | refine n_fa ?_ | refine zk1 ?_) | ((apply f_ld); first | refine zp1 ?_ | refine zb1 ?_ | refine zw ?_ | refine zi1 ?_ | refine n_ld ?_) | ((apply f_ia); first | refine n_ix ?_ | refine zc2 ?_ | refine za ?_) | ((apply zz1); first | refine za1 ?_ | refine za ?_) | ((apply zs1); first | refine zo ?_ | refine zr1 ?_ | refine za ?_) | refine n_bo ?_ | refine za ?_) | ((apply f_w); first | refine zy ?_ | refine zc ?_) | refine zb fun C => ?_ | refine zn ?_ | refine ze ?_ | refine zh ?_ | refine zi ?_ | (refine zt (by rfl) ?_ ?_ <;> intro hC <;> (try cases hC)))
      refine zu ?_; refine ret0 rfl zn2 ⟨?_, rfl⟩
      rfl
    case inr.inr.inl.inr.inr.inl =>
      repeat' (first | ((apply f_wo); first | ((apply f_as); first | refine zf1 (v := .c _) ?_ | refine za ?_) | ((apply f_fa); first | refine n_fa ?_ | refine zk1 ?_) | ((apply f_ld); first | refine zp1 ?_ | refine zb1 ?_ | refine zw ?_ | refine zi1 ?_ | refine n_ld ?_) | ((apply f_ia); first | refine n_ix ?_ | refine zc2 ?_ | refine za ?_) | ((apply zz1); first | refine za1 ?_ | refine za ?_) | ((apply zs1); first | refine zo ?_ | refine zr1 ?_ | refine za ?_) | refine n_bo ?_ | refine za ?_) | ((apply f_w); first | refine zy ?_ | refine zc ?_) | refine zb fun C => ?_ | refine zn ?_ | refine ze ?_ | refine zh ?_ | refine zi ?_ | (refine zt (by rfl) ?_ ?_ <;> intro hC <;> (try cases hC)))
      refine zu ?_; refine ret0 rfl zn2 ⟨?_, rfl⟩
      rfl
    case inr.inr.inl.inr.inr.inr =>
      repeat' (first | ((apply f_wo); first | ((apply f_as); first | refine zf1 (v := .c _) ?_ | refine za ?_) | ((apply f_fa); first | refine n_fa ?_ | refine zk1 ?_) | ((apply f_ld); first | refine zp1 ?_ | refine zb1 ?_ | refine zw ?_ | refine zi1 ?_ | refine n_ld ?_) | ((apply f_ia); first | refine n_ix ?_ | refine zc2 ?_ | refine za ?_) | ((apply zz1); first | refine za1 ?_ | refine za ?_) | ((apply zs1); first | refine zo ?_ | refine zr1 ?_ | refine za ?_) | refine n_bo ?_ | refine za ?_) | ((apply f_w); first | refine zy ?_ | refine zc ?_) | refine zb fun C => ?_ | refine zn ?_ | refine ze ?_ | refine zh ?_ | refine zi ?_ | (refine zt (by rfl) ?_ ?_ <;> intro hC <;> (try cases hC)))
      refine zu ?_; refine ret0 rfl zn2 ⟨?_, rfl⟩
      rfl
    case inr.inr.inr.inl.inl =>
      have c2 := zx16 (b := ⟨#[]⟩) (by decide) gx2.1 gx2.2 h3 hxs hcs
      repeat' (first | ((apply f_wo); first | ((apply f_as); first | refine zf1 (v := .c _) ?_ | refine za ?_) | ((apply f_fa); first | refine n_fa ?_ | refine zk1 ?_) | ((apply f_ld); first | refine zp1 ?_ | refine zb1 ?_ | refine zw ?_ | refine zi1 ?_ | refine n_ld ?_) | ((apply f_ca); first | refine zr2 (c2) ?_ | refine zp2 (c2) ?_) | ((apply f_ia); first | refine n_ix ?_ | refine zc2 ?_ | refine za ?_) | ((apply zz1); first | refine za1 ?_ | refine za ?_) | ((apply zs1); first | refine zo ?_ | refine zr1 ?_ | refine za ?_) | refine n_bo ?_ | refine za ?_) | ((apply f_w); first | refine zy ?_ | refine zc ?_) | refine zb fun C => ?_ | refine zn ?_ | refine ze ?_ | refine zh ?_ | refine zi ?_ | (refine zt (by rfl) ?_ ?_ <;> intro hC <;> (try cases hC)))
      refine zu ?_; refine ret0 rfl zn2 ⟨?_, rfl⟩
      rfl
    case inr.inr.inr.inl.inr =>
      have c2 := zx16 (b := ⟨#[124]⟩) (by decide) gx2.1 gx2.2 h3 hxs hcs
      repeat' (first | ((apply f_wo); first | ((apply f_as); first | refine zf1 (v := .c _) ?_ | refine za ?_) | ((apply f_fa); first | refine n_fa ?_ | refine zk1 ?_) | ((apply f_ld); first | refine zp1 ?_ | refine zb1 ?_ | refine zw ?_ | refine zi1 ?_ | refine n_ld ?_) | ((apply f_ca); first | refine zr2 (c2) ?_ | refine zp2 (c2) ?_) | ((apply f_ia); first | refine n_ix ?_ | refine zc2 ?_ | refine za ?_) | ((apply zz1); first | refine za1 ?_ | refine za ?_) | ((apply zs1); first | refine zo ?_ | refine zr1 ?_ | refine za ?_) | refine n_bo ?_ | refine za ?_) | ((apply f_w); first | refine zy ?_ | refine zc ?_) | refine zb fun C => ?_ | refine zn ?_ | refine ze ?_ | refine zh ?_ | refine zi ?_ | (refine zt (by rfl) ?_ ?_ <;> intro hC <;> (try cases hC)))
      refine zu ?_; refine ret0 rfl zn2 ⟨?_, rfl⟩
      rfl
    all_goals
      subst h3
      have hym : y ∈ [y] := List.mem_singleton.2 rfl
      have hyt := gx2.1 y hym
      have c2 := l3One_c hyt (hxs y hym) (hcs y hym)
      have hgk := gx2.2
      have hz2 := zx7 (hxs y hym)
      have hy0 : [y][0]? = some y := rfl
      obtain ⟨y0, y1, y2A, y2c, y2l, rfl, gy0, gy1, gy2, -⟩ := zq1 hyt
      repeat' (first | ((apply f_wo); first | ((apply f_as); first | refine zf1 (v := .c _) ?_ | refine za ?_) | ((apply f_fa); first | refine n_fa ?_ | refine zk1 ?_) | ((apply f_ld); first | refine zp1 ?_ | refine zb1 ?_ | refine zw ?_ | refine zi1 ?_ | refine n_ld ?_) | ((apply f_ca); first | refine zr2 (c2) ?_ | refine zp2 (c2) ?_) | ((apply f_ia); first | refine n_ix ?_ | refine zc2 ?_ | refine za ?_) | ((apply zz1); first | refine za1 ?_ | refine za ?_) | ((apply zs1); first | refine zo ?_ | refine zr1 ?_ | refine za ?_) | refine n_bo ?_ | refine za ?_) | ((apply f_w); first | refine zy ?_ | refine zc ?_) | refine zb fun C => ?_ | refine zn ?_ | refine ze ?_ | refine zh ?_ | refine zi ?_ | (refine zt (by rfl) ?_ ?_ <;> intro hC <;> (try cases hC)))
      refine zu ?_; refine ret0 rfl zn2 ⟨?_, rfl⟩
      rfl
theorem zv12 {e : E} (he : e.Ty Try.prog 141) (hsz : e.sz ≤ 4194304) : Ctr Try.prog 121 [.ag (acE e)] [] (.c (.v (.string (rexT e)))) [] := by
  have c1 := zm15 he hsz
  rw [← zj17] at c1
  cases hr : rexOkI e with
  | false =>
    have hres : rexT e = ByteArray.empty := by unfold rexT; rw [hr]; rfl
    rw [hres]
    rw [hr] at c1
    clear hres hr
    obtain ⟨x0, x1, x2A, x2c, l, rfl, gx0, gx1, gx2, -⟩ := zq1 he
    refine zm2 Try.func121 rfl rfl ?_
    repeat' (first | ((apply f_wo); first | ((apply f_as); first | refine zf1 (v := .c _) ?_ | refine za ?_) | ((apply f_ld); first | refine zw ?_ | refine zi1 ?_ | refine n_ld ?_) | ((apply f_ca); first | refine zr2 (c1) ?_ | refine zp2 (c1) ?_) | ((apply f_no); first | refine zj2 ?_ | refine za ?_) | refine n_bo ?_ | refine za ?_) | ((apply f_w); first | refine zy ?_ | refine zc ?_) | refine zb fun C => ?_ | refine zn ?_ | refine ze ?_ | refine zh ?_ | refine zi ?_ | refine zx rfl ?_ | refine zv rfl ?_)
    refine zu ?_; refine ret0 rfl zn2 ⟨?_, rfl⟩
    rfl
  | true =>
    have hres : rexT e = textS 6 e := by unfold rexT; rw [hr]; rfl
    rw [hres]
    have hp : partsI 6 e ≤ 60 := by unfold rexOkI at hr; simpa using hr
    have c2 := l3Text_n 6 e he hsz hp
    rw [hr] at c1
    clear hres hr hp
    obtain ⟨x0, x1, x2A, x2c, l, rfl, gx0, gx1, gx2, -⟩ := zq1 he
    refine zm2 Try.func121 rfl rfl ?_
    repeat' (first | ((apply f_wo); first | ((apply f_as); first | refine zf1 (v := .c _) ?_ | refine za ?_) | ((apply f_ld); first | refine zw ?_ | refine zi1 ?_ | refine n_ld ?_) | ((apply f_ca); first | refine zr2 (c1) ?_ | refine zp2 (c1) ?_ | refine zr2 (c2) ?_ | refine zp2 (c2) ?_) | ((apply f_no); first | refine zj2 ?_ | refine za ?_) | refine n_bo ?_ | refine za ?_) | ((apply f_w); first | refine zy ?_ | refine zc ?_) | refine zb fun C => ?_ | refine zn ?_ | refine ze ?_ | refine zh ?_ | refine zi ?_ | refine zx rfl ?_ | refine zv rfl ?_)
    refine zu ?_; refine ret0 rfl zn2 ⟨?_, rfl⟩
    rfl
end Go.Proofs.Ytghljnfbbaklnaa
