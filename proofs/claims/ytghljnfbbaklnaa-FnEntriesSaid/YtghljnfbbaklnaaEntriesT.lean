/- Values that are the same, compared; how great what is drawn may be. -/
import Derived.Test.YtghljnfbbaklnaaEntriesS
-- MVP
namespace Go.Proofs.Ytghljnfbbaklnaa
open Go.RowKit
set_option maxRecDepth 100000
theorem zo20 {ops : Array Oper} {Q : Exit → Act → World → Prop} {C : Ctx} {H : List (Nat × Oper × Inf)} {i : Nat} {r : List Nat} {dr : Bool} {tm : Nat → AV} {hp : Nat → Option Row} {gn L : Nat} {us : List Nat} {t : Nat} {ty U : TypeId} {gd : Option (Nat × Bool)} {ps : String} {af : Array Edge} {xo yo : Operand} {a b : Int} {s : ByteArray}
    (h : Walk Try.prog ops Q C dr (keepH dr (i, (⟨some t, .binOp .eql 29 xo yo U, ty, ps, af, gd⟩ : Oper), ⟨fpO (AS.ev ⟨tm, hp, gn, us, L⟩) (⟨some t, .binOp .eql 29 xo yo U, ty, ps, af, gd⟩ : Oper), [], [], .c (.v (.bool true))⟩) H) r ⟨upd tm t (.c (.v (.bool true))), hp, gn, us, L⟩)
    (ht : Nat.blt t L = true := by exact rfl) (hg : gw ops tm (⟨some t, .binOp .eql 29 xo yo U, ty, ps, af, gd⟩ : Oper) = some true := by exact rfl) (hx : AS.ev ⟨tm, hp, gn, us, L⟩ xo = .ag [.v (.int .i64 a), .v (.int .i64 b), .v (.string s)] := by exact rfl) (hy : AS.ev ⟨tm, hp, gn, us, L⟩ yo = .ag [.v (.int .i64 a), .v (.int .i64 b), .v (.string s)] := by exact rfl)
    (hc : chk dr ops i (⟨some t, .binOp .eql 29 xo yo U, ty, ps, af, gd⟩ : Oper) ⟨fpO (AS.ev ⟨tm, hp, gn, us, L⟩) (⟨some t, .binOp .eql 29 xo yo U, ty, ps, af, gd⟩ : Oper), [], [], .c (.v (.bool true))⟩ H = true := by first | (with_reducible exact zr1) | kernel_rfl) : WalkO Try.prog ops Q C dr H i (⟨some t, .binOp .eql 29 xo yo U, ty, ps, af, gd⟩ : Oper) r ⟨tm, hp, gn, us, L⟩ :=
  ⟨fun hop => zj21 (xs := [.int .i64 a, .int .i64 b, .string s]) (ys := [.int .i64 a, .int .i64 b, .string s]) (b := true) (q := true) hop rfl rfl ht hg (by kernel_rfl) (by rw [hx]; rfl) (by rw [hy]; rfl) (fun w => by rw [zt15]; simp) (.inl ⟨rfl, rfl⟩) hc h⟩
theorem zo22 {n : Nat} {l : List AC} (hn : n ≤ 9223372036854775807) : Ctr Try.prog 7 [.c (.ro n 1 l)] [] (.c (.v (.bool (decide (1048576 < (n : Int)))))) [] := by
  refine zt1 Try.func7 rfl rfl ?_
  repeat' (first | ((apply f_wo); first | ((apply f_mv); first | refine zm1 (v := .c _) ?_ | refine zb ?_) | ((apply f_as); first | refine zo1 (v := .c _) ?_ | refine zb ?_) | ((apply f_bi); first | refine zb3 ?_ | refine za3 ?_ | refine zc3 ?_ | refine zb ?_) | ((apply zm11); first | refine zg5 ?_ | refine zb ?_) | refine zb ?_) | ((apply f_w); first | refine zy ?_ | refine zd ?_) | refine za fun C => ?_ | refine zi ?_ | refine ze ?_ | refine zg ?_ | refine zh ?_ | (refine zu1 (by rfl) ?_ ?_ <;> intro hC <;> (try cases hC)))
  refine zq ?_; refine ret0 rfl zj4 ⟨?_, rfl⟩
  rfl
end Go.Proofs.Ytghljnfbbaklnaa
namespace Go.Proofs.Ytghljnfbbaklnaa
open Go.RowKit
set_option maxRecDepth 100000
set_option maxHeartbeats 400000 in
theorem zq8 {e v : E} (he : e.Ty Try.prog 27) (hv : v.Ty Try.prog 29) (nm s : ByteArray) (hsz : e.sz ≤ 1048576) : Ctr Try.prog 26 [.ag (acE e), .c (.v (.string nm)), .c (.v (.string s)), .ag (acE v)] [] (.tu [.ag (owE (putE e nm s v)), .c (.v (.bool (putOk e nm s)))]) [] := by
  have cp := zt9 he hv nm s hsz
  have cc := zk16 he hsz
  obtain ⟨x0A, x0c, l, x1A, x1c, l2, rfl, ⟨hl, hk⟩, ⟨hl2, hk2⟩, -⟩ := zz2 he
  obtain ⟨v0, v1, v2, rfl, -⟩ := zh4 hv
  obtain ⟨n1, c1, n2, c2, hE, hc1, hc2⟩ : ∃ n1 c1 n2 c2, owE (putE (.agg [.lst 4 34 x0A x0c l, .lst 2 80 x1A x1c l2]) nm s (.agg [.int .i64 v0, .int .i64 v1, .str v2])) = [.ow 34 n1 4 c1, .ow 80 n2 2 c2] ∧ cloL c1 = true ∧ cloL c2 = true := ⟨_, _, _, _, rfl, zl _, zl _⟩
  have hR := zz1 (putE (.agg [.lst 4 34 x0A x0c l, .lst 2 80 x1A x1c l2]) nm s (.agg [.int .i64 v0, .int .i64 v1, .str v2]))
  rw [hE] at cp hR ⊢
  refine zt1 Try.func26 rfl rfl ?_
  repeat (first | refine zi ?_ | refine ze ?_ | refine zg ?_ | refine zh ?_ | refine zq ?_ | refine za fun C => ?_ | refine zf (by kernel_rfl) (by kernel_rfl) fun C => ?_ | refine zd ?_ | refine zf1 ?_ | refine x_bs ?_ | refine x_gr ?_ | refine x_st ?_ | refine x_mv ?_ | refine x_sk ?_ | refine zh1 ?_ | refine x_ix ?_ | refine zi1 ?_ | refine zj1 ?_ | refine zg1 ?_ | refine zt ?_ | refine x_ld ?_)
  refine zb4 100 cc ?_
  repeat (first | refine zd ?_ | refine zf1 ?_ | refine x_bs ?_ | refine x_gr ?_ | refine x_st ?_ | refine x_mv ?_ | refine x_sk ?_ | refine zh1 ?_ | refine x_ix ?_ | refine zi1 ?_ | refine zj1 ?_ | refine zg1 ?_ | refine zt ?_ | refine x_ld ?_)
  repeat (first | refine zi ?_ | refine ze ?_ | refine zg ?_ | refine zh ?_)
  refine za2 (ze5 (i := 10) (j := 100) rfl rfl rfl (pre := []) (post := [_]) rfl) ?_
  refine za2 (ze5 (i := 10) (j := 101) rfl rfl rfl (pre := [_]) (post := []) rfl) ?_
  repeat (first | refine zi ?_ | refine ze ?_ | refine zg ?_ | refine zh ?_ | refine zq ?_ | refine za fun C => ?_ | refine zf (by kernel_rfl) (by kernel_rfl) fun C => ?_ | refine zd ?_ | refine zf1 ?_ | refine x_bs ?_ | refine x_gr ?_ | refine x_st ?_ | refine x_mv ?_ | refine x_sk ?_ | refine zh1 ?_ | refine x_ix ?_ | refine zi1 ?_ | refine zj1 ?_ | refine zg1 ?_ | refine zt ?_ | refine x_ld ?_)
  refine zg8 120 [10] cp ?_ (hl := zw1 (by rfl) (by first | rfl | (simp [cloV, cloL, clo, zo, zn, zp, zl, zk]; done))) (hm2 := za7 hR)
  repeat (first | refine zd ?_ | refine zf1 ?_ | refine x_bs ?_ | refine x_gr ?_ | refine x_st ?_ | refine x_mv ?_ | refine x_sk ?_ | refine zh1 ?_ | refine x_ix ?_ | refine zi1 ?_ | refine zj1 ?_ | refine zg1 ?_ | refine zt ?_ | refine x_ld ?_)
  repeat (first | refine zi ?_ | refine ze ?_ | refine zg ?_ | refine zh ?_)
  refine za2 (zf5 130 (i := 10) rfl rfl (pre := []) (post := [_]) rfl) ?_
  refine za2 (zf5 131 (i := 10) rfl rfl (pre := [_]) (post := []) rfl) ?_
  repeat (first | refine zi ?_ | refine ze ?_ | refine zg ?_ | refine zh ?_ | refine zq ?_ | refine za fun C => ?_ | refine zf (by kernel_rfl) (by kernel_rfl) fun C => ?_ | refine zd ?_ | refine zf1 ?_ | refine x_bs ?_ | refine x_gr ?_ | refine x_st ?_ | refine x_mv ?_ | refine x_sk ?_ | refine zh1 ?_ | refine x_ix ?_ | refine zi1 ?_ | refine zj1 ?_ | refine zg1 ?_ | refine zt ?_ | refine x_ld ?_)
  exact ret0 (x := .tu [.ag [.ow 34 n1 4 c1, .ow 80 n2 2 c2], .c (.v (.bool _))]) rfl (zx6 (zq2 (zr3 (ze3 (rw := ⟨34, 4, n1, false, c1⟩) rfl rfl rfl hc1 (ze3 (rw := ⟨80, 2, n2, false, c2⟩) rfl rfl rfl hc2 zl2))) (zq2 zj4 zb5))) ⟨rfl, rfl⟩
set_option maxHeartbeats 600000 in
theorem zp20 {x0A x1A : Option Addr} {x0c x1c : Nat} {l l2 : List E} {v0 v1 : Int} {v2 nm s : ByteArray} (hlen : l.length ≤ 1048576) (hlen2 : l2.length ≤ 1048576) (cc : Ctr Try.prog 40 [.ag (acE (E.agg [.lst 4 34 x0A x0c l, .lst 2 80 x1A x1c l2]))] [] (.ag (owE (E.agg [.lst 4 34 x0A x0c l, .lst 2 80 x1A x1c l2]))) []) (ca : Ctr Try.prog 57 [.ag (acE (E.agg [.lst 4 34 x0A x0c l, .lst 2 80 x1A x1c l2])), .c (.v (.string nm))] [] (.c (.v (.int .i64 (-1)))) []) : Ctr Try.prog 25 [.ag (acE (E.agg [.lst 4 34 x0A x0c l, .lst 2 80 x1A x1c l2])), .c (.v (.string nm)), .c (.v (.string s)), .ag (acE (.agg [.int .i64 v0, .int .i64 v1, .str v2]))] [] (.tu [.ag [.ow 34 l.length 4 (owL l), .ow 80 l2.length 2 (owL l2)], .c (.v (.bool false))]) [] := by
  refine zt1 Try.func25 rfl rfl ?_
  repeat (first | refine zi ?_ | refine ze ?_ | refine zg ?_ | refine zh ?_ | refine za fun C => ?_ | refine zf (by kernel_rfl) (by kernel_rfl) fun C => ?_ | refine zd ?_ | refine zf1 ?_ | refine x_bs ?_ | refine x_gr ?_ | refine x_st ?_ | refine x_mv ?_ | refine x_sk ?_ | refine zh1 ?_ | refine x_ix ?_ | refine zi1 ?_ | refine zj1 ?_ | refine zg1 ?_ | refine zt ?_ | refine x_ld ?_)
  refine zb4 100 cc ?_
  repeat (first | refine zi ?_ | refine ze ?_ | refine zg ?_ | refine zh ?_ | refine za fun C => ?_ | refine zf (by kernel_rfl) (by kernel_rfl) fun C => ?_ | refine zd ?_ | refine zf1 ?_ | refine x_bs ?_ | refine x_gr ?_ | refine x_st ?_ | refine x_mv ?_ | refine x_sk ?_ | refine zh1 ?_ | refine x_ix ?_ | refine zi1 ?_ | refine zj1 ?_ | refine zg1 ?_ | refine zt ?_ | refine x_ld ?_)
  refine zb4 110 ca ?_
  repeat (first | refine zi ?_ | refine ze ?_ | refine zg ?_ | refine zh ?_ | refine za fun C => ?_ | refine zf (by kernel_rfl) (by kernel_rfl) fun C => ?_ | refine zd ?_ | refine zf1 ?_ | refine x_bs ?_ | refine x_gr ?_ | refine x_st ?_ | refine x_mv ?_ | refine x_sk ?_ | refine zh1 ?_ | refine x_ix ?_ | refine zi1 ?_ | refine zj1 ?_ | refine zg1 ?_ | refine zt ?_ | refine x_ld ?_)
  refine zn1 (by rfl) (fun h1 => ?_) fun h1 => ?_
  rotate_left
  · simp at h1
  repeat (first | refine zi ?_ | refine ze ?_ | refine zg ?_ | refine zh ?_ | refine za fun C => ?_ | refine zf (by kernel_rfl) (by kernel_rfl) fun C => ?_ | refine zd ?_ | refine zf1 ?_ | refine x_bs ?_ | refine x_gr ?_ | refine x_st ?_ | refine x_mv ?_ | refine x_sk ?_ | refine zh1 ?_ | refine x_ix ?_ | refine zi1 ?_ | refine zj1 ?_ | refine zg1 ?_ | refine zt ?_ | refine x_ld ?_)
  refine zq ?_
  refine ret0 (x := .tu [.ag [.ow 34 l.length 4 (owL l), .ow 80 l2.length 2 (owL l2)], .c (.v (.bool false))]) rfl (zx6 (zq2 (zr3 (ze3 (rw := ⟨34, 4, l.length, false, owL l⟩) rfl rfl rfl (zl _) (ze3 (rw := ⟨80, 2, l2.length, false, owL l2⟩) rfl rfl rfl ?_ zl2))) (zq2 zj4 zb5))) ⟨rfl, rfl⟩
  exact zl _
set_option maxHeartbeats 600000 in
theorem zq20 {x0A x1A y1A : Option Addr} {x0c x1c y1c : Nat} {l l2 y1 : List E} {v0 v1 : Int} {v2 y0 nm s : ByteArray} {k : Nat} (hk2 : ∀ e ∈ l2, e.enc.length = 2) (hlen : l.length ≤ 1048576) (hlen2 : l2.length ≤ 1048576) (hy1l : y1.length ≤ 1048576) (hlt : k < l2.length) (hx : l2[k]? = some (.agg [.str y0, .lst 4 82 y1A y1c y1])) (cc : Ctr Try.prog 40 [.ag (acE (E.agg [.lst 4 34 x0A x0c l, .lst 2 80 x1A x1c l2]))] [] (.ag (owE (E.agg [.lst 4 34 x0A x0c l, .lst 2 80 x1A x1c l2]))) []) (ca : Ctr Try.prog 57 [.ag (acE (E.agg [.lst 4 34 x0A x0c l, .lst 2 80 x1A x1c l2])), .c (.v (.string nm))] [] (.c (.v (.int .i64 (k)))) []) (h20 : 20 ≤ y1.length) (cky : Ctr Try.prog 58 [.c (.ro y1.length 4 (acL y1)), .c (.v (.string s))] [] (.c (.v (.int .i64 (-1)))) []) : Ctr Try.prog 25 [.ag (acE (E.agg [.lst 4 34 x0A x0c l, .lst 2 80 x1A x1c l2])), .c (.v (.string nm)), .c (.v (.string s)), .ag (acE (.agg [.int .i64 v0, .int .i64 v1, .str v2]))] [] (.tu [.ag [.ow 34 l.length 4 (owL l), .ow 80 l2.length 2 ((owL (l2.take k) ++ [.v (.string y0)]) ++ .ow 82 y1.length 4 (owL y1) :: owL (l2.drop (k + 1)))], .c (.v (.bool false))]) [] := by
  have hP := zk4 (k := k) hk2 (Nat.le_of_lt hlt)
  have hs2 : subL ((owL (l2.take k) ++ [.v (.string y0)]) ++ .sl 102 y1.length :: owL (l2.drop (k + 1))) (k * 2 + 1) 1 = [.sl 102 y1.length] := zc5 hP
  have hle : k * 2 + 1 + 1 ≤ ((owL (l2.take k) ++ [AC.v (.string y0)]) ++ AC.sl 102 y1.length :: owL (l2.drop (k + 1))).length := by simp [hP]; omega
  refine zt1 Try.func25 rfl rfl ?_
  repeat (first | refine zi ?_ | refine ze ?_ | refine zg ?_ | refine zh ?_ | refine za fun C => ?_ | refine zf (by kernel_rfl) (by kernel_rfl) fun C => ?_ | refine zd ?_ | refine zf1 ?_ | refine x_bs ?_ | refine x_gr ?_ | refine x_st ?_ | refine x_mv ?_ | refine x_sk ?_ | refine zh1 ?_ | refine x_ix ?_ | refine zi1 ?_ | refine zj1 ?_ | refine zg1 ?_ | refine zt ?_ | refine x_ld ?_)
  refine zb4 100 cc ?_
  repeat (first | refine zi ?_ | refine ze ?_ | refine zg ?_ | refine zh ?_ | refine za fun C => ?_ | refine zf (by kernel_rfl) (by kernel_rfl) fun C => ?_ | refine zd ?_ | refine zf1 ?_ | refine x_bs ?_ | refine x_gr ?_ | refine x_st ?_ | refine x_mv ?_ | refine x_sk ?_ | refine zh1 ?_ | refine x_ix ?_ | refine zi1 ?_ | refine zj1 ?_ | refine zg1 ?_ | refine zt ?_ | refine x_ld ?_)
  refine zb4 110 ca ?_
  repeat (first | refine zi ?_ | refine ze ?_ | refine zg ?_ | refine zh ?_ | refine za fun C => ?_ | refine zf (by kernel_rfl) (by kernel_rfl) fun C => ?_ | refine zd ?_ | refine zf1 ?_ | refine x_bs ?_ | refine x_gr ?_ | refine x_st ?_ | refine x_mv ?_ | refine x_sk ?_ | refine zh1 ?_ | refine x_ix ?_ | refine zi1 ?_ | refine zj1 ?_ | refine zg1 ?_ | refine zt ?_ | refine x_ld ?_)
  refine zn1 (by rfl) (fun h1 => ?_) fun h1 => ?_
  · exact absurd (of_decide_eq_true h1) (by omega)
  refine za2 (zf5 102 (i := 101) rfl rfl (pre := (owL (l2.take k) ++ [.v (.string y0)])) (post := owL (l2.drop (k + 1))) (zj8 hx)) ?_
  repeat (first | refine zi ?_ | refine ze ?_ | refine zg ?_ | refine zh ?_ | refine za fun C => ?_ | refine zf (by kernel_rfl) (by kernel_rfl) fun C => ?_ | refine zd ?_ | refine zf1 ?_ | refine x_bs ?_ | refine x_gr ?_ | refine x_st ?_ | refine x_mv ?_ | refine x_sk ?_ | refine zh1 ?_ | refine x_ix ?_ | refine zi1 ?_ | refine zj1 ?_ | refine zg1 ?_ | refine zt ?_ | refine x_ld ?_)
  refine zb4 120 cky ?_
  repeat (first | refine zi ?_ | refine ze ?_ | refine zg ?_ | refine zh ?_ | refine za fun C => ?_ | refine zf (by kernel_rfl) (by kernel_rfl) fun C => ?_ | refine zd ?_ | refine zf1 ?_ | refine x_bs ?_ | refine x_gr ?_ | refine x_st ?_ | refine x_mv ?_ | refine x_sk ?_ | refine zh1 ?_ | refine x_ix ?_ | refine zi1 ?_ | refine zj1 ?_ | refine zg1 ?_ | refine zt ?_ | refine x_ld ?_)
  refine zn1 (by rfl) (fun h2 => ?_) fun h2 => ?_
  · simp at h2
  repeat (first | refine zi ?_ | refine ze ?_ | refine zg ?_ | refine zh ?_ | refine za fun C => ?_ | refine zf (by kernel_rfl) (by kernel_rfl) fun C => ?_ | refine zd ?_ | refine zf1 ?_ | refine x_bs ?_ | refine x_gr ?_ | refine x_st ?_ | refine x_mv ?_ | refine x_sk ?_ | refine zh1 ?_ | refine x_ix ?_ | refine zi1 ?_ | refine zj1 ?_ | refine zg1 ?_ | refine zt ?_ | refine x_ld ?_)
  refine zn1 (by rfl) (fun h3 => ?_) fun h3 => ?_
  rotate_left
  · exact absurd (of_decide_eq_false h3) (by omega)
  repeat (first | refine zi ?_ | refine ze ?_ | refine zg ?_ | refine zh ?_ | refine za fun C => ?_ | refine zf (by kernel_rfl) (by kernel_rfl) fun C => ?_ | refine zd ?_ | refine zf1 ?_ | refine x_bs ?_ | refine x_gr ?_ | refine x_st ?_ | refine x_mv ?_ | refine x_sk ?_ | refine zh1 ?_ | refine x_ix ?_ | refine zi1 ?_ | refine zj1 ?_ | refine zg1 ?_ | refine zt ?_ | refine x_ld ?_)
  refine za2 (ze5 (i := 101) (j := 102) rfl rfl rfl (pre := (owL (l2.take k) ++ [.v (.string y0)])) (post := owL (l2.drop (k + 1))) rfl) ?_
  refine zq ?_
  refine ret0 (x := .tu [.ag [.ow 34 l.length 4 (owL l), .ow 80 l2.length 2 ((owL (l2.take k) ++ [.v (.string y0)]) ++ .ow 82 y1.length 4 (owL y1) :: owL (l2.drop (k + 1)))], .c (.v (.bool false))]) rfl (zx6 (zq2 (zr3 (ze3 (rw := ⟨34, 4, l.length, false, owL l⟩) rfl rfl rfl (zl _) (ze3 (rw := ⟨80, 2, l2.length, false, (owL (l2.take k) ++ [.v (.string y0)]) ++ .ow 82 y1.length 4 (owL y1) :: owL (l2.drop (k + 1))⟩) rfl rfl rfl ?_ zl2))) (zq2 zj4 zb5))) ⟨rfl, rfl⟩
  first | rfl | (simp [cloV, cloL, clo, zo, zn, zp, zl, zk]; done)
set_option maxHeartbeats 600000 in
theorem zr20 {x0A x1A y1A : Option Addr} {x0c x1c y1c : Nat} {l l2 y1 : List E} {v0 v1 : Int} {v2 y0 nm s : ByteArray} {k : Nat} (hk2 : ∀ e ∈ l2, e.enc.length = 2) (hlen : l.length ≤ 1048576) (hlen2 : l2.length ≤ 1048576) (hy1l : y1.length ≤ 1048576) (hlt : k < l2.length) (hx : l2[k]? = some (.agg [.str y0, .lst 4 82 y1A y1c y1])) (cc : Ctr Try.prog 40 [.ag (acE (E.agg [.lst 4 34 x0A x0c l, .lst 2 80 x1A x1c l2]))] [] (.ag (owE (E.agg [.lst 4 34 x0A x0c l, .lst 2 80 x1A x1c l2]))) []) (ca : Ctr Try.prog 57 [.ag (acE (E.agg [.lst 4 34 x0A x0c l, .lst 2 80 x1A x1c l2])), .c (.v (.string nm))] [] (.c (.v (.int .i64 (k)))) []) (h20 : ¬ 20 ≤ y1.length) (cky : Ctr Try.prog 58 [.c (.ro y1.length 4 (acL y1)), .c (.v (.string s))] [] (.c (.v (.int .i64 (-1)))) []) : Ctr Try.prog 25 [.ag (acE (E.agg [.lst 4 34 x0A x0c l, .lst 2 80 x1A x1c l2])), .c (.v (.string nm)), .c (.v (.string s)), .ag (acE (.agg [.int .i64 v0, .int .i64 v1, .str v2]))] [] (.tu [.ag [.ow 34 l.length 4 (owL l), .ow 80 l2.length 2 ((owL (l2.take k) ++ [.v (.string y0)]) ++ .ow 82 (y1.length + 1) 4 (owL (y1 ++ [.agg [.str s, (.agg [.int .i64 v0, .int .i64 v1, .str v2])]])) :: owL (l2.drop (k + 1)))], .c (.v (.bool true))]) [] := by
  have hP := zk4 (k := k) hk2 (Nat.le_of_lt hlt)
  have hs2 : subL ((owL (l2.take k) ++ [.v (.string y0)]) ++ .sl 102 y1.length :: owL (l2.drop (k + 1))) (k * 2 + 1) 1 = [.sl 102 y1.length] := zc5 hP
  have hle : k * 2 + 1 + 1 ≤ ((owL (l2.take k) ++ [AC.v (.string y0)]) ++ AC.sl 102 y1.length :: owL (l2.drop (k + 1))).length := by simp [hP]; omega
  refine zt1 Try.func25 rfl rfl ?_
  repeat (first | refine zi ?_ | refine ze ?_ | refine zg ?_ | refine zh ?_ | refine za fun C => ?_ | refine zf (by kernel_rfl) (by kernel_rfl) fun C => ?_ | refine zd ?_ | refine zf1 ?_ | refine x_bs ?_ | refine x_gr ?_ | refine x_st ?_ | refine x_mv ?_ | refine x_sk ?_ | refine zh1 ?_ | refine x_ix ?_ | refine zi1 ?_ | refine zj1 ?_ | refine zg1 ?_ | refine zt ?_ | refine x_ld ?_)
  refine zb4 100 cc ?_
  repeat (first | refine zi ?_ | refine ze ?_ | refine zg ?_ | refine zh ?_ | refine za fun C => ?_ | refine zf (by kernel_rfl) (by kernel_rfl) fun C => ?_ | refine zd ?_ | refine zf1 ?_ | refine x_bs ?_ | refine x_gr ?_ | refine x_st ?_ | refine x_mv ?_ | refine x_sk ?_ | refine zh1 ?_ | refine x_ix ?_ | refine zi1 ?_ | refine zj1 ?_ | refine zg1 ?_ | refine zt ?_ | refine x_ld ?_)
  refine zb4 110 ca ?_
  repeat (first | refine zi ?_ | refine ze ?_ | refine zg ?_ | refine zh ?_ | refine za fun C => ?_ | refine zf (by kernel_rfl) (by kernel_rfl) fun C => ?_ | refine zd ?_ | refine zf1 ?_ | refine x_bs ?_ | refine x_gr ?_ | refine x_st ?_ | refine x_mv ?_ | refine x_sk ?_ | refine zh1 ?_ | refine x_ix ?_ | refine zi1 ?_ | refine zj1 ?_ | refine zg1 ?_ | refine zt ?_ | refine x_ld ?_)
  refine zn1 (by rfl) (fun h1 => ?_) fun h1 => ?_
  · exact absurd (of_decide_eq_true h1) (by omega)
  refine za2 (zf5 102 (i := 101) rfl rfl (pre := (owL (l2.take k) ++ [.v (.string y0)])) (post := owL (l2.drop (k + 1))) (zj8 hx)) ?_
  repeat (first | refine zi ?_ | refine ze ?_ | refine zg ?_ | refine zh ?_ | refine za fun C => ?_ | refine zf (by kernel_rfl) (by kernel_rfl) fun C => ?_ | refine zd ?_ | refine zf1 ?_ | refine x_bs ?_ | refine x_gr ?_ | refine x_st ?_ | refine x_mv ?_ | refine x_sk ?_ | refine zh1 ?_ | refine x_ix ?_ | refine zi1 ?_ | refine zj1 ?_ | refine zg1 ?_ | refine zt ?_ | refine x_ld ?_)
  refine zb4 120 cky ?_
  repeat (first | refine zi ?_ | refine ze ?_ | refine zg ?_ | refine zh ?_ | refine za fun C => ?_ | refine zf (by kernel_rfl) (by kernel_rfl) fun C => ?_ | refine zd ?_ | refine zf1 ?_ | refine x_bs ?_ | refine x_gr ?_ | refine x_st ?_ | refine x_mv ?_ | refine x_sk ?_ | refine zh1 ?_ | refine x_ix ?_ | refine zi1 ?_ | refine zj1 ?_ | refine zg1 ?_ | refine zt ?_ | refine x_ld ?_)
  refine zn1 (by rfl) (fun h2 => ?_) fun h2 => ?_
  · simp at h2
  repeat (first | refine zi ?_ | refine ze ?_ | refine zg ?_ | refine zh ?_ | refine za fun C => ?_ | refine zf (by kernel_rfl) (by kernel_rfl) fun C => ?_ | refine zd ?_ | refine zf1 ?_ | refine x_bs ?_ | refine x_gr ?_ | refine x_st ?_ | refine x_mv ?_ | refine x_sk ?_ | refine zh1 ?_ | refine x_ix ?_ | refine zi1 ?_ | refine zj1 ?_ | refine zg1 ?_ | refine zt ?_ | refine x_ld ?_)
  refine zn1 (by rfl) (fun h3 => ?_) fun h3 => ?_
  · exact absurd (of_decide_eq_true h3) (by omega)
  repeat (first | refine zi ?_ | refine ze ?_ | refine zg ?_ | refine zh ?_ | refine za fun C => ?_ | refine zf (by kernel_rfl) (by kernel_rfl) fun C => ?_ | refine zd ?_ | refine zf1 ?_ | refine x_bs ?_ | refine x_gr ?_ | refine x_st ?_ | refine x_mv ?_ | refine x_sk ?_ | refine zh1 ?_ | refine x_ix ?_ | refine zi1 ?_ | refine zj1 ?_ | refine zg1 ?_ | refine zt ?_ | refine x_ld ?_)
  refine za2 (ze5 (i := 101) (j := 59) rfl rfl rfl (pre := (owL (l2.take k) ++ [.v (.string y0)])) (post := owL (l2.drop (k + 1))) (zk11 hP)) ?_
  refine zq ?_
  refine ret0 (x := .tu [.ag [.ow 34 l.length 4 (owL l), .ow 80 l2.length 2 ((owL (l2.take k) ++ [.v (.string y0)]) ++ .ow 82 (y1.length + 1) 4 (owL y1 ++ [.v (.string s), .v (.int .i64 v0), .v (.int .i64 v1), .v (.string v2)]) :: owL (l2.drop (k + 1)))], .c (.v (.bool true))]) rfl (zx6 (zq2 (zr3 (ze3 (rw := ⟨34, 4, l.length, false, owL l⟩) rfl rfl rfl (zl _) (ze3 (rw := ⟨80, 2, l2.length, false, (owL (l2.take k) ++ [.v (.string y0)]) ++ .ow 82 (y1.length + 1) 4 (owL y1 ++ [.v (.string s), .v (.int .i64 v0), .v (.int .i64 v1), .v (.string v2)]) :: owL (l2.drop (k + 1))⟩) rfl rfl rfl ?_ zl2))) (zq2 zj4 zb5))) ⟨by rw [zc6]; rfl, rfl⟩
  first | rfl | (simp [cloV, cloL, clo, zo, zn, zp, zl, zk]; done)
set_option maxHeartbeats 600000 in
theorem zs20 {x0A x1A y1A : Option Addr} {x0c x1c y1c : Nat} {l l2 y1 : List E} {v0 v1 : Int} {v2 y0 nm s : ByteArray} {k : Nat} (hk2 : ∀ e ∈ l2, e.enc.length = 2) (hlen : l.length ≤ 1048576) (hlen2 : l2.length ≤ 1048576) (hy1l : y1.length ≤ 1048576) (hlt : k < l2.length) (hx : l2[k]? = some (.agg [.str y0, .lst 4 82 y1A y1c y1])) {i : Nat} {q w2 : ByteArray} {w0 w1 : Int} (hk1 : ∀ e ∈ y1, e.enc.length = 4) (hit : i < y1.length) (hz : y1[i]? = some (.agg [.str q, .agg [.int .i64 w0, .int .i64 w1, .str w2]])) (cc : Ctr Try.prog 40 [.ag (acE (E.agg [.lst 4 34 x0A x0c l, .lst 2 80 x1A x1c l2]))] [] (.ag (owE (E.agg [.lst 4 34 x0A x0c l, .lst 2 80 x1A x1c l2]))) []) (ca : Ctr Try.prog 57 [.ag (acE (E.agg [.lst 4 34 x0A x0c l, .lst 2 80 x1A x1c l2])), .c (.v (.string nm))] [] (.c (.v (.int .i64 (k)))) []) (cky : Ctr Try.prog 58 [.c (.ro y1.length 4 (acL y1)), .c (.v (.string s))] [] (.c (.v (.int .i64 (i)))) []) : Ctr Try.prog 25 [.ag (acE (E.agg [.lst 4 34 x0A x0c l, .lst 2 80 x1A x1c l2])), .c (.v (.string nm)), .c (.v (.string s)), .ag (acE (.agg [.int .i64 v0, .int .i64 v1, .str v2]))] [] (.tu [.ag [.ow 34 l.length 4 (owL l), .ow 80 l2.length 2 ((owL (l2.take k) ++ [.v (.string y0)]) ++ .ow 82 y1.length 4 (owL (y1.set i (.agg [.str q, (.agg [.int .i64 v0, .int .i64 v1, .str v2])]))) :: owL (l2.drop (k + 1)))], .c (.v (.bool true))]) [] := by
  have hle2 : i * 4 + 1 + 3 ≤ (owL y1).length := zs15 hk1 hit (by omega)
  have hP := zk4 (k := k) hk2 (Nat.le_of_lt hlt)
  have hs2 : subL ((owL (l2.take k) ++ [.v (.string y0)]) ++ .sl 102 y1.length :: owL (l2.drop (k + 1))) (k * 2 + 1) 1 = [.sl 102 y1.length] := zc5 hP
  have hle : k * 2 + 1 + 1 ≤ ((owL (l2.take k) ++ [AC.v (.string y0)]) ++ AC.sl 102 y1.length :: owL (l2.drop (k + 1))).length := by simp [hP]; omega
  refine zt1 Try.func25 rfl rfl ?_
  repeat (first | refine zi ?_ | refine ze ?_ | refine zg ?_ | refine zh ?_ | refine za fun C => ?_ | refine zf (by kernel_rfl) (by kernel_rfl) fun C => ?_ | refine zd ?_ | refine zf1 ?_ | refine x_bs ?_ | refine x_gr ?_ | refine x_st ?_ | refine x_mv ?_ | refine x_sk ?_ | refine zh1 ?_ | refine x_ix ?_ | refine zi1 ?_ | refine zj1 ?_ | refine zg1 ?_ | refine zt ?_ | refine x_ld ?_)
  refine zb4 100 cc ?_
  repeat (first | refine zi ?_ | refine ze ?_ | refine zg ?_ | refine zh ?_ | refine za fun C => ?_ | refine zf (by kernel_rfl) (by kernel_rfl) fun C => ?_ | refine zd ?_ | refine zf1 ?_ | refine x_bs ?_ | refine x_gr ?_ | refine x_st ?_ | refine x_mv ?_ | refine x_sk ?_ | refine zh1 ?_ | refine x_ix ?_ | refine zi1 ?_ | refine zj1 ?_ | refine zg1 ?_ | refine zt ?_ | refine x_ld ?_)
  refine zb4 110 ca ?_
  repeat (first | refine zi ?_ | refine ze ?_ | refine zg ?_ | refine zh ?_ | refine za fun C => ?_ | refine zf (by kernel_rfl) (by kernel_rfl) fun C => ?_ | refine zd ?_ | refine zf1 ?_ | refine x_bs ?_ | refine x_gr ?_ | refine x_st ?_ | refine x_mv ?_ | refine x_sk ?_ | refine zh1 ?_ | refine x_ix ?_ | refine zi1 ?_ | refine zj1 ?_ | refine zg1 ?_ | refine zt ?_ | refine x_ld ?_)
  refine zn1 (by rfl) (fun h1 => ?_) fun h1 => ?_
  · exact absurd (of_decide_eq_true h1) (by omega)
  refine za2 (zf5 102 (i := 101) rfl rfl (pre := (owL (l2.take k) ++ [.v (.string y0)])) (post := owL (l2.drop (k + 1))) (zj8 hx)) ?_
  repeat (first | refine zi ?_ | refine ze ?_ | refine zg ?_ | refine zh ?_ | refine za fun C => ?_ | refine zf (by kernel_rfl) (by kernel_rfl) fun C => ?_ | refine zd ?_ | refine zf1 ?_ | refine x_bs ?_ | refine x_gr ?_ | refine x_st ?_ | refine x_mv ?_ | refine x_sk ?_ | refine zh1 ?_ | refine x_ix ?_ | refine zi1 ?_ | refine zj1 ?_ | refine zg1 ?_ | refine zt ?_ | refine x_ld ?_)
  refine zb4 120 cky ?_
  repeat (first | refine zi ?_ | refine ze ?_ | refine zg ?_ | refine zh ?_ | refine za fun C => ?_ | refine zf (by kernel_rfl) (by kernel_rfl) fun C => ?_ | refine zd ?_ | refine zf1 ?_ | refine x_bs ?_ | refine x_gr ?_ | refine x_st ?_ | refine x_mv ?_ | refine x_sk ?_ | refine zh1 ?_ | refine x_ix ?_ | refine zi1 ?_ | refine zj1 ?_ | refine zg1 ?_ | refine zt ?_ | refine x_ld ?_)
  refine zn1 (by rfl) (fun h2 => ?_) fun h2 => ?_
  rotate_left
  · exact absurd (of_decide_eq_false h2) (by omega)
  repeat (first | refine zi ?_ | refine ze ?_ | refine zg ?_ | refine zh ?_ | refine za fun C => ?_ | refine zf (by kernel_rfl) (by kernel_rfl) fun C => ?_ | refine zd ?_ | refine zf1 ?_ | refine x_bs ?_ | refine x_gr ?_ | refine x_st ?_ | refine x_mv ?_ | refine x_sk ?_ | refine zh1 ?_ | refine x_ix ?_ | refine zi1 ?_ | refine zj1 ?_ | refine zg1 ?_ | refine zt ?_ | refine x_ld ?_)
  refine za2 (ze5 (i := 101) (j := 102) rfl rfl rfl (pre := (owL (l2.take k) ++ [.v (.string y0)])) (post := owL (l2.drop (k + 1))) rfl) ?_
  have e1 : spl (owL y1) (i * 4 + 1) [.v (.int .i64 v0), .v (.int .i64 v1), .v (.string v2)] = owL (y1.set i (.agg [.str q, .agg [.int .i64 v0, .int .i64 v1, .str v2]])) := zr15 hk1 hz (by simp) rfl
  refine zq ?_
  refine ret0 (x := .tu [.ag [.ow 34 l.length 4 (owL l), .ow 80 l2.length 2 ((owL (l2.take k) ++ [.v (.string y0)]) ++ .ow 82 y1.length 4 (spl (owL y1) (i * 4 + 1) [.v (.int .i64 v0), .v (.int .i64 v1), .v (.string v2)]) :: owL (l2.drop (k + 1)))], .c (.v (.bool true))]) rfl (zx6 (zq2 (zr3 (ze3 (rw := ⟨34, 4, l.length, false, owL l⟩) rfl rfl rfl (zl _) (ze3 (rw := ⟨80, 2, l2.length, false, (owL (l2.take k) ++ [.v (.string y0)]) ++ .ow 82 y1.length 4 (spl (owL y1) (i * 4 + 1) [.v (.int .i64 v0), .v (.int .i64 v1), .v (.string v2)]) :: owL (l2.drop (k + 1))⟩) rfl rfl rfl ?_ zl2))) (zq2 zj4 zb5))) ⟨by rw [e1], rfl⟩
  rw [e1]; first | rfl | (simp [cloV, cloL, clo, zo, zn, zp, zl, zk]; done)
theorem zr8 {e v : E} (he : e.Ty Try.prog 27) (hv : v.Ty Try.prog 29) (nm s : ByteArray) (hsz : e.sz ≤ 1048576) : Ctr Try.prog 25 [.ag (acE e), .c (.v (.string nm)), .c (.v (.string s)), .ag (acE v)] [] (.tu [.ag (owE (putE e nm s v)), .c (.v (.bool (putOk e nm s)))]) [] := by
  have ca := zb7 he nm hsz
  have cc := zs10 he hsz
  obtain ⟨x0A, x0c, l, x1A, x1c, l2, rfl, ⟨hl, hk⟩, ⟨hl2, hk2⟩, -⟩ := zz2 he
  have hlen : l.length ≤ 1048576 := by simp only [E.sz, E.szL] at hsz; omega
  have hlen2 : l2.length ≤ 1048576 := by simp only [E.sz, E.szL] at hsz; omega
  obtain ⟨v0, v1, v2, rfl, -⟩ := zh4 hv
  rcases zu3 (isNm nm) l2 with h0 | ⟨k, h0, hlt⟩
  · rw [show tabsE _ = l2 from rfl, h0] at ca
    obtain ⟨p1, p2⟩ := zi6 (x0A := x0A) (x1A := x1A) (x0c := x0c) (x1c := x1c) (k := 4) (k' := 2) (T := 34) (T' := 80) (l := l) (s := s) (v := .agg [.int .i64 v0, .int .i64 v1, .str v2]) h0
    rw [p1, p2]
    exact zp20 hlen hlen2 cc ca
  · rw [show tabsE _ = l2 from rfl, h0] at ca
    obtain ⟨x, hx⟩ : ∃ x, l2[k]? = some x := ⟨_, List.getElem?_eq_getElem hlt⟩
    have hxt := hl2 x (List.mem_of_getElem? hx)
    have hxs : x.sz ≤ 1048576 := by
      have := E.szL_mem (List.mem_of_getElem? hx)
      simp only [E.sz, E.szL] at hsz; omega
    obtain ⟨y0, y1A, y1c, y1, rfl, hy0, ⟨hy1, hy1k⟩, -⟩ := zh2 hxt
    have hy1l : y1.length ≤ 1048576 := by simp only [E.sz, E.szL] at hxs; omega
    have cky := zs9 hy1 hy1k s (by omega)
    obtain ⟨p1, p2⟩ := zj6 (x0A := x0A) (x1A := x1A) (x0c := x0c) (x1c := x1c) (k := 4) (k' := 2) (T := 34) (T' := 80) (l := l) (s := s) (v := .agg [.int .i64 v0, .int .i64 v1, .str v2]) h0 hx
    rw [p1, p2]
    have hr : ∀ m : List E, owE (.agg [.lst 4 34 none 0 l, .lst 2 80 none 0 (l2.set k (.agg [.str y0, .lst 4 82 none 0 m]))]) = [.ow 34 l.length 4 (owL l), .ow 80 l2.length 2 ((owL (l2.take k) ++ [.v (.string y0)]) ++ .ow 82 m.length 4 (owL m) :: owL (l2.drop (k + 1)))] := by
      intro m
      simp only [owE, owL, List.length_set, List.append_nil]
      rw [zp11 hlt]; rfl
    rcases zu3 (isNm s) y1 with j0 | ⟨i, j0, hit⟩
    · rw [j0] at cky
      by_cases h20 : 20 ≤ y1.length
      · obtain ⟨q1, q2⟩ := zt10 (v := .agg [.int .i64 v0, .int .i64 v1, .str v2]) j0 h20
        rw [q1, q2, hr]
        exact zq20 hk2 hlen hlen2 hy1l hlt hx cc ca h20 cky
      · obtain ⟨q1, q2⟩ := zu12 (v := .agg [.int .i64 v0, .int .i64 v1, .str v2]) j0 h20
        rw [q1, q2, hr, List.length_append]
        exact zr20 hk2 hlen hlen2 hy1l hlt hx cc ca h20 cky
    · rw [j0] at cky
      obtain ⟨z, hz⟩ : ∃ z, y1[i]? = some z := ⟨_, List.getElem?_eq_getElem hit⟩
      obtain ⟨z0, z1, z2, z3, rfl, hz0⟩ := zh3 (hy1 z (List.mem_of_getElem? hz))
      obtain ⟨q1, q2⟩ := zv12 (v := .agg [.int .i64 v0, .int .i64 v1, .str v2]) j0 hz
      rw [q1, q2, hr, List.length_set]
      exact zs20 hk2 hlen hlen2 hy1l hlt hx hy1k hit hz cc ca cky
end Go.Proofs.Ytghljnfbbaklnaa
