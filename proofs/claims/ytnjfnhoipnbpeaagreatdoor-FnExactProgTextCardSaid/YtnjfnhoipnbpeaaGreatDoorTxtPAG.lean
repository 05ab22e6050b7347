/- Heads of statements: the program. Printed by gen_stmt.py. -/
import Derived.Test.YtnjfnhoipnbpeaaGreatDoorTxtPAF
namespace Go.Proofs.YtnjfnhoipnbpeaaGreatDoor
open Go.RowKit
set_option maxRecDepth 100000
theorem sheadB_eq {k:Int}{s t:ByteArray}{xs:List E}{na nb:Nat}(h:xs.all exprB=true):sheadB k s t xs na nb=shapeB k s t xs.length na nb (callX xs):=by unfold sheadB;rw [h,Bool.true_and]
set_option maxHeartbeats 16000000 in
theorem zm22 {k:Int}{s t:ByteArray}(hs:s.size≤1048576)(ht:t.size≤1048576){xs la lb:List E}(hx:xs.length≤1048576)(ha:la.length≤1048576)(hb:lb.length≤1048576)(hxt:∀e∈xs,e.Ty Tryz.prog 45)(hxk:∀e∈xs,e.enc.length=4)(hxz:∀e∈xs,e.sz≤1048576):Ctr Tryz.prog 107 [.ag [.v (.int .i64 k),.v (.string s),.v (.string t),.ro xs.length 4 (acL xs),.ro la.length 6 (acL la),.ro lb.length 6 (acL lb)]] [] (.c (.v (.bool (sheadB k s t xs la.length lb.length)))) []:=by
 refine ze1 Tryz.func107 rfl rfl ?_
 repeat' (first|(apply f_wo;first|(apply f_mv;refine zv (v:=.c _) ?_)|(apply f_as;refine zq (v:=.c _) ?_)|(apply f_fa;refine n_fa ?_)|(apply f_ld;refine zn1 ?_)|(apply f_bi;refine zy1 ?_)|refine n_bo ?_)|(apply f_w;first|refine zj ?_|refine zb ?_)|refine za fun C=>?_|refine zd ?_|refine ze ?_)
 refine zv1 (fun d:Nat=>⟨tmsF [(1,.c (.pt 1 0)),(8,.c (.ro xs.length 4 (acL xs))),(9,.c (.v (.int .i64 xs.length))),(10,.c (.v (.int .i64 (d:Int))))],hpsF [(1,1,⟨71,0,0,true,[.v (.int .i64 k),.v (.string s),.v (.string t),.ro xs.length 4 (acL xs),.ro la.length 6 (acL la),.ro lb.length 6 (acL lb)]⟩)],0,[1],138⟩)
  (fun N d=>d+N=xs.length∧∀j y,j<d→xs[j]? = some y→exprB y=true) xs.length 0 ⟨by omega,fun j y hj=>absurd hj (Nat.not_lt_zero j)⟩ ?_ ?_
 ·(refine zl1 _ _ rfl rfl ?_ ?_<;>(repeat' (first|exact TmOk.nil|exact RwOk.nil|refine TmOk.cons ?_ ?_|refine RwOk.cons ?_ ?_|rfl|(refine rnV_id' rfl ?_;exact byc)|(refine zp1 ?_;first|rfl|omega|(rw [zw (by omega) (by omega)];omega))|(refine zb1 rfl ?_;exact byc)|exact zc2 rfl rfl|(refine zq1 (by rfl) (by rfl) ?_ ?_<;>exact byc)|(refine rw_rn' rfl rfl ?_;simp;done))))
 rintro N d ⟨hN,hr⟩
 try dsimp only
 repeat' (first|(apply f_wo;(apply zg3;refine zs1 ?_))|(apply f_w;first|refine zj ?_|refine zb ?_)|refine za fun C=>?_|refine zd ?_)
 refine zi (by rfl) (fun h1=>?_) fun h1=>?_
 ·have hk':d<xs.length:=by simpa using h1
  obtain⟨x,hx'⟩:∃x,xs[d]? = some x:=⟨_,List.getElem?_eq_getElem hk'⟩
  have hxt':=hxt x (List.mem_of_getElem? hx')
  have cx:=zn9 hxt' (hxz x (List.mem_of_getElem? hx'))
  cases hb2:exprB x with
  | false =>
   have e0:sheadB k s t xs la.length lb.length=false:=by
    unfold sheadB
    cases ha2:xs.all exprB with
    | false=>rfl
    | true=>rw [List.all_eq_true.1 ha2 x (List.mem_of_getElem? hx')] at hb2;cases hb2
   rw [hb2] at cx
   rw [e0]
   obtain⟨y0,y1,y2,yA,yc,yl,rfl,-⟩:=zh1 hxt'
   repeat' (first|(apply f_wo;first|(apply f_as;refine zq (v:=.c _) ?_)|(apply f_ld;first|refine zq2 ?_|refine zs2 ?_)|(apply f_ca;refine zk1 cx ?_)|(apply f_st;refine n_st ?_)|(apply f_ia;refine n_ix ?_)|(apply f_no;refine zu2 ?_)|refine n_al ?_)|(apply f_w;first|refine zj ?_|refine zb ?_)|refine za fun C=>?_|refine zd ?_|refine ze ?_|refine zg ?_|refine za1 rfl ?_)
   refine zh ?_;refine ret0 rfl zg1 ⟨?_,rfl⟩;rfl
  | true =>
   have hb3:=hb2
   rw [hb2] at cx
   obtain⟨y0,y1,y2,yA,yc,yl,rfl,-⟩:=zh1 hxt'
   repeat' (first|(apply f_wo;first|(apply f_mv;refine zv (v:=.c _) ?_)|(apply f_ld;first|refine zq2 ?_|refine zs2 ?_)|(apply f_ca;refine zk1 cx ?_)|(apply f_st;refine n_st ?_)|(apply f_ia;refine n_ix ?_)|(apply zd2;refine zj1 ?_)|(apply f_no;refine zu2 ?_)|refine n_al ?_)|(apply f_w;first|refine zj ?_|refine zb ?_)|refine za fun C=>?_|refine zd ?_|refine ze ?_|refine zg ?_|refine zf1 rfl ?_)
   refine⟨N-1,d+1,by omega,⟨by omega,fun j y hj hy=>?_⟩,?_⟩
   ·by_cases e:j=d
    ·rw [e,hx'] at hy;injection hy with hy;subst hy;exact hb3
    ·exact hr j y (by omega) hy
   ·(refine zl1 _ _ rfl rfl ?_ ?_<;>(repeat' (first|exact TmOk.nil|exact RwOk.nil|refine TmOk.cons ?_ ?_|refine RwOk.cons ?_ ?_|rfl|(refine rnV_id' rfl ?_;exact byc)|(refine zp1 ?_;first|rfl|omega|(rw [zw (by omega) (by omega)];omega))|(refine zb1 rfl ?_;exact byc)|exact zc2 rfl rfl|(refine zq1 (by rfl) (by rfl) ?_ ?_<;>exact byc)|(refine rw_rn' rfl rfl ?_;simp;done))))
 have hk':¬d<xs.length:=by simpa using h1
 rw [sheadB_eq (List.all_eq_true.2 fun y hy=>by
  obtain⟨j,hj⟩:=List.getElem?_of_mem hy
  have:=(List.getElem?_eq_some_iff.1 hj).1
  exact hr j y (by omega) hj)]
 clear hr h1 hN
 have cn:=zr3 hs
 have cm:=zr3 ht
 have cw:=zy5 (xs.length:Int) 1 5
 refine zu ?_
 by_cases h1:k=1
 ·subst h1
  rw [show shapeB 1 s t xs.length la.length lb.length (callX xs)=(emB t&&(inR xs.length 1 5&&(emB s&&(((la.length:Int)==0)&&((lb.length:Int)==0))))) from rfl]
  generalize inR (xs.length:Int) 1 5=bw at cw ⊢
  cases bw
  all_goals
   repeat' (first|(apply f_wo;first|(apply f_gs;refine n_sk ?_)|(apply f_mv;first|(refine zx1 ?_ ?_<;>intro hG<;>(try cases hG))|refine zv (v:=.c _) ?_)|(apply f_as;refine zq (v:=.c _) ?_)|(apply f_fa;refine n_fa ?_)|(apply f_ld;refine zn1 ?_)|(apply f_ca;refine zk1 cw ?_)|(apply f_bi;refine zy1 ?_)|(apply zr1;refine zm ?_)|(apply zn2;first|refine zm1 ?_|refine zf3 ?_|refine zn4 ?_)|(apply zn3;refine za2 ?_)|(apply f_pk;refine zw1 (v:=.c _) ?_))|(apply f_w;first|refine zj ?_|refine zb ?_)|refine za fun C=>?_|refine zd ?_|refine ze ?_|refine zg ?_|(refine zi (by rfl) ?_ ?_<;>intro hC<;>(try cases hC)))
  all_goals first
   | (refine zh ?_;refine ret0 rfl zg1 ⟨?_,rfl⟩;first|rfl|(simp_all [emB,bne,shp,List.length_pos_iff];done))
   | (exfalso;simp_all [emB,bne,List.length_pos_iff];done)
 by_cases h2:k=2
 ·subst h2
  rw [show shapeB 2 s t xs.length la.length lb.length (callX xs)=(emB t&&(nameK s&&shp xs.length la.length lb.length 1 false false)) from rfl]
  have hne:emB s=true→nameK s=false:=zn14
  generalize nameK s=bn at cn hne ⊢
  cases bn
  all_goals
   repeat' (first|(apply f_wo;first|(apply f_gs;refine n_sk ?_)|(apply f_mv;first|(refine zx1 ?_ ?_<;>intro hG<;>(try cases hG))|refine zv (v:=.c _) ?_)|(apply f_as;refine zq (v:=.c _) ?_)|(apply f_fa;refine n_fa ?_)|(apply f_ld;refine zn1 ?_)|(apply f_ca;refine zk1 cn ?_)|(apply f_bi;refine zy1 ?_)|(apply zr1;refine zm ?_)|(apply zn2;first|refine zm1 ?_|refine zf3 ?_|refine zn4 ?_)|(apply zn3;refine za2 ?_)|(apply f_no;refine zu2 ?_)|(apply f_pk;refine zw1 (v:=.c _) ?_))|(apply f_w;first|refine zj ?_|refine zb ?_)|refine za fun C=>?_|refine zd ?_|refine ze ?_|refine zg ?_|(refine zi (by rfl) ?_ ?_<;>intro hC<;>(try cases hC)))
  all_goals first
   | (refine zh ?_;refine ret0 rfl zg1 ⟨?_,rfl⟩;first|rfl|(simp_all [emB,bne,shp,List.length_pos_iff];done))
   | (exfalso;simp_all [emB,bne,List.length_pos_iff];done)
 by_cases h3:k=3
 ·subst h3
  rw [show shapeB 3 s t xs.length la.length lb.length (callX xs)=(emB t&&(nameK s&&shp xs.length la.length lb.length 2 false false)) from rfl]
  have hne:emB s=true→nameK s=false:=zn14
  generalize nameK s=bn at cn hne ⊢
  cases bn
  all_goals
   repeat' (first|(apply f_wo;first|(apply f_gs;refine n_sk ?_)|(apply f_mv;first|(refine zx1 ?_ ?_<;>intro hG<;>(try cases hG))|refine zv (v:=.c _) ?_)|(apply f_as;refine zq (v:=.c _) ?_)|(apply f_fa;refine n_fa ?_)|(apply f_ld;refine zn1 ?_)|(apply f_ca;refine zk1 cn ?_)|(apply f_bi;refine zy1 ?_)|(apply zr1;refine zm ?_)|(apply zn2;first|refine zm1 ?_|refine zf3 ?_|refine zn4 ?_)|(apply zn3;refine za2 ?_)|(apply f_no;refine zu2 ?_)|(apply f_pk;refine zw1 (v:=.c _) ?_))|(apply f_w;first|refine zj ?_|refine zb ?_)|refine za fun C=>?_|refine zd ?_|refine ze ?_|refine zg ?_|(refine zi (by rfl) ?_ ?_<;>intro hC<;>(try cases hC)))
  all_goals first
   | (refine zh ?_;refine ret0 rfl zg1 ⟨?_,rfl⟩;first|rfl|(simp_all [emB,bne,shp,List.length_pos_iff];done))
   | (exfalso;simp_all [emB,bne,List.length_pos_iff];done)
 by_cases h4:k=4
 ·subst h4
  rw [show shapeB 4 s t xs.length la.length lb.length (callX xs)=(emB t&&(emB s&&shp xs.length la.length lb.length 2 false false)) from rfl]
  repeat' (first|(apply f_wo;first|(apply f_gs;refine n_sk ?_)|(apply f_mv;first|(refine zx1 ?_ ?_<;>intro hG<;>(try cases hG))|refine zv (v:=.c _) ?_)|(apply f_as;refine zq (v:=.c _) ?_)|(apply f_fa;refine n_fa ?_)|(apply f_ld;refine zn1 ?_)|(apply f_bi;refine zy1 ?_)|(apply zr1;refine zm ?_)|(apply zn2;first|refine zm1 ?_|refine zf3 ?_|refine zn4 ?_)|(apply zn3;refine za2 ?_)|(apply f_pk;refine zw1 (v:=.c _) ?_))|(apply f_w;first|refine zj ?_|refine zb ?_)|refine za fun C=>?_|refine zd ?_|refine ze ?_|refine zg ?_|(refine zi (by rfl) ?_ ?_<;>intro hC<;>(try cases hC)))
  all_goals first
   | (refine zh ?_;refine ret0 rfl zg1 ⟨?_,rfl⟩;first|rfl|(simp_all [emB,bne,shp,List.length_pos_iff];done))
   | (exfalso;simp_all [emB,bne,List.length_pos_iff];done)
 by_cases h5:k=5
 ·subst h5
  rw [show shapeB 5 s t xs.length la.length lb.length (callX xs)=(emB t&&(emB s&&shp xs.length la.length lb.length 1 true true)) from rfl]
  repeat' (first|(apply f_wo;first|(apply f_gs;refine n_sk ?_)|(apply f_mv;first|(refine zx1 ?_ ?_<;>intro hG<;>(try cases hG))|refine zv (v:=.c _) ?_)|(apply f_as;refine zq (v:=.c _) ?_)|(apply f_fa;refine n_fa ?_)|(apply f_ld;refine zn1 ?_)|(apply f_bi;refine zy1 ?_)|(apply zr1;refine zm ?_)|(apply zn2;first|refine zm1 ?_|refine zf3 ?_|refine zn4 ?_)|(apply f_pk;refine zw1 (v:=.c _) ?_))|(apply f_w;first|refine zj ?_|refine zb ?_)|refine za fun C=>?_|refine zd ?_|refine ze ?_|refine zg ?_|(refine zi (by rfl) ?_ ?_<;>intro hC<;>(try cases hC)))
  all_goals first
   | (refine zh ?_;refine ret0 rfl zg1 ⟨?_,rfl⟩;first|rfl|(simp_all [emB,bne,shp,List.length_pos_iff];done))
   | (exfalso;simp_all [emB,bne,List.length_pos_iff];done)
 by_cases h6:k=6
 ·subst h6
  rw [show shapeB 6 s t xs.length la.length lb.length (callX xs)=(emB t&&(emB s&&shp xs.length la.length lb.length 1 true false)) from rfl]
  repeat' (first|(apply f_wo;first|(apply f_gs;refine n_sk ?_)|(apply f_mv;first|(refine zx1 ?_ ?_<;>intro hG<;>(try cases hG))|refine zv (v:=.c _) ?_)|(apply f_as;refine zq (v:=.c _) ?_)|(apply f_fa;refine n_fa ?_)|(apply f_ld;refine zn1 ?_)|(apply f_bi;refine zy1 ?_)|(apply zr1;refine zm ?_)|(apply zn2;first|refine zm1 ?_|refine zf3 ?_|refine zn4 ?_)|(apply zn3;refine za2 ?_)|(apply f_pk;refine zw1 (v:=.c _) ?_))|(apply f_w;first|refine zj ?_|refine zb ?_)|refine za fun C=>?_|refine zd ?_|refine ze ?_|refine zg ?_|(refine zi (by rfl) ?_ ?_<;>intro hC<;>(try cases hC)))
  all_goals first
   | (refine zh ?_;refine ret0 rfl zg1 ⟨?_,rfl⟩;first|rfl|(simp_all [emB,bne,shp,List.length_pos_iff];done))
   | (exfalso;simp_all [emB,bne,List.length_pos_iff];done)
 by_cases h7:k=7
 ·subst h7
  rw [show shapeB 7 s t xs.length la.length lb.length (callX xs)=(nameK s&&(nameK t&&shp xs.length la.length lb.length 0 true false)) from rfl]
  have hne:emB s=true→nameK s=false:=zn14
  generalize nameK s=bn at cn hne ⊢
  generalize nameK t=bm at cm ⊢
  cases bn<;>cases bm
  all_goals
   repeat' (first|(apply f_wo;first|(apply f_gs;refine n_sk ?_)|(apply f_mv;first|(refine zx1 ?_ ?_<;>intro hG<;>(try cases hG))|refine zv (v:=.c _) ?_)|(apply f_as;refine zq (v:=.c _) ?_)|(apply f_fa;refine n_fa ?_)|(apply f_ld;refine zn1 ?_)|(apply f_ca;first|refine zk1 cn ?_|refine zk1 cm ?_)|(apply f_bi;refine zy1 ?_)|(apply zr1;refine zm ?_)|(apply zn2;first|refine zm1 ?_|refine zf3 ?_|refine zn4 ?_)|(apply zn3;refine za2 ?_)|(apply f_no;refine zu2 ?_)|(apply f_pk;refine zw1 (v:=.c _) ?_))|(apply f_w;first|refine zj ?_|refine zb ?_)|refine za fun C=>?_|refine zd ?_|refine ze ?_|refine zg ?_|(refine zi (by rfl) ?_ ?_<;>intro hC<;>(try cases hC)))
  all_goals first
   | (refine zh ?_;refine ret0 rfl zg1 ⟨?_,rfl⟩;first|rfl|(simp_all [emB,bne,shp,List.length_pos_iff];done))
   | (exfalso;simp_all [emB,bne,List.length_pos_iff];done)
 by_cases h8:k=8
 ·subst h8
  rw [show shapeB 8 s t xs.length la.length lb.length (callX xs)=(emB t&&(emB s&&shp xs.length la.length lb.length 0 false false)) from rfl]
  repeat' (first|(apply f_wo;first|(apply f_gs;refine n_sk ?_)|(apply f_mv;first|(refine zx1 ?_ ?_<;>intro hG<;>(try cases hG))|refine zv (v:=.c _) ?_)|(apply f_as;refine zq (v:=.c _) ?_)|(apply f_fa;refine n_fa ?_)|(apply f_ld;refine zn1 ?_)|(apply f_bi;refine zy1 ?_)|(apply zr1;refine zm ?_)|(apply zn2;first|refine zm1 ?_|refine zf3 ?_|refine zn4 ?_)|(apply zn3;refine za2 ?_)|(apply f_pk;refine zw1 (v:=.c _) ?_))|(apply f_w;first|refine zj ?_|refine zb ?_)|refine za fun C=>?_|refine zd ?_|refine ze ?_|refine zg ?_|(refine zi (by rfl) ?_ ?_<;>intro hC<;>(try cases hC)))
  all_goals first
   | (refine zh ?_;refine ret0 rfl zg1 ⟨?_,rfl⟩;first|rfl|(simp_all [emB,bne,shp,List.length_pos_iff];done))
   | (exfalso;simp_all [emB,bne,List.length_pos_iff];done)
 by_cases h9:k=9
 ·subst h9
  rw [show shapeB 9 s t xs.length la.length lb.length (callX xs)=(emB t&&(emB s&&shp xs.length la.length lb.length 1 false false)) from rfl]
  repeat' (first|(apply f_wo;first|(apply f_gs;refine n_sk ?_)|(apply f_mv;first|(refine zx1 ?_ ?_<;>intro hG<;>(try cases hG))|refine zv (v:=.c _) ?_)|(apply f_as;refine zq (v:=.c _) ?_)|(apply f_fa;refine n_fa ?_)|(apply f_ld;refine zn1 ?_)|(apply f_bi;refine zy1 ?_)|(apply zr1;refine zm ?_)|(apply zn2;first|refine zm1 ?_|refine zf3 ?_|refine zn4 ?_)|(apply zn3;refine za2 ?_)|(apply f_pk;refine zw1 (v:=.c _) ?_))|(apply f_w;first|refine zj ?_|refine zb ?_)|refine za fun C=>?_|refine zd ?_|refine ze ?_|refine zg ?_|(refine zi (by rfl) ?_ ?_<;>intro hC<;>(try cases hC)))
  all_goals first
   | (refine zh ?_;refine ret0 rfl zg1 ⟨?_,rfl⟩;first|rfl|(simp_all [emB,bne,shp,List.length_pos_iff];done))
   | (exfalso;simp_all [emB,bne,List.length_pos_iff];done)
 by_cases h10:k=10
 ·subst h10
  rw [show shapeB 10 s t xs.length la.length lb.length (callX xs)=(emB t&&(emB s&&shp xs.length la.length lb.length 1 false false)) from rfl]
  repeat' (first|(apply f_wo;first|(apply f_gs;refine n_sk ?_)|(apply f_mv;first|(refine zx1 ?_ ?_<;>intro hG<;>(try cases hG))|refine zv (v:=.c _) ?_)|(apply f_as;refine zq (v:=.c _) ?_)|(apply f_fa;refine n_fa ?_)|(apply f_ld;refine zn1 ?_)|(apply f_bi;refine zy1 ?_)|(apply zr1;refine zm ?_)|(apply zn2;first|refine zm1 ?_|refine zf3 ?_|refine zn4 ?_)|(apply zn3;refine za2 ?_)|(apply f_pk;refine zw1 (v:=.c _) ?_))|(apply f_w;first|refine zj ?_|refine zb ?_)|refine za fun C=>?_|refine zd ?_|refine ze ?_|refine zg ?_|(refine zi (by rfl) ?_ ?_<;>intro hC<;>(try cases hC)))
  all_goals first
   | (refine zh ?_;refine ret0 rfl zg1 ⟨?_,rfl⟩;first|rfl|(simp_all [emB,bne,shp,List.length_pos_iff];done))
   | (exfalso;simp_all [emB,bne,List.length_pos_iff];done)
 by_cases h11:k=11
 ·subst h11
  rw [show shapeB 11 s t xs.length la.length lb.length (callX xs)=(emB t&&(nameK s&&shp xs.length la.length lb.length 1 false false)) from rfl]
  have hne:emB s=true→nameK s=false:=zn14
  generalize nameK s=bn at cn hne ⊢
  cases bn
  all_goals
   repeat' (first|(apply f_wo;first|(apply f_gs;refine n_sk ?_)|(apply f_mv;first|(refine zx1 ?_ ?_<;>intro hG<;>(try cases hG))|refine zv (v:=.c _) ?_)|(apply f_as;refine zq (v:=.c _) ?_)|(apply f_fa;refine n_fa ?_)|(apply f_ld;refine zn1 ?_)|(apply f_ca;refine zk1 cn ?_)|(apply f_bi;refine zy1 ?_)|(apply zr1;refine zm ?_)|(apply zn2;first|refine zm1 ?_|refine zf3 ?_|refine zn4 ?_)|(apply zn3;refine za2 ?_)|(apply f_no;refine zu2 ?_)|(apply f_pk;refine zw1 (v:=.c _) ?_))|(apply f_w;first|refine zj ?_|refine zb ?_)|refine za fun C=>?_|refine zd ?_|refine ze ?_|refine zg ?_|(refine zi (by rfl) ?_ ?_<;>intro hC<;>(try cases hC)))
  all_goals first
   | (refine zh ?_;refine ret0 rfl zg1 ⟨?_,rfl⟩;first|rfl|(simp_all [emB,bne,shp,List.length_pos_iff];done))
   | (exfalso;simp_all [emB,bne,List.length_pos_iff];done)
 by_cases h12:k=12
 ·subst h12
  rw [show shapeB 12 s t xs.length la.length lb.length (callX xs)=(emB t&&(emB s&&(shp xs.length la.length lb.length 1 false false&&callX xs))) from rfl]
  by_cases hx1:xs.length=1
  ·obtain⟨x,hx0⟩:∃x,xs[0]? = some x:=⟨_,List.getElem?_eq_getElem (by omega)⟩
   rw [zk20 hx0]
   obtain⟨y0,y1,y2,yA,yc,yl,rfl,-⟩:=zh1 (hxt x (List.mem_of_getElem? hx0))
   rw [show kindX (.agg [.int .i64 y0,.int .i64 y1,.str y2,.lst 4 45 yA yc yl])=y0 from rfl]
   repeat' (first|(apply f_wo;first|(apply f_gs;refine n_sk ?_)|(apply f_mv;first|(refine zx1 ?_ ?_<;>intro hG<;>(try cases hG))|refine zv (v:=.c _) ?_)|(apply f_as;refine zq (v:=.c _) ?_)|(apply f_fa;first|refine n_fa ?_|refine zc7 ?_)|(apply f_ld;first|refine zn1 ?_|refine zz3 ?_)|(apply f_bi;refine zy1 ?_)|(apply f_ia;refine n_ix ?_)|(apply zr1;refine zm ?_)|(apply zn2;first|refine zm1 ?_|refine zf3 ?_|refine zn4 ?_)|(apply zn3;refine za2 ?_)|(apply f_pk;refine zw1 (v:=.c _) ?_))|(apply f_w;first|refine zj ?_|refine zb ?_)|refine za fun C=>?_|refine zd ?_|refine ze ?_|refine zg ?_|(refine zi (by rfl) ?_ ?_<;>intro hC<;>(try cases hC)))
   all_goals first
   | (refine zh ?_;refine ret0 rfl zg1 ⟨?_,rfl⟩;first|rfl|(simp_all [emB,bne,shp,List.length_pos_iff];done))
   | (exfalso;simp_all [emB,bne,List.length_pos_iff];done)
  ·have hx2:¬(xs.length:Int)=1:=by omega
   rw [shp_no hx2]
   repeat' (first|(apply f_wo;first|(apply f_gs;refine n_sk ?_)|(apply f_mv;first|(refine zx1 ?_ ?_<;>intro hG<;>(try cases hG))|refine zv (v:=.c _) ?_)|(apply f_as;refine zq (v:=.c _) ?_)|(apply f_fa;refine n_fa ?_)|(apply f_ld;refine zn1 ?_)|(apply f_bi;refine zy1 ?_)|(apply zr1;refine zm ?_)|(apply zn2;first|refine zm1 ?_|refine zf3 ?_|refine zn4 ?_)|(apply zn3;refine za2 ?_)|(apply f_pk;refine zw1 (v:=.c _) ?_))|(apply f_w;first|refine zj ?_|refine zb ?_)|refine za fun C=>?_|refine zd ?_|refine ze ?_|refine zg ?_|(refine zi (by rfl) ?_ ?_<;>intro hC<;>(try cases hC)))
   all_goals first
   | (refine zh ?_;refine ret0 rfl zg1 ⟨?_,rfl⟩;first|rfl|(simp_all [emB,bne,shp,List.length_pos_iff];done))
   | (exfalso;simp_all [emB,bne,List.length_pos_iff];done)
 rw [show shapeB k s t xs.length la.length lb.length (callX xs)=false by simp [shapeB, *]]
 repeat' (first|(apply f_wo;first|(apply f_gs;refine n_sk ?_)|(apply f_mv;first|(refine zx1 ?_ ?_<;>intro hG<;>(try cases hG))|refine zv (v:=.c _) ?_)|(apply f_as;refine zq (v:=.c _) ?_)|(apply f_fa;refine n_fa ?_)|(apply f_ld;refine zn1 ?_)|(apply f_bi;refine zy1 ?_)|(apply zr1;refine zm ?_)|(apply zn2;first|refine zm1 ?_|refine zf3 ?_|refine zn4 ?_)|(apply zn3;refine za2 ?_)|(apply f_pk;refine zw1 (v:=.c _) ?_))|(apply f_w;first|refine zj ?_|refine zb ?_)|refine za fun C=>?_|refine zd ?_|refine ze ?_|refine zg ?_|(refine zi (by rfl) ?_ ?_<;>intro hC<;>(try cases hC)))
 all_goals first
  | (refine zh ?_;refine ret0 rfl zg1 ⟨?_,rfl⟩;rfl)
  | (exfalso;simp_all;done)
theorem sli_ss:sliT Tryz.prog 127=some (39,1):=rfl
theorem zl20 (f:Nat)(e:E):stmtI f e≤61:=cntI_le f e (by omega)
set_option maxHeartbeats 4000000 in
theorem zi7:∀(f:Nat),f≤5→∀(e:E),e.Ty Tryz.prog 71→e.sz≤1048576→Ctr Tryz.prog 95 [.ag (acE e),.c (.v (.int .i64 (6-(f:Int))))] [] (.c (.v (.int .i64 (stmtI f e:Nat)))) []
 | 0,_,e,he,hsz=>by
  obtain⟨k0,s0,t0,xA,xc,xs,aA,ac,la,bA,bc,lb,rfl,-,gs,gt,⟨hx,kx⟩,⟨ha,ka⟩,⟨hb,kb⟩,-⟩:=zt1 he
  rw [show (6-((0:Nat):Int))=6 from rfl]
  refine ze1 Tryz.func95 rfl rfl ?_
  repeat' (first|(apply f_wo;first|(apply f_gs;refine n_sk ?_)|(apply f_mv;first|(refine zx1 ?_ ?_<;>intro hG<;>(try cases hG))|refine zv (v:=.c _) ?_)|(apply f_as;refine zq (v:=.c _) ?_)|(apply zn3;refine za2 ?_)|(apply f_pk;refine zw1 (v:=.c _) ?_)|refine n_bo ?_)|(apply f_w;first|refine zj ?_|refine zb ?_)|refine za fun C=>?_|refine zd ?_|refine za1 rfl ?_)
  refine zh ?_;refine ret0 rfl zg1 ⟨?_,rfl⟩;rfl
 | f+1,hf,e,he,hsz=>by
  obtain⟨k0,s0,t0,xA,xc,xs,aA,ac,la,bA,bc,lb,rfl,-,gs,gt,⟨hx,kx⟩,⟨ha,ka⟩,⟨hb,kb⟩,-⟩:=zt1 he
  simp only [E.sz,E.szL] at hsz
  have ch:=zm22 (k:=k0) (s:=s0) (t:=t0) (by omega) (by omega) (xs:=xs) (la:=la) (lb:=lb) (by omega) (by omega) (by omega) hx kx (fun e he=>by have:=E.szL_mem he;omega)
  have hd:sheadE (.agg [.int .i64 k0,.str s0,.str t0,.lst 4 45 xA xc xs,.lst 6 71 aA ac la,.lst 6 71 bA bc lb])=sheadB k0 s0 t0 xs la.length lb.length:=rfl
  cases hq:sheadB k0 s0 t0 xs la.length lb.length with
  | false =>
   rw [hq] at ch
   rw [show stmtI (f+1) (.agg [.int .i64 k0,.str s0,.str t0,.lst 4 45 xA xc xs,.lst 6 71 aA ac la,.lst 6 71 bA bc lb])=61 by unfold stmtI cntI;rw [hd,hq];rfl]
   refine ze1 Tryz.func95 rfl rfl ?_
   repeat' (first|(apply f_wo;first|(apply f_gs;refine n_sk ?_)|(apply f_mv;first|(refine zx1 ?_ ?_<;>intro hG<;>(try cases hG))|refine zv (v:=.c _) ?_)|(apply f_as;refine zq (v:=.c _) ?_)|(apply f_ld;refine zs2 ?_)|(apply f_ca;refine zk1 ch ?_)|(apply zn3;refine za2 ?_)|(apply f_no;refine zu2 ?_)|(apply f_pk;refine zw1 (v:=.c _) ?_)|refine n_bo ?_)|(apply f_w;first|refine zj ?_|refine zb ?_)|refine za fun C=>?_|refine zd ?_|(refine zi (by rfl) ?_ ?_<;>intro hC<;>(try cases hC)))
   all_goals (refine zh ?_;refine ret0 rfl zg1 ⟨?_,rfl⟩;rfl)
  | true =>
   rw [hq] at ch
   rw [show stmtI (f+1) (.agg [.int .i64 k0,.str s0,.str t0,.lst 4 45 xA xc xs,.lst 6 71 aA ac la,.lst 6 71 bA bc lb])=gpI 60 (stmtI f) (la++lb) 1 by
    show cntI 60 sheadE kidS (f+1) _=_
    unfold cntI;rw [hd,hq];rfl]
   refine ze1 Tryz.func95 rfl rfl ?_
   have hgg:¬(6-((f+1:Nat):Int) > 5):=by omega
   repeat' (first|(apply f_wo;refine n_bs ?_ (hT:=sli_ss))|(apply f_wo;first|(apply f_gs;refine n_sk ?_)|(apply f_mv;first|(refine zx1 ?_ ?_<;>intro hG<;>(try cases hG))|refine zv (v:=.c _) ?_)|(apply f_as;refine zq (v:=.c _) ?_)|(apply f_fa;refine n_fa ?_)|(apply f_ld;refine zs2 ?_)|(apply f_ca;refine zk1 ch ?_)|(apply f_bi;refine zj6 ?_)|(apply zn3;refine za2 ?_)|(apply f_no;refine zu2 ?_)|(apply f_pk;refine zw1 (v:=.c _) ?_)|refine n_bo ?_|refine zz1 ?_)|(apply f_w;first|refine zj ?_|refine zb ?_)|refine za fun C=>?_|refine zd ?_|refine ze ?_|refine zg ?_|refine za1 rfl ?_|refine zf1 rfl ?_)
   all_goals try (exfalso;simp only [decide_eq_true_iff] at hG;omega)
   refine zv1 (fun d:Nat×Nat=>⟨tmsF [(1,.c (.v (.int .i64 (6-((f+1:Nat):Int))))),(5,.c (.v (.int .i64 (d.2:Int)))),(21,.c (.sl 21 2)),(22,.c (.v (.int .i64 2))),(23,.c (.v (.int .i64 (d.1:Int))))],hpsF [(21,21,⟨39,1,2,false,[.ro la.length 6 (acL la),.ro lb.length 6 (acL lb)]⟩)],0,[21],44⟩)
    (fun N d=>d.1+N=2∧d.2≤60∧gpI 60 (stmtI f) (la++lb) 1=gpI 60 (stmtI f) (if d.1=0 then la++lb else if d.1=1 then lb else []) d.2) 2 (0,1) ⟨by simp,by simp,rfl⟩ ?_ ?_
   ·have hcl:cloL [.ro la.length 6 (acL la),.ro lb.length 6 (acL lb)]=true:=by simp [cloL,clo,zk]
    (refine zl1 _ _ rfl rfl ?_ ?_<;>(repeat' (first|exact TmOk.nil|exact RwOk.nil|refine TmOk.cons ?_ ?_|refine RwOk.cons ?_ ?_|rfl|exact zb1 rfl (by assumption)|(refine rnV_id' rfl ?_;exact byc)|(refine zp1 ?_;first|rfl|omega|(rw [zw (by omega) (by omega)];omega))|(refine zb1 rfl ?_;exact byc)|exact zc2 rfl rfl|(refine zq1 (by rfl) (by rfl) ?_ ?_<;>exact byc)|(refine rw_rn' rfl rfl ?_;simp;done))))
   rintro N ⟨j,m⟩ ⟨hN,hm,hr⟩
   dsimp only at hN hm hr ⊢
   have hj:j=0∨j=1∨j=2:=by omega
   rcases hj with rfl|rfl|rfl
   ·have hr:gpI 60 (stmtI f) (la++lb) 1=gpI 60 (stmtI f) (la++lb) m:=by rw [hr];simp
    repeat' (first|(apply f_wo;first|(apply f_mv;refine zv (v:=.c _) ?_)|(apply f_as;refine zq (v:=.c _) ?_)|(apply f_bi;refine zy1 ?_)|(apply f_ia;refine zk17 ?_)|(apply zg3;refine zs1 ?_)|refine zz1 ?_)|(apply f_w;first|refine zj ?_|refine zb ?_)|refine za fun C=>?_|refine zd ?_|refine ze ?_|refine zg ?_|refine za1 rfl ?_)
    refine zv1 (fun d:Nat×Nat=>⟨tmsF [(1,.c (.v (.int .i64 (6-((f+1:Nat):Int))))),(5,.c (.v (.int .i64 (d.2:Int)))),(21,.c (.sl 21 2)),(22,.c (.v (.int .i64 2))),(23,.c (.v (.int .i64 0))),(27,.c (.ro la.length 6 (acL la))),(28,.c (.v (.int .i64 la.length))),(29,.c (.v (.int .i64 (d.1:Int))))],hpsF [(21,21,⟨39,1,2,false,[.ro la.length 6 (acL la),.ro lb.length 6 (acL lb)]⟩)],0,[21],44⟩)
     (fun M d=>d.1+M=la.length∧d.2≤60∧gpI 60 (stmtI f) (la++lb) 1=gpI 60 (stmtI f) (la.drop d.1++lb) d.2) la.length (0,m) ⟨by simp,hm,hr⟩ ?_ ?_
    ·have hcl:cloL [.ro la.length 6 (acL la),.ro lb.length 6 (acL lb)]=true:=by simp [cloL,clo,zk]
     (refine zl1 _ _ rfl rfl ?_ ?_<;>(repeat' (first|exact TmOk.nil|exact RwOk.nil|refine TmOk.cons ?_ ?_|refine RwOk.cons ?_ ?_|rfl|exact zb1 rfl (by assumption)|(refine rnV_id' rfl ?_;exact byc)|(refine zp1 ?_;first|rfl|omega|(rw [zw (by omega) (by omega)];omega))|(refine zb1 rfl ?_;exact byc)|exact zc2 rfl rfl|(refine zq1 (by rfl) (by rfl) ?_ ?_<;>exact byc)|(refine rw_rn' rfl rfl ?_;simp;done))))
    rintro M ⟨i,m'⟩ ⟨hM,hm',hr'⟩
    dsimp only at hM hm' hr' ⊢
    repeat' (first|(apply f_wo;(apply zg3;refine zs1 ?_))|(apply f_w;first|refine zj ?_|refine zb ?_)|refine za fun C=>?_|refine zd ?_)
    refine zi (by rfl) (fun h1=>?_) fun h1=>?_
    ·have hk':i<la.length:=by simpa using h1
     obtain⟨x,hx'⟩:∃x,la[i]? = some x:=⟨_,List.getElem?_eq_getElem hk'⟩
     have hxz:=E.szL_mem (List.mem_of_getElem? hx')
     have hxt:=ha x (List.mem_of_getElem? hx')
     have cx:=zi7 f (by omega) x hxt (by omega)
     have cle:=zl20 f x
     rw [zs6 hx',List.cons_append] at hr'
     rw [show (6-(f:Int))=6-((f+1:Nat):Int)+1 by omega] at cx
     have hr2:gpI 60 (stmtI f) (x :: (la.drop (i+1)++lb)) m'=if 60<m'+stmtI f x then 61 else gpI 60 (stmtI f) (la.drop (i+1)++lb) (m'+stmtI f x):=rfl
     rw [hr2] at hr'
     generalize stmtI f x=c at cx cle hr'
     obtain⟨z0,z1,z2,zA,zc,zx,yA,yc,ya,wA,wc,yb,rfl,-⟩:=zt1 hxt
     repeat' (first|(apply f_wo;first|(apply f_mv;refine zv (v:=.c _) ?_)|(apply f_as;refine zq (v:=.c _) ?_)|(apply f_ld;first|refine zq2 ?_|refine zs2 ?_)|(apply f_ca;refine zk1 cx ?_)|(apply f_st;refine n_st ?_)|(apply f_ia;refine n_ix ?_)|(apply f_geq;refine zs7 ?_)|(apply zd2;refine zj1 ?_)|refine n_al ?_)|(apply f_w;first|refine zj ?_|refine zb ?_)|refine za fun C=>?_|refine zd ?_|refine ze ?_|refine zg ?_)
     refine zi (by rfl) (fun h2=>?_) fun h2=>?_
     ·have h3:60<m'+c:=by simp at h2;omega
      rw [hr',if_pos h3]
      repeat' (first|(apply f_wo;(apply f_as;refine zq (v:=.c _) ?_))|(apply f_w;first|refine zj ?_|refine zb ?_)|refine za fun C=>?_|refine zd ?_)
      refine zh ?_;refine ret0 rfl zg1 ⟨?_,rfl⟩;rfl
     ·have h3:¬60<m'+c:=by simp at h2;omega
      rw [if_neg h3] at hr'
      repeat' (first|(apply f_wo;first|(apply f_mv;refine zv (v:=.c _) ?_)|(apply zd2;refine zj1 ?_))|(apply f_w;first|refine zj ?_|refine zb ?_)|refine za fun C=>?_|refine zg ?_)
      have hcl:cloL [.ro la.length 6 (acL la),.ro lb.length 6 (acL lb)]=true:=by simp [cloL,clo,zk]
      refine⟨M-1,(i+1,m'+c),by omega,⟨by show i+1+(M-1)=la.length;omega,by show m'+c≤60;omega,hr'⟩,?_⟩
      (refine zl1 _ _ rfl rfl ?_ ?_<;>(repeat' (first|exact TmOk.nil|exact RwOk.nil|refine TmOk.cons ?_ ?_|refine RwOk.cons ?_ ?_|rfl|exact zb1 rfl (by assumption)|(refine rnV_id' rfl ?_;exact byc)|(refine zp1 ?_;first|rfl|omega|(rw [zw (by omega) (by omega)];omega))|(refine zb1 rfl ?_;exact byc)|exact zc2 rfl rfl|(refine zq1 (by rfl) (by rfl) ?_ ?_<;>exact byc)|(refine rw_rn' rfl rfl ?_;simp;done))))
    ·have hk':¬i<la.length:=by simpa using h1
     rw [List.drop_eq_nil_of_le (by omega),List.nil_append] at hr'
     repeat' (first|(apply f_wo;first|(apply f_mv;refine zv (v:=.c _) ?_)|(apply zd2;refine zj1 ?_))|(apply f_w;first|refine zj ?_|refine zb ?_)|refine za fun C=>?_|refine zu ?_)
     have hcl:cloL [.ro la.length 6 (acL la),.ro lb.length 6 (acL lb)]=true:=by simp [cloL,clo,zk]
     refine⟨N-1,(0+1,m'),by omega,⟨by show 0+1+(N-1)=2;omega,hm',by rw [hr'];rfl⟩,?_⟩
     (refine zl1 _ _ rfl rfl ?_ ?_<;>(repeat' (first|exact TmOk.nil|exact RwOk.nil|refine TmOk.cons ?_ ?_|refine RwOk.cons ?_ ?_|rfl|exact zb1 rfl (by assumption)|(refine rnV_id' rfl ?_;exact byc)|(refine zp1 ?_;first|rfl|omega|(rw [zw (by omega) (by omega)];omega))|(refine zb1 rfl ?_;exact byc)|exact zc2 rfl rfl|(refine zq1 (by rfl) (by rfl) ?_ ?_<;>exact byc)|(refine rw_rn' rfl rfl ?_;simp;done))))
   ·have hr:gpI 60 (stmtI f) (la++lb) 1=gpI 60 (stmtI f) (lb++([]:List E)) m:=by rw [hr];simp
    repeat' (first|(apply f_wo;first|(apply f_mv;refine zv (v:=.c _) ?_)|(apply f_as;refine zq (v:=.c _) ?_)|(apply f_bi;refine zy1 ?_)|(apply f_ia;refine zk17 ?_)|(apply zg3;refine zs1 ?_)|refine zz1 ?_)|(apply f_w;first|refine zj ?_|refine zb ?_)|refine za fun C=>?_|refine zd ?_|refine ze ?_|refine zg ?_|refine za1 rfl ?_)
    refine zv1 (fun d:Nat×Nat=>⟨tmsF [(1,.c (.v (.int .i64 (6-((f+1:Nat):Int))))),(5,.c (.v (.int .i64 (d.2:Int)))),(21,.c (.sl 21 2)),(22,.c (.v (.int .i64 2))),(23,.c (.v (.int .i64 1))),(27,.c (.ro lb.length 6 (acL lb))),(28,.c (.v (.int .i64 lb.length))),(29,.c (.v (.int .i64 (d.1:Int))))],hpsF [(21,21,⟨39,1,2,false,[.ro la.length 6 (acL la),.ro lb.length 6 (acL lb)]⟩)],0,[21],44⟩)
     (fun M d=>d.1+M=lb.length∧d.2≤60∧gpI 60 (stmtI f) (la++lb) 1=gpI 60 (stmtI f) (lb.drop d.1++([]:List E)) d.2) lb.length (0,m) ⟨by simp,hm,hr⟩ ?_ ?_
    ·have hcl:cloL [.ro la.length 6 (acL la),.ro lb.length 6 (acL lb)]=true:=by simp [cloL,clo,zk]
     (refine zl1 _ _ rfl rfl ?_ ?_<;>(repeat' (first|exact TmOk.nil|exact RwOk.nil|refine TmOk.cons ?_ ?_|refine RwOk.cons ?_ ?_|rfl|exact zb1 rfl (by assumption)|(refine rnV_id' rfl ?_;exact byc)|(refine zp1 ?_;first|rfl|omega|(rw [zw (by omega) (by omega)];omega))|(refine zb1 rfl ?_;exact byc)|exact zc2 rfl rfl|(refine zq1 (by rfl) (by rfl) ?_ ?_<;>exact byc)|(refine rw_rn' rfl rfl ?_;simp;done))))
    rintro M ⟨i,m'⟩ ⟨hM,hm',hr'⟩
    dsimp only at hM hm' hr' ⊢
    repeat' (first|(apply f_wo;(apply zg3;refine zs1 ?_))|(apply f_w;first|refine zj ?_|refine zb ?_)|refine za fun C=>?_|refine zd ?_)
    refine zi (by rfl) (fun h1=>?_) fun h1=>?_
    ·have hk':i<lb.length:=by simpa using h1
     obtain⟨x,hx'⟩:∃x,lb[i]? = some x:=⟨_,List.getElem?_eq_getElem hk'⟩
     have hxz:=E.szL_mem (List.mem_of_getElem? hx')
     have hxt:=hb x (List.mem_of_getElem? hx')
     have cx:=zi7 f (by omega) x hxt (by omega)
     have cle:=zl20 f x
     rw [zs6 hx',List.cons_append] at hr'
     rw [show (6-(f:Int))=6-((f+1:Nat):Int)+1 by omega] at cx
     have hr2:gpI 60 (stmtI f) (x :: (lb.drop (i+1)++([]:List E))) m'=if 60<m'+stmtI f x then 61 else gpI 60 (stmtI f) (lb.drop (i+1)++([]:List E)) (m'+stmtI f x):=rfl
     rw [hr2] at hr'
     generalize stmtI f x=c at cx cle hr'
     obtain⟨z0,z1,z2,zA,zc,zx,yA,yc,ya,wA,wc,yb,rfl,-⟩:=zt1 hxt
     repeat' (first|(apply f_wo;first|(apply f_mv;refine zv (v:=.c _) ?_)|(apply f_as;refine zq (v:=.c _) ?_)|(apply f_ld;first|refine zq2 ?_|refine zs2 ?_)|(apply f_ca;refine zk1 cx ?_)|(apply f_st;refine n_st ?_)|(apply f_ia;refine n_ix ?_)|(apply f_geq;refine zs7 ?_)|(apply zd2;refine zj1 ?_)|refine n_al ?_)|(apply f_w;first|refine zj ?_|refine zb ?_)|refine za fun C=>?_|refine zd ?_|refine ze ?_|refine zg ?_)
     refine zi (by rfl) (fun h2=>?_) fun h2=>?_
     ·have h3:60<m'+c:=by simp at h2;omega
      rw [hr',if_pos h3]
      repeat' (first|(apply f_wo;(apply f_as;refine zq (v:=.c _) ?_))|(apply f_w;first|refine zj ?_|refine zb ?_)|refine za fun C=>?_|refine zd ?_)
      refine zh ?_;refine ret0 rfl zg1 ⟨?_,rfl⟩;rfl
     ·have h3:¬60<m'+c:=by simp at h2;omega
      rw [if_neg h3] at hr'
      repeat' (first|(apply f_wo;first|(apply f_mv;refine zv (v:=.c _) ?_)|(apply zd2;refine zj1 ?_))|(apply f_w;first|refine zj ?_|refine zb ?_)|refine za fun C=>?_|refine zg ?_)
      have hcl:cloL [.ro la.length 6 (acL la),.ro lb.length 6 (acL lb)]=true:=by simp [cloL,clo,zk]
      refine⟨M-1,(i+1,m'+c),by omega,⟨by show i+1+(M-1)=lb.length;omega,by show m'+c≤60;omega,hr'⟩,?_⟩
      (refine zl1 _ _ rfl rfl ?_ ?_<;>(repeat' (first|exact TmOk.nil|exact RwOk.nil|refine TmOk.cons ?_ ?_|refine RwOk.cons ?_ ?_|rfl|exact zb1 rfl (by assumption)|(refine rnV_id' rfl ?_;exact byc)|(refine zp1 ?_;first|rfl|omega|(rw [zw (by omega) (by omega)];omega))|(refine zb1 rfl ?_;exact byc)|exact zc2 rfl rfl|(refine zq1 (by rfl) (by rfl) ?_ ?_<;>exact byc)|(refine rw_rn' rfl rfl ?_;simp;done))))
    ·have hk':¬i<lb.length:=by simpa using h1
     rw [List.drop_eq_nil_of_le (by omega),List.nil_append] at hr'
     repeat' (first|(apply f_wo;first|(apply f_mv;refine zv (v:=.c _) ?_)|(apply zd2;refine zj1 ?_))|(apply f_w;first|refine zj ?_|refine zb ?_)|refine za fun C=>?_|refine zu ?_)
     have hcl:cloL [.ro la.length 6 (acL la),.ro lb.length 6 (acL lb)]=true:=by simp [cloL,clo,zk]
     refine⟨N-1,(1+1,m'),by omega,⟨by show 1+1+(N-1)=2;omega,hm',by rw [hr'];rfl⟩,?_⟩
     (refine zl1 _ _ rfl rfl ?_ ?_<;>(repeat' (first|exact TmOk.nil|exact RwOk.nil|refine TmOk.cons ?_ ?_|refine RwOk.cons ?_ ?_|rfl|exact zb1 rfl (by assumption)|(refine rnV_id' rfl ?_;exact byc)|(refine zp1 ?_;first|rfl|omega|(rw [zw (by omega) (by omega)];omega))|(refine zb1 rfl ?_;exact byc)|exact zc2 rfl rfl|(refine zq1 (by rfl) (by rfl) ?_ ?_<;>exact byc)|(refine rw_rn' rfl rfl ?_;simp;done))))
   ·repeat' (first|(apply f_wo;first|(apply f_mv;refine zv (v:=.c _) ?_)|(apply f_as;refine zq (v:=.c _) ?_)|(apply zg3;refine zs1 ?_))|(apply f_w;first|refine zj ?_|refine zb ?_)|refine za fun C=>?_|refine zd ?_|refine zu ?_|refine zf1 rfl ?_)
    refine zh ?_;refine ret0 rfl zg1 ⟨?_,rfl⟩
    rw [hr];rfl
theorem zp9 {e:E}(he:e.Ty Tryz.prog 71)(hsz:e.sz≤1048576):Ctr Tryz.prog 70 [.ag (acE e)] [] (.c (.v (.bool (stmtB e)))) []:=by
 have c1:=zi7 5 (by omega) e he hsz
 rw [stmtB_I,show (6-((5:Nat):Int))=1 from rfl] at *
 rw [show decide (stmtI 5 e≤60)=decide ((stmtI 5 e:Int)≤60) from decide_eq_decide.2 (by omega)]
 generalize stmtI 5 e=c at c1 ⊢
 obtain⟨k0,s0,t0,xA,xc,xs,aA,ac,la,bA,bc,lb,rfl,-,gs,gt,⟨hx,kx⟩,⟨ha,ka⟩,⟨hb,kb⟩,-⟩:=zt1 he
 refine ze1 Tryz.func70 rfl rfl ?_
 repeat' (first|(apply f_wo;first|(apply f_as;refine zq (v:=.c _) ?_)|(apply f_ld;refine zs2 ?_)|(apply f_ca;refine zk1 c1 ?_)|(apply zo4;refine zl2 ?_)|refine n_bo ?_)|(apply f_w;first|refine zj ?_|refine zb ?_)|refine za fun C=>?_|refine zd ?_)
 refine zh ?_;refine ret0 rfl zg1 ⟨?_,rfl⟩;rfl
end Go.Proofs.YtnjfnhoipnbpeaaGreatDoor
