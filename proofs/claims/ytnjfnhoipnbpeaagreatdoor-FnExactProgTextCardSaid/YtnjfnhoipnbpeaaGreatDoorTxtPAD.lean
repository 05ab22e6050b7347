/- Parts of terms counted; ExprOk of both sides. -/
import Derived.Test.YtnjfnhoipnbpeaaGreatDoorTxtPAC
namespace Go.Proofs.YtnjfnhoipnbpeaaGreatDoor
open Go.RowKit
set_option maxRecDepth 100000
theorem zs6 {l:List E}{k:Nat}{x:E}(h:l[k]? = some x):l.drop k=x :: l.drop (k+1):=by
 obtain⟨h1,h2⟩:=List.getElem?_eq_some_iff.1 h
 rw [List.drop_eq_getElem_cons h1,h2]
theorem exprI_le (f:Nat)(e:E):exprI f e≤101:=cntI_le f e (by omega)
theorem exprS_le (f:Nat)(e:E)(h:f≤10):exprS f e≤1101:=by
 have:=zm17 (b:=100) (kd:=partE) f e (by omega)
 unfold exprS
 omega
set_option maxHeartbeats 2000000 in
theorem zo11:∀(f:Nat),f≤10→∀(e:E),e.Ty Tryz.prog 45→e.sz≤1048576→Ctr Tryz.prog 89 [.ag (acE e),.c (.v (.int .i64 (11-(f:Int))))] [] (.c (.v (.int .i64 (exprI f e:Nat)))) []
 | 0,_,e,he,hsz=>by
  obtain⟨k,n,s,xA,xc,l,rfl,-⟩:=zh1 he
  rw [show (11-((0:Nat):Int))=11 from rfl]
  refine ze1 Tryz.func89 rfl rfl ?_
  repeat' (first|(apply f_wo;first|(apply f_gs;refine n_sk ?_)|(apply f_mv;first|(refine zx1 ?_ ?_<;>intro hG<;>(try cases hG))|refine zv (v:=.c _) ?_)|(apply f_as;refine zq (v:=.c _) ?_)|(apply zn3;refine za2 ?_)|(apply f_pk;refine zw1 (v:=.c _) ?_)|refine n_bo ?_)|(apply f_w;first|refine zj ?_|refine zb ?_)|refine za fun C=>?_|refine zd ?_|refine za1 rfl ?_)
  refine zh ?_;refine ret0 rfl zg1 ⟨?_,rfl⟩;rfl
 | f+1,hf,e,he,hsz=>by
  obtain⟨k0,n0,s0,xA,xc,l,rfl,-,-,-,⟨hl,hk⟩,-⟩:=zh1 he
  simp only [E.sz,E.szL] at hsz
  have ch:=zk22 (k:=k0) (n:=n0) (s:=s0) (by omega) (l:=l) (by omega)
  have hd:headE (.agg [.int .i64 k0,.int .i64 n0,.str s0,.lst 4 45 xA xc l])=headB k0 n0 s0 l.length:=rfl
  cases hb:headB k0 n0 s0 l.length with
  | false =>
   rw [hb] at ch
   rw [show exprI (f+1) (.agg [.int .i64 k0,.int .i64 n0,.str s0,.lst 4 45 xA xc l])=101 by unfold exprI cntI;rw [hd,hb];rfl]
   refine ze1 Tryz.func89 rfl rfl ?_
   repeat' (first|(apply f_wo;first|(apply f_gs;refine n_sk ?_)|(apply f_mv;first|(refine zx1 ?_ ?_<;>intro hG<;>(try cases hG))|refine zv (v:=.c _) ?_)|(apply f_as;refine zq (v:=.c _) ?_)|(apply f_ld;refine zs2 ?_)|(apply f_ca;refine zk1 ch ?_)|(apply zn3;refine za2 ?_)|(apply f_no;refine zu2 ?_)|(apply f_pk;refine zw1 (v:=.c _) ?_)|refine n_bo ?_)|(apply f_w;first|refine zj ?_|refine zb ?_)|refine za fun C=>?_|refine zd ?_|(refine zi (by rfl) ?_ ?_<;>intro hC<;>(try cases hC)))
   all_goals (refine zh ?_;refine ret0 rfl zg1 ⟨?_,rfl⟩;rfl)
  | true =>
   rw [hb] at ch
   rw [show exprI (f+1) (.agg [.int .i64 k0,.int .i64 n0,.str s0,.lst 4 45 xA xc l])=gpI 100 (exprI f) l 1 by
    show cntI 100 headE partE (f+1) _=_
    unfold cntI;rw [hd,hb];rfl]
   refine ze1 Tryz.func89 rfl rfl ?_
   have hgg:¬(11-((f+1:Nat):Int) > 10):=by omega
   repeat' (first|(apply f_wo;first|(apply f_gs;refine n_sk ?_)|(apply f_mv;first|(refine zx1 ?_ ?_<;>intro hG<;>(try cases hG))|refine zv (v:=.c _) ?_)|(apply f_as;refine zq (v:=.c _) ?_)|(apply f_fa;refine n_fa ?_)|(apply f_ld;refine zs2 ?_)|(apply f_ca;refine zk1 ch ?_)|(apply f_bi;refine zy1 ?_)|(apply zn3;refine za2 ?_)|(apply f_no;refine zu2 ?_)|(apply f_pk;refine zw1 (v:=.c _) ?_)|refine n_bo ?_|refine zz1 ?_)|(apply f_w;first|refine zj ?_|refine zb ?_)|refine za fun C=>?_|refine zd ?_|refine ze ?_|refine zg ?_|refine za1 rfl ?_|refine zf1 rfl ?_)
   all_goals try (exfalso;simp only [decide_eq_true_iff] at hG;omega)
   refine zv1 (fun d:Nat×Nat=>⟨tmsF [(1,.c (.v (.int .i64 (11-((f+1:Nat):Int))))),(5,.c (.v (.int .i64 (d.2:Int)))),(16,.c (.ro l.length 4 (acL l))),(17,.c (.v (.int .i64 l.length))),(18,.c (.v (.int .i64 (d.1:Int))))],hpsF [],0,[],32⟩)
    (fun N d=>d.1+N=l.length∧d.2≤100∧gpI 100 (exprI f) l 1=gpI 100 (exprI f) (l.drop d.1) d.2) l.length (0,1) ⟨by simp,by simp,rfl⟩ ?_ ?_
   ·(refine zl1 _ _ rfl rfl ?_ ?_<;>(repeat' (first|exact TmOk.nil|exact RwOk.nil|refine TmOk.cons ?_ ?_|refine RwOk.cons ?_ ?_|rfl|(refine rnV_id' rfl ?_;exact byc)|(refine zp1 ?_;first|rfl|omega|(rw [zw (by omega) (by omega)];omega))|(refine zb1 rfl ?_;exact byc)|exact zc2 rfl rfl|(refine zq1 (by rfl) (by rfl) ?_ ?_<;>exact byc)|(refine rw_rn' rfl rfl ?_;simp;done))))
   rintro N ⟨k,m⟩ ⟨hN,hm,hr⟩
   dsimp only at hN hm hr ⊢
   repeat' (first|(apply f_wo;(apply zg3;refine zs1 ?_))|(apply f_w;first|refine zj ?_|refine zb ?_)|refine za fun C=>?_|refine zd ?_)
   refine zi (by rfl) (fun h1=>?_) fun h1=>?_
   ·have hk':k<l.length:=by simpa using h1
    obtain⟨x,hx⟩:∃x,l[k]? = some x:=⟨_,List.getElem?_eq_getElem hk'⟩
    have hxz:=E.szL_mem (List.mem_of_getElem? hx)
    have hxt:=hl x (List.mem_of_getElem? hx)
    have cx:=zo11 f (by omega) x hxt (by omega)
    have cle:=exprI_le f x
    rw [zs6 hx] at hr
    rw [show (11-(f:Int))=11-((f+1:Nat):Int)+1 by omega] at cx
    have hr2:gpI 100 (exprI f) (x :: l.drop (k+1)) m=if 100<m+exprI f x then 101 else gpI 100 (exprI f) (l.drop (k+1)) (m+exprI f x):=rfl
    rw [hr2] at hr
    generalize exprI f x=c at cx cle hr
    obtain⟨y0,y1,y2,yA,yc,yl,rfl,-⟩:=zh1 hxt
    repeat' (first|(apply f_wo;first|(apply f_mv;refine zv (v:=.c _) ?_)|(apply f_as;refine zq (v:=.c _) ?_)|(apply f_ld;first|refine zq2 ?_|refine zs2 ?_)|(apply f_ca;refine zk1 cx ?_)|(apply f_st;refine n_st ?_)|(apply f_ia;refine n_ix ?_)|(apply f_geq;refine zs7 ?_)|(apply zd2;refine zj1 ?_)|refine n_al ?_)|(apply f_w;first|refine zj ?_|refine zb ?_)|refine za fun C=>?_|refine zd ?_|refine ze ?_|refine zg ?_)
    refine zi (by rfl) (fun h2=>?_) fun h2=>?_
    ·have h3:100<m+c:=by simp at h2;omega
     rw [hr,if_pos h3]
     repeat' (first|(apply f_wo;(apply f_as;refine zq (v:=.c _) ?_))|(apply f_w;first|refine zj ?_|refine zb ?_)|refine za fun C=>?_|refine zd ?_)
     refine zh ?_;refine ret0 rfl zg1 ⟨?_,rfl⟩;rfl
    ·have h3:¬100<m+c:=by simp at h2;omega
     rw [if_neg h3] at hr
     repeat' (first|(apply f_wo;first|(apply f_mv;refine zv (v:=.c _) ?_)|(apply zd2;refine zj1 ?_))|(apply f_w;first|refine zj ?_|refine zb ?_)|refine za fun C=>?_|refine zg ?_)
     refine⟨N-1,(k+1,m+c),by omega,⟨by show k+1+(N-1)=l.length;omega,by show m+c≤100;omega,hr⟩,?_⟩
     (refine zl1 _ _ rfl rfl ?_ ?_<;>(repeat' (first|exact TmOk.nil|exact RwOk.nil|refine TmOk.cons ?_ ?_|refine RwOk.cons ?_ ?_|rfl|(refine rnV_id' rfl ?_;exact byc)|(refine zp1 ?_;first|rfl|omega|(rw [zw (by omega) (by omega)];omega))|(refine zb1 rfl ?_;exact byc)|exact zc2 rfl rfl|(refine zq1 (by rfl) (by rfl) ?_ ?_<;>exact byc)|(refine rw_rn' rfl rfl ?_;simp;done))))
   ·have hk':¬k<l.length:=by simpa using h1
    rw [hr,List.drop_eq_nil_of_le (by omega)]
    repeat' (first|(apply f_wo;first|(apply f_mv;refine zv (v:=.c _) ?_)|(apply f_as;refine zq (v:=.c _) ?_))|(apply f_w;first|refine zj ?_|refine zb ?_)|refine za fun C=>?_|refine zd ?_|refine zu ?_)
    refine zh ?_;refine ret0 rfl zg1 ⟨?_,rfl⟩;rfl
set_option maxHeartbeats 2000000 in
theorem zg16:∀(f:Nat),f≤10→∀(e:E),e.Ty Tryz.prog 45→e.sz≤1048576→Ctr Tryz.prog 78 [.ag (acE e),.c (.v (.int .i64 (11-(f:Int))))] [] (.c (.v (.int .i64 (exprS f e:Nat)))) []
 | 0,_,e,he,hsz=>by
  obtain⟨k,n,s,xA,xc,l,rfl,-⟩:=zh1 he
  rw [show (11-((0:Nat):Int))=11 from rfl]
  refine ze1 Tryz.func78 rfl rfl ?_
  repeat' (first|(apply f_wo;first|(apply f_mv;refine zv (v:=.c _) ?_)|(apply f_as;refine zq (v:=.c _) ?_)|(apply zn3;refine za2 ?_)|refine n_bo ?_)|(apply f_w;first|refine zj ?_|refine zb ?_)|refine za fun C=>?_|refine zd ?_|refine za1 rfl ?_)
  refine zh ?_;refine ret0 rfl zg1 ⟨?_,rfl⟩;rfl
 | f+1,hf,e,he,hsz=>by
  obtain⟨k0,n0,s0,xA,xc,l,rfl,-,-,-,⟨hl,hk⟩,-⟩:=zh1 he
  simp only [E.sz,E.szL] at hsz
  rw [show exprS (f+1) (.agg [.int .i64 k0,.int .i64 n0,.str s0,.lst 4 45 xA xc l])=gpS 100 (exprS f) l 1 from rfl]
  refine ze1 Tryz.func78 rfl rfl ?_
  repeat' (first|(apply f_wo;first|(apply f_mv;refine zv (v:=.c _) ?_)|(apply f_as;refine zq (v:=.c _) ?_)|(apply zn3;refine za2 ?_)|refine n_bo ?_)|(apply f_w;first|refine zj ?_|refine zb ?_)|refine za fun C=>?_|refine zd ?_)
  refine zi (by rfl) (fun h1=>by exfalso;simp only [decide_eq_true_iff] at h1;omega) fun h1=>?_
  repeat' (first|(apply f_wo;(apply f_as;refine zq (v:=.c _) ?_))|(apply f_w;first|refine zj ?_|refine zb ?_)|refine za fun C=>?_|refine zd ?_|refine ze ?_|refine zg ?_)
  refine zv1 (fun d:Nat×Nat=>⟨tmsF [(1,.c (.v (.int .i64 (11-((f+1:Nat):Int))))),(2,.c (.pt 2 0)),(5,.c (.v (.int .i64 (d.2:Int)))),(6,.c (.v (.int .i64 (d.1:Int))))],hpsF [(2,2,⟨45,0,0,true,[.v (.int .i64 k0),.v (.int .i64 n0),.v (.string s0),.ro l.length 4 (acL l)]⟩)],0,[2],31⟩)
   (fun N d=>d.1+N=l.length∧d.2≤2000∧gpS 100 (exprS f) l 1=gpS 100 (exprS f) (l.drop d.1) d.2) l.length (0,1) ⟨by simp,by simp,rfl⟩ ?_ ?_
  ·(refine zl1 _ _ rfl rfl ?_ ?_<;>(repeat' (first|exact TmOk.nil|exact RwOk.nil|refine TmOk.cons ?_ ?_|refine RwOk.cons ?_ ?_|rfl|(refine rnV_id' rfl ?_;exact byc)|(refine zp1 ?_;first|rfl|omega|(rw [zw (by omega) (by omega)];omega))|(refine zb1 rfl ?_;exact byc)|exact zc2 rfl rfl|(refine zq1 (by rfl) (by rfl) ?_ ?_<;>exact byc)|(refine rw_rn' rfl rfl ?_;simp;done))))
  rintro N ⟨k,m⟩ ⟨hN,hm,hr⟩
  dsimp only at hN hm hr ⊢
  by_cases hk':k<l.length
  ·obtain⟨x,hx⟩:∃x,l[k]? = some x:=⟨_,List.getElem?_eq_getElem hk'⟩
   rw [zs6 hx] at hr
   by_cases hm2:m≤100
   ·have hr2:gpS 100 (exprS f) (x :: l.drop (k+1)) m=gpS 100 (exprS f) (l.drop (k+1)) (m+exprS f x):=if_pos hm2
    rw [hr2] at hr
    have hxz:=E.szL_mem (List.mem_of_getElem? hx)
    have hxt:=hl x (List.mem_of_getElem? hx)
    have cx:=zg16 f (by omega) x hxt (by omega)
    have cle:=exprS_le f x (by omega)
    rw [show (11-(f:Int))=11-((f+1:Nat):Int)+1 by omega] at cx
    generalize exprS f x=c at cx cle hr
    obtain⟨y0,y1,y2,yA,yc,yl,rfl,-⟩:=zh1 hxt
    repeat' (first|(apply f_wo;first|(apply f_gs;refine n_sk ?_)|(apply f_mv;first|(refine zx1 ?_ ?_<;>intro hG<;>(try cases hG))|refine zv (v:=.c _) ?_)|(apply f_as;refine zq (v:=.c _) ?_)|(apply f_fa;refine n_fa ?_)|(apply f_ld;refine zq2 ?_)|(apply f_ca;refine zk1 cx ?_)|(apply f_bi;refine zy1 ?_)|(apply f_ia;refine n_ix ?_)|(apply zg3;refine zs1 ?_)|(apply zo4;refine zl2 ?_)|(apply zd2;refine zj1 ?_)|(apply f_pk;refine zw1 (v:=.c _) ?_)|refine zz1 ?_)|(apply f_w;first|refine zj ?_|refine zb ?_)|refine za fun C=>?_|refine zd ?_|refine ze ?_|refine zg ?_|refine zu ?_|(refine zi (by rfl) ?_ ?_<;>intro hC<;>(try cases hC)))
    all_goals first
     | (exfalso;simp only [decide_eq_true_iff,decide_eq_false_iff_not] at *;omega)
     | (refine⟨N-1,(k+1,m+c),by omega,⟨by show k+1+(N-1)=l.length;omega,by show m+c≤2000;omega,hr⟩,?_⟩
        (refine zl1 _ _ rfl rfl ?_ ?_<;>(repeat' (first|exact TmOk.nil|exact RwOk.nil|refine TmOk.cons ?_ ?_|refine RwOk.cons ?_ ?_|rfl|(refine rnV_id' rfl ?_;exact byc)|(refine zp1 ?_;first|rfl|omega|(rw [zw (by omega) (by omega)];omega))|(refine zb1 rfl ?_;exact byc)|exact zc2 rfl rfl|(refine zq1 (by rfl) (by rfl) ?_ ?_<;>exact byc)|(refine rw_rn' rfl rfl ?_;simp;done)))))
   ·have hr2:gpS 100 (exprS f) (x :: l.drop (k+1)) m=m:=if_neg hm2
    rw [hr,hr2]
    repeat' (first|(apply f_wo;first|(apply f_gs;refine n_sk ?_)|(apply f_mv;first|(refine zx1 ?_ ?_<;>intro hG<;>(try cases hG))|refine zv (v:=.c _) ?_)|(apply f_as;refine zq (v:=.c _) ?_)|(apply f_fa;refine n_fa ?_)|(apply f_bi;refine zy1 ?_)|(apply f_ia;refine n_ix ?_)|(apply zg3;refine zs1 ?_)|(apply zo4;refine zl2 ?_)|(apply f_pk;refine zw1 (v:=.c _) ?_)|refine zz1 ?_)|(apply f_w;first|refine zj ?_|refine zb ?_)|refine za fun C=>?_|refine zd ?_|refine ze ?_|refine zg ?_|refine zu ?_|(refine zi (by rfl) ?_ ?_<;>intro hC<;>(try cases hC)))
    all_goals first
     | (exfalso;simp only [decide_eq_true_iff,decide_eq_false_iff_not] at *;omega)
     | (refine zh ?_;refine ret0 rfl zg1 ⟨?_,rfl⟩;rfl)
  ·rw [hr,List.drop_eq_nil_of_le (by omega)]
   repeat' (first|(apply f_wo;first|(apply f_gs;refine n_sk ?_)|(apply f_mv;first|(refine zx1 ?_ ?_<;>intro hG<;>(try cases hG))|refine zv (v:=.c _) ?_)|(apply f_as;refine zq (v:=.c _) ?_)|(apply f_fa;refine n_fa ?_)|(apply f_bi;refine zy1 ?_)|(apply zg3;refine zs1 ?_)|(apply zo4;refine zl2 ?_)|(apply f_pk;refine zw1 (v:=.c _) ?_)|refine zz1 ?_)|(apply f_w;first|refine zj ?_|refine zb ?_)|refine za fun C=>?_|refine zd ?_|refine ze ?_|refine zg ?_|refine zu ?_|(refine zi (by rfl) ?_ ?_<;>intro hC<;>(try cases hC)))
   all_goals first
    | (exfalso;simp only [decide_eq_true_iff,decide_eq_false_iff_not] at *;omega)
    | (refine zh ?_;refine ret0 rfl zg1 ⟨?_,rfl⟩;rfl)
set_option maxHeartbeats 2000000 in
theorem l8Ok_n:∀(n:Nat) (e:E),e.Ty Tryz.prog 45→e.sz<n→n≤1048577→Ctr Tryz.prog 79 [.ag (acE e)] [] (.c (.v (.bool (okX e)))) []
 | 0,_,_,h,_=>absurd h (Nat.not_lt_zero _)
 | n+1,e,he,hsz,hn=>by
  obtain⟨k0,n0,s0,xA,xc,l,rfl,-,-,-,⟨hl,hk⟩,-⟩:=zh1 he
  simp only [E.sz,E.szL] at hsz
  have ch:=l8Here_c (k:=k0) (n:=n0) (s:=s0) (by omega) (l:=l) (by omega)
  have ek:okX (.agg [.int .i64 k0,.int .i64 n0,.str s0,.lst 4 45 xA xc l])=(l.all okX&&headB k0 n0 s0 l.length):=zz5 zr6 _
  rw [ek]
  refine ze1 Tryz.func79 rfl rfl ?_
  repeat' (first|(apply f_wo;first|(apply f_as;refine zq (v:=.c _) ?_)|refine n_bo ?_)|(apply f_w;first|refine zj ?_|refine zb ?_)|refine za fun C=>?_|refine zd ?_|refine ze ?_)
  refine zv1 (fun k:Nat=>⟨tmsF [(1,.c (.pt 1 0)),(3,.c (.v (.int .i64 (k:Int))))],hpsF [(1,1,⟨45,0,0,true,[.v (.int .i64 k0),.v (.int .i64 n0),.v (.string s0),.ro l.length 4 (acL l)]⟩)],0,[1],20⟩)
   (fun N k=>k+N=l.length∧∀j y,j<k→l[j]? = some y→okX y=true) l.length 0 ⟨by omega,fun j y hj=>absurd hj (Nat.not_lt_zero j)⟩ ?_ ?_
  ·(refine zl1 _ _ rfl rfl ?_ ?_<;>(repeat' (first|exact TmOk.nil|exact RwOk.nil|refine TmOk.cons ?_ ?_|refine RwOk.cons ?_ ?_|rfl|(refine rnV_id' rfl ?_;exact byc)|(refine zp1 ?_;first|rfl|omega|(rw [zw (by omega) (by omega)];omega))|(refine zb1 rfl ?_;exact byc)|exact zc2 rfl rfl|(refine zq1 (by rfl) (by rfl) ?_ ?_<;>exact byc)|(refine rw_rn' rfl rfl ?_;simp;done))))
  rintro N k ⟨hN,hr⟩
  try dsimp only
  repeat' (first|(apply f_wo;first|(apply f_mv;refine zv (v:=.c _) ?_)|(apply f_fa;refine n_fa ?_)|(apply f_bi;refine zy1 ?_)|(apply zg3;refine zs1 ?_)|refine zz1 ?_)|(apply f_w;first|refine zj ?_|refine zb ?_)|refine za fun C=>?_|refine zd ?_)
  refine zi (by rfl) (fun h1=>?_) fun h1=>?_
  ·have hk':k<l.length:=by simpa using h1
   obtain⟨x,hx⟩:∃x,l[k]? = some x:=⟨_,List.getElem?_eq_getElem hk'⟩
   have hxz:=E.szL_mem (List.mem_of_getElem? hx)
   have hxt:=hl x (List.mem_of_getElem? hx)
   have cx:=l8Ok_n n x hxt (by omega) (by omega)
   cases hb:okX x with
   | false =>
    have e0:l.all okX=false:=by
     cases ha:l.all okX with
     | false=>rfl
     | true=>rw [List.all_eq_true.1 ha x (List.mem_of_getElem? hx)] at hb;cases hb
    rw [hb] at cx
    rw [e0]
    obtain⟨y0,y1,y2,yA,yc,yl,rfl,-⟩:=zh1 hxt
    repeat' (first|(apply f_wo;first|(apply f_mv;refine zv (v:=.c _) ?_)|(apply f_as;refine zq (v:=.c _) ?_)|(apply f_fa;refine n_fa ?_)|(apply f_ld;refine zq2 ?_)|(apply f_ca;refine zk1 cx ?_)|(apply f_ia;refine n_ix ?_)|(apply f_no;refine zu2 ?_)|refine zz1 ?_)|(apply f_w;first|refine zj ?_|refine zb ?_)|refine za fun C=>?_|refine zd ?_|refine ze ?_|refine zg ?_|refine za1 rfl ?_)
    refine zh ?_;refine ret0 rfl zg1 ⟨?_,rfl⟩;rfl
   | true =>
    have hb':=hb
    rw [hb] at cx
    obtain⟨y0,y1,y2,yA,yc,yl,rfl,-⟩:=zh1 hxt
    repeat' (first|(apply f_wo;first|(apply f_mv;refine zv (v:=.c _) ?_)|(apply f_as;refine zq (v:=.c _) ?_)|(apply f_fa;refine n_fa ?_)|(apply f_ld;refine zq2 ?_)|(apply f_ca;refine zk1 cx ?_)|(apply f_ia;refine n_ix ?_)|(apply zd2;refine zj1 ?_)|(apply f_no;refine zu2 ?_)|refine zz1 ?_)|(apply f_w;first|refine zj ?_|refine zb ?_)|refine za fun C=>?_|refine zd ?_|refine ze ?_|refine zg ?_|refine zf1 rfl ?_)
    refine⟨N-1,k+1,by omega,⟨by omega,fun j y hj hy=>?_⟩,?_⟩
    ·by_cases e:j=k
     ·rw [e,hx] at hy;injection hy with hy;subst hy;exact hb'
     ·exact hr j y (by omega) hy
    ·(refine zl1 _ _ rfl rfl ?_ ?_<;>(repeat' (first|exact TmOk.nil|exact RwOk.nil|refine TmOk.cons ?_ ?_|refine RwOk.cons ?_ ?_|rfl|(refine rnV_id' rfl ?_;exact byc)|(refine zp1 ?_;first|rfl|omega|(rw [zw (by omega) (by omega)];omega))|(refine zb1 rfl ?_;exact byc)|exact zc2 rfl rfl|(refine zq1 (by rfl) (by rfl) ?_ ?_<;>exact byc)|(refine rw_rn' rfl rfl ?_;simp;done))))
  ·have hk':¬k<l.length:=by simpa using h1
   have e0:l.all okX=true:=List.all_eq_true.2 fun y hy=>by
    obtain⟨j,hj⟩:=List.getElem?_of_mem hy
    have:=(List.getElem?_eq_some_iff.1 hj).1
    exact hr j y (by omega) hj
   rw [e0]
   repeat' (first|(apply f_wo;first|(apply f_as;refine zq (v:=.c _) ?_)|(apply f_ld;refine zs2 ?_)|(apply f_ca;refine zk1 ch ?_))|(apply f_w;first|refine zj ?_|refine zb ?_)|refine za fun C=>?_|refine zd ?_|refine zu ?_)
   refine zh ?_;refine ret0 rfl zg1 ⟨?_,rfl⟩;rfl
theorem zn9 {e:E}(he:e.Ty Tryz.prog 45)(hsz:e.sz≤1048576):Ctr Tryz.prog 62 [.ag (acE e)] [] (.c (.v (.bool (exprB e)))) []:=by
 have c1:=zo11 10 (by omega) e he hsz
 rw [exprB_I,show (11-((10:Nat):Int))=1 from rfl] at *
 rw [show decide (exprI 10 e≤100)=decide ((exprI 10 e:Int)≤100) from decide_eq_decide.2 (by omega)]
 generalize exprI 10 e=c at c1 ⊢
 obtain⟨k0,n0,s0,xA,xc,l,rfl,-⟩:=zh1 he
 refine ze1 Tryz.func62 rfl rfl ?_
 repeat' (first|(apply f_wo;first|(apply f_as;refine zq (v:=.c _) ?_)|(apply f_ld;refine zs2 ?_)|(apply f_ca;refine zk1 c1 ?_)|(apply zo4;refine zl2 ?_)|refine n_bo ?_)|(apply f_w;first|refine zj ?_|refine zb ?_)|refine za fun C=>?_|refine zd ?_)
 refine zh ?_;refine ret0 rfl zg1 ⟨?_,rfl⟩;rfl
theorem zo9 {e:E}(he:e.Ty Tryz.prog 45)(hsz:e.sz≤1048576):Ctr Tryz.prog 51 [.ag (acE e)] [] (.c (.v (.bool (exprB e)))) []:=by
 have c1:=zg16 10 (by omega) e he hsz
 have c2:=l8Ok_n (e.sz+1) e he (by omega) (by omega)
 rw [show (11-((10:Nat):Int))=1 from rfl] at c1
 unfold exprB
 generalize exprS 10 e=c at c1 ⊢
 generalize okX e=b at c2 ⊢
 obtain⟨k0,n0,s0,xA,xc,l,rfl,-⟩:=zh1 he
 by_cases hc:c≤100
 ·rw [show decide (c≤100)=true from decide_eq_true hc,Bool.true_and]
  refine ze1 Tryz.func51 rfl rfl ?_
  repeat' (first|(apply f_wo;first|(apply f_gs;refine n_sk ?_)|(apply f_mv;(refine zx1 ?_ ?_<;>intro hG<;>(try cases hG)))|(apply f_as;refine zq (v:=.c _) ?_)|(apply f_ld;refine zs2 ?_)|(apply f_ca;first|refine zk1 c1 ?_|refine zk1 c2 ?_)|(apply zo4;refine zl2 ?_)|(apply f_pk;refine zw1 (v:=.c _) ?_)|refine n_bo ?_)|(apply f_w;first|refine zj ?_|refine zb ?_)|refine za fun C=>?_|refine zd ?_)
  all_goals first
   | (exfalso;simp only [decide_eq_true_iff,decide_eq_false_iff_not] at *;omega)
   | (refine zh ?_;refine ret0 rfl zg1 ⟨?_,rfl⟩;rfl)
 ·rw [show decide (c≤100)=false from decide_eq_false hc,Bool.false_and]
  refine ze1 Tryz.func51 rfl rfl ?_
  repeat' (first|(apply f_wo;first|(apply f_gs;refine n_sk ?_)|(apply f_mv;(refine zx1 ?_ ?_<;>intro hG<;>(try cases hG)))|(apply f_as;refine zq (v:=.c _) ?_)|(apply f_ld;refine zs2 ?_)|(apply f_ca;first|refine zk1 c1 ?_|refine zk1 c2 ?_)|(apply zo4;refine zl2 ?_)|(apply f_pk;refine zw1 (v:=.c _) ?_)|refine n_bo ?_)|(apply f_w;first|refine zj ?_|refine zb ?_)|refine za fun C=>?_|refine zd ?_)
  all_goals first
   | (exfalso;simp only [decide_eq_true_iff,decide_eq_false_iff_not] at *;omega)
   | (refine zh ?_;refine ret0 rfl zg1 ⟨?_,rfl⟩;rfl)
def xStr (x:E):E:=.str (txE x)
theorem zp11 (l:List E):joC (l.map txE)=joinB (l.map xStr) ⟨#[44,32]⟩:=by
 unfold joC
 rw [List.map_map]
 rfl
theorem zh16 {l:List E}(hl:∀x∈l,x.Ty Tryz.prog 45):(joC (l.map txE)).size≤40*(l.length+E.szL l):=Nat.le_trans (zc6 _) (sum_tx hl)
theorem szL_take:∀(l:List E) (k:Nat),E.szL (l.take k)≤E.szL l
 | [],k=>by simp [E.szL]
 | x :: r,0=>Nat.zero_le _
 | x :: r,k+1=>by
  have:=szL_take r k
  simp only [List.take_succ_cons,E.szL];omega
theorem za10 {l:List E}(hl:∀x∈l,x.Ty Tryz.prog 45)(k:Nat):(joinB ((l.map xStr).take k) ⟨#[44,32]⟩).size≤40*(l.length+E.szL l):=by
 rw [←List.map_take,←zp11]
 have h1:=zh16 (l:=l.take k) fun x hx=>hl x (List.mem_of_mem_take hx)
 have h2:=szL_take l k
 have h3:(l.take k).length≤l.length:=by rw [List.length_take];omega
 omega
set_option maxHeartbeats 2000000 in
theorem zg20 {l:List E}(hl:∀e∈l,e.Ty Tryz.prog 45)(hk:∀e∈l,e.enc.length=4)(hlen:l.length+E.szL l≤1048576)(hc:∀x∈l,Ctr Tryz.prog 19 [.ag (acE x)] [] (.c (.v (.string (txE x)))) []):Ctr Tryz.prog 44 [.c (.ro l.length 4 (acL l))] [] (.c (.v (.string (joC (l.map txE))))) []:=by
 rw [zp11]
 have hj:=za10 hl l.length
 have hll:(l.map xStr).length=l.length:=List.length_map ..
 rw [List.take_of_length_le (by omega)] at hj
 have cj:=join_c (l:=l.map xStr) (fun e he=>by obtain⟨t,-,rfl⟩:=List.mem_map.1 he;exact⟨_,rfl⟩) ⟨#[44,32]⟩ (by omega) (by omega)
 rw [hll] at cj
 refine ze1 Tryz.func44 rfl rfl ?_
 repeat' (first|(apply f_wo;first|(apply f_mv;refine zv (v:=.c _) ?_)|(apply f_as;refine zq (v:=.c _) ?_)|(apply f_bi;refine zy1 ?_))|(apply f_w;first|refine zj ?_|refine zb ?_)|refine za fun C=>?_|refine zd ?_|refine ze ?_)
 refine zv1 (fun k:Nat=>⟨tmsF [(3,.c (.sl 9 k)),(6,.c (.ro l.length 4 (acL l))),(7,.c (.v (.int .i64 l.length))),(8,.c (.v (.int .i64 k)))],hpsF [(9,9,⟨9,1,k,false,owL ((l.take k).map xStr)⟩)],0,[9],20⟩)
  (fun N k=>k+N=l.length) l.length 0 (by omega) ?_ ?_
 ·refine (g_nilT 9 (t:=3) 9 1 rfl rfl).trans ?_
  (refine zl1 _ _ rfl rfl ?_ ?_<;>(repeat' (first|exact TmOk.nil|exact RwOk.nil|refine TmOk.cons ?_ ?_|refine RwOk.cons ?_ ?_|rfl|(refine rnV_id' rfl ?_;exact byc)|(refine zp1 ?_;first|rfl|omega|(rw [zw (by omega) (by omega)];omega))|(refine zb1 rfl ?_;exact byc)|exact zc2 rfl rfl|(refine zq1 (by rfl) (by rfl) ?_ ?_<;>exact byc)|(refine rw_rn' rfl rfl ?_;simp;done))))
 rintro N k hN
 try dsimp only
 repeat' (first|(apply f_wo;(apply zg3;refine zs1 ?_))|(apply f_w;first|refine zj ?_|refine zb ?_)|refine za fun C=>?_|refine zd ?_)
 refine zi (by rfl) (fun hk1=>?_) fun hk1=>?_
 ·have hk':k<l.length:=by simpa using hk1
  obtain⟨x,hx⟩:∃x,l[k]? = some x:=⟨_,List.getElem?_eq_getElem hk'⟩
  have hxm:=List.mem_of_getElem? hx
  have hxt:=hl x hxm
  have c3:=hc x hxm
  have hxz:=E.szL_mem hxm
  have hts:=zl4 hxt
  have e:(l.take (k+1)).map xStr=(l.take k).map xStr++[.str (txE x)]:=by rw [List.take_add_one,hx,Option.toList_some,List.map_append];rfl
  generalize txE x=T at c3 hts e
  obtain⟨y0,y1,y2,yA,yc,yl,rfl,-⟩:=zh1 hxt
  repeat' (first|(apply f_wo;first|(apply f_mv;refine zv (v:=.c _) ?_)|(apply f_as;refine zq (v:=.c _) ?_)|(apply f_ld;first|refine zq2 ?_|refine zs2 ?_)|(apply f_ca;refine zk1 c3 ?_)|(apply f_bi;refine zj17 ?_)|(apply f_st;refine n_st ?_)|(apply f_ia;refine n_ix ?_)|(apply zd2;refine zj1 ?_)|refine n_al ?_|refine n_bs ?_)|(apply f_w;first|refine zj ?_|refine zb ?_)|refine za fun C=>?_|refine zd ?_|refine ze ?_|refine zg ?_)
  refine⟨N-1,k+1,by omega,by omega,?_⟩
  rw [e]
  (refine zi6 (fun j=>if j=9 then 16 else j) _ _ rfl rfl ?_ ?_<;>(repeat' (first|exact TmOk.nil|exact RwOk.nil|refine TmOk.cons ?_ ?_|refine RwOk.cons ?_ ?_|rfl|(refine rnV_id' rfl ?_;exact byc)|(refine zp1 ?_;first|rfl|omega|(rw [zw (by omega) (by omega)];omega))|(refine zb1 rfl ?_;exact byc)|exact zc2 rfl rfl|(refine zq1 (by rfl) (by rfl) ?_ ?_<;>exact byc)|(refine rw_rn' rfl rfl ?_;simp;done))))
  exact zh17 (r:=⟨9,1,k+1,false,owL ((l.take k).map xStr)++[.v (.string T)]⟩) rfl (by rw [zh6];rfl) (by first|rfl|(simp [cloV,cloL,clo,zc1,zk,zd1,zo,zt];done))
 ·have hk':¬k<l.length:=by simpa using hk1
  obtain rfl:k=l.length:=by omega
  rw [List.take_length]
  repeat' (first|(apply f_wo;first|(apply f_mv;refine zv (v:=.c _) ?_)|(apply f_as;refine zq (v:=.c _) ?_)|(apply f_ca;refine zk1 cj ?_))|(apply f_w;first|refine zj ?_|refine zb ?_)|refine za fun C=>?_|refine zd ?_|refine zu ?_)
  all_goals
   refine zh ?_;refine ret0 rfl zg1 ⟨?_,rfl⟩;rfl
theorem len_eq {l:List E}{m:Nat}(h:((l.length:Int)==(m:Int))=true):l.length=m:=by
 rw [beq_iff_eq] at h;omega
theorem two_of {l:List E}(h:((l.length:Int)==2)=true):∃x y,l=[x,y]:=by
 have:=len_eq (m:=2) h
 match l,this with
 | [x,y],_=>exact⟨x,y,rfl⟩
theorem one_of {l:List E}(h:((l.length:Int)==1)=true):∃x,l=[x]:=by
 have:=len_eq (m:=1) h
 match l,this with
 | [x],_=>exact⟨x,rfl⟩
theorem zi16 {k n:Int}{s:ByteArray}{l:List E}(h:headB k n s l.length=true):(k=1∧0≤n∧n≤2147483647)∨k=2∨k=3∨((k=4∨k=9)∧∃x,l=[x])∨((k=5∨k=7∨k=8∨k=12∨k=17)∧∃x,l=[x])∨(k=6∧∃x y,l=[x,y])∨(k=10∧∃x,l=[x])∨(k=18∧∃x y,l=[x,y])∨k=11∨k=13∨k=14∨k=15∨k=16:=by
 unfold headB at h
 by_cases k1:k=1
 ·rw [if_pos k1] at h
  simp only [inR,Bool.and_eq_true,decide_eq_true_iff] at h
  left;exact⟨k1,by omega,by omega⟩
 rw [if_neg k1,Bool.and_eq_true] at h
 replace h:=h.2
 right
 by_cases k2:k=2
 ·exact .inl k2
 by_cases k3:k=3
 ·exact .inr (.inl k3)
 rw [if_neg k2,if_neg k3] at h
 by_cases k4:k=4∨k=9
 ·rw [if_pos k4,Bool.and_eq_true] at h
  exact .inr (.inr (.inl ⟨k4,one_of h.2⟩))
 rw [if_neg k4] at h
 by_cases k5:k=5∨k=7∨k=8∨k=12∨k=17
 ·rw [if_pos k5,Bool.and_eq_true] at h
  exact .inr (.inr (.inr (.inl ⟨k5,one_of h.2⟩)))
 rw [if_neg k5] at h
 by_cases k6:k=6
 ·rw [if_pos k6,Bool.and_eq_true] at h
  exact .inr (.inr (.inr (.inr (.inl ⟨k6,two_of h.2⟩))))
 rw [if_neg k6] at h
 by_cases k10:k=10
 ·rw [if_pos k10,Bool.and_eq_true] at h
  exact .inr (.inr (.inr (.inr (.inr (.inl ⟨k10,one_of h.1⟩)))))
 rw [if_neg k10] at h
 by_cases k18:k=18
 ·rw [if_pos k18,Bool.and_eq_true] at h
  exact .inr (.inr (.inr (.inr (.inr (.inr (.inl ⟨k18,two_of h.1⟩))))))
 rw [if_neg k18] at h
 by_cases k11:k=11
 ·omega
 by_cases k13:k=13
 ·omega
 rw [if_neg k11,if_neg k13] at h
 by_cases k14:k=14∨k=15
 ·omega
 rw [if_neg k14] at h
 by_cases k16:k=16
 ·omega
 rw [if_neg k16] at h
 cases h
set_option maxHeartbeats 8000000 in
theorem zx12:∀(n:Nat) (e:E),e.Ty Tryz.prog 45→e.sz<n→n≤1048577→okX e=true→Ctr Tryz.prog 19 [.ag (acE e)] [] (.c (.v (.string (txE e)))) []
 | 0,_,_,h,_,_=>absurd h (Nat.not_lt_zero _)
 | n+1,e,he,hsz,hn,hok=>by
  obtain⟨k0,n0,s0,xA,xc,l,rfl,-,-,-,⟨hl,hk⟩,-⟩:=zh1 he
  simp only [E.sz,E.szL] at hsz
  have ek:okX (.agg [.int .i64 k0,.int .i64 n0,.str s0,.lst 4 45 xA xc l])=(l.all okX&&headB k0 n0 s0 l.length):=zz5 zr6 _
  rw [ek,Bool.and_eq_true,List.all_eq_true] at hok
  obtain⟨hall,hh⟩:=hok
  have hkid:∀x∈l,Ctr Tryz.prog 19 [.ag (acE x)] [] (.c (.v (.string (txE x)))) []:=fun x hx=>by
   have:=E.szL_mem hx
   have h0:0<l.length:=List.length_pos_of_mem hx
   exact zx12 n x (hl x hx) (by omega) (by omega) (hall x hx)
  have cl:=zg20 hl hk (by omega) hkid
  have hj:=zh16 hl
  rw [zf14]
  have key:∀x y,l=[x,y]→(k0=6∨k0=18)→Ctr Tryz.prog 19 [.ag (acE (.agg [.int .i64 k0,.int .i64 n0,.str s0,.lst 4 45 xA xc l]))] [] (.c (.v (.string (tNode k0 n0 s0 (l.map txE))))) []:=fun x y hxy hk0=>by
   subst hxy
   have cx:=hkid x (by simp)
   have cy:=hkid y (by simp)
   have tx:=hl x (by simp)
   have ty:=hl y (by simp)
   have zx:=zl4 tx
   have zy:=zl4 ty
   have hx0:[x,y][0]? = some x:=rfl
   have hy0:[x,y][1]? = some y:=rfl
   have e2:[x,y].map txE=[txE x,txE y]:=rfl
   simp only [E.szL,List.length_cons,List.length_nil] at hsz
   rw [e2]
   clear cl hj hkid hall hh
   generalize txE x=X at cx zx ⊢
   generalize txE y=Y at cy zy ⊢
   obtain⟨x0,x1,x2,xA',xc',xl,rfl,-⟩:=zh1 tx
   obtain⟨y0,y1,y2,yA,yc,yl,rfl,-⟩:=zh1 ty
   rcases hk0 with rfl|rfl
   ·refine ze1 Tryz.func19 rfl rfl ?_
    repeat' (first|(apply f_wo;first|(apply f_as;refine zq (v:=.c _) ?_)|(apply f_fa;refine n_fa ?_)|(apply f_ld;refine zn1 ?_)|(apply zr1;refine zm ?_)|refine n_bo ?_)|(apply f_w;first|refine zj ?_|refine zb ?_)|(apply d_wo;first|(apply d_as;refine ze2 ?_)|(apply d_fa;refine o_fa ?_)|(apply d_ld;first|refine zp3 ?_|refine zs10 ?_)|(apply d_ca;first|refine zu3 cx ?_|refine zu3 cy ?_)|(apply d_ia;refine o_ix ?_)|(apply d_bb;refine zx5 ?_))|(apply d_w;first|refine zj ?_|refine zb ?_)|refine za fun C=>?_|refine zn (by kernel_rfl) (by kernel_rfl) fun C=>?_|refine zd ?_|refine ze ?_|refine za1 rfl ?_|refine zf1 rfl ?_)
    refine zh ?_;refine ret0 rfl zg1 ⟨?_,rfl⟩;rfl
   ·refine ze1 Tryz.func19 rfl rfl ?_
    repeat' (first|(apply f_wo;first|(apply f_as;refine zq (v:=.c _) ?_)|(apply f_fa;refine n_fa ?_)|(apply f_ld;refine zn1 ?_)|(apply zr1;refine zm ?_)|refine n_bo ?_)|(apply f_w;first|refine zj ?_|refine zb ?_)|(apply d_wo;first|(apply d_as;refine ze2 ?_)|(apply d_fa;refine o_fa ?_)|(apply d_ld;first|refine zp3 ?_|refine zs10 ?_)|(apply d_ca;first|refine zu3 cx ?_|refine zu3 cy ?_)|(apply d_ia;refine o_ix ?_)|(apply d_bb;refine zx5 ?_))|(apply d_w;first|refine zj ?_|refine zb ?_)|refine za fun C=>?_|refine zn (by kernel_rfl) (by kernel_rfl) fun C=>?_|refine zd ?_|refine ze ?_|refine zg ?_|refine zf1 rfl ?_)
    refine zh ?_;refine ret0 rfl zg1 ⟨?_,rfl⟩;rfl
  rcases zi16 hh with ⟨rfl,h0,h1⟩|rfl|rfl|⟨rfl|rfl,-⟩|⟨rfl|rfl|rfl|rfl|rfl,-⟩|⟨rfl,x,y,hxy⟩|⟨rfl,-⟩|⟨rfl,x,y,hxy⟩|rfl|rfl|rfl|rfl|rfl
  all_goals first
   | (exact key x y hxy (.inl rfl))
   | (exact key x y hxy (.inr rfl))
   | skip
  ·have cd:=digits_c (n:=n0) (by omega) (by omega)
   refine ze1 Tryz.func19 rfl rfl ?_
   repeat' (first|(apply f_wo;first|(apply f_as;refine zq (v:=.c _) ?_)|(apply f_fa;refine n_fa ?_)|(apply f_ld;refine zn1 ?_)|(apply f_ca;refine zk1 cd ?_)|(apply zr1;refine zm ?_)|refine n_bo ?_)|(apply f_w;first|refine zj ?_|refine zb ?_)|refine za fun C=>?_|refine zd ?_|refine ze ?_|refine za1 rfl ?_)
   refine zh ?_;refine ret0 rfl zg1 ⟨?_,rfl⟩;rfl
  all_goals
   clear key hkid hall hh
   refine ze1 Tryz.func19 rfl rfl ?_
   repeat' (first|(apply f_wo;first|(apply f_as;refine zq (v:=.c _) ?_)|(apply f_fa;refine n_fa ?_)|(apply f_ld;refine zn1 ?_)|(apply f_ca;refine zk1 cl ?_)|(apply zr1;refine zm ?_)|(apply zd2;refine zl3 ?_)|refine n_bo ?_)|(apply f_w;first|refine zj ?_|refine zb ?_)|(apply d_wo;first|(apply d_as;refine ze2 ?_)|(apply d_fa;refine o_fa ?_)|(apply d_ld;refine zp3 ?_)|(apply d_ca;refine zu3 cl ?_)|(apply d_bb;refine zx5 ?_))|(apply d_w;first|refine zj ?_|refine zb ?_)|refine za fun C=>?_|refine zn (by kernel_rfl) (by kernel_rfl) fun C=>?_|refine zd ?_|refine ze ?_|refine za1 rfl ?_|refine zf1 rfl ?_)
   refine zh ?_;refine ret0 rfl zg1 ⟨?_,rfl⟩;rfl
end Go.Proofs.YtnjfnhoipnbpeaaGreatDoor
