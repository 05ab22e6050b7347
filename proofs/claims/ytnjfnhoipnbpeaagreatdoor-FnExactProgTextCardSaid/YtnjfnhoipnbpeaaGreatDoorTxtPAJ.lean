/- Statements counted; StmtOk of the reference. Printed by gen_stmt2.py. -/
import Derived.Test.YtnjfnhoipnbpeaaGreatDoorTxtPAI
namespace Go.Proofs.YtnjfnhoipnbpeaaGreatDoor
open Go.RowKit
set_option maxRecDepth 100000
theorem zo20 (f:Nat)(e:E)(h:f≤5):stmtS f e≤400:=by
 have:=zm17 (b:=60) (kd:=kidS) f e (by omega)
 unfold stmtS
 omega
theorem zo14 {b:Nat}{c:E→Nat}{m:Nat}(h:¬m≤b):∀l:List E,gpS b c l m=m
 | []=>rfl
 | _ :: _=>if_neg h
set_option maxHeartbeats 4000000 in
theorem zr11:∀(f:Nat),f≤5→∀(e:E),e.Ty Tryz.prog 71→e.sz≤1048576→Ctr Tryz.prog 83 [.ag (acE e),.c (.v (.int .i64 (6-(f:Int))))] [] (.c (.v (.int .i64 (stmtS f e:Nat)))) []
 | 0,_,e,he,hsz=>by
  obtain⟨k0,s0,t0,xA,xc,xs,aA,ac,la,bA,bc,lb,rfl,-,gs,gt,⟨hx,kx⟩,⟨ha,ka⟩,⟨hb,kb⟩,-⟩:=zt1 he
  rw [show (6-((0:Nat):Int))=6 from rfl]
  refine ze1 Tryz.func83 rfl rfl ?_
  repeat' (first|(apply f_wo;first|(apply f_mv;refine zv (v:=.c _) ?_)|(apply f_as;refine zq (v:=.c _) ?_)|(apply zn3;refine za2 ?_)|refine n_bo ?_)|(apply f_w;first|refine zj ?_|refine zb ?_)|refine za fun C=>?_|refine zd ?_|refine za1 rfl ?_)
  refine zh ?_;refine ret0 rfl zg1 ⟨?_,rfl⟩;rfl
 | f+1,hf,e,he,hsz=>by
  obtain⟨k0,s0,t0,xA,xc,xs,aA,ac,la,bA,bc,lb,rfl,-,gs,gt,⟨hx,kx⟩,⟨ha,ka⟩,⟨hb,kb⟩,-⟩:=zt1 he
  simp only [E.sz,E.szL] at hsz
  rw [show stmtS (f+1) (.agg [.int .i64 k0,.str s0,.str t0,.lst 4 45 xA xc xs,.lst 6 71 aA ac la,.lst 6 71 bA bc lb])=gpS 60 (stmtS f) (la++lb) 1 from rfl]
  refine ze1 Tryz.func83 rfl rfl ?_
  repeat' (first|(apply f_wo;first|(apply f_mv;refine zv (v:=.c _) ?_)|(apply f_as;refine zq (v:=.c _) ?_)|(apply zn3;refine za2 ?_)|refine n_bo ?_)|(apply f_w;first|refine zj ?_|refine zb ?_)|refine za fun C=>?_|refine zd ?_)
  refine zi (by rfl) (fun h1=>by exfalso;simp only [decide_eq_true_iff] at h1;omega) fun h1=>?_
  repeat' (first|(apply f_wo;(apply f_as;refine zq (v:=.c _) ?_))|(apply f_w;first|refine zj ?_|refine zb ?_)|refine za fun C=>?_|refine zd ?_|refine ze ?_|refine zg ?_)
  have hcl:cloL [.v (.int .i64 k0),.v (.string s0),.v (.string t0),.ro xs.length 4 (acL xs),.ro la.length 6 (acL la),.ro lb.length 6 (acL lb)]=true:=by simp [cloL,clo,zk]
  refine zv1 (fun d:Nat×Nat=>⟨tmsF [(1,.c (.v (.int .i64 (6-((f+1:Nat):Int))))),(2,.c (.pt 2 0)),(5,.c (.v (.int .i64 (d.2:Int)))),(6,.c (.v (.int .i64 (d.1:Int))))],hpsF [(2,2,⟨71,0,0,true,[.v (.int .i64 k0),.v (.string s0),.v (.string t0),.ro xs.length 4 (acL xs),.ro la.length 6 (acL la),.ro lb.length 6 (acL lb)]⟩)],0,[2],53⟩)
   (fun N d=>d.1+N=la.length∧d.2≤2000∧gpS 60 (stmtS f) (la++lb) 1=gpS 60 (stmtS f) (la.drop d.1++lb) d.2) la.length (0,1) ⟨by simp,by simp,rfl⟩ ?_ ?_
  ·(refine zl1 _ _ rfl rfl ?_ ?_<;>(repeat' (first|exact TmOk.nil|exact RwOk.nil|refine TmOk.cons ?_ ?_|refine RwOk.cons ?_ ?_|rfl|exact zb1 rfl (by assumption)|(refine rnV_id' rfl ?_;exact byc)|(refine zp1 ?_;first|rfl|omega|(rw [zw (by omega) (by omega)];omega))|(refine zb1 rfl ?_;exact byc)|exact zc2 rfl rfl|(refine zq1 (by rfl) (by rfl) ?_ ?_<;>exact byc)|(refine rw_rn' rfl rfl ?_;simp;done))))
  rintro N ⟨i,m⟩ ⟨hN,hm,hr⟩
  dsimp only at hN hm hr ⊢
  have fin:(¬i<la.length∨¬m≤60)→gpS 60 (stmtS f) (la++lb) 1=gpS 60 (stmtS f) (lb) m:=fun h=>by
   rw [hr]
   by_cases hm2:m≤60
   ·rw [List.drop_eq_nil_of_le (by omega),List.nil_append]
   ·rw [zo14 hm2,zo14 hm2]
  by_cases hgo:i<la.length∧m≤60
  ·obtain⟨hk',hm2⟩:=hgo
   clear fin
   obtain⟨x,hx'⟩:∃x,la[i]? = some x:=⟨_,List.getElem?_eq_getElem hk'⟩
   rw [zs6 hx',List.cons_append] at hr
   have hr2:gpS 60 (stmtS f) (x :: (la.drop (i+1)++lb)) m=gpS 60 (stmtS f) (la.drop (i+1)++lb) (m+stmtS f x):=if_pos hm2
   rw [hr2] at hr
   have hxz:=E.szL_mem (List.mem_of_getElem? hx')
   have hxt:=ha x (List.mem_of_getElem? hx')
   have cx:=zr11 f (by omega) x hxt (by omega)
   have cle:=zo20 f x (by omega)
   rw [show (6-(f:Int))=6-((f+1:Nat):Int)+1 by omega] at cx
   generalize stmtS f x=c at cx cle hr
   obtain⟨z0,z1,z2,zA,zc,zx,yA,yc,ya,wA,wc,yb,rfl,-⟩:=zt1 hxt
   repeat' (first|(apply f_wo;first|(apply f_gs;refine n_sk ?_)|(apply f_mv;first|(refine zx1 ?_ ?_<;>intro hG<;>(try cases hG))|refine zv (v:=.c _) ?_)|(apply f_as;refine zq (v:=.c _) ?_)|(apply f_fa;refine n_fa ?_)|(apply f_ld;refine zq2 ?_)|(apply f_ca;refine zk1 cx ?_)|(apply f_bi;refine zy1 ?_)|(apply f_ia;refine n_ix ?_)|(apply zg3;refine zs1 ?_)|(apply zo4;refine zl2 ?_)|(apply zd2;refine zj1 ?_)|(apply f_pk;refine zw1 (v:=.c _) ?_)|refine zz1 ?_)|(apply f_w;first|refine zj ?_|refine zb ?_)|refine za fun C=>?_|refine zd ?_|refine ze ?_|refine zg ?_|refine zu ?_|(refine zi (by rfl) ?_ ?_<;>intro hC<;>(try cases hC)))
   all_goals first
    | (exfalso;simp only [decide_eq_true_iff,decide_eq_false_iff_not] at *;omega)
    | (refine⟨N-1,(i+1,m+c),by omega,⟨by show i+1+(N-1)=la.length;omega,by show m+c≤2000;omega,hr⟩,?_⟩
       (refine zl1 _ _ rfl rfl ?_ ?_<;>(repeat' (first|exact TmOk.nil|exact RwOk.nil|refine TmOk.cons ?_ ?_|refine RwOk.cons ?_ ?_|rfl|exact zb1 rfl (by assumption)|(refine rnV_id' rfl ?_;exact byc)|(refine zp1 ?_;first|rfl|omega|(rw [zw (by omega) (by omega)];omega))|(refine zb1 rfl ?_;exact byc)|exact zc2 rfl rfl|(refine zq1 (by rfl) (by rfl) ?_ ?_<;>exact byc)|(refine rw_rn' rfl rfl ?_;simp;done)))))
  have hr2:=fin (by omega)
  have hr2:gpS 60 (stmtS f) (la++lb) 1=gpS 60 (stmtS f) (lb.drop 0++([]:List E)) m:=by rw [hr2];simp
  clear fin hr
  repeat' (first|(apply f_wo;first|(apply f_gs;refine n_sk ?_)|(apply f_mv;first|(refine zx1 ?_ ?_<;>intro hG<;>(try cases hG))|refine zv (v:=.c _) ?_)|(apply f_fa;refine n_fa ?_)|(apply f_bi;refine zy1 ?_)|(apply zg3;refine zs1 ?_)|(apply zo4;refine zl2 ?_)|(apply f_pk;refine zw1 (v:=.c _) ?_)|refine zz1 ?_)|(apply f_w;first|refine zj ?_|refine zb ?_)|refine za fun C=>?_|refine zd ?_)
  all_goals first
   | (refine zi (by rfl) (fun h2=>by exfalso;simp only [decide_eq_true_iff,decide_eq_false_iff_not] at *;omega) fun h2=>?_)
   | (refine zf1 rfl ?_)
  all_goals repeat' (first|(apply f_wo;(apply f_as;refine zq (v:=.c _) ?_))|(apply f_w;first|refine zj ?_|refine zb ?_)|refine za fun C=>?_|refine zd ?_|refine ze ?_|refine zu ?_)
  all_goals clear hgo hN
  all_goals
   refine zv1 (fun d:Nat×Nat=>⟨tmsF [(1,.c (.v (.int .i64 (6-((f+1:Nat):Int))))),(2,.c (.pt 2 0)),(5,.c (.v (.int .i64 (d.2:Int)))),(7,.c (.v (.int .i64 (d.1:Int))))],hpsF [(2,2,⟨71,0,0,true,[.v (.int .i64 k0),.v (.string s0),.v (.string t0),.ro xs.length 4 (acL xs),.ro la.length 6 (acL la),.ro lb.length 6 (acL lb)]⟩)],0,[2],53⟩)
    (fun N d=>d.1+N=lb.length∧d.2≤2000∧gpS 60 (stmtS f) (la++lb) 1=gpS 60 (stmtS f) (lb.drop d.1++([]:List E)) d.2) lb.length (0,m) ⟨by simp,hm,hr2⟩ ?_ ?_
   ·(refine zl1 _ _ rfl rfl ?_ ?_<;>(repeat' (first|exact TmOk.nil|exact RwOk.nil|refine TmOk.cons ?_ ?_|refine RwOk.cons ?_ ?_|rfl|exact zb1 rfl (by assumption)|(refine rnV_id' rfl ?_;exact byc)|(refine zp1 ?_;first|rfl|omega|(rw [zw (by omega) (by omega)];omega))|(refine zb1 rfl ?_;exact byc)|exact zc2 rfl rfl|(refine zq1 (by rfl) (by rfl) ?_ ?_<;>exact byc)|(refine rw_rn' rfl rfl ?_;simp;done))))
   rintro N ⟨i,m⟩ ⟨hN,hm,hr⟩
   dsimp only at hN hm hr ⊢
   have fin:(¬i<lb.length∨¬m≤60)→gpS 60 (stmtS f) (la++lb) 1=gpS 60 (stmtS f) (([]:List E)) m:=fun h=>by
    rw [hr]
    by_cases hm2:m≤60
    ·rw [List.drop_eq_nil_of_le (by omega),List.nil_append]
    ·rw [zo14 hm2,zo14 hm2]
   by_cases hgo:i<lb.length∧m≤60
   ·obtain⟨hk',hm2⟩:=hgo
    clear fin
    obtain⟨x,hx'⟩:∃x,lb[i]? = some x:=⟨_,List.getElem?_eq_getElem hk'⟩
    rw [zs6 hx',List.cons_append] at hr
    have hr2:gpS 60 (stmtS f) (x :: (lb.drop (i+1)++([]:List E))) m=gpS 60 (stmtS f) (lb.drop (i+1)++([]:List E)) (m+stmtS f x):=if_pos hm2
    rw [hr2] at hr
    have hxz:=E.szL_mem (List.mem_of_getElem? hx')
    have hxt:=hb x (List.mem_of_getElem? hx')
    have cx:=zr11 f (by omega) x hxt (by omega)
    have cle:=zo20 f x (by omega)
    rw [show (6-(f:Int))=6-((f+1:Nat):Int)+1 by omega] at cx
    generalize stmtS f x=c at cx cle hr
    obtain⟨z0,z1,z2,zA,zc,zx,yA,yc,ya,wA,wc,yb,rfl,-⟩:=zt1 hxt
    repeat' (first|(apply f_wo;first|(apply f_gs;refine n_sk ?_)|(apply f_mv;first|(refine zx1 ?_ ?_<;>intro hG<;>(try cases hG))|refine zv (v:=.c _) ?_)|(apply f_as;refine zq (v:=.c _) ?_)|(apply f_fa;refine n_fa ?_)|(apply f_ld;refine zq2 ?_)|(apply f_ca;refine zk1 cx ?_)|(apply f_bi;refine zy1 ?_)|(apply f_ia;refine n_ix ?_)|(apply zg3;refine zs1 ?_)|(apply zo4;refine zl2 ?_)|(apply zd2;refine zj1 ?_)|(apply f_pk;refine zw1 (v:=.c _) ?_)|refine zz1 ?_)|(apply f_w;first|refine zj ?_|refine zb ?_)|refine za fun C=>?_|refine zd ?_|refine ze ?_|refine zg ?_|refine zu ?_|(refine zi (by rfl) ?_ ?_<;>intro hC<;>(try cases hC)))
    all_goals first
     | (exfalso;simp only [decide_eq_true_iff,decide_eq_false_iff_not] at *;omega)
     | (refine⟨N-1,(i+1,m+c),by omega,⟨by show i+1+(N-1)=lb.length;omega,by show m+c≤2000;omega,hr⟩,?_⟩
        (refine zl1 _ _ rfl rfl ?_ ?_<;>(repeat' (first|exact TmOk.nil|exact RwOk.nil|refine TmOk.cons ?_ ?_|refine RwOk.cons ?_ ?_|rfl|exact zb1 rfl (by assumption)|(refine rnV_id' rfl ?_;exact byc)|(refine zp1 ?_;first|rfl|omega|(rw [zw (by omega) (by omega)];omega))|(refine zb1 rfl ?_;exact byc)|exact zc2 rfl rfl|(refine zq1 (by rfl) (by rfl) ?_ ?_<;>exact byc)|(refine rw_rn' rfl rfl ?_;simp;done)))))
   have hr3:=fin (by omega)
   rw [hr3]
   repeat' (first|(apply f_wo;first|(apply f_gs;refine n_sk ?_)|(apply f_mv;first|(refine zx1 ?_ ?_<;>intro hG<;>(try cases hG))|refine zv (v:=.c _) ?_)|(apply f_as;refine zq (v:=.c _) ?_)|(apply f_fa;refine n_fa ?_)|(apply f_bi;refine zy1 ?_)|(apply zg3;refine zs1 ?_)|(apply zo4;refine zl2 ?_)|(apply f_pk;refine zw1 (v:=.c _) ?_)|refine zz1 ?_)|(apply f_w;first|refine zj ?_|refine zb ?_)|refine za fun C=>?_|refine zd ?_|refine ze ?_|refine zg ?_|refine zu ?_|(refine zi (by rfl) ?_ ?_<;>intro hC<;>(try cases hC)))
   all_goals first
    | (refine zh ?_;refine ret0 rfl zg1 ⟨?_,rfl⟩;rfl)
    | (exfalso;simp only [decide_eq_true_iff,decide_eq_false_iff_not] at *;omega)
theorem zk16 {l:List E}(hl:∀e∈l,e.Ty Tryz.prog 71)(hk:∀e∈l,e.enc.length=6)(hlen:l.length≤1048576)(hc:∀x∈l,Ctr Tryz.prog 84 [.ag (acE x)] [] (.c (.v (.bool (okY x)))) []):Ctr Tryz.prog 102 [.c (.ro l.length 6 (acL l))] [] (.c (.v (.bool (l.all okY)))) []:=by
 refine ze1 Tryz.func102 rfl rfl ?_
 repeat' (first|(apply f_wo;(apply f_as;refine zq (v:=.c _) ?_))|(apply f_w;first|refine zj ?_|refine zb ?_)|refine za fun C=>?_|refine zd ?_|refine ze ?_)
 refine zv1 (fun k:Nat=>⟨tmsF [(0,.c (.ro l.length 6 (acL l))),(3,.c (.v (.int .i64 (k:Int))))],hpsF [],0,[],16⟩)
  (fun N k=>k+N=l.length∧∀j y,j<k→l[j]? = some y→okY y=true) l.length 0 ⟨by omega,fun j y hj=>absurd hj (Nat.not_lt_zero j)⟩ ?_ ?_
 ·(refine zl1 _ _ rfl rfl ?_ ?_<;>(repeat' (first|exact TmOk.nil|exact RwOk.nil|refine TmOk.cons ?_ ?_|refine RwOk.cons ?_ ?_|rfl|(refine rnV_id' rfl ?_;exact byc)|(refine zp1 ?_;first|rfl|omega|(rw [zw (by omega) (by omega)];omega))|(refine zb1 rfl ?_;exact byc)|exact zc2 rfl rfl|(refine zq1 (by rfl) (by rfl) ?_ ?_<;>exact byc)|(refine rw_rn' rfl rfl ?_;simp;done))))
 rintro N k ⟨hN,hr⟩
 try dsimp only
 repeat' (first|(apply f_wo;first|(apply f_mv;refine zv (v:=.c _) ?_)|(apply f_bi;refine zy1 ?_)|(apply zg3;refine zs1 ?_))|(apply f_w;first|refine zj ?_|refine zb ?_)|refine za fun C=>?_|refine zd ?_)
 refine zi (by rfl) (fun h1=>?_) fun h1=>?_
 ·have hk':k<l.length:=by simpa using h1
  obtain⟨x,hx'⟩:∃x,l[k]? = some x:=⟨_,List.getElem?_eq_getElem hk'⟩
  have hxt:=hl x (List.mem_of_getElem? hx')
  have cx:=hc x (List.mem_of_getElem? hx')
  cases hb2:okY x with
  | false =>
   have e0:l.all okY=false:=by
    cases ha2:l.all okY with
    | false=>rfl
    | true=>rw [List.all_eq_true.1 ha2 x (List.mem_of_getElem? hx')] at hb2;cases hb2
   rw [hb2] at cx
   rw [e0]
   obtain⟨z0,z1,z2,zA,zc,zx,yA,yc,ya,wA,wc,yb,rfl,-⟩:=zt1 hxt
   repeat' (first|(apply f_wo;first|(apply f_mv;refine zv (v:=.c _) ?_)|(apply f_as;refine zq (v:=.c _) ?_)|(apply f_ld;refine zq2 ?_)|(apply f_ca;refine zk1 cx ?_)|(apply f_ia;refine n_ix ?_)|(apply f_no;refine zu2 ?_))|(apply f_w;first|refine zj ?_|refine zb ?_)|refine za fun C=>?_|refine zd ?_|refine ze ?_|refine zg ?_|refine za1 rfl ?_)
   refine zh ?_;refine ret0 rfl zg1 ⟨?_,rfl⟩;rfl
  | true =>
   have hb3:=hb2
   rw [hb2] at cx
   obtain⟨z0,z1,z2,zA,zc,zx,yA,yc,ya,wA,wc,yb,rfl,-⟩:=zt1 hxt
   repeat' (first|(apply f_wo;first|(apply f_mv;refine zv (v:=.c _) ?_)|(apply f_as;refine zq (v:=.c _) ?_)|(apply f_ld;refine zq2 ?_)|(apply f_ca;refine zk1 cx ?_)|(apply f_ia;refine n_ix ?_)|(apply zd2;refine zj1 ?_)|(apply f_no;refine zu2 ?_))|(apply f_w;first|refine zj ?_|refine zb ?_)|refine za fun C=>?_|refine zd ?_|refine ze ?_|refine zg ?_|refine zf1 rfl ?_)
   refine⟨N-1,k+1,by omega,⟨by omega,fun j y hj hy=>?_⟩,?_⟩
   ·by_cases e:j=k
    ·rw [e,hx'] at hy;injection hy with hy;subst hy;exact hb3
    ·exact hr j y (by omega) hy
   ·(refine zl1 _ _ rfl rfl ?_ ?_<;>(repeat' (first|exact TmOk.nil|exact RwOk.nil|refine TmOk.cons ?_ ?_|refine RwOk.cons ?_ ?_|rfl|(refine rnV_id' rfl ?_;exact byc)|(refine zp1 ?_;first|rfl|omega|(rw [zw (by omega) (by omega)];omega))|(refine zb1 rfl ?_;exact byc)|exact zc2 rfl rfl|(refine zq1 (by rfl) (by rfl) ?_ ?_<;>exact byc)|(refine rw_rn' rfl rfl ?_;simp;done))))
 ·have hk':¬k<l.length:=by simpa using h1
  rw [show l.all okY=true from List.all_eq_true.2 fun y hy=>by
   obtain⟨j,hj⟩:=List.getElem?_of_mem hy
   have:=(List.getElem?_eq_some_iff.1 hj).1
   exact hr j y (by omega) hj]
  repeat' (first|(apply f_wo;(apply f_as;refine zq (v:=.c _) ?_))|(apply f_w;first|refine zj ?_|refine zb ?_)|refine za fun C=>?_|refine zd ?_|refine zu ?_)
  refine zh ?_;refine ret0 rfl zg1 ⟨?_,rfl⟩;rfl
set_option maxHeartbeats 2000000 in
theorem l9Ok_n:∀(n:Nat) (e:E),e.Ty Tryz.prog 71→e.sz<n→n≤1048577→Ctr Tryz.prog 84 [.ag (acE e)] [] (.c (.v (.bool (okY e)))) []
 | 0,_,_,h,_=>absurd h (Nat.not_lt_zero _)
 | n+1,e,he,hsz,hn=>by
  obtain⟨k0,s0,t0,xA,xc,xs,aA,ac,la,bA,bc,lb,rfl,-,gs,gt,⟨hx,kx⟩,⟨ha,ka⟩,⟨hb,kb⟩,-⟩:=zt1 he
  simp only [E.sz,E.szL] at hsz
  have ch:=l9Here_c (k:=k0) (s:=s0) (t:=t0) (by omega) (by omega) (xs:=xs) (la:=la) (lb:=lb) (by omega) (by omega) (by omega) hx kx
  have cA:=zk16 ha ka (by omega) fun x hx=>l9Ok_n n x (ha x hx) (by have:=E.szL_mem hx;have:=List.length_pos_of_mem hx;omega) (by omega)
  have cB:=zk16 hb kb (by omega) fun x hx=>l9Ok_n n x (hb x hx) (by have:=E.szL_mem hx;have:=List.length_pos_of_mem hx;omega) (by omega)
  have ek:okY (.agg [.int .i64 k0,.str s0,.str t0,.lst 4 45 xA xc xs,.lst 6 71 aA ac la,.lst 6 71 bA bc lb])=((la++lb).all okY&&sheadB k0 s0 t0 xs la.length lb.length):=zz5 zz8 _
  rw [ek,List.all_append]
  refine ze1 Tryz.func84 rfl rfl ?_
  repeat' (first|(apply f_wo;first|(apply f_as;refine zq (v:=.c _) ?_)|refine n_bo ?_)|(apply f_w;first|refine zj ?_|refine zb ?_)|refine za fun C=>?_|refine zd ?_|refine ze ?_)
  refine zv1 (fun k:Nat=>⟨tmsF [(1,.c (.pt 1 0)),(3,.c (.v (.int .i64 (k:Int))))],hpsF [(1,1,⟨71,0,0,true,[.v (.int .i64 k0),.v (.string s0),.v (.string t0),.ro xs.length 4 (acL xs),.ro la.length 6 (acL la),.ro lb.length 6 (acL lb)]⟩)],0,[1],30⟩)
   (fun N k=>k+N=xs.length∧∀j y,j<k→xs[j]? = some y→exprB y=true) xs.length 0 ⟨by omega,fun j y hj=>absurd hj (Nat.not_lt_zero j)⟩ ?_ ?_
  ·(refine zl1 _ _ rfl rfl ?_ ?_<;>(repeat' (first|exact TmOk.nil|exact RwOk.nil|refine TmOk.cons ?_ ?_|refine RwOk.cons ?_ ?_|rfl|(refine rnV_id' rfl ?_;exact byc)|(refine zp1 ?_;first|rfl|omega|(rw [zw (by omega) (by omega)];omega))|(refine zb1 rfl ?_;exact byc)|exact zc2 rfl rfl|(refine zq1 (by rfl) (by rfl) ?_ ?_<;>exact byc)|(refine rw_rn' rfl rfl ?_;simp;done))))
  rintro N k ⟨hN,hr⟩
  try dsimp only
  repeat' (first|(apply f_wo;first|(apply f_mv;refine zv (v:=.c _) ?_)|(apply f_fa;refine n_fa ?_)|(apply f_bi;refine zy1 ?_)|(apply zg3;refine zs1 ?_)|refine zz1 ?_)|(apply f_w;first|refine zj ?_|refine zb ?_)|refine za fun C=>?_|refine zd ?_)
  refine zi (by rfl) (fun h1=>?_) fun h1=>?_
  ·have hk':k<xs.length:=by simpa using h1
   obtain⟨x,hx'⟩:∃x,xs[k]? = some x:=⟨_,List.getElem?_eq_getElem hk'⟩
   have hxz:=E.szL_mem (List.mem_of_getElem? hx')
   have hxt:=hx x (List.mem_of_getElem? hx')
   have cx:=zo9 hxt (by omega)
   cases hb2:exprB x with
   | false =>
    have e0:sheadB k0 s0 t0 xs la.length lb.length=false:=by
     unfold sheadB
     cases ha2:xs.all exprB with
     | false=>rfl
     | true=>rw [List.all_eq_true.1 ha2 x (List.mem_of_getElem? hx')] at hb2;cases hb2
    rw [hb2] at cx
    rw [e0,Bool.and_false]
    obtain⟨y0,y1,y2,yA,yc,yl,rfl,-⟩:=zh1 hxt
    repeat' (first|(apply f_wo;first|(apply f_mv;refine zv (v:=.c _) ?_)|(apply f_as;refine zq (v:=.c _) ?_)|(apply f_fa;refine n_fa ?_)|(apply f_ld;refine zq2 ?_)|(apply f_ca;refine zk1 cx ?_)|(apply f_ia;refine n_ix ?_)|(apply f_no;refine zu2 ?_)|refine zz1 ?_)|(apply f_w;first|refine zj ?_|refine zb ?_)|refine za fun C=>?_|refine zd ?_|refine ze ?_|refine zg ?_|refine za1 rfl ?_)
    refine zh ?_;refine ret0 rfl zg1 ⟨?_,rfl⟩;rfl
   | true =>
    have hb3:=hb2
    rw [hb2] at cx
    obtain⟨y0,y1,y2,yA,yc,yl,rfl,-⟩:=zh1 hxt
    repeat' (first|(apply f_wo;first|(apply f_mv;refine zv (v:=.c _) ?_)|(apply f_as;refine zq (v:=.c _) ?_)|(apply f_fa;refine n_fa ?_)|(apply f_ld;refine zq2 ?_)|(apply f_ca;refine zk1 cx ?_)|(apply f_ia;refine n_ix ?_)|(apply zd2;refine zj1 ?_)|(apply f_no;refine zu2 ?_)|refine zz1 ?_)|(apply f_w;first|refine zj ?_|refine zb ?_)|refine za fun C=>?_|refine zd ?_|refine ze ?_|refine zg ?_|refine zf1 rfl ?_)
    refine⟨N-1,k+1,by omega,⟨by omega,fun j y hj hy=>?_⟩,?_⟩
    ·by_cases e:j=k
     ·rw [e,hx'] at hy;injection hy with hy;subst hy;exact hb3
     ·exact hr j y (by omega) hy
    ·(refine zl1 _ _ rfl rfl ?_ ?_<;>(repeat' (first|exact TmOk.nil|exact RwOk.nil|refine TmOk.cons ?_ ?_|refine RwOk.cons ?_ ?_|rfl|(refine rnV_id' rfl ?_;exact byc)|(refine zp1 ?_;first|rfl|omega|(rw [zw (by omega) (by omega)];omega))|(refine zb1 rfl ?_;exact byc)|exact zc2 rfl rfl|(refine zq1 (by rfl) (by rfl) ?_ ?_<;>exact byc)|(refine rw_rn' rfl rfl ?_;simp;done))))
  ·have hk':¬k<xs.length:=by simpa using h1
   have e0:xs.all exprB=true:=List.all_eq_true.2 fun y hy=>by
    obtain⟨j,hj⟩:=List.getElem?_of_mem hy
    have:=(List.getElem?_eq_some_iff.1 hj).1
    exact hr j y (by omega) hj
   rw [show sheadB k0 s0 t0 xs la.length lb.length=shapeB k0 s0 t0 xs.length la.length lb.length (callX xs) by unfold sheadB;rw [e0,Bool.true_and]]
   generalize shapeB k0 s0 t0 xs.length la.length lb.length (callX xs)=b1 at ch ⊢
   generalize la.all okY=b2 at cA ⊢
   generalize lb.all okY=b3 at cB ⊢
   cases b1<;>cases b2
   all_goals
    repeat' (first|(apply f_wo;first|(apply f_gs;refine n_sk ?_)|(apply f_mv;(refine zx1 ?_ ?_<;>intro hG<;>(try cases hG)))|(apply f_as;refine zq (v:=.c _) ?_)|(apply f_fa;refine n_fa ?_)|(apply f_ld;refine zs2 ?_)|(apply f_ca;first|refine zk1 ch ?_|refine zk1 cA ?_|refine zk1 cB ?_)|(apply f_pk;refine zw1 (v:=.c _) ?_)|refine zz1 ?_)|(apply f_w;first|refine zj ?_|refine zb ?_)|refine za fun C=>?_|refine zd ?_|refine zu ?_)
    refine zh ?_;refine ret0 rfl zg1 ⟨?_,rfl⟩
    cases b3<;>rfl
theorem zl16 {e:E}(he:e.Ty Tryz.prog 71)(hsz:e.sz≤1048576):Ctr Tryz.prog 55 [.ag (acE e)] [] (.c (.v (.bool (stmtB e)))) []:=by
 have c1:=zr11 5 (by omega) e he hsz
 have c2:=l9Ok_n (e.sz+1) e he (by omega) (by omega)
 rw [show (6-((5:Nat):Int))=1 from rfl] at c1
 unfold stmtB
 generalize stmtS 5 e=c at c1 ⊢
 generalize okY e=b at c2 ⊢
 obtain⟨k0,s0,t0,xA,xc,xs,aA,ac,la,bA,bc,lb,rfl,-,gs,gt,⟨hx,kx⟩,⟨ha,ka⟩,⟨hb,kb⟩,-⟩:=zt1 he
 by_cases hc:c≤60
 ·rw [show decide (c≤60)=true from decide_eq_true hc,Bool.true_and]
  refine ze1 Tryz.func55 rfl rfl ?_
  repeat' (first|(apply f_wo;first|(apply f_gs;refine n_sk ?_)|(apply f_mv;(refine zx1 ?_ ?_<;>intro hG<;>(try cases hG)))|(apply f_as;refine zq (v:=.c _) ?_)|(apply f_ld;refine zs2 ?_)|(apply f_ca;first|refine zk1 c1 ?_|refine zk1 c2 ?_)|(apply zo4;refine zl2 ?_)|(apply f_pk;refine zw1 (v:=.c _) ?_)|refine n_bo ?_)|(apply f_w;first|refine zj ?_|refine zb ?_)|refine za fun C=>?_|refine zd ?_)
  all_goals first
   | (exfalso;simp only [decide_eq_true_iff,decide_eq_false_iff_not] at *;omega)
   | (refine zh ?_;refine ret0 rfl zg1 ⟨?_,rfl⟩;rfl)
 ·rw [show decide (c≤60)=false from decide_eq_false hc,Bool.false_and]
  refine ze1 Tryz.func55 rfl rfl ?_
  repeat' (first|(apply f_wo;first|(apply f_gs;refine n_sk ?_)|(apply f_mv;(refine zx1 ?_ ?_<;>intro hG<;>(try cases hG)))|(apply f_as;refine zq (v:=.c _) ?_)|(apply f_ld;refine zs2 ?_)|(apply f_ca;first|refine zk1 c1 ?_|refine zk1 c2 ?_)|(apply zo4;refine zl2 ?_)|(apply f_pk;refine zw1 (v:=.c _) ?_)|refine n_bo ?_)|(apply f_w;first|refine zj ?_|refine zb ?_)|refine za fun C=>?_|refine zd ?_)
  all_goals first
   | (exfalso;simp only [decide_eq_true_iff,decide_eq_false_iff_not] at *;omega)
   | (refine zh ?_;refine ret0 rfl zg1 ⟨?_,rfl⟩;rfl)
end Go.Proofs.YtnjfnhoipnbpeaaGreatDoor
