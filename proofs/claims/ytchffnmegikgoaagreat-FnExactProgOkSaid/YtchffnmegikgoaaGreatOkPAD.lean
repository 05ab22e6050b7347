/- Parts of terms counted; ExprOk of both sides. -/
import Derived.Test.YtchffnmegikgoaaGreatOkPAC
namespace Go.Proofs.YtchffnmegikgoaaGreat
open Go.RowKit
set_option maxRecDepth 100000
theorem zw5 {l:List E}{k:Nat}{x:E}(h:l[k]? = some x):l.drop k=x :: l.drop (k+1):=by
 obtain⟨h1,h2⟩:=List.getElem?_eq_some_iff.1 h
 rw [List.drop_eq_getElem_cons h1,h2]
theorem exprI_le (f:Nat)(e:E):exprI f e≤101:=zk22 f e (by omega)
theorem exprS_le (f:Nat)(e:E)(h:f≤10):exprS f e≤1101:=by
 have:=ze15 (b:=100) (kd:=partE) f e (by omega)
 unfold exprS
 omega
set_option maxHeartbeats 2000000 in
theorem zf10:∀(f:Nat),f≤10→∀(e:E),e.Ty Tryz.prog 40→e.sz≤1048576→Ctr Tryz.prog 62 [.ag (acE e),.c (.v (.int .i64 (11-(f:Int))))] [] (.c (.v (.int .i64 (exprI f e:Nat)))) []
 | 0,_,e,he,hsz=>by
  obtain⟨k,n,s,xA,xc,l,rfl,-⟩:=zi1 he
  rw [show (11-((0:Nat):Int))=11 from rfl]
  refine zw Tryz.func62 rfl rfl ?_
  repeat' (first|(apply f_wo;first|(apply f_gs;refine n_sk ?_)|(apply f_mv;first|(refine zo1 ?_ ?_<;>intro hG<;>(try cases hG))|refine zu (v:=.c _) ?_)|(apply f_as;refine zn (v:=.c _) ?_)|(apply zl3;refine zx1 ?_)|(apply f_pk;refine zn1 (v:=.c _) ?_)|refine n_bo ?_)|(apply f_w;first|refine zj ?_|refine zb ?_)|refine za fun C=>?_|refine zd ?_|refine zc1 rfl ?_)
  refine zg ?_;refine ret0 rfl za1 ⟨?_,rfl⟩;rfl
 | f+1,hf,e,he,hsz=>by
  obtain⟨k0,n0,s0,xA,xc,l,rfl,-,-,-,⟨hl,hk⟩,-⟩:=zi1 he
  simp only [E.sz,E.szL] at hsz
  have ch:=zl19 (k:=k0) (n:=n0) (s:=s0) (by omega) (l:=l) (by omega)
  have hd:headE (.agg [.int .i64 k0,.int .i64 n0,.str s0,.lst 4 40 xA xc l])=headB k0 n0 s0 l.length:=rfl
  cases hb:headB k0 n0 s0 l.length with
  | false =>
   rw [hb] at ch
   rw [show exprI (f+1) (.agg [.int .i64 k0,.int .i64 n0,.str s0,.lst 4 40 xA xc l])=101 by unfold exprI cntI;rw [hd,hb];rfl]
   refine zw Tryz.func62 rfl rfl ?_
   repeat' (first|(apply f_wo;first|(apply f_gs;refine n_sk ?_)|(apply f_mv;first|(refine zo1 ?_ ?_<;>intro hG<;>(try cases hG))|refine zu (v:=.c _) ?_)|(apply f_as;refine zn (v:=.c _) ?_)|(apply f_ld;refine zp2 ?_)|(apply f_ca;refine ze1 ch ?_)|(apply zl3;refine zx1 ?_)|(apply f_no;refine zq2 ?_)|(apply f_pk;refine zn1 (v:=.c _) ?_)|refine n_bo ?_)|(apply f_w;first|refine zj ?_|refine zb ?_)|refine za fun C=>?_|refine zd ?_|(refine zh (by rfl) ?_ ?_<;>intro hC<;>(try cases hC)))
   all_goals (refine zg ?_;refine ret0 rfl za1 ⟨?_,rfl⟩;rfl)
  | true =>
   rw [hb] at ch
   rw [show exprI (f+1) (.agg [.int .i64 k0,.int .i64 n0,.str s0,.lst 4 40 xA xc l])=gpI 100 (exprI f) l 1 by
    show cntI 100 headE partE (f+1) _=_
    unfold cntI;rw [hd,hb];rfl]
   refine zw Tryz.func62 rfl rfl ?_
   have hgg:¬(11-((f+1:Nat):Int) > 10):=by omega
   repeat' (first|(apply f_wo;first|(apply f_gs;refine n_sk ?_)|(apply f_mv;first|(refine zo1 ?_ ?_<;>intro hG<;>(try cases hG))|refine zu (v:=.c _) ?_)|(apply f_as;refine zn (v:=.c _) ?_)|(apply f_fa;refine n_fa ?_)|(apply f_ld;refine zp2 ?_)|(apply f_ca;refine ze1 ch ?_)|(apply f_bi;refine zw1 ?_)|(apply zl3;refine zx1 ?_)|(apply f_no;refine zq2 ?_)|(apply f_pk;refine zn1 (v:=.c _) ?_)|refine n_bo ?_|refine zu1 ?_)|(apply f_w;first|refine zj ?_|refine zb ?_)|refine za fun C=>?_|refine zd ?_|refine ze ?_|refine zf ?_|refine zc1 rfl ?_|refine zf1 rfl ?_)
   all_goals try (exfalso;simp only [decide_eq_true_iff] at hG;omega)
   refine zt1 (fun d:Nat×Nat=>⟨tmsF [(1,.c (.v (.int .i64 (11-((f+1:Nat):Int))))),(5,.c (.v (.int .i64 (d.2:Int)))),(16,.c (.ro l.length 4 (acL l))),(17,.c (.v (.int .i64 l.length))),(18,.c (.v (.int .i64 (d.1:Int))))],hpsF [],0,[],32⟩)
    (fun N d=>d.1+N=l.length∧d.2≤100∧gpI 100 (exprI f) l 1=gpI 100 (exprI f) (l.drop d.1) d.2) l.length (0,1) ⟨by simp,by simp,rfl⟩ ?_ ?_
   ·(refine zj1 _ _ rfl rfl ?_ ?_<;>(repeat' (first|exact TmOk.nil|exact RwOk.nil|refine TmOk.cons ?_ ?_|refine RwOk.cons ?_ ?_|rfl|(refine rnV_id' rfl ?_;exact byc)|(refine zp1 ?_;first|rfl|omega|(rw [zy (by omega) (by omega)];omega))|(refine zb1 rfl ?_;exact byc)|exact za2 rfl rfl|(refine zq1 (by rfl) (by rfl) ?_ ?_<;>exact byc)|(refine rw_rn' rfl rfl ?_;simp;done))))
   rintro N ⟨k,m⟩ ⟨hN,hm,hr⟩
   dsimp only at hN hm hr ⊢
   repeat' (first|(apply f_wo;(apply zg3;refine zr1 ?_))|(apply f_w;first|refine zj ?_|refine zb ?_)|refine za fun C=>?_|refine zd ?_)
   refine zh (by rfl) (fun h1=>?_) fun h1=>?_
   ·have hk':k<l.length:=by simpa using h1
    obtain⟨x,hx⟩:∃x,l[k]? = some x:=⟨_,List.getElem?_eq_getElem hk'⟩
    have hxz:=E.szL_mem (List.mem_of_getElem? hx)
    have hxt:=hl x (List.mem_of_getElem? hx)
    have cx:=zf10 f (by omega) x hxt (by omega)
    have cle:=exprI_le f x
    rw [zw5 hx] at hr
    rw [show (11-(f:Int))=11-((f+1:Nat):Int)+1 by omega] at cx
    have hr2:gpI 100 (exprI f) (x :: l.drop (k+1)) m=if 100<m+exprI f x then 101 else gpI 100 (exprI f) (l.drop (k+1)) (m+exprI f x):=rfl
    rw [hr2] at hr
    generalize exprI f x=c at cx cle hr
    obtain⟨y0,y1,y2,yA,yc,yl,rfl,-⟩:=zi1 hxt
    repeat' (first|(apply f_wo;first|(apply f_mv;refine zu (v:=.c _) ?_)|(apply f_as;refine zn (v:=.c _) ?_)|(apply f_ld;first|refine zy2 ?_|refine zp2 ?_)|(apply f_ca;refine ze1 cx ?_)|(apply f_st;refine n_st ?_)|(apply f_ia;refine n_ix ?_)|(apply f_geq;refine zx6 ?_)|(apply zh2;refine zg1 ?_)|refine n_al ?_)|(apply f_w;first|refine zj ?_|refine zb ?_)|refine za fun C=>?_|refine zd ?_|refine ze ?_|refine zf ?_)
    refine zh (by rfl) (fun h2=>?_) fun h2=>?_
    ·have h3:100<m+c:=by simp at h2;omega
     rw [hr,if_pos h3]
     repeat' (first|(apply f_wo;(apply f_as;refine zn (v:=.c _) ?_))|(apply f_w;first|refine zj ?_|refine zb ?_)|refine za fun C=>?_|refine zd ?_)
     refine zg ?_;refine ret0 rfl za1 ⟨?_,rfl⟩;rfl
    ·have h3:¬100<m+c:=by simp at h2;omega
     rw [if_neg h3] at hr
     repeat' (first|(apply f_wo;first|(apply f_mv;refine zu (v:=.c _) ?_)|(apply zh2;refine zg1 ?_))|(apply f_w;first|refine zj ?_|refine zb ?_)|refine za fun C=>?_|refine zf ?_)
     refine⟨N-1,(k+1,m+c),by omega,⟨by show k+1+(N-1)=l.length;omega,by show m+c≤100;omega,hr⟩,?_⟩
     (refine zj1 _ _ rfl rfl ?_ ?_<;>(repeat' (first|exact TmOk.nil|exact RwOk.nil|refine TmOk.cons ?_ ?_|refine RwOk.cons ?_ ?_|rfl|(refine rnV_id' rfl ?_;exact byc)|(refine zp1 ?_;first|rfl|omega|(rw [zy (by omega) (by omega)];omega))|(refine zb1 rfl ?_;exact byc)|exact za2 rfl rfl|(refine zq1 (by rfl) (by rfl) ?_ ?_<;>exact byc)|(refine rw_rn' rfl rfl ?_;simp;done))))
   ·have hk':¬k<l.length:=by simpa using h1
    rw [hr,List.drop_eq_nil_of_le (by omega)]
    repeat' (first|(apply f_wo;first|(apply f_mv;refine zu (v:=.c _) ?_)|(apply f_as;refine zn (v:=.c _) ?_))|(apply f_w;first|refine zj ?_|refine zb ?_)|refine za fun C=>?_|refine zd ?_|refine zt ?_)
    refine zg ?_;refine ret0 rfl za1 ⟨?_,rfl⟩;rfl
set_option maxHeartbeats 2000000 in
theorem zd14:∀(f:Nat),f≤10→∀(e:E),e.Ty Tryz.prog 40→e.sz≤1048576→Ctr Tryz.prog 49 [.ag (acE e),.c (.v (.int .i64 (11-(f:Int))))] [] (.c (.v (.int .i64 (exprS f e:Nat)))) []
 | 0,_,e,he,hsz=>by
  obtain⟨k,n,s,xA,xc,l,rfl,-⟩:=zi1 he
  rw [show (11-((0:Nat):Int))=11 from rfl]
  refine zw Tryz.func49 rfl rfl ?_
  repeat' (first|(apply f_wo;first|(apply f_mv;refine zu (v:=.c _) ?_)|(apply f_as;refine zn (v:=.c _) ?_)|(apply zl3;refine zx1 ?_)|refine n_bo ?_)|(apply f_w;first|refine zj ?_|refine zb ?_)|refine za fun C=>?_|refine zd ?_|refine zc1 rfl ?_)
  refine zg ?_;refine ret0 rfl za1 ⟨?_,rfl⟩;rfl
 | f+1,hf,e,he,hsz=>by
  obtain⟨k0,n0,s0,xA,xc,l,rfl,-,-,-,⟨hl,hk⟩,-⟩:=zi1 he
  simp only [E.sz,E.szL] at hsz
  rw [show exprS (f+1) (.agg [.int .i64 k0,.int .i64 n0,.str s0,.lst 4 40 xA xc l])=gpS 100 (exprS f) l 1 from rfl]
  refine zw Tryz.func49 rfl rfl ?_
  repeat' (first|(apply f_wo;first|(apply f_mv;refine zu (v:=.c _) ?_)|(apply f_as;refine zn (v:=.c _) ?_)|(apply zl3;refine zx1 ?_)|refine n_bo ?_)|(apply f_w;first|refine zj ?_|refine zb ?_)|refine za fun C=>?_|refine zd ?_)
  refine zh (by rfl) (fun h1=>by exfalso;simp only [decide_eq_true_iff] at h1;omega) fun h1=>?_
  repeat' (first|(apply f_wo;(apply f_as;refine zn (v:=.c _) ?_))|(apply f_w;first|refine zj ?_|refine zb ?_)|refine za fun C=>?_|refine zd ?_|refine ze ?_|refine zf ?_)
  refine zt1 (fun d:Nat×Nat=>⟨tmsF [(1,.c (.v (.int .i64 (11-((f+1:Nat):Int))))),(2,.c (.pt 2 0)),(5,.c (.v (.int .i64 (d.2:Int)))),(6,.c (.v (.int .i64 (d.1:Int))))],hpsF [(2,2,⟨40,0,0,true,[.v (.int .i64 k0),.v (.int .i64 n0),.v (.string s0),.ro l.length 4 (acL l)]⟩)],0,[2],31⟩)
   (fun N d=>d.1+N=l.length∧d.2≤2000∧gpS 100 (exprS f) l 1=gpS 100 (exprS f) (l.drop d.1) d.2) l.length (0,1) ⟨by simp,by simp,rfl⟩ ?_ ?_
  ·(refine zj1 _ _ rfl rfl ?_ ?_<;>(repeat' (first|exact TmOk.nil|exact RwOk.nil|refine TmOk.cons ?_ ?_|refine RwOk.cons ?_ ?_|rfl|(refine rnV_id' rfl ?_;exact byc)|(refine zp1 ?_;first|rfl|omega|(rw [zy (by omega) (by omega)];omega))|(refine zb1 rfl ?_;exact byc)|exact za2 rfl rfl|(refine zq1 (by rfl) (by rfl) ?_ ?_<;>exact byc)|(refine rw_rn' rfl rfl ?_;simp;done))))
  rintro N ⟨k,m⟩ ⟨hN,hm,hr⟩
  dsimp only at hN hm hr ⊢
  by_cases hk':k<l.length
  ·obtain⟨x,hx⟩:∃x,l[k]? = some x:=⟨_,List.getElem?_eq_getElem hk'⟩
   rw [zw5 hx] at hr
   by_cases hm2:m≤100
   ·have hr2:gpS 100 (exprS f) (x :: l.drop (k+1)) m=gpS 100 (exprS f) (l.drop (k+1)) (m+exprS f x):=if_pos hm2
    rw [hr2] at hr
    have hxz:=E.szL_mem (List.mem_of_getElem? hx)
    have hxt:=hl x (List.mem_of_getElem? hx)
    have cx:=zd14 f (by omega) x hxt (by omega)
    have cle:=exprS_le f x (by omega)
    rw [show (11-(f:Int))=11-((f+1:Nat):Int)+1 by omega] at cx
    generalize exprS f x=c at cx cle hr
    obtain⟨y0,y1,y2,yA,yc,yl,rfl,-⟩:=zi1 hxt
    repeat' (first|(apply f_wo;first|(apply f_gs;refine n_sk ?_)|(apply f_mv;first|(refine zo1 ?_ ?_<;>intro hG<;>(try cases hG))|refine zu (v:=.c _) ?_)|(apply f_as;refine zn (v:=.c _) ?_)|(apply f_fa;refine n_fa ?_)|(apply f_ld;refine zy2 ?_)|(apply f_ca;refine ze1 cx ?_)|(apply f_bi;refine zw1 ?_)|(apply f_ia;refine n_ix ?_)|(apply zg3;refine zr1 ?_)|(apply zd4;refine ze2 ?_)|(apply zh2;refine zg1 ?_)|(apply f_pk;refine zn1 (v:=.c _) ?_)|refine zu1 ?_)|(apply f_w;first|refine zj ?_|refine zb ?_)|refine za fun C=>?_|refine zd ?_|refine ze ?_|refine zf ?_|refine zt ?_|(refine zh (by rfl) ?_ ?_<;>intro hC<;>(try cases hC)))
    all_goals first
     | (exfalso;simp only [decide_eq_true_iff,decide_eq_false_iff_not] at *;omega)
     | (refine⟨N-1,(k+1,m+c),by omega,⟨by show k+1+(N-1)=l.length;omega,by show m+c≤2000;omega,hr⟩,?_⟩
        (refine zj1 _ _ rfl rfl ?_ ?_<;>(repeat' (first|exact TmOk.nil|exact RwOk.nil|refine TmOk.cons ?_ ?_|refine RwOk.cons ?_ ?_|rfl|(refine rnV_id' rfl ?_;exact byc)|(refine zp1 ?_;first|rfl|omega|(rw [zy (by omega) (by omega)];omega))|(refine zb1 rfl ?_;exact byc)|exact za2 rfl rfl|(refine zq1 (by rfl) (by rfl) ?_ ?_<;>exact byc)|(refine rw_rn' rfl rfl ?_;simp;done)))))
   ·have hr2:gpS 100 (exprS f) (x :: l.drop (k+1)) m=m:=if_neg hm2
    rw [hr,hr2]
    repeat' (first|(apply f_wo;first|(apply f_gs;refine n_sk ?_)|(apply f_mv;first|(refine zo1 ?_ ?_<;>intro hG<;>(try cases hG))|refine zu (v:=.c _) ?_)|(apply f_as;refine zn (v:=.c _) ?_)|(apply f_fa;refine n_fa ?_)|(apply f_bi;refine zw1 ?_)|(apply f_ia;refine n_ix ?_)|(apply zg3;refine zr1 ?_)|(apply zd4;refine ze2 ?_)|(apply f_pk;refine zn1 (v:=.c _) ?_)|refine zu1 ?_)|(apply f_w;first|refine zj ?_|refine zb ?_)|refine za fun C=>?_|refine zd ?_|refine ze ?_|refine zf ?_|refine zt ?_|(refine zh (by rfl) ?_ ?_<;>intro hC<;>(try cases hC)))
    all_goals first
     | (exfalso;simp only [decide_eq_true_iff,decide_eq_false_iff_not] at *;omega)
     | (refine zg ?_;refine ret0 rfl za1 ⟨?_,rfl⟩;rfl)
  ·rw [hr,List.drop_eq_nil_of_le (by omega)]
   repeat' (first|(apply f_wo;first|(apply f_gs;refine n_sk ?_)|(apply f_mv;first|(refine zo1 ?_ ?_<;>intro hG<;>(try cases hG))|refine zu (v:=.c _) ?_)|(apply f_as;refine zn (v:=.c _) ?_)|(apply f_fa;refine n_fa ?_)|(apply f_bi;refine zw1 ?_)|(apply zg3;refine zr1 ?_)|(apply zd4;refine ze2 ?_)|(apply f_pk;refine zn1 (v:=.c _) ?_)|refine zu1 ?_)|(apply f_w;first|refine zj ?_|refine zb ?_)|refine za fun C=>?_|refine zd ?_|refine ze ?_|refine zf ?_|refine zt ?_|(refine zh (by rfl) ?_ ?_<;>intro hC<;>(try cases hC)))
   all_goals first
    | (exfalso;simp only [decide_eq_true_iff,decide_eq_false_iff_not] at *;omega)
    | (refine zg ?_;refine ret0 rfl za1 ⟨?_,rfl⟩;rfl)
set_option maxHeartbeats 2000000 in
theorem l8Ok_n:∀(n:Nat) (e:E),e.Ty Tryz.prog 40→e.sz<n→n≤1048577→Ctr Tryz.prog 50 [.ag (acE e)] [] (.c (.v (.bool (okX e)))) []
 | 0,_,_,h,_=>absurd h (Nat.not_lt_zero _)
 | n+1,e,he,hsz,hn=>by
  obtain⟨k0,n0,s0,xA,xc,l,rfl,-,-,-,⟨hl,hk⟩,-⟩:=zi1 he
  simp only [E.sz,E.szL] at hsz
  have ch:=l8Here_c (k:=k0) (n:=n0) (s:=s0) (by omega) (l:=l) (by omega)
  have ek:okX (.agg [.int .i64 k0,.int .i64 n0,.str s0,.lst 4 40 xA xc l])=(l.all okX&&headB k0 n0 s0 l.length):=zv11 zo17 _
  rw [ek]
  refine zw Tryz.func50 rfl rfl ?_
  repeat' (first|(apply f_wo;first|(apply f_as;refine zn (v:=.c _) ?_)|refine n_bo ?_)|(apply f_w;first|refine zj ?_|refine zb ?_)|refine za fun C=>?_|refine zd ?_|refine ze ?_)
  refine zt1 (fun k:Nat=>⟨tmsF [(1,.c (.pt 1 0)),(3,.c (.v (.int .i64 (k:Int))))],hpsF [(1,1,⟨40,0,0,true,[.v (.int .i64 k0),.v (.int .i64 n0),.v (.string s0),.ro l.length 4 (acL l)]⟩)],0,[1],20⟩)
   (fun N k=>k+N=l.length∧∀j y,j<k→l[j]? = some y→okX y=true) l.length 0 ⟨by omega,fun j y hj=>absurd hj (Nat.not_lt_zero j)⟩ ?_ ?_
  ·(refine zj1 _ _ rfl rfl ?_ ?_<;>(repeat' (first|exact TmOk.nil|exact RwOk.nil|refine TmOk.cons ?_ ?_|refine RwOk.cons ?_ ?_|rfl|(refine rnV_id' rfl ?_;exact byc)|(refine zp1 ?_;first|rfl|omega|(rw [zy (by omega) (by omega)];omega))|(refine zb1 rfl ?_;exact byc)|exact za2 rfl rfl|(refine zq1 (by rfl) (by rfl) ?_ ?_<;>exact byc)|(refine rw_rn' rfl rfl ?_;simp;done))))
  rintro N k ⟨hN,hr⟩
  try dsimp only
  repeat' (first|(apply f_wo;first|(apply f_mv;refine zu (v:=.c _) ?_)|(apply f_fa;refine n_fa ?_)|(apply f_bi;refine zw1 ?_)|(apply zg3;refine zr1 ?_)|refine zu1 ?_)|(apply f_w;first|refine zj ?_|refine zb ?_)|refine za fun C=>?_|refine zd ?_)
  refine zh (by rfl) (fun h1=>?_) fun h1=>?_
  ·have hk':k<l.length:=by simpa using h1
   obtain⟨x,hx⟩:∃x,l[k]? = some x:=⟨_,List.getElem?_eq_getElem hk'⟩
   have hxz:=E.szL_mem (List.mem_of_getElem? hx)
   have hxt:=hl x (List.mem_of_getElem? hx)
   have cx:=l8Ok_n n x hxt (by omega) (by omega)
   cases hb:okX x with
   | false =>
    have e0:l.all okX=false:=by
     cases ha:l.all okX with
     | false=>rfl
     | true=>rw [List.all_eq_true.1 ha x (List.mem_of_getElem? hx)] at hb;cases hb
    rw [hb] at cx
    rw [e0]
    obtain⟨y0,y1,y2,yA,yc,yl,rfl,-⟩:=zi1 hxt
    repeat' (first|(apply f_wo;first|(apply f_mv;refine zu (v:=.c _) ?_)|(apply f_as;refine zn (v:=.c _) ?_)|(apply f_fa;refine n_fa ?_)|(apply f_ld;refine zy2 ?_)|(apply f_ca;refine ze1 cx ?_)|(apply f_ia;refine n_ix ?_)|(apply f_no;refine zq2 ?_)|refine zu1 ?_)|(apply f_w;first|refine zj ?_|refine zb ?_)|refine za fun C=>?_|refine zd ?_|refine ze ?_|refine zf ?_|refine zc1 rfl ?_)
    refine zg ?_;refine ret0 rfl za1 ⟨?_,rfl⟩;rfl
   | true =>
    have hb':=hb
    rw [hb] at cx
    obtain⟨y0,y1,y2,yA,yc,yl,rfl,-⟩:=zi1 hxt
    repeat' (first|(apply f_wo;first|(apply f_mv;refine zu (v:=.c _) ?_)|(apply f_as;refine zn (v:=.c _) ?_)|(apply f_fa;refine n_fa ?_)|(apply f_ld;refine zy2 ?_)|(apply f_ca;refine ze1 cx ?_)|(apply f_ia;refine n_ix ?_)|(apply zh2;refine zg1 ?_)|(apply f_no;refine zq2 ?_)|refine zu1 ?_)|(apply f_w;first|refine zj ?_|refine zb ?_)|refine za fun C=>?_|refine zd ?_|refine ze ?_|refine zf ?_|refine zf1 rfl ?_)
    refine⟨N-1,k+1,by omega,⟨by omega,fun j y hj hy=>?_⟩,?_⟩
    ·by_cases e:j=k
     ·rw [e,hx] at hy;injection hy with hy;subst hy;exact hb'
     ·exact hr j y (by omega) hy
    ·(refine zj1 _ _ rfl rfl ?_ ?_<;>(repeat' (first|exact TmOk.nil|exact RwOk.nil|refine TmOk.cons ?_ ?_|refine RwOk.cons ?_ ?_|rfl|(refine rnV_id' rfl ?_;exact byc)|(refine zp1 ?_;first|rfl|omega|(rw [zy (by omega) (by omega)];omega))|(refine zb1 rfl ?_;exact byc)|exact za2 rfl rfl|(refine zq1 (by rfl) (by rfl) ?_ ?_<;>exact byc)|(refine rw_rn' rfl rfl ?_;simp;done))))
  ·have hk':¬k<l.length:=by simpa using h1
   have e0:l.all okX=true:=List.all_eq_true.2 fun y hy=>by
    obtain⟨j,hj⟩:=List.getElem?_of_mem hy
    have:=(List.getElem?_eq_some_iff.1 hj).1
    exact hr j y (by omega) hj
   rw [e0]
   repeat' (first|(apply f_wo;first|(apply f_as;refine zn (v:=.c _) ?_)|(apply f_ld;refine zp2 ?_)|(apply f_ca;refine ze1 ch ?_))|(apply f_w;first|refine zj ?_|refine zb ?_)|refine za fun C=>?_|refine zd ?_|refine zt ?_)
   refine zg ?_;refine ret0 rfl za1 ⟨?_,rfl⟩;rfl
theorem zn8 {e:E}(he:e.Ty Tryz.prog 40)(hsz:e.sz≤1048576):Ctr Tryz.prog 38 [.ag (acE e)] [] (.c (.v (.bool (exprB e)))) []:=by
 have c1:=zf10 10 (by omega) e he hsz
 rw [exprB_I,show (11-((10:Nat):Int))=1 from rfl] at *
 rw [show decide (exprI 10 e≤100)=decide ((exprI 10 e:Int)≤100) from decide_eq_decide.2 (by omega)]
 generalize exprI 10 e=c at c1 ⊢
 obtain⟨k0,n0,s0,xA,xc,l,rfl,-⟩:=zi1 he
 refine zw Tryz.func38 rfl rfl ?_
 repeat' (first|(apply f_wo;first|(apply f_as;refine zn (v:=.c _) ?_)|(apply f_ld;refine zp2 ?_)|(apply f_ca;refine ze1 c1 ?_)|(apply zd4;refine ze2 ?_)|refine n_bo ?_)|(apply f_w;first|refine zj ?_|refine zb ?_)|refine za fun C=>?_|refine zd ?_)
 refine zg ?_;refine ret0 rfl za1 ⟨?_,rfl⟩;rfl
theorem zo8 {e:E}(he:e.Ty Tryz.prog 40)(hsz:e.sz≤1048576):Ctr Tryz.prog 28 [.ag (acE e)] [] (.c (.v (.bool (exprB e)))) []:=by
 have c1:=zd14 10 (by omega) e he hsz
 have c2:=l8Ok_n (e.sz+1) e he (by omega) (by omega)
 rw [show (11-((10:Nat):Int))=1 from rfl] at c1
 unfold exprB
 generalize exprS 10 e=c at c1 ⊢
 generalize okX e=b at c2 ⊢
 obtain⟨k0,n0,s0,xA,xc,l,rfl,-⟩:=zi1 he
 by_cases hc:c≤100
 ·rw [show decide (c≤100)=true from decide_eq_true hc,Bool.true_and]
  refine zw Tryz.func28 rfl rfl ?_
  repeat' (first|(apply f_wo;first|(apply f_gs;refine n_sk ?_)|(apply f_mv;(refine zo1 ?_ ?_<;>intro hG<;>(try cases hG)))|(apply f_as;refine zn (v:=.c _) ?_)|(apply f_ld;refine zp2 ?_)|(apply f_ca;first|refine ze1 c1 ?_|refine ze1 c2 ?_)|(apply zd4;refine ze2 ?_)|(apply f_pk;refine zn1 (v:=.c _) ?_)|refine n_bo ?_)|(apply f_w;first|refine zj ?_|refine zb ?_)|refine za fun C=>?_|refine zd ?_)
  all_goals first
   | (exfalso;simp only [decide_eq_true_iff,decide_eq_false_iff_not] at *;omega)
   | (refine zg ?_;refine ret0 rfl za1 ⟨?_,rfl⟩;rfl)
 ·rw [show decide (c≤100)=false from decide_eq_false hc,Bool.false_and]
  refine zw Tryz.func28 rfl rfl ?_
  repeat' (first|(apply f_wo;first|(apply f_gs;refine n_sk ?_)|(apply f_mv;(refine zo1 ?_ ?_<;>intro hG<;>(try cases hG)))|(apply f_as;refine zn (v:=.c _) ?_)|(apply f_ld;refine zp2 ?_)|(apply f_ca;first|refine ze1 c1 ?_|refine ze1 c2 ?_)|(apply zd4;refine ze2 ?_)|(apply f_pk;refine zn1 (v:=.c _) ?_)|refine n_bo ?_)|(apply f_w;first|refine zj ?_|refine zb ?_)|refine za fun C=>?_|refine zd ?_)
  all_goals first
   | (exfalso;simp only [decide_eq_true_iff,decide_eq_false_iff_not] at *;omega)
   | (refine zg ?_;refine ret0 rfl za1 ⟨?_,rfl⟩;rfl)
end Go.Proofs.YtchffnmegikgoaaGreat
