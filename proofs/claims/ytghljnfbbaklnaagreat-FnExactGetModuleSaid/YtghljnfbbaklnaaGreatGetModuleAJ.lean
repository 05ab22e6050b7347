/- GetModule of the program: the walk. -/
import Derived.Test.YtghljnfbbaklnaaGreatGetModuleAI
-- BIT
-- MVP
namespace Go.Proofs.YtghljnfbbaklnaaGreat
open Go.RowKit
set_option maxRecDepth 100000
theorem zr14 {f:Int→E×RS}{L:List E}{S:RS}(m:Nat)(X:List E)(q:RS)(hm:m=0∨q.2=true)(h:X++(rdL f m q).1=L∧(rdL f m q).2=S):X=L∧q=S:=by
 obtain⟨e1,e2⟩:=h
 rw [zx6 hm] at e1 e2
 exact⟨by rw [←e1];simp,e2⟩
set_option maxHeartbeats 16000000 in
theorem zs11 {bs:List UInt8}(hn:bs.length≤1048576):Ctr Tryz.prog 24 [.c (.ro bs.length 1 (acL (bI bs)))] [] (.tu [.ag (owE (getM false bs).1),.c (.v (.bool (getM false bs).2))]) []:=by
 have hn':bs.length≤1073741824:=by omega
 have c0:=zo4 (bs:=bs) (s:=(0,false)) (by decide) (by show (0:Int)≤_;omega) hn'
 have cA:=zo4 (s:=gm1 bs) zc6.1 zc6.2 hn'
 have cB:=zo4 (s:=(gmA false bs).2) (zn4 false hn').1.1 (zn4 false hn').1.2 hn'
 have cX:=zo4 (s:=(gmB false bs).2) (zl5 false hn').1.1 (zl5 false hn').1.2 hn'
 have cY:=zo4 (s:=(gmX false bs).2) (zm5 false hn').2.1 (zm5 false hn').2.2.1 hn'
 have cC:=zo4 (s:=(gmY false bs).2) (zz3 false hn').2.1 (zz3 false hn').2.2.1 hn'
 obtain⟨⟨u0,u1⟩,u2,u3,-⟩:=zl3 (bs:=bs) (s:=gm1 bs) zc6.1 zc6.2
 obtain⟨⟨v0,v1⟩,v2,v3,-⟩:=zl3 (s:=(gmA false bs).2) (zn4 false hn').1.1 (zn4 false hn').1.2
 obtain⟨⟨g0,g1⟩,g2,g3,-⟩:=zl3 (s:=(gmY false bs).2) (zz3 false hn').2.1 (zz3 false hn').2.2.1
 have cM:=fun (h:(gmC false bs).2.2=false)=>zh12 (za20 false hn') (by have:=gmE_sz false hn' h;omega)
 rw [show numR bs (gmB false bs).2=gmX false bs from rfl] at cX
 rw [show numR bs (gmX false bs).2=gmY false bs from rfl] at cY
 obtain⟨⟨n97,a97,b97⟩,h97⟩:∃r,numR bs (0,false)=r:=⟨_,rfl⟩
 have hg1:gm1 bs=(a97,n97 != 97):=by unfold gm1;rw [h97]
 rw [h97] at c0
 rw [hg1] at cA u0 u1 u2 u3
 obtain⟨⟨k0,r0,t0⟩,hrA⟩:∃r,numR bs (a97,n97 != 97)=r:=⟨_,rfl⟩
 have hA0:gmA false bs=rdL (fV bs) k0.toNat (r0,t0):=by unfold gmA rdN capS;rw [hg1,hrA];dsimp only;rw [Bool.false_and,Bool.or_false]
 rw [hrA] at cA u0 u1 u2 u3
 obtain⟨⟨l0,aA,bA⟩,hA⟩:∃r,gmA false bs=r:=⟨_,rfl⟩
 rw [hA] at cB v0 v1 v2 v3
 obtain⟨⟨k1,r1,t1⟩,hrB⟩:∃r,numR bs (aA,bA)=r:=⟨_,rfl⟩
 have hB0:gmB false bs=rdL (fT bs) k1.toNat (r1,t1):=by unfold gmB rdN capS;rw [hA,hrB];dsimp only;rw [Bool.false_and,Bool.or_false]
 rw [hrB] at cB v0 v1 v2 v3
 obtain⟨⟨l1,aB,bB⟩,hB⟩:∃r,gmB false bs=r:=⟨_,rfl⟩
 rw [hB] at cX
 obtain⟨⟨x2,aX,bX⟩,hX⟩:∃r,gmX false bs=r:=⟨_,rfl⟩
 rw [hX] at cX cY
 obtain⟨⟨x3,aY,bY⟩,hY⟩:∃r,gmY false bs=r:=⟨_,rfl⟩
 rw [hY] at cY cC g0 g1 g2 g3
 obtain⟨⟨k4,r4,t4⟩,hr⟩:∃r,numR bs (aY,bY)=r:=⟨_,rfl⟩
 have hC0:gmC false bs=rdL (fF false bs) k4.toNat (r4,t4):=by unfold gmC rdN capS;rw [hY,hr];dsimp only;rw [Bool.false_and,Bool.or_false]
 rw [hr] at cC g0 g1 g2 g3
 obtain⟨⟨L,S⟩,hC⟩:∃r,gmC false bs=r:=⟨_,rfl⟩
 dsimp only at c0 cA cB cX cY cC g0 g1 g2 g3 u0 u1 u2 u3 v0 v1 v2 v3
 obtain⟨n0,rfl⟩:∃n:Nat,k0=(n:Int):=⟨k0.toNat,by omega⟩
 obtain⟨n1,rfl⟩:∃n:Nat,k1=(n:Int):=⟨k1.toNat,by omega⟩
 obtain⟨n4,rfl⟩:∃n:Nat,k4=(n:Int):=⟨k4.toNat,by omega⟩
 rw [Int.toNat_natCast] at hA0 hB0 hC0
 have hE:gmE false bs=mE l0 l1 x2 x3 L:=by unfold gmE;rw [hA,hB,hX,hY,hC]
 unfold getM gmOk
 rw [hC,hE] at cM ⊢
 rw [hA] at hA0
 rw [hB] at hB0
 rw [hC] at hC0
 dsimp only at cM ⊢
 clear h97 hg1 hA hB hX hY hr hC hE hrA hrB
 obtain⟨R,hR⟩:∃R,(if (!S.2&&(S.1==(bs.length:Int)&&modOkE (mE l0 l1 x2 x3 L)))=true then (mE l0 l1 x2 x3 L,true) else (zeroM,false))=R:=⟨_,rfl⟩
 rw [hR]
 refine zi1 Tryz.func24 rfl rfl ?_
 unfold rdrM at c0 cA cB cX cY cC
 dsimp only at c0 cA cB cX cY cC
 repeat' (first|(apply f_wo;first|(apply f_mv;refine zt (v:=.c _) ?_)|(apply f_as;refine zu (v:=.c _) ?_)|(apply f_fa;refine n_fa ?_)|(apply f_ca;first|refine zy1 18 (c0) ?_ (hl:=zq4 (by rfl) zj2)|refine zy1 18 (cA) ?_ (hl:=zq4 (by rfl) zj2))|(apply f_st;refine n_st ?_)|(apply zh4;refine zs2 ?_)|refine n_al ?_|refine n_bo ?_|refine zh1 ?_)|(apply f_w;first|refine zo ?_|refine zc ?_)|refine za fun C=>?_|refine zu6 ?_)
 refine zw9 ⟨tmsF [(0,.c (.ro bs.length 1 (acL (bI bs)))),(2,.c (.pt 2 0)),(4,.c (.pt 18 0)),(5,.c (.pt 5 0))],hpsF [(2,2,⟨33,0,0,true,[.v (.slice none 0 0),.v (.slice none 0 0),.v (.int .i64 0),.v (.int .i64 0),.v (.slice none 0 0)]⟩),(18,18,⟨135,0,0,true,[.ro bs.length 1 (acL (bI bs)),.v (.int .i64 aA),.v (.bool bA)]⟩),(5,5,⟨33,0,0,true,[.sl 990 l0.length,.v (.slice none 0 0),.v (.int .i64 0),.v (.int .i64 0),.v (.slice none 0 0)]⟩),(990,990,⟨75,3,l0.length,false,owL l0⟩)],0,[2,18,5,990],156⟩ ?_ ?_
 ·repeat' (first|(apply f_wo;(apply f_as;refine zu (v:=.c _) ?_))|(apply f_w;first|refine zo ?_|refine zc ?_)|refine za fun C=>?_|refine zd ?_|refine zg ?_)
  refine zt1 (fun d:Nat×List E×RS=>⟨tmsF [(0,.c (.ro bs.length 1 (acL (bI bs)))),(2,.c (.pt 2 0)),(4,.c (.pt 18 0)),(5,.c (.pt 5 0)),(6,.c (.v (.int .i64 (n0:Int)))),(7,.c (.v (.int .i64 (d.1:Int))))],hpsF [(2,2,⟨33,0,0,true,[.v (.slice none 0 0),.v (.slice none 0 0),.v (.int .i64 0),.v (.int .i64 0),.v (.slice none 0 0)]⟩),(18,18,⟨135,0,0,true,[.ro bs.length 1 (acL (bI bs)),.v (.int .i64 d.2.2.1),.v (.bool d.2.2.2)]⟩),(5,5,⟨33,0,0,true,[.sl 990 d.2.1.length,.v (.slice none 0 0),.v (.int .i64 0),.v (.int .i64 0),.v (.slice none 0 0)]⟩),(990,990,⟨75,3,d.2.1.length,false,owL d.2.1⟩)],0,[2,18,5,990],156⟩)
   (fun N d=>(d.2.1++(rdL (fV bs) N d.2.2).1=l0∧(rdL (fV bs) N d.2.2).2=(aA,bA))∧(d.1+N=n0∧d.2.1.length≤d.1)∧0≤d.2.2.1∧d.2.2.1≤bs.length) n0 (0,[],(r0,t0)) ⟨⟨by rw [←hA0];rfl,by rw [←hA0]⟩,⟨by dsimp only;omega,Nat.le_refl _⟩,u2,u3⟩ ?_ ?_
  ·refine (zb3 990 (i:=5) 75 3 rfl rfl (pre:=[]) (post:=[_,_,_,_]) rfl).trans ?_
   (refine zk1 _ _ rfl rfl ?_ ?_<;>(repeat' (first|exact TmOk.nil|exact RwOk.nil|refine TmOk.cons ?_ ?_|refine RwOk.cons ?_ ?_|rfl|exact zv rfl (by assumption)|exact zv rfl (zw1 _)|(refine rnV_id' rfl ?_;exact byc)|(refine zo1 ?_;first|rfl|omega|(rw [za1 (by omega) (by omega)];omega))|(refine zv rfl ?_;exact byc)|exact zg2 rfl rfl|(refine zp1 (by rfl) (by rfl) ?_ ?_<;>exact byc)|(refine rw_rn' rfl rfl ?_;simp;done))))
  ·rintro N ⟨i,X,q,qb⟩ ⟨⟨e1,e2⟩,⟨hi,hX⟩,q0,q1⟩
   dsimp only at e1 e2 hi hX q0 q1 ⊢
   clear c0 cA cB cX cY cC cM hR hA0 hB0 hC0
   by_cases hstop:N=0∨qb=true
   ·obtain⟨rfl,hS⟩:=zr14 N X (q,qb) hstop ⟨e1,e2⟩
    clear e1 e2
    obtain⟨rfl,rfl⟩:q=aA∧qb=bA:=by cases hS;exact⟨rfl,rfl⟩
    clear hS
    cases qb<;>repeat' (first|(apply f_wo;first|(apply f_gs;refine n_sk ?_)|(apply f_mv;first|(refine zs1 ?_ ?_<;>intro hG<;>(try cases hG))|refine zt (v:=.c _) ?_)|(apply f_fa;refine n_fa ?_)|(apply f_ld;refine zn1 ?_)|(apply zw2;refine zf1 ?_)|(apply f_no;refine za2 ?_)|(apply f_pk;refine zr1 (v:=.c _) ?_)|refine zh1 ?_)|(apply f_w;first|refine zo ?_|refine zc ?_)|(apply d_wo;first|(apply d_mv;refine zx3 (.c _) ?_)|(apply d_fa;refine o_fa ?_)|(apply d_ld;refine zn3 ?_)|refine zf2 ?_)|(apply d_w;refine zo ?_)|refine za fun C=>?_|refine zp (by kernel_rfl) (by kernel_rfl) fun C=>?_|refine zd ?_|refine zg ?_|refine zk ?_|refine zw ?_|refine zq rfl ?_|refine zr rfl ?_)
    all_goals first
     | (exfalso;simp_all;done)
     | (exfalso;simp only [decide_eq_true_iff,decide_eq_false_iff_not] at *;omega)
     | (show Gh _ _
        (refine zk1 _ _ rfl rfl ?_ ?_<;>(repeat' (first|exact TmOk.nil|exact RwOk.nil|refine TmOk.cons ?_ ?_|refine RwOk.cons ?_ ?_|rfl|exact zv rfl (by assumption)|exact zv rfl (zw1 _)|(refine rnV_id' rfl ?_;exact byc)|(refine zo1 ?_;first|rfl|omega|(rw [za1 (by omega) (by omega)];omega))|(refine zv rfl ?_;exact byc)|exact zg2 rfl rfl|(refine zp1 (by rfl) (by rfl) ?_ ?_<;>exact byc)|(refine rw_rn' rfl rfl ?_;simp;done)))))
   ·obtain⟨M,rfl⟩:∃M,N=M+1:=⟨N-1,by omega⟩
    obtain rfl:qb=false:=by cases qb with|false=>rfl|true=>exact absurd (.inr rfl) hstop
    rw [zk5] at e1 e2
    dsimp only at e1 e2
    obtain⟨⟨p0,p1⟩,-,-⟩:=zd18 hn' q q0 q1
    have c2:=zo16 (bs:=bs) q (by omega) hn'
    obtain⟨⟨gk,gn,gs,gp,go⟩,hg⟩:∃g,getV bs q=g:=⟨_,rfl⟩
    have hfV:fV bs q=(E.agg [.int .i64 gk,.int .i64 gn,.str gs],(gp,!go)):=by unfold fV;rw [hg]
    rw [hfV] at e1 e2 p0 p1
    rw [hg] at c2
    unfold gvR at c2
    dsimp only at c2 e1 e2 p0 p1
    clear hg hfV
    repeat' (first|(apply f_wo;first|(apply f_gs;refine n_sk ?_)|(apply f_mv;first|(refine zs1 ?_ ?_<;>intro hG<;>(try cases hG))|refine zt (v:=.c _) ?_)|(apply f_as;refine zu (v:=.c _) ?_)|(apply f_fa;refine n_fa ?_)|(apply f_ld;first|refine zn1 ?_|refine zq2 ?_)|(apply f_bi;refine zi6 ?_)|(apply f_st;refine n_st ?_)|(apply zw2;refine zf1 ?_)|(apply zb2;refine zx ?_)|(apply f_no;refine za2 ?_)|(apply f_pk;refine zr1 (v:=.c _) ?_)|refine n_bs ?_|refine zh1 ?_)|(apply f_w;first|refine zo ?_|refine zc ?_)|(apply d_wo;first|(apply d_mv;first|refine zx3 (.c _) ?_|refine zx3 (.tu _) ?_)|(apply d_as;refine zp9 (.c (.v _)) ?_)|(apply d_fa;refine o_fa ?_)|(apply d_ld;refine zn3 ?_)|(apply d_ca;refine zu5 c2 ?_)|(apply d_st;refine o_st ?_)|refine o_al ?_|refine zf2 ?_)|(apply d_w;first|refine zo ?_|refine zc ?_)|refine za fun C=>?_|refine zp (by kernel_rfl) (by kernel_rfl) fun C=>?_|refine zd ?_|refine zg ?_|refine zk ?_|refine zw ?_|refine zq rfl ?_|refine zr rfl ?_)
    all_goals first
     | (exfalso;clear e1 e2 c2;simp only [decide_eq_true_iff,decide_eq_false_iff_not] at *;omega)
     | skip
    refine⟨M,(i+1,X++[E.agg [.int .i64 gk,.int .i64 gn,.str gs]],(gp,!go)),by omega,⟨⟨by rw [←e1];simp,e2⟩,⟨by dsimp only;omega,by dsimp only;rw [List.length_append,List.length_singleton];omega⟩,p0,p1⟩,?_⟩
    dsimp only
    rw [List.length_append,List.length_singleton]
    (refine zf4 (fun j=>if j=990 then 65 else j) _ _ rfl rfl ?_ ?_<;>(repeat' (first|exact TmOk.nil|exact RwOk.nil|refine TmOk.cons ?_ ?_|refine RwOk.cons ?_ ?_|rfl|exact zv rfl (by assumption)|exact zv rfl (zw1 _)|(refine rnV_id' rfl ?_;exact byc)|(refine zo1 ?_;first|rfl|omega|(rw [za1 (by omega) (by omega)];omega))|(refine zv rfl ?_;exact byc)|exact zg2 rfl rfl|(refine zp1 (by rfl) (by rfl) ?_ ?_<;>exact byc)|(refine rw_rn' rfl rfl ?_;simp;done))))
    exact zd7 (r:=⟨75,3,X.length+1,false,owL X++[.v (.int .i64 gk),.v (.int .i64 gn),.v (.string gs)]⟩) rfl (by rw [zj5];rfl) (zf _)
 clear hA0 c0 cA
 repeat' (first|(apply f_wo;first|(apply f_mv;refine zt (v:=.c _) ?_)|(apply f_as;refine zu (v:=.c _) ?_)|(apply f_ca;refine zy1 18 (cB) ?_ (hl:=zq4 (by rfl) zj2)))|(apply f_w;first|refine zo ?_|refine zc ?_)|refine za fun C=>?_|refine zu6 ?_)
 refine zw9 ⟨tmsF [(0,.c (.ro bs.length 1 (acL (bI bs)))),(2,.c (.pt 2 0)),(4,.c (.pt 18 0)),(5,.c (.pt 5 0))],hpsF [(2,2,⟨33,0,0,true,[.v (.slice none 0 0),.v (.slice none 0 0),.v (.int .i64 0),.v (.int .i64 0),.v (.slice none 0 0)]⟩),(18,18,⟨135,0,0,true,[.ro bs.length 1 (acL (bI bs)),.v (.int .i64 aB),.v (.bool bB)]⟩),(5,5,⟨33,0,0,true,[.sl 990 l0.length,.sl 991 l1.length,.v (.int .i64 0),.v (.int .i64 0),.v (.slice none 0 0)]⟩),(990,990,⟨75,3,l0.length,false,owL l0⟩),(991,991,⟨9,1,l1.length,false,owL l1⟩)],0,[2,18,5,990,991],156⟩ ?_ ?_
 ·repeat' (first|(apply f_wo;(apply f_as;refine zu (v:=.c _) ?_))|(apply f_w;first|refine zo ?_|refine zc ?_)|refine za fun C=>?_|refine zd ?_|refine zg ?_)
  refine zt1 (fun d:Nat×List E×RS=>⟨tmsF [(0,.c (.ro bs.length 1 (acL (bI bs)))),(2,.c (.pt 2 0)),(4,.c (.pt 18 0)),(5,.c (.pt 5 0)),(6,.c (.v (.int .i64 (n1:Int)))),(11,.c (.v (.int .i64 (d.1:Int))))],hpsF [(2,2,⟨33,0,0,true,[.v (.slice none 0 0),.v (.slice none 0 0),.v (.int .i64 0),.v (.int .i64 0),.v (.slice none 0 0)]⟩),(18,18,⟨135,0,0,true,[.ro bs.length 1 (acL (bI bs)),.v (.int .i64 d.2.2.1),.v (.bool d.2.2.2)]⟩),(5,5,⟨33,0,0,true,[.sl 990 l0.length,.sl 991 d.2.1.length,.v (.int .i64 0),.v (.int .i64 0),.v (.slice none 0 0)]⟩),(990,990,⟨75,3,l0.length,false,owL l0⟩),(991,991,⟨9,1,d.2.1.length,false,owL d.2.1⟩)],0,[2,18,5,990,991],156⟩)
   (fun N d=>(d.2.1++(rdL (fT bs) N d.2.2).1=l1∧(rdL (fT bs) N d.2.2).2=(aB,bB))∧(d.1+N=n1∧d.2.1.length≤d.1)∧0≤d.2.2.1∧d.2.2.1≤bs.length) n1 (0,[],(r1,t1)) ⟨⟨by rw [←hB0];rfl,by rw [←hB0]⟩,⟨by dsimp only;omega,Nat.le_refl _⟩,v2,v3⟩ ?_ ?_
  ·refine (zb3 991 (i:=5) 9 1 rfl rfl (pre:=[_]) (post:=[_,_,_]) rfl).trans ?_
   (refine zk1 _ _ rfl rfl ?_ ?_<;>(repeat' (first|exact TmOk.nil|exact RwOk.nil|refine TmOk.cons ?_ ?_|refine RwOk.cons ?_ ?_|rfl|exact zv rfl (by assumption)|exact zv rfl (zw1 _)|(refine rnV_id' rfl ?_;exact byc)|(refine zo1 ?_;first|rfl|omega|(rw [za1 (by omega) (by omega)];omega))|(refine zv rfl ?_;exact byc)|exact zg2 rfl rfl|(refine zp1 (by rfl) (by rfl) ?_ ?_<;>exact byc)|(refine rw_rn' rfl rfl ?_;simp;done))))
  ·rintro N ⟨i,X,q,qb⟩ ⟨⟨e1,e2⟩,⟨hi,hX⟩,q0,q1⟩
   dsimp only at e1 e2 hi hX q0 q1 ⊢
   clear cB cX cY cC cM hR hB0 hC0
   by_cases hstop:N=0∨qb=true
   ·obtain⟨rfl,hS⟩:=zr14 N X (q,qb) hstop ⟨e1,e2⟩
    clear e1 e2
    obtain⟨rfl,rfl⟩:q=aB∧qb=bB:=by cases hS;exact⟨rfl,rfl⟩
    clear hS
    cases qb<;>repeat' (first|(apply f_wo;first|(apply f_gs;refine n_sk ?_)|(apply f_mv;first|(refine zs1 ?_ ?_<;>intro hG<;>(try cases hG))|refine zt (v:=.c _) ?_)|(apply f_fa;refine n_fa ?_)|(apply f_ld;refine zn1 ?_)|(apply zw2;refine zf1 ?_)|(apply f_no;refine za2 ?_)|(apply f_pk;refine zr1 (v:=.c _) ?_)|refine zh1 ?_)|(apply f_w;first|refine zo ?_|refine zc ?_)|(apply d_wo;first|(apply d_mv;refine zx3 (.c _) ?_)|(apply d_fa;refine o_fa ?_)|(apply d_ld;refine zn3 ?_)|refine zf2 ?_)|(apply d_w;refine zo ?_)|refine za fun C=>?_|refine zp (by kernel_rfl) (by kernel_rfl) fun C=>?_|refine zd ?_|refine zg ?_|refine zk ?_|refine zw ?_|refine zq rfl ?_|refine zr rfl ?_)
    all_goals first
     | (exfalso;simp_all;done)
     | (exfalso;simp only [decide_eq_true_iff,decide_eq_false_iff_not] at *;omega)
     | (show Gh _ _
        (refine zk1 _ _ rfl rfl ?_ ?_<;>(repeat' (first|exact TmOk.nil|exact RwOk.nil|refine TmOk.cons ?_ ?_|refine RwOk.cons ?_ ?_|rfl|exact zv rfl (by assumption)|exact zv rfl (zw1 _)|(refine rnV_id' rfl ?_;exact byc)|(refine zo1 ?_;first|rfl|omega|(rw [za1 (by omega) (by omega)];omega))|(refine zv rfl ?_;exact byc)|exact zg2 rfl rfl|(refine zp1 (by rfl) (by rfl) ?_ ?_<;>exact byc)|(refine rw_rn' rfl rfl ?_;simp;done)))))
   ·obtain⟨M,rfl⟩:∃M,N=M+1:=⟨N-1,by omega⟩
    obtain rfl:qb=false:=by cases qb with|false=>rfl|true=>exact absurd (.inr rfl) hstop
    rw [zk5] at e1 e2
    dsimp only at e1 e2
    obtain⟨⟨p0,p1⟩,-,-⟩:=ze18 hn' q q0 q1
    have c2:=zi8 (bs:=bs) q (by omega) hn'
    obtain⟨⟨gs,gp,go⟩,hg⟩:∃g,getT bs q=g:=⟨_,rfl⟩
    have hfV:fT bs q=(E.str gs,((gp:Int),!go)):=by unfold fT;rw [hg]
    rw [hfV] at e1 e2 p0 p1
    rw [hg] at c2
    dsimp only at c2 e1 e2 p0 p1
    clear hg hfV
    repeat' (first|(apply f_wo;first|(apply f_gs;refine n_sk ?_)|(apply f_mv;first|(refine zs1 ?_ ?_<;>intro hG<;>(try cases hG))|refine zt (v:=.c _) ?_)|(apply f_as;refine zu (v:=.c _) ?_)|(apply f_fa;refine n_fa ?_)|(apply f_ld;refine zn1 ?_)|(apply f_bi;refine zi6 ?_)|(apply f_st;refine n_st ?_)|(apply zw2;refine zf1 ?_)|(apply zb2;refine zx ?_)|(apply f_no;refine za2 ?_)|(apply f_pk;refine zr1 (v:=.c _) ?_)|refine n_bs ?_|refine zh1 ?_)|(apply f_w;first|refine zo ?_|refine zc ?_)|(apply d_wo;first|(apply d_mv;first|refine zx3 (.c _) ?_|refine zx3 (.tu _) ?_)|(apply d_as;refine zp9 (.c (.v _)) ?_)|(apply d_fa;refine o_fa ?_)|(apply d_ld;refine zn3 ?_)|(apply d_ca;refine zu5 c2 ?_)|refine zf2 ?_)|(apply d_w;first|refine zo ?_|refine zc ?_)|refine za fun C=>?_|refine zp (by kernel_rfl) (by kernel_rfl) fun C=>?_|refine zd ?_|refine zg ?_|refine zk ?_|refine zw ?_|refine zq rfl ?_|refine zr rfl ?_)
    all_goals first
     | (exfalso;clear e1 e2 c2;simp only [decide_eq_true_iff,decide_eq_false_iff_not] at *;omega)
     | skip
    refine⟨M,(i+1,X++[E.str gs],((gp:Int),!go)),by omega,⟨⟨by rw [←e1];simp,e2⟩,⟨by dsimp only;omega,by dsimp only;rw [List.length_append,List.length_singleton];omega⟩,p0,p1⟩,?_⟩
    dsimp only
    rw [List.length_append,List.length_singleton]
    (refine zf4 (fun j=>if j=991 then 107 else j) _ _ rfl rfl ?_ ?_<;>(repeat' (first|exact TmOk.nil|exact RwOk.nil|refine TmOk.cons ?_ ?_|refine RwOk.cons ?_ ?_|rfl|exact zv rfl (by assumption)|exact zv rfl (zw1 _)|(refine rnV_id' rfl ?_;exact byc)|(refine zo1 ?_;first|rfl|omega|(rw [za1 (by omega) (by omega)];omega))|(refine zv rfl ?_;exact byc)|exact zg2 rfl rfl|(refine zp1 (by rfl) (by rfl) ?_ ?_<;>exact byc)|(refine rw_rn' rfl rfl ?_;simp;done))))
    exact zd7 (r:=⟨9,1,X.length+1,false,owL X++[.v (.string gs)]⟩) rfl (by rw [zj5];rfl) (zf _)
 clear hB0 cB
 repeat' (first|(apply f_wo;first|(apply f_mv;refine zt (v:=.c _) ?_)|(apply f_as;refine zu (v:=.c _) ?_)|(apply f_fa;refine n_fa ?_)|(apply f_ca;first|refine zy1 18 (cX) ?_ (hl:=zq4 (by rfl) zj2)|refine zy1 18 (cY) ?_ (hl:=zq4 (by rfl) zj2)|refine zy1 18 (cC) ?_ (hl:=zq4 (by rfl) zj2))|(apply f_st;refine n_st ?_))|(apply f_w;first|refine zo ?_|refine zc ?_)|refine za fun C=>?_|refine zu6 ?_)
 refine zw9 ⟨tmsF [(0,.c (.ro bs.length 1 (acL (bI bs)))),(2,.c (.pt 2 0)),(4,.c (.pt 18 0)),(5,.c (.pt 5 0))],hpsF [(2,2,⟨33,0,0,true,[.v (.slice none 0 0),.v (.slice none 0 0),.v (.int .i64 0),.v (.int .i64 0),.v (.slice none 0 0)]⟩),(18,18,⟨135,0,0,true,[.ro bs.length 1 (acL (bI bs)),.v (.int .i64 S.1),.v (.bool S.2)]⟩),(5,5,⟨33,0,0,true,[.sl 990 l0.length,.sl 991 l1.length,.v (.int .i64 x2),.v (.int .i64 x3),.sl 992 L.length]⟩),(990,990,⟨75,3,l0.length,false,owL l0⟩),(991,991,⟨9,1,l1.length,false,owL l1⟩),(992,992,⟨79,2,L.length,false,owL L⟩)],0,[2,18,5,990,991,992],156⟩ ?_ ?_
 ·repeat' (first|(apply f_wo;(apply f_as;refine zu (v:=.c _) ?_))|(apply f_w;first|refine zo ?_|refine zc ?_)|refine za fun C=>?_|refine zd ?_|refine zg ?_)
  refine zt1 (fun d:Nat×List E×RS=>⟨tmsF [(0,.c (.ro bs.length 1 (acL (bI bs)))),(2,.c (.pt 2 0)),(4,.c (.pt 18 0)),(5,.c (.pt 5 0)),(6,.c (.v (.int .i64 (n4:Int)))),(15,.c (.v (.int .i64 (d.1:Int))))],hpsF [(2,2,⟨33,0,0,true,[.v (.slice none 0 0),.v (.slice none 0 0),.v (.int .i64 0),.v (.int .i64 0),.v (.slice none 0 0)]⟩),(18,18,⟨135,0,0,true,[.ro bs.length 1 (acL (bI bs)),.v (.int .i64 d.2.2.1),.v (.bool d.2.2.2)]⟩),(5,5,⟨33,0,0,true,[.sl 990 l0.length,.sl 991 l1.length,.v (.int .i64 x2),.v (.int .i64 x3),.sl 992 d.2.1.length]⟩),(990,990,⟨75,3,l0.length,false,owL l0⟩),(991,991,⟨9,1,l1.length,false,owL l1⟩),(992,992,⟨79,2,d.2.1.length,false,owL d.2.1⟩)],0,[2,18,5,990,991,992],156⟩)
   (fun N d=>(d.2.1++(rdL (fF false bs) N d.2.2).1=L∧(rdL (fF false bs) N d.2.2).2=S)∧(d.1+N=n4∧d.2.1.length≤d.1)∧0≤d.2.2.1∧d.2.2.1≤bs.length) n4 (0,[],(r4,t4)) ⟨⟨by rw [←hC0];rfl,by rw [←hC0]⟩,⟨by dsimp only;omega,Nat.le_refl _⟩,g2,g3⟩ ?_ ?_
  ·refine (zb3 992 (i:=5) 79 2 rfl rfl (pre:=[_,_,_,_]) (post:=[]) rfl).trans ?_
   (refine zk1 _ _ rfl rfl ?_ ?_<;>(repeat' (first|exact TmOk.nil|exact RwOk.nil|refine TmOk.cons ?_ ?_|refine RwOk.cons ?_ ?_|rfl|exact zv rfl (by assumption)|exact zv rfl (zw1 _)|(refine rnV_id' rfl ?_;exact byc)|(refine zo1 ?_;first|rfl|omega|(rw [za1 (by omega) (by omega)];omega))|(refine zv rfl ?_;exact byc)|exact zg2 rfl rfl|(refine zp1 (by rfl) (by rfl) ?_ ?_<;>exact byc)|(refine rw_rn' rfl rfl ?_;simp;done))))
  ·rintro N ⟨i,X,q,qb⟩ ⟨⟨e1,e2⟩,⟨hi,hX⟩,q0,q1⟩
   dsimp only at e1 e2 hi hX q0 q1 ⊢
   clear cX cY cC cM hR hC0
   by_cases hstop:N=0∨qb=true
   ·obtain⟨rfl,hS⟩:=zr14 N X (q,qb) hstop ⟨e1,e2⟩
    clear e1 e2
    subst hS
    cases qb<;>repeat' (first|(apply f_wo;first|(apply f_gs;refine n_sk ?_)|(apply f_mv;first|(refine zs1 ?_ ?_<;>intro hG<;>(try cases hG))|refine zt (v:=.c _) ?_)|(apply f_fa;refine n_fa ?_)|(apply f_ld;refine zn1 ?_)|(apply zw2;refine zf1 ?_)|(apply f_no;refine za2 ?_)|(apply f_pk;refine zr1 (v:=.c _) ?_)|refine zh1 ?_)|(apply f_w;first|refine zo ?_|refine zc ?_)|(apply d_wo;first|(apply d_mv;refine zx3 (.c _) ?_)|(apply d_fa;refine o_fa ?_)|(apply d_ld;refine zn3 ?_))|(apply d_w;refine zo ?_)|refine za fun C=>?_|refine zp (by kernel_rfl) (by kernel_rfl) fun C=>?_|refine zd ?_|refine zg ?_|refine zk ?_|refine zw ?_|refine zq rfl ?_|refine zr rfl ?_)
    all_goals first
     | (exfalso;simp_all;done)
     | (exfalso;simp only [decide_eq_true_iff,decide_eq_false_iff_not] at *;omega)
     | (show Gh _ _
        (refine zk1 _ _ rfl rfl ?_ ?_<;>(repeat' (first|exact TmOk.nil|exact RwOk.nil|refine TmOk.cons ?_ ?_|refine RwOk.cons ?_ ?_|rfl|exact zv rfl (by assumption)|exact zv rfl (zw1 _)|(refine rnV_id' rfl ?_;exact byc)|(refine zo1 ?_;first|rfl|omega|(rw [za1 (by omega) (by omega)];omega))|(refine zv rfl ?_;exact byc)|exact zg2 rfl rfl|(refine zp1 (by rfl) (by rfl) ?_ ?_<;>exact byc)|(refine rw_rn' rfl rfl ?_;simp;done)))))
   ·obtain⟨M,rfl⟩:∃M,N=M+1:=⟨N-1,by omega⟩
    obtain rfl:qb=false:=by cases qb with|false=>rfl|true=>exact absurd (.inr rfl) hstop
    rw [zk5] at e1 e2
    dsimp only at e1 e2
    obtain⟨⟨p0,p1⟩,-,-⟩:=zf18 (cp:=false) (bs:=bs) q q0 q1
    have c2:=zs16 (s:=(q,false)) q0 q1 hn'
    obtain⟨p,code,⟨q2,b2⟩,hF⟩:∃p code s',fF false bs q=(.agg [.int .i64 p,.lst 2 82 none 0 code],s'):=⟨_,_,_,rfl⟩
    rw [show rdF false bs (q,false)=fF false bs q from rfl,hF] at c2
    rw [hF] at e1 e2 p0 p1
    have c3:Ctr Tryz.prog 88 [.c (.pt 0 0)] [[.ro bs.length 1 (acL (bI bs)),.v (.int .i64 q),.v (.bool false)]] (.ag [.v (.int .i64 p),.ow 82 code.length 2 (owL code)]) [[.ro bs.length 1 (acL (bI bs)),.v (.int .i64 q2),.v (.bool b2)]]:=c2
    dsimp only at e1 e2 p0 p1
    clear hF c2
    repeat' (first|(apply f_wo;first|(apply f_gs;refine n_sk ?_)|(apply f_mv;first|(refine zs1 ?_ ?_<;>intro hG<;>(try cases hG))|refine zt (v:=.c _) ?_)|(apply f_as;refine zu (v:=.c _) ?_)|(apply f_fa;refine n_fa ?_)|(apply f_ld;refine zn1 ?_)|(apply zw2;refine zf1 ?_)|(apply zb2;refine zx ?_)|(apply f_no;refine za2 ?_)|(apply f_pk;refine zr1 (v:=.c _) ?_)|refine zh1 ?_)|(apply f_w;first|refine zo ?_|refine zc ?_)|(apply d_wo;first|(apply d_mv;refine zx3 (.c _) ?_)|(apply d_fa;refine o_fa ?_)|(apply d_ld;refine zn3 ?_)|(apply d_ca;refine o_cad 18 (c3) ?_ (hl:=zq4 (by rfl) zj2))|(apply d_bi;refine o_app ?_)|(apply d_st;refine o_st ?_)|refine o_bs ?_)|(apply d_w;first|refine zo ?_|refine zc ?_)|refine za fun C=>?_|refine zp (by kernel_rfl) (by kernel_rfl) fun C=>?_|refine zd ?_|refine zg ?_|refine zk ?_|refine zw ?_|refine zq rfl ?_|refine zr rfl ?_)
    all_goals first
     | (exfalso;clear e1 e2 c3;simp only [decide_eq_true_iff,decide_eq_false_iff_not] at *;omega)
     | skip
    refine⟨M,(i+1,X++[E.agg [.int .i64 p,.lst 2 82 none 0 code]],(q2,b2)),by omega,⟨⟨by rw [←e1];simp,e2⟩,⟨by dsimp only;omega,by dsimp only;rw [List.length_append,List.length_singleton];omega⟩,p0,p1⟩,?_⟩
    dsimp only
    rw [List.length_append,List.length_singleton]
    refine (ze7 (i:=134) (j:=13300) rfl rfl rfl (pre:=owL X++[.v (.int .i64 p)]) (post:=[]) (by rw [List.append_assoc];rfl)).trans ?_
    (refine zf4 (fun j=>if j=992 then 134 else j) _ _ rfl rfl ?_ ?_<;>(repeat' (first|exact TmOk.nil|exact RwOk.nil|refine TmOk.cons ?_ ?_|refine RwOk.cons ?_ ?_|rfl|exact zv rfl (by assumption)|exact zv rfl (zw1 _)|(refine rnV_id' rfl ?_;exact byc)|(refine zo1 ?_;first|rfl|omega|(rw [za1 (by omega) (by omega)];omega))|(refine zv rfl ?_;exact byc)|exact zg2 rfl rfl|(refine zp1 (by rfl) (by rfl) ?_ ?_<;>exact byc)|(refine rw_rn' rfl rfl ?_;simp;done))))
    exact zd7 (r:=⟨79,2,X.length+1,false,(owL X++[.v (.int .i64 p)])++[.ow 82 code.length 2 (owL code)]⟩) rfl (by rw [zj5,List.append_assoc];rfl) (by simp [cloL,clo,zf,zh])
 clear hC0 cX cY cC
 obtain⟨q,qb⟩:=S
 dsimp only at cM hR ⊢
 cases qb with
 | true =>
  clear cM
  obtain rfl:(zeroM,false)=R:=hR
  repeat' (first|(apply f_wo;first|(apply f_gs;refine n_sk ?_)|(apply f_mv;first|(refine zs1 ?_ ?_<;>intro hG<;>(try cases hG))|refine zt (v:=.c _) ?_)|(apply f_as;refine zu (v:=.c _) ?_)|(apply f_fa;refine n_fa ?_)|(apply f_ld;refine zn1 ?_)|(apply f_st;refine n_st ?_)|(apply f_pk;refine zr1 (v:=.c _) ?_)|refine zh1 ?_)|(apply f_w;first|refine zo ?_|refine zc ?_)|refine za fun C=>?_|refine zd ?_|refine zq rfl ?_)
  all_goals
   refine ze2 (zb3 994 (i:=2) 75 3 rfl rfl (pre:=[]) (post:=[_,_,_,_]) rfl) ?_
   refine ze2 (zb3 995 (i:=2) 9 1 rfl rfl (pre:=[_]) (post:=[_,_,_]) rfl) ?_
   refine ze2 (zb3 996 (i:=2) 79 2 rfl rfl (pre:=[_,_,_,_]) (post:=[]) rfl) ?_
   refine zi ?_;refine ret0 rfl (zc2 (zj (zq1 (zl1 rfl rfl rfl (by first|exact zf _|exact ze _|exact bytC_clo _|(simp [cloL,clo,zf,ze,zm,zl,zh];done)|(simp [cloL,clo,opC,opL,zf,ze,zm,zl,zh];done)) (zl1 rfl rfl rfl (by first|exact zf _|exact ze _|exact bytC_clo _|(simp [cloL,clo,zf,ze,zm,zl,zh];done)|(simp [cloL,clo,opC,opL,zf,ze,zm,zl,zh];done)) (zd1 rfl (zd1 rfl (zl1 rfl rfl rfl (by first|exact zf _|exact ze _|exact bytC_clo _|(simp [cloL,clo,zf,ze,zm,zl,zh];done)|(simp [cloL,clo,opC,opL,zf,ze,zm,zl,zh];done)) ze1)))))) (zj zy zj1))) ⟨?_,rfl⟩
   rfl
 | false =>
  have cM:=cM rfl
  cases hm:modOkE (mE l0 l1 x2 x3 L) with
  | false =>
   rw [hm] at cM hR
   obtain rfl:(zeroM,false)=R:=by rw [←hR,Bool.and_false,Bool.and_false];rfl
   clear hR
   cases hq:(q==(bs.length:Int)) with
   | false =>
    repeat' (first|(apply f_wo;first|(apply f_gs;refine n_sk ?_)|(apply f_mv;first|(refine zs1 ?_ ?_<;>intro hG<;>(try cases hG))|refine zt (v:=.c _) ?_)|(apply f_as;refine zu (v:=.c _) ?_)|(apply f_fa;refine n_fa ?_)|(apply f_ld;first|refine zn1 ?_|refine zq2 ?_)|(apply f_ca;refine ze9 cM ?_)|(apply f_bi;refine zl2 ?_)|(apply f_st;refine n_st ?_)|(apply zh4;refine zs2 ?_)|(apply f_no;refine za2 ?_)|(apply f_pk;refine zr1 (v:=.c _) ?_)|refine zh1 ?_)|(apply f_w;first|refine zo ?_|refine zc ?_)|refine za fun C=>?_|refine zd ?_|refine zq rfl ?_)
    all_goals first
     | (exfalso;simp_all;done)
     | skip
    all_goals
     refine ze2 (zb3 994 (i:=2) 75 3 rfl rfl (pre:=[]) (post:=[_,_,_,_]) rfl) ?_
     refine ze2 (zb3 995 (i:=2) 9 1 rfl rfl (pre:=[_]) (post:=[_,_,_]) rfl) ?_
     refine ze2 (zb3 996 (i:=2) 79 2 rfl rfl (pre:=[_,_,_,_]) (post:=[]) rfl) ?_
     refine zi ?_;refine ret0 rfl (zc2 (zj (zq1 (zl1 rfl rfl rfl (by first|exact zf _|exact ze _|exact bytC_clo _|(simp [cloL,clo,zf,ze,zm,zl,zh];done)|(simp [cloL,clo,opC,opL,zf,ze,zm,zl,zh];done)) (zl1 rfl rfl rfl (by first|exact zf _|exact ze _|exact bytC_clo _|(simp [cloL,clo,zf,ze,zm,zl,zh];done)|(simp [cloL,clo,opC,opL,zf,ze,zm,zl,zh];done)) (zd1 rfl (zd1 rfl (zl1 rfl rfl rfl (by first|exact zf _|exact ze _|exact bytC_clo _|(simp [cloL,clo,zf,ze,zm,zl,zh];done)|(simp [cloL,clo,opC,opL,zf,ze,zm,zl,zh];done)) ze1)))))) (zj zy zj1))) ⟨?_,rfl⟩
     rfl
   | true =>
    repeat' (first|(apply f_wo;first|(apply f_gs;refine n_sk ?_)|(apply f_mv;first|(refine zs1 ?_ ?_<;>intro hG<;>(try cases hG))|refine zt (v:=.c _) ?_)|(apply f_as;refine zu (v:=.c _) ?_)|(apply f_fa;refine n_fa ?_)|(apply f_ld;first|refine zn1 ?_|refine zq2 ?_)|(apply f_ca;refine ze9 cM ?_)|(apply f_bi;refine zl2 ?_)|(apply f_st;refine n_st ?_)|(apply zh4;refine zs2 ?_)|(apply f_no;refine za2 ?_)|(apply f_pk;refine zr1 (v:=.c _) ?_)|refine zh1 ?_)|(apply f_w;first|refine zo ?_|refine zc ?_)|refine za fun C=>?_|refine zd ?_|refine zq rfl ?_)
    all_goals first
     | (exfalso;simp_all;done)
     | skip
    all_goals
     refine ze2 (zb3 994 (i:=2) 75 3 rfl rfl (pre:=[]) (post:=[_,_,_,_]) rfl) ?_
     refine ze2 (zb3 995 (i:=2) 9 1 rfl rfl (pre:=[_]) (post:=[_,_,_]) rfl) ?_
     refine ze2 (zb3 996 (i:=2) 79 2 rfl rfl (pre:=[_,_,_,_]) (post:=[]) rfl) ?_
     refine zi ?_;refine ret0 rfl (zc2 (zj (zq1 (zl1 rfl rfl rfl (by first|exact zf _|exact ze _|exact bytC_clo _|(simp [cloL,clo,zf,ze,zm,zl,zh];done)|(simp [cloL,clo,opC,opL,zf,ze,zm,zl,zh];done)) (zl1 rfl rfl rfl (by first|exact zf _|exact ze _|exact bytC_clo _|(simp [cloL,clo,zf,ze,zm,zl,zh];done)|(simp [cloL,clo,opC,opL,zf,ze,zm,zl,zh];done)) (zd1 rfl (zd1 rfl (zl1 rfl rfl rfl (by first|exact zf _|exact ze _|exact bytC_clo _|(simp [cloL,clo,zf,ze,zm,zl,zh];done)|(simp [cloL,clo,opC,opL,zf,ze,zm,zl,zh];done)) ze1)))))) (zj zy zj1))) ⟨?_,rfl⟩
     rfl
  | true =>
   rw [hm] at cM hR
   cases hq:(q==(bs.length:Int)) with
   | false =>
    rw [hq] at hR
    obtain rfl:(zeroM,false)=R:=hR
    repeat' (first|(apply f_wo;first|(apply f_gs;refine n_sk ?_)|(apply f_mv;first|(refine zs1 ?_ ?_<;>intro hG<;>(try cases hG))|refine zt (v:=.c _) ?_)|(apply f_as;refine zu (v:=.c _) ?_)|(apply f_fa;refine n_fa ?_)|(apply f_ld;first|refine zn1 ?_|refine zq2 ?_)|(apply f_ca;refine ze9 cM ?_)|(apply f_bi;refine zl2 ?_)|(apply f_st;refine n_st ?_)|(apply zh4;refine zs2 ?_)|(apply f_no;refine za2 ?_)|(apply f_pk;refine zr1 (v:=.c _) ?_)|refine zh1 ?_)|(apply f_w;first|refine zo ?_|refine zc ?_)|refine za fun C=>?_|refine zd ?_|refine zk ?_|refine zq rfl ?_|refine zr rfl ?_)
    all_goals first
     | (exfalso;simp_all;done)
     | skip
    all_goals
     refine ze2 (zb3 994 (i:=2) 75 3 rfl rfl (pre:=[]) (post:=[_,_,_,_]) rfl) ?_
     refine ze2 (zb3 995 (i:=2) 9 1 rfl rfl (pre:=[_]) (post:=[_,_,_]) rfl) ?_
     refine ze2 (zb3 996 (i:=2) 79 2 rfl rfl (pre:=[_,_,_,_]) (post:=[]) rfl) ?_
     refine zi ?_;refine ret0 rfl (zc2 (zj (zq1 (zl1 rfl rfl rfl (by first|exact zf _|exact ze _|exact bytC_clo _|(simp [cloL,clo,zf,ze,zm,zl,zh];done)|(simp [cloL,clo,opC,opL,zf,ze,zm,zl,zh];done)) (zl1 rfl rfl rfl (by first|exact zf _|exact ze _|exact bytC_clo _|(simp [cloL,clo,zf,ze,zm,zl,zh];done)|(simp [cloL,clo,opC,opL,zf,ze,zm,zl,zh];done)) (zd1 rfl (zd1 rfl (zl1 rfl rfl rfl (by first|exact zf _|exact ze _|exact bytC_clo _|(simp [cloL,clo,zf,ze,zm,zl,zh];done)|(simp [cloL,clo,opC,opL,zf,ze,zm,zl,zh];done)) ze1)))))) (zj zy zj1))) ⟨?_,rfl⟩
     rfl
   | true =>
    rw [hq] at hR
    obtain rfl:(mE l0 l1 x2 x3 L,true)=R:=hR
    repeat' (first|(apply f_wo;first|(apply f_gs;refine n_sk ?_)|(apply f_mv;first|(refine zs1 ?_ ?_<;>intro hG<;>(try cases hG))|refine zt (v:=.c _) ?_)|(apply f_as;refine zu (v:=.c _) ?_)|(apply f_fa;refine n_fa ?_)|(apply f_ld;first|refine zn1 ?_|refine zq2 ?_)|(apply f_ca;refine ze9 cM ?_)|(apply f_bi;refine zl2 ?_)|(apply f_st;refine n_st ?_)|(apply zh4;refine zs2 ?_)|(apply f_no;refine za2 ?_)|(apply f_pk;refine zr1 (v:=.c _) ?_)|refine zh1 ?_)|(apply f_w;first|refine zo ?_|refine zc ?_)|refine za fun C=>?_|refine zd ?_|refine zk ?_|refine zq rfl ?_|refine zr rfl ?_)
    all_goals first
     | (exfalso;simp_all;done)
     | skip
    all_goals
     refine zi ?_;refine ret0 rfl (zc2 (zj (zq1 (zl1 rfl rfl rfl (by first|exact zf _|exact ze _|exact bytC_clo _|(simp [cloL,clo,zf,ze,zm,zl,zh];done)|(simp [cloL,clo,opC,opL,zf,ze,zm,zl,zh];done)) (zl1 rfl rfl rfl (by first|exact zf _|exact ze _|exact bytC_clo _|(simp [cloL,clo,zf,ze,zm,zl,zh];done)|(simp [cloL,clo,opC,opL,zf,ze,zm,zl,zh];done)) (zd1 rfl (zd1 rfl (zl1 rfl rfl rfl (by first|exact zf _|exact ze _|exact bytC_clo _|(simp [cloL,clo,zf,ze,zm,zl,zh];done)|(simp [cloL,clo,opC,opL,zf,ze,zm,zl,zh];done)) ze1)))))) (zj zy zj1))) ⟨?_,rfl⟩
     rfl
end Go.Proofs.YtghljnfbbaklnaaGreat
namespace Go.Proofs.YtghljnfbbaklnaaGreat
open Go.RowKit
set_option maxRecDepth 100000
set_option maxRecDepth 100000
set_option maxRecDepth 100000
end Go.Proofs.YtghljnfbbaklnaaGreat
