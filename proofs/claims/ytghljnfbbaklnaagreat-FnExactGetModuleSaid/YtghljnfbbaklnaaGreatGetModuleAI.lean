/- GetModule of the reference: the walk. -/
import Derived.Test.YtghljnfbbaklnaaGreatGetModuleAH
-- BIT
-- MVP
namespace Go.Proofs.YtghljnfbbaklnaaGreat
open Go.RowKit
set_option maxRecDepth 100000
set_option maxHeartbeats 8000000 in
theorem zr11 {bs:List UInt8}(hn:bs.length≤1048576):Ctr Tryz.prog 22 [.c (.ro bs.length 1 (acL (bI bs)))] [] (.tu [.ag (owE (getM true bs).1),.c (.v (.bool (getM true bs).2))]) []:=by
 have hn':bs.length≤1073741824:=by omega
 have c0:=zp4 (bs:=bs) (s:=(0,false)) (by decide) (by show (0:Int)≤_;omega) hn'
 have cA:=zq9 (s:=gm1 bs) zc6.1 zc6.2 hn'
 have cB:=zq11 (s:=(gmA true bs).2) (zn4 true hn').1.1 (zn4 true hn').1.2 hn'
 have cX:=zp4 (s:=(gmB true bs).2) (zl5 true hn').1.1 (zl5 true hn').1.2 hn'
 have cY:=zp4 (s:=(gmX true bs).2) (zm5 true hn').2.1 (zm5 true hn').2.2.1 hn'
 have cC:=zp4 (s:=(gmY true bs).2) (zz3 true hn').2.1 (zz3 true hn').2.2.1 hn'
 obtain⟨⟨g0,g1⟩,g2,g3,-⟩:=zl3 (s:=(gmY true bs).2) (zz3 true hn').2.1 (zz3 true hn').2.2.1
 have hTy:=za20 true hn'
 have cM:=fun (h:(gmC true bs).2.2=false)=>zi12 (za20 true hn') (by have:=gmE_sz true hn' h;omega)
 rw [show rdN true 400 (fV bs) bs (gm1 bs)=gmA true bs from rfl] at cA
 rw [show rdN true 100 (fT bs) bs (gmA true bs).2=gmB true bs from rfl] at cB
 rw [show numR bs (gmB true bs).2=gmX true bs from rfl] at cX
 rw [show numR bs (gmX true bs).2=gmY true bs from rfl] at cY
 obtain⟨⟨n97,a97,b97⟩,h97⟩:∃r,numR bs (0,false)=r:=⟨_,rfl⟩
 have hg1:gm1 bs=(a97,n97 != 97):=by unfold gm1;rw [h97]
 rw [h97] at c0
 rw [hg1] at cA
 obtain⟨⟨l0,aA,bA⟩,hA⟩:∃r,gmA true bs=r:=⟨_,rfl⟩
 rw [hA] at cA cB
 obtain⟨⟨l1,aB,bB⟩,hB⟩:∃r,gmB true bs=r:=⟨_,rfl⟩
 rw [hB] at cB cX
 obtain⟨⟨x2,aX,bX⟩,hX⟩:∃r,gmX true bs=r:=⟨_,rfl⟩
 rw [hX] at cX cY
 obtain⟨⟨x3,aY,bY⟩,hY⟩:∃r,gmY true bs=r:=⟨_,rfl⟩
 rw [hY] at cY cC g0 g1 g2 g3
 obtain⟨⟨c,a,b⟩,hr⟩:∃r,numR bs (aY,bY)=r:=⟨_,rfl⟩
 have hC0:gmC true bs=rdL (fF true bs) c.toNat (a,b||decide (9<c)):=by unfold gmC rdN capS;rw [hY,hr];rfl
 rw [hr] at cC g0 g1 g2 g3
 dsimp only at c0 cA cB cX cY cC g0 g1 g2 g3
 obtain⟨n,rfl⟩:∃n:Nat,c=(n:Int):=⟨c.toNat,by omega⟩
 rw [Int.toNat_natCast] at hC0
 obtain⟨⟨L,S⟩,hL⟩:∃r,rdL (fF true bs) n (a,b||decide (9<(n:Int)))=r:=⟨_,rfl⟩
 have hC:gmC true bs=(L,S):=by rw [hC0,hL]
 have hE:gmE true bs=mE l0 l1 x2 x3 L:=by unfold gmE;rw [hA,hB,hX,hY,hC]
 unfold getM gmOk
 rw [hC,hE] at cM ⊢
 dsimp only at cM ⊢
 clear hTy h97 hg1 hA hB hX hY hr hC0 hC hE
 obtain⟨R,hR⟩:∃R,(if (!S.2&&(S.1==(bs.length:Int)&&modOkE (mE l0 l1 x2 x3 L)))=true then (mE l0 l1 x2 x3 L,true) else (zeroM,false))=R:=⟨_,rfl⟩
 rw [hR]
 refine zi1 Tryz.func22 rfl rfl ?_
 unfold rdrM at c0 cA cB cX cY cC
 dsimp only at c0 cA cB cX cY cC
 have hdone:∀(m:Nat) (X:List E) (q:RS),m=0∨q.2=true→X++(rdL (fF true bs) m q).1=L∧(rdL (fF true bs) m q).2=S→X=L∧q=S:=fun m X q hm ⟨e1,e2⟩=>by
  rw [zx6 hm] at e1 e2
  exact⟨by rw [←e1];simp,e2⟩
 obtain⟨B,hB⟩:∃B,(b||decide (9<(n:Int)))=B:=⟨_,rfl⟩
 rw [hB] at hL
 cases b<;>repeat' (first|(apply f_wo;first|(apply f_gs;refine n_sk ?_)|(apply f_mv;first|(refine zs1 ?_ ?_<;>intro hG<;>(try cases hG))|refine zt (v:=.c _) ?_)|(apply f_as;refine zu (v:=.c _) ?_)|(apply f_fa;refine n_fa ?_)|(apply f_ld;refine zn1 ?_)|(apply f_ca;first|refine zy1 11 (c0) ?_ (hl:=zq4 (by rfl) zj2)|refine zy1 11 (cA) ?_ (hl:=zq4 (by rfl) zj2)|refine zy1 11 (cB) ?_ (hl:=zq4 (by rfl) zj2)|refine zy1 11 (cX) ?_ (hl:=zq4 (by rfl) zj2)|refine zy1 11 (cY) ?_ (hl:=zq4 (by rfl) zj2)|refine zy1 11 (cC) ?_ (hl:=zq4 (by rfl) zj2))|(apply f_st;refine n_st ?_)|(apply zh4;refine zs2 ?_)|(apply zi4;refine zh2 ?_)|(apply f_pk;refine zr1 (v:=.c _) ?_)|refine n_al ?_|refine n_bo ?_|refine zh1 ?_)|(apply f_w;first|refine zo ?_|refine zc ?_)|refine za fun C=>?_|refine zd ?_|refine zg ?_)
 all_goals
  simp only [Bool.false_or,Bool.true_or] at hB
  subst hB
  clear c0 cA cB cX cY cC g0
 all_goals
  refine zt1 (fun d:Nat×List E×RS=>⟨tmsF [(0,.c (.ro bs.length 1 (acL (bI bs)))),(2,.c (.pt 2 0)),(4,.c (.pt 11 0)),(5,.c (.pt 5 0)),(6,.c (.v (.int .i64 (n:Int)))),(7,.c (.v (.int .i64 (d.1:Int))))],hpsF [(2,2,⟨33,0,0,true,[.v (.slice none 0 0),.v (.slice none 0 0),.v (.int .i64 0),.v (.int .i64 0),.v (.slice none 0 0)]⟩),(11,11,⟨128,0,0,true,[.ro bs.length 1 (acL (bI bs)),.v (.int .i64 d.2.2.1),.v (.bool d.2.2.2)]⟩),(5,5,⟨33,0,0,true,[.sl 2100 l0.length,.sl 2400 l1.length,.v (.int .i64 x2),.v (.int .i64 x3),.sl 990 d.2.1.length]⟩),(2100,2100,⟨75,3,l0.length,false,owL l0⟩),(2400,2400,⟨9,1,l1.length,false,owL l1⟩),(990,990,⟨79,2,d.2.1.length,false,owL d.2.1⟩)],0,[2,11,5,2100,2400,990],84⟩)
   (fun N d=>(d.2.1++(rdL (fF true bs) N d.2.2).1=L∧(rdL (fF true bs) N d.2.2).2=S)∧(d.1+N=n∧d.2.1.length≤d.1)∧0≤d.2.2.1∧d.2.2.1≤bs.length) n (0,[],(a,_)) ⟨⟨by rw [hL];rfl,by rw [hL]⟩,⟨by dsimp only;omega,Nat.le_refl _⟩,g2,g3⟩ ?_ ?_
 all_goals first
  | (show Gh _ _
     refine (zb3 990 (i:=5) 79 2 rfl rfl (pre:=[_,_,_,_]) (post:=[]) rfl).trans ?_
     (refine zk1 _ _ rfl rfl ?_ ?_<;>(repeat' (first|exact TmOk.nil|exact RwOk.nil|refine TmOk.cons ?_ ?_|refine RwOk.cons ?_ ?_|rfl|exact zv rfl (by assumption)|exact zv rfl (zw1 _)|(refine rnV_id' rfl ?_;exact byc)|(refine zo1 ?_;first|rfl|omega|(rw [za1 (by omega) (by omega)];omega))|(refine zv rfl ?_;exact byc)|exact zg2 rfl rfl|(refine zp1 (by rfl) (by rfl) ?_ ?_<;>exact byc)|(refine rw_rn' rfl rfl ?_;simp;done)))))
  | skip
 all_goals
  rintro N ⟨i,X,q,qb⟩ ⟨⟨e1,e2⟩,⟨hi,hX⟩,q0,q1⟩
  dsimp only at e1 e2 hi hX q0 q1 ⊢
  by_cases hstop:N=0∨qb=true
  ·obtain⟨rfl,rfl⟩:=hdone N X (q,qb) hstop ⟨e1,e2⟩
   clear hdone e1 e2 hL
   dsimp only at cM ⊢
   cases qb with
   | true =>
    clear cM
    obtain rfl:(zeroM,false)=R:=hR
    repeat' (first|(apply f_wo;first|(apply f_gs;refine n_sk ?_)|(apply f_mv;first|(refine zs1 ?_ ?_<;>intro hG<;>(try cases hG))|refine zt (v:=.c _) ?_)|(apply f_as;refine zu (v:=.c _) ?_)|(apply f_fa;refine n_fa ?_)|(apply f_ld;refine zn1 ?_)|(apply f_st;refine n_st ?_)|(apply zw2;refine zf1 ?_)|(apply f_no;refine za2 ?_)|(apply f_pk;refine zr1 (v:=.c _) ?_)|refine zh1 ?_)|(apply f_w;first|refine zo ?_|refine zc ?_)|refine za fun C=>?_|refine zd ?_|refine zw ?_|refine zq rfl ?_|refine zr rfl ?_)
    all_goals
     refine ze2 (zb3 991 (i:=2) 75 3 rfl rfl (pre:=[]) (post:=[_,_,_,_]) rfl) ?_
     refine ze2 (zb3 992 (i:=2) 9 1 rfl rfl (pre:=[_]) (post:=[_,_,_]) rfl) ?_
     refine ze2 (zb3 993 (i:=2) 79 2 rfl rfl (pre:=[_,_,_,_]) (post:=[]) rfl) ?_
     refine zi ?_;refine ret0 rfl (zc2 (zj (zq1 (zl1 rfl rfl rfl (by first|exact zf _|exact ze _|exact bytC_clo _|(simp [cloL,clo,zf,ze,zm,zl,zh];done)|(simp [cloL,clo,opC,opL,zf,ze,zm,zl,zh];done)) (zl1 rfl rfl rfl (by first|exact zf _|exact ze _|exact bytC_clo _|(simp [cloL,clo,zf,ze,zm,zl,zh];done)|(simp [cloL,clo,opC,opL,zf,ze,zm,zl,zh];done)) (zd1 rfl (zd1 rfl (zl1 rfl rfl rfl (by first|exact zf _|exact ze _|exact bytC_clo _|(simp [cloL,clo,zf,ze,zm,zl,zh];done)|(simp [cloL,clo,opC,opL,zf,ze,zm,zl,zh];done)) ze1)))))) (zj zy zj1))) ⟨?_,rfl⟩
     rfl
   | false =>
    have cM:=cM rfl
    cases hm:modOkE (mE l0 l1 x2 x3 X) with
    | false =>
     rw [hm] at cM hR
     obtain rfl:(zeroM,false)=R:=by rw [←hR,Bool.and_false,Bool.and_false];rfl
     clear hR
     cases hq:(q==(bs.length:Int)) with
     | false =>
      repeat' (first|(apply f_wo;first|(apply f_gs;refine n_sk ?_)|(apply f_mv;first|(refine zs1 ?_ ?_<;>intro hG<;>(try cases hG))|refine zt (v:=.c _) ?_)|(apply f_as;refine zu (v:=.c _) ?_)|(apply f_fa;refine n_fa ?_)|(apply f_ld;first|refine zn1 ?_|refine zq2 ?_)|(apply f_ca;refine ze9 cM ?_)|(apply f_bi;refine zl2 ?_)|(apply f_st;refine n_st ?_)|(apply zh4;refine zs2 ?_)|(apply zw2;refine zf1 ?_)|(apply f_no;refine za2 ?_)|(apply f_pk;refine zr1 (v:=.c _) ?_)|refine zh1 ?_)|(apply f_w;first|refine zo ?_|refine zc ?_)|refine za fun C=>?_|refine zd ?_|refine zg ?_|refine zk ?_|refine zw ?_|refine zq rfl ?_|refine zr rfl ?_)
      all_goals first
       | (exfalso;simp_all;done)
       | skip
      all_goals
       refine ze2 (zb3 991 (i:=2) 75 3 rfl rfl (pre:=[]) (post:=[_,_,_,_]) rfl) ?_
       refine ze2 (zb3 992 (i:=2) 9 1 rfl rfl (pre:=[_]) (post:=[_,_,_]) rfl) ?_
       refine ze2 (zb3 993 (i:=2) 79 2 rfl rfl (pre:=[_,_,_,_]) (post:=[]) rfl) ?_
       refine zi ?_;refine ret0 rfl (zc2 (zj (zq1 (zl1 rfl rfl rfl (by first|exact zf _|exact ze _|exact bytC_clo _|(simp [cloL,clo,zf,ze,zm,zl,zh];done)|(simp [cloL,clo,opC,opL,zf,ze,zm,zl,zh];done)) (zl1 rfl rfl rfl (by first|exact zf _|exact ze _|exact bytC_clo _|(simp [cloL,clo,zf,ze,zm,zl,zh];done)|(simp [cloL,clo,opC,opL,zf,ze,zm,zl,zh];done)) (zd1 rfl (zd1 rfl (zl1 rfl rfl rfl (by first|exact zf _|exact ze _|exact bytC_clo _|(simp [cloL,clo,zf,ze,zm,zl,zh];done)|(simp [cloL,clo,opC,opL,zf,ze,zm,zl,zh];done)) ze1)))))) (zj zy zj1))) ⟨?_,rfl⟩
       rfl
     | true =>
      repeat' (first|(apply f_wo;first|(apply f_gs;refine n_sk ?_)|(apply f_mv;first|(refine zs1 ?_ ?_<;>intro hG<;>(try cases hG))|refine zt (v:=.c _) ?_)|(apply f_as;refine zu (v:=.c _) ?_)|(apply f_fa;refine n_fa ?_)|(apply f_ld;first|refine zn1 ?_|refine zq2 ?_)|(apply f_ca;refine ze9 cM ?_)|(apply f_bi;refine zl2 ?_)|(apply f_st;refine n_st ?_)|(apply zh4;refine zs2 ?_)|(apply zw2;refine zf1 ?_)|(apply f_no;refine za2 ?_)|(apply f_pk;refine zr1 (v:=.c _) ?_)|refine zh1 ?_)|(apply f_w;first|refine zo ?_|refine zc ?_)|refine za fun C=>?_|refine zd ?_|refine zg ?_|refine zk ?_|refine zw ?_|refine zq rfl ?_|refine zr rfl ?_)
      all_goals first
       | (exfalso;simp_all;done)
       | skip
      all_goals
       refine ze2 (zb3 991 (i:=2) 75 3 rfl rfl (pre:=[]) (post:=[_,_,_,_]) rfl) ?_
       refine ze2 (zb3 992 (i:=2) 9 1 rfl rfl (pre:=[_]) (post:=[_,_,_]) rfl) ?_
       refine ze2 (zb3 993 (i:=2) 79 2 rfl rfl (pre:=[_,_,_,_]) (post:=[]) rfl) ?_
       refine zi ?_;refine ret0 rfl (zc2 (zj (zq1 (zl1 rfl rfl rfl (by first|exact zf _|exact ze _|exact bytC_clo _|(simp [cloL,clo,zf,ze,zm,zl,zh];done)|(simp [cloL,clo,opC,opL,zf,ze,zm,zl,zh];done)) (zl1 rfl rfl rfl (by first|exact zf _|exact ze _|exact bytC_clo _|(simp [cloL,clo,zf,ze,zm,zl,zh];done)|(simp [cloL,clo,opC,opL,zf,ze,zm,zl,zh];done)) (zd1 rfl (zd1 rfl (zl1 rfl rfl rfl (by first|exact zf _|exact ze _|exact bytC_clo _|(simp [cloL,clo,zf,ze,zm,zl,zh];done)|(simp [cloL,clo,opC,opL,zf,ze,zm,zl,zh];done)) ze1)))))) (zj zy zj1))) ⟨?_,rfl⟩
       rfl
    | true =>
     rw [hm] at cM hR
     cases hq:(q==(bs.length:Int)) with
     | false =>
      rw [hq] at hR
      obtain rfl:(zeroM,false)=R:=hR
      repeat' (first|(apply f_wo;first|(apply f_gs;refine n_sk ?_)|(apply f_mv;first|(refine zs1 ?_ ?_<;>intro hG<;>(try cases hG))|refine zt (v:=.c _) ?_)|(apply f_as;refine zu (v:=.c _) ?_)|(apply f_fa;refine n_fa ?_)|(apply f_ld;first|refine zn1 ?_|refine zq2 ?_)|(apply f_ca;refine ze9 cM ?_)|(apply f_bi;refine zl2 ?_)|(apply f_st;refine n_st ?_)|(apply zh4;refine zs2 ?_)|(apply zw2;refine zf1 ?_)|(apply f_no;refine za2 ?_)|(apply f_pk;refine zr1 (v:=.c _) ?_)|refine zh1 ?_)|(apply f_w;first|refine zo ?_|refine zc ?_)|refine za fun C=>?_|refine zd ?_|refine zg ?_|refine zk ?_|refine zw ?_|refine zq rfl ?_|refine zr rfl ?_)
      all_goals first
       | (exfalso;simp_all;done)
       | skip
      all_goals
       refine ze2 (zb3 991 (i:=2) 75 3 rfl rfl (pre:=[]) (post:=[_,_,_,_]) rfl) ?_
       refine ze2 (zb3 992 (i:=2) 9 1 rfl rfl (pre:=[_]) (post:=[_,_,_]) rfl) ?_
       refine ze2 (zb3 993 (i:=2) 79 2 rfl rfl (pre:=[_,_,_,_]) (post:=[]) rfl) ?_
       refine zi ?_;refine ret0 rfl (zc2 (zj (zq1 (zl1 rfl rfl rfl (by first|exact zf _|exact ze _|exact bytC_clo _|(simp [cloL,clo,zf,ze,zm,zl,zh];done)|(simp [cloL,clo,opC,opL,zf,ze,zm,zl,zh];done)) (zl1 rfl rfl rfl (by first|exact zf _|exact ze _|exact bytC_clo _|(simp [cloL,clo,zf,ze,zm,zl,zh];done)|(simp [cloL,clo,opC,opL,zf,ze,zm,zl,zh];done)) (zd1 rfl (zd1 rfl (zl1 rfl rfl rfl (by first|exact zf _|exact ze _|exact bytC_clo _|(simp [cloL,clo,zf,ze,zm,zl,zh];done)|(simp [cloL,clo,opC,opL,zf,ze,zm,zl,zh];done)) ze1)))))) (zj zy zj1))) ⟨?_,rfl⟩
       rfl
     | true =>
      rw [hq] at hR
      obtain rfl:(mE l0 l1 x2 x3 X,true)=R:=hR
      repeat' (first|(apply f_wo;first|(apply f_gs;refine n_sk ?_)|(apply f_mv;first|(refine zs1 ?_ ?_<;>intro hG<;>(try cases hG))|refine zt (v:=.c _) ?_)|(apply f_as;refine zu (v:=.c _) ?_)|(apply f_fa;refine n_fa ?_)|(apply f_ld;first|refine zn1 ?_|refine zq2 ?_)|(apply f_ca;refine ze9 cM ?_)|(apply f_bi;refine zl2 ?_)|(apply f_st;refine n_st ?_)|(apply zh4;refine zs2 ?_)|(apply zw2;refine zf1 ?_)|(apply f_no;refine za2 ?_)|(apply f_pk;refine zr1 (v:=.c _) ?_)|refine zh1 ?_)|(apply f_w;first|refine zo ?_|refine zc ?_)|refine za fun C=>?_|refine zd ?_|refine zg ?_|refine zk ?_|refine zw ?_|refine zq rfl ?_|refine zr rfl ?_)
      all_goals first
       | (exfalso;simp_all;done)
       | skip
      all_goals
       refine zi ?_;refine ret0 rfl (zc2 (zj (zq1 (zl1 rfl rfl rfl (by first|exact zf _|exact ze _|exact bytC_clo _|(simp [cloL,clo,zf,ze,zm,zl,zh];done)|(simp [cloL,clo,opC,opL,zf,ze,zm,zl,zh];done)) (zl1 rfl rfl rfl (by first|exact zf _|exact ze _|exact bytC_clo _|(simp [cloL,clo,zf,ze,zm,zl,zh];done)|(simp [cloL,clo,opC,opL,zf,ze,zm,zl,zh];done)) (zd1 rfl (zd1 rfl (zl1 rfl rfl rfl (by first|exact zf _|exact ze _|exact bytC_clo _|(simp [cloL,clo,zf,ze,zm,zl,zh];done)|(simp [cloL,clo,opC,opL,zf,ze,zm,zl,zh];done)) ze1)))))) (zj zy zj1))) ⟨?_,rfl⟩
       rfl
  ·obtain⟨M,rfl⟩:∃M,N=M+1:=⟨N-1,by omega⟩
   obtain rfl:qb=false:=by cases qb with|false=>rfl|true=>exact absurd (.inr rfl) hstop
   rw [zk5] at e1 e2
   dsimp only at e1 e2
   obtain⟨⟨p0,p1⟩,-,-⟩:=zf18 (cp:=true) (bs:=bs) q q0 q1
   have c2:=zr16 (s:=(q,false)) q0 q1 hn'
   obtain⟨p,code,⟨q2,b2⟩,hF⟩:∃p code s',fF true bs q=(.agg [.int .i64 p,.lst 2 82 none 0 code],s'):=⟨_,_,_,rfl⟩
   rw [show rdF true bs (q,false)=fF true bs q from rfl,hF] at c2
   rw [hF] at e1 e2 p0 p1
   have c3:Ctr Tryz.prog 84 [.c (.pt 0 0)] [[.ro bs.length 1 (acL (bI bs)),.v (.int .i64 q),.v (.bool false)]] (.ag [.v (.int .i64 p),.ow 82 code.length 2 (owL code)]) [[.ro bs.length 1 (acL (bI bs)),.v (.int .i64 q2),.v (.bool b2)]]:=c2
   dsimp only at e1 e2 p0 p1
   clear hdone hL hF c2 cM
   repeat' (first|(apply f_wo;first|(apply f_gs;refine n_sk ?_)|(apply f_mv;first|(refine zs1 ?_ ?_<;>intro hG<;>(try cases hG))|refine zt (v:=.c _) ?_)|(apply f_as;refine zu (v:=.c _) ?_)|(apply f_fa;refine n_fa ?_)|(apply f_ld;first|refine zn1 ?_|refine zq2 ?_)|(apply f_ca;refine zy1 11 (c3) ?_ (hl:=zq4 (by rfl) zj2))|(apply f_bi;first|refine zl2 ?_|refine zi6 ?_)|(apply f_st;refine n_st ?_)|(apply zh4;refine zs2 ?_)|(apply zw2;refine zf1 ?_)|(apply zb2;refine zx ?_)|(apply f_no;refine za2 ?_)|(apply f_pk;refine zr1 (v:=.c _) ?_)|refine n_al ?_|refine n_bs ?_|refine zh1 ?_)|(apply f_w;first|refine zo ?_|refine zc ?_)|refine za fun C=>?_|refine zd ?_|refine zg ?_|refine zk ?_|refine zw ?_|refine zq rfl ?_|refine zr rfl ?_)
   all_goals first
    | (exfalso;clear hR e1 e2 c3;simp only [decide_eq_true_iff,decide_eq_false_iff_not] at *;omega)
    | skip
   refine⟨M,(i+1,X++[E.agg [.int .i64 p,.lst 2 82 none 0 code]],(q2,b2)),by omega,⟨⟨by rw [←e1];simp,e2⟩,⟨by dsimp only;omega,by dsimp only;rw [List.length_append,List.length_singleton];omega⟩,p0,p1⟩,?_⟩
   dsimp only
   rw [List.length_append,List.length_singleton]
   refine (ze7 (i:=62) (j:=5800) rfl rfl rfl (pre:=owL X++[.v (.int .i64 p)]) (post:=[]) (by rw [List.append_assoc];rfl)).trans ?_
   (refine zf4 (fun j=>if j=990 then 62 else j) _ _ rfl rfl ?_ ?_<;>(repeat' (first|exact TmOk.nil|exact RwOk.nil|refine TmOk.cons ?_ ?_|refine RwOk.cons ?_ ?_|rfl|exact zv rfl (by assumption)|exact zv rfl (zw1 _)|(refine rnV_id' rfl ?_;exact byc)|(refine zo1 ?_;first|rfl|omega|(rw [za1 (by omega) (by omega)];omega))|(refine zv rfl ?_;exact byc)|exact zg2 rfl rfl|(refine zp1 (by rfl) (by rfl) ?_ ?_<;>exact byc)|(refine rw_rn' rfl rfl ?_;simp;done))))
   exact zd7 (r:=⟨79,2,X.length+1,false,(owL X++[.v (.int .i64 p)])++[.ow 82 code.length 2 (owL code)]⟩) rfl (by rw [zj5,List.append_assoc];rfl) (by simp [cloL,clo,zf,zh])
end Go.Proofs.YtghljnfbbaklnaaGreat
