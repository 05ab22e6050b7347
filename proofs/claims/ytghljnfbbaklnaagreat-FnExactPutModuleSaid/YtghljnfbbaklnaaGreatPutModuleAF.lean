/- The reference's reader of regular expressions: items, rows of items, alternatives; ParseRex: by the abstract machine. -/
import Derived.Test.YtghljnfbbaklnaaGreatPutModuleAE
namespace Go.Proofs.YtghljnfbbaklnaaGreat
open Go.RowKit
set_option maxRecDepth 100000
set_option maxHeartbeats 4000000 in
theorem l3Item_c {s:ByteArray}(hs:s.size≤1048576){atom:PS→E×PS}{p:PS}(hg:GoodS s p (atom p))
 (ha:Ctr Tryz.prog 223 [.c (.pt 0 0)] [rdrS s p] (.ag (owE (atom p).1)) [rdrS s (atom p).2]) :
 Ctr Tryz.prog 210 [.c (.pt 0 0)] [rdrS s p] (.ag (owE (itemS s atom p).1)) [rdrS s (itemS s atom p).2]:=by
 have hr:itemS s atom p=if isB s 42 (atom p).2 then (rexE 6 ByteArray.empty [(atom p).1],(atom p).2.go 1) else if isB s 43 (atom p).2 then (rexE 7 ByteArray.empty [(atom p).1],(atom p).2.go 1) else if isB s 63 (atom p).2 then (rexE 8 ByteArray.empty [(atom p).1],(atom p).2.go 1) else atom p:=rfl
 rw [hr]
 clear hr
 obtain⟨⟨e,q⟩,hq⟩:∃r,atom p=r:=⟨_,rfl⟩
 rw [hq] at ha hg ⊢
 have hfi:Fine e:=hg.fine
 clear hg hq
 dsimp only at ha ⊢
 cases hfi with
 | mk k t l hk ht hl2 =>
 have b1:=zl12 hs (c:=42) (by omega) (p:=q)
 have b2:=zl12 hs (c:=43) (by omega) (p:=q)
 have b3:=zl12 hs (c:=63) (by omega) (p:=q)
 obtain⟨qa,qd,qb⟩:=q
 refine zo2 Tryz.func210 rfl rfl ?_
 cases h1:isB s 42 ⟨qa,qd,qb⟩ with
 | true =>
  rw [zr8 h1,h1] at b1
  rw [if_pos rfl]
  unfold rdrS at ha b1 ⊢
  dsimp only [PS.go] at ha b1 ⊢
  repeat' (first|(apply f_wo;first|(apply f_mv;first|refine zj1 (v:=.c _) ?_|refine za ?_)|(apply f_as;first|refine zi1 (v:=.c _) ?_|refine za ?_)|(apply f_ld;first|refine zw ?_|refine zo1 ?_|refine n_ld ?_)|(apply f_ca;first|refine za3 0 (ha) ?_|refine za3 0 (b1) ?_)|(apply f_st;first|refine n_st ?_|refine zx1 ?_)|refine n_al ?_|refine n_bs ?_|refine za ?_)|(apply f_w;first|refine zv ?_|refine zc ?_)|refine zb fun C=>?_|refine zh ?_|refine zd ?_|refine zf ?_|refine zg ?_|refine zt rfl ?_|refine zp rfl ?_)
  refine zs4 (zx9 (i:=10) (j:=600) rfl rfl rfl (pre:=[_,_]) (post:=[]) rfl) ?_
  refine zu ?_;refine ret1 rfl (zy3 (zi3 rfl (zi3 rfl (zk3 rfl rfl rfl (by first|exact zq _|exact zo _|exact bytC_clo _|(simp [cloL,clo,zq,zo,ze1,zd1,zr];done)|(simp [cloL,clo,opC,opL,zq,zo,ze1,zd1,zr];done)) zn2)))) rfl (by first|rfl|(simp [cloL,clo,zq,zo,ze1,zd1,zr];done)) rfl ⟨?_,?_⟩<;>rfl
 | false =>
  rw [zn12 h1,h1] at b1
  rw [if_neg (by simp)]
  cases h2:isB s 43 ⟨qa,qd,qb⟩ with
  | true =>
   rw [zr8 h2,h2] at b2
   rw [if_pos rfl]
   unfold rdrS at ha b1 b2 ⊢
   dsimp only [PS.go] at ha b1 b2 ⊢
   repeat' (first|(apply f_wo;first|(apply f_mv;first|refine zj1 (v:=.c _) ?_|refine za ?_)|(apply f_as;first|refine zi1 (v:=.c _) ?_|refine za ?_)|(apply f_ld;first|refine zw ?_|refine zo1 ?_|refine n_ld ?_)|(apply f_ca;first|refine za3 0 (ha) ?_|refine za3 0 (b1) ?_|refine za3 0 (b2) ?_)|(apply f_st;first|refine n_st ?_|refine zx1 ?_)|refine n_al ?_|refine n_bs ?_|refine za ?_)|(apply f_w;first|refine zv ?_|refine zc ?_)|refine zb fun C=>?_|refine zh ?_|refine zd ?_|refine zf ?_|refine zg ?_|refine zt rfl ?_|refine zp rfl ?_)
   refine zs4 (zx9 (i:=16) (j:=600) rfl rfl rfl (pre:=[_,_]) (post:=[]) rfl) ?_
   refine zu ?_;refine ret1 rfl (zy3 (zi3 rfl (zi3 rfl (zk3 rfl rfl rfl (by first|exact zq _|exact zo _|exact bytC_clo _|(simp [cloL,clo,zq,zo,ze1,zd1,zr];done)|(simp [cloL,clo,opC,opL,zq,zo,ze1,zd1,zr];done)) zn2)))) rfl (by first|rfl|(simp [cloL,clo,zq,zo,ze1,zd1,zr];done)) rfl ⟨?_,?_⟩<;>rfl
  | false =>
   rw [zn12 h2,h2] at b2
   rw [if_neg (by simp)]
   cases h3:isB s 63 ⟨qa,qd,qb⟩ with
   | true =>
    rw [zr8 h3,h3] at b3
    rw [if_pos rfl]
    unfold rdrS at ha b1 b2 b3 ⊢
    dsimp only [PS.go] at ha b1 b2 b3 ⊢
    repeat' (first|(apply f_wo;first|(apply f_mv;first|refine zj1 (v:=.c _) ?_|refine za ?_)|(apply f_as;first|refine zi1 (v:=.c _) ?_|refine za ?_)|(apply f_ld;first|refine zw ?_|refine zo1 ?_|refine n_ld ?_)|(apply f_ca;first|refine za3 0 (ha) ?_|refine za3 0 (b1) ?_|refine za3 0 (b2) ?_|refine za3 0 (b3) ?_)|(apply f_st;first|refine n_st ?_|refine zx1 ?_)|refine n_al ?_|refine n_bs ?_|refine za ?_)|(apply f_w;first|refine zv ?_|refine zc ?_)|refine zb fun C=>?_|refine zh ?_|refine zd ?_|refine zf ?_|refine zg ?_|refine zt rfl ?_|refine zp rfl ?_)
    refine zs4 (zx9 (i:=22) (j:=600) rfl rfl rfl (pre:=[_,_]) (post:=[]) rfl) ?_
    refine zu ?_;refine ret1 rfl (zy3 (zi3 rfl (zi3 rfl (zk3 rfl rfl rfl (by first|exact zq _|exact zo _|exact bytC_clo _|(simp [cloL,clo,zq,zo,ze1,zd1,zr];done)|(simp [cloL,clo,opC,opL,zq,zo,ze1,zd1,zr];done)) zn2)))) rfl (by first|rfl|(simp [cloL,clo,zq,zo,ze1,zd1,zr];done)) rfl ⟨?_,?_⟩<;>rfl
   | false =>
    rw [zn12 h3,h3] at b3
    rw [if_neg (by simp)]
    unfold rdrS at ha b1 b2 b3 ⊢
    dsimp only at ha b1 b2 b3 ⊢
    repeat' (first|(apply f_wo;first|(apply f_mv;first|refine zj1 (v:=.c _) ?_|refine za ?_)|(apply f_as;first|refine zi1 (v:=.c _) ?_|refine za ?_)|(apply f_ld;first|refine zw ?_|refine zo1 ?_|refine n_ld ?_)|(apply f_ca;first|refine za3 0 (ha) ?_|refine za3 0 (b1) ?_|refine za3 0 (b2) ?_|refine za3 0 (b3) ?_)|(apply f_st;first|refine n_st ?_|refine zx1 ?_)|refine n_al ?_|refine n_bs ?_|refine za ?_)|(apply f_w;first|refine zv ?_|refine zc ?_)|refine zb fun C=>?_|refine zh ?_|refine zd ?_|refine zf ?_|refine zg ?_|refine zt rfl ?_|refine zp rfl ?_)
    refine zu ?_;refine ret1 rfl (zy3 (zi3 rfl (zi3 rfl (zk3 rfl rfl rfl (by first|exact zq _|exact zo _|exact bytC_clo _|(simp [cloL,clo,zq,zo,ze1,zd1,zr];done)|(simp [cloL,clo,opC,opL,zq,zo,ze1,zd1,zr];done)) zn2)))) rfl (by first|rfl|(simp [cloL,clo,zq,zo,ze1,zd1,zr];done)) rfl ⟨?_,?_⟩<;>rfl
theorem goS_parts {s:ByteArray}{a d v:Nat}{b:Bool}(hv:bAt s a=v):goS s ⟨a,d,b⟩=(!b&&decide (a<s.size)&&!(v==124)&&!(v==41)):=by unfold goS;rw [hv]
theorem zm18 {s:ByteArray}{item:PS→E×PS}{p:PS}(h:goS s p=false):∀(n:Nat) (l:List E),catLoopS s item n l p=(l,p)
 | 0,_=>rfl
 | n+1,l=>by unfold catLoopS;rw [if_neg (by rw [h];simp)]
theorem zn18 {s:ByteArray}{cat:PS→E×PS}{p:PS}(h:isB s 124 p=false):∀(n:Nat) (l:List E),altLoopS s cat n l p=(l,p)
 | 0,_=>rfl
 | n+1,l=>by unfold altLoopS;rw [if_neg (by rw [h];simp)]
set_option maxHeartbeats 8000000 in
theorem l3Cat_c {s:ByteArray}(hs:s.size≤1048576){item:PS→E×PS}{p0:PS}(hp:Pre s p0)
 (hg:∀q,Pre s q→p0.a≤q.a→GoodS s q (item q)∧((item q).2.b=false→q.a<(item q).2.a))
 (hi:∀q,Pre s q→p0.a≤q.a→Ctr Tryz.prog 210 [.c (.pt 0 0)] [rdrS s q] (.ag (owE (item q).1)) [rdrS s (item q).2]) :
 Ctr Tryz.prog 202 [.c (.pt 0 0)] [rdrS s p0] (.ag (owE (catS s item p0).1)) [rdrS s (catS s item p0).2]:=by
 have hic0:=hi p0 hp (Nat.le_refl _)
 obtain⟨hg0,hu0⟩:=hg p0 hp (Nat.le_refl _)
 have hL0:=GoodLS.one hg0
 have hr:catS s item p0=(oneOr 4 (catLoopS s item (s.size+1) [(item p0).1] (item p0).2).1,(catLoopS s item (s.size+1) [(item p0).1] (item p0).2).2):=rfl
 rw [hr]
 clear hr
 obtain⟨⟨e,q0⟩,hq0⟩:∃r,item p0=r:=⟨_,rfl⟩
 rw [hq0] at hic0 hg0 hL0 hu0 ⊢
 have hfi:Fine e:=hg0.fine
 dsimp only at hic0 hL0 hu0 ⊢
 cases hfi with
 | mk k t l hk ht hl2 =>
 refine zo2 Tryz.func202 rfl rfl ?_
 repeat' (first|(apply f_wo;first|(apply f_gs;refine n_sk ?_)|(apply f_mv;first|(refine zb2 ?_ ?_<;>intro hG<;>(try cases hG))|refine zj1 (v:=.c _) ?_|refine za ?_)|(apply f_as;first|refine zi1 (v:=.c _) ?_|refine za ?_)|(apply f_fa;first|refine n_fa ?_|refine zm1 ?_)|(apply f_ld;first|refine zq1 ?_|refine zx ?_|refine zw ?_|refine zo1 ?_|refine n_ld ?_)|(apply f_ca;first|refine za3 0 (hic0) ?_)|(apply f_bi;first|refine zb1 ?_|refine za1 ?_|refine zc1 ?_|refine zc2 ?_|refine zc2 (hnu:=ze _) ?_|refine zp1 ?_|refine zp1 (hnu:=ze _) ?_|refine za ?_)|(apply f_st;first|refine n_st ?_|refine zx1 ?_)|(apply f_ia;first|refine n_ix ?_|refine zz1 ?_|refine za ?_)|(apply ze2;first|refine zy ?_|refine za ?_)|(apply zm3;first|refine zi2 ?_|refine za ?_)|(apply zw1;first|refine zl ?_|refine za ?_)|(apply f_no;first|refine zh2 ?_|refine za ?_)|(apply f_pk;first|refine za2 (v:=.c _) ?_|refine za ?_)|refine n_al ?_|refine n_bs ?_|refine zg4 ?_|refine za ?_)|(apply f_w;first|refine zv ?_|refine zc ?_)|(apply d_wo;first|(apply d_gs;first|refine o_sk ?_|refine zm4 ?_)|(apply d_bo;(refine o_gm ?_ ?_<;>intro hG<;>(try cases hG)))|(apply d_mv;refine zi ?_)|(apply d_as;refine zi ?_)|(apply d_fa;first|refine o_fa ?_|refine zn3 ?_)|(apply d_ld;first|refine zo3 ?_|refine zk2 ?_|refine zl2 ?_|refine zp3 ?_|refine zi ?_|refine o_ld ?_)|(apply d_ca;first|refine zz4 0 (hic0) ?_)|(apply d_bi;first|refine zt2 ?_|refine zs2 ?_|refine zu2 ?_|refine zd2 ?_|refine zd2 (hnu:=ze _) ?_|refine zn1 ?_|refine zn1 (hnu:=ze _) ?_|refine zi ?_)|(apply d_st;first|refine o_st ?_|refine zf4 ?_)|(apply d_ia;first|refine o_ix ?_|refine zx4 ?_|refine zi ?_)|(apply d_bb;first|refine zf1 ?_|refine zg1 ?_|refine zh1 ?_|refine zl3 ?_|refine zi ?_)|refine o_al ?_|refine o_bs ?_|refine zu4 ?_|refine zi ?_)|(apply d_w;first|refine zv ?_|refine zc ?_)|refine zb fun C=>?_|refine zj (by kernel_rfl) (by kernel_rfl) fun C=>?_|refine zh ?_|refine zd ?_|refine zf ?_|refine zg ?_|refine zt rfl ?_|refine zp rfl ?_)
 refine ze3 (fun q:List E×PS=>⟨tmsF [(0,.c (.pt 0 0)),(2,.c (.pt 2 0)),(3,.c (.sl 9 q.1.length))],hpsF [(0,0,⟨0,0,0,true,rdrS s q.2⟩),(2,2,⟨208,0,0,true,[.v (.int .i64 0),.v (.string ByteArray.empty),.v (.slice none 0 0)]⟩),(9,9,⟨208,3,q.1.length,false,owL q.1⟩)],1,[0,2,9],61⟩)
  (fun N q=>GoodLS s p0 q.1 q.2∧(q.2.b=true∨s.size+2≤q.2.a+N)∧catLoopS s item N q.1 q.2=catLoopS s item (s.size+1) [rexE k t l] q0) (s.size+1) ([rexE k t l],q0) ⟨hL0,by
    cases hb:q0.b with
    | true=>exact .inl rfl
    | false=>right;have:=hu0 hb;dsimp only;omega,rfl⟩ ?_ ?_
 ·refine (zx9 (i:=6) (j:=600) rfl rfl rfl (pre:=[_,_]) (post:=[]) rfl).trans ?_
  (refine za6 (fun j=>if j=9 then 6 else j) _ _ rfl rfl ?_ ?_<;>(repeat' (first|exact TmOk.nil|exact RwOk.nil|refine TmOk.cons ?_ ?_|refine RwOk.cons ?_ ?_|rfl|(refine rnV_id' rfl ?_;exact byc)|(refine zv2 ?_;first|rfl|omega|(rw [zv1 (by omega) (by omega)];omega))|(refine zl1 rfl ?_;exact byc)|exact zz3 rfl rfl|(refine zw2 (by rfl) (by rfl) ?_ ?_<;>exact byc)|(refine rw_rn' rfl rfl ?_;simp;done))))
 rintro N ⟨L,q⟩ ⟨hgl,hN,htot⟩
 dsimp only at hgl hN htot ⊢
 have hpre:=hgl.pre hp
 obtain⟨a,d,b⟩:=q
 obtain⟨v,hv⟩:∃v,bAt s a=v:=⟨_,rfl⟩
 have hgp:=goS_parts (d:=d) (b:=b) hv
 have hlen:=hgl.len.1
 have hale:a≤s.size:=hgl.le
 dsimp only at hlen
 cases hgo:goS s ⟨a,d,b⟩ with
 | true =>
  obtain⟨hb,hlt,hv1,hv2⟩:=goS_to hgo
  dsimp only at hb hlt hv1 hv2 hN
  subst hb
  rw [hv] at hv1 hv2
  have hN:=hN.resolve_left (by simp)
  obtain⟨M,rfl⟩:∃M,N=M+1:=⟨N-1,by omega⟩
  have hic:=hi _ hpre hgl.ge
  have hgd:=hg _ hpre hgl.ge
  have hst:catLoopS s item (M+1) L ⟨a,d,false⟩=catLoopS s item M (L++[(item ⟨a,d,false⟩).1]) (item ⟨a,d,false⟩).2:=by
   show (if goS s ⟨a,d,false⟩ then _ else _)=_
   rw [if_pos hgo]
  rw [hst] at htot
  clear hst hi hg hic0
  have hgl2:=hgl.step rfl hgd
  obtain⟨⟨e2,q2⟩,hq2⟩:∃r,item ⟨a,d,false⟩=r:=⟨_,rfl⟩
  rw [hq2] at hic htot hgd hgl2
  dsimp only at hic htot hgd hgl2
  have hfi2:Fine e2:=hgd.1.fine
  cases hfi2 with
  | mk k' t' l' hk' ht' hl2' =>
  unfold rdrS at hic ⊢
  dsimp only at hic ⊢
  repeat' (first|(apply f_wo;first|(apply f_gs;refine n_sk ?_)|(apply f_mv;first|(refine zb2 ?_ ?_<;>intro hG<;>(try cases hG))|refine zj1 (v:=.c _) ?_|refine za ?_)|(apply f_as;first|refine zi1 (v:=.c _) ?_|refine za ?_)|(apply f_fa;first|refine n_fa ?_|refine zm1 ?_)|(apply f_ld;first|refine zq1 ?_|refine zx ?_|refine zw ?_|refine zo1 ?_|refine n_ld ?_)|(apply f_ca;first|refine za3 0 (hic) ?_)|(apply f_bi;first|refine zb1 ?_|refine za1 ?_|refine zc1 ?_|refine zc2 ?_|refine zc2 (hnu:=ze _) ?_|refine zp1 ?_|refine zp1 (hnu:=ze _) ?_|refine za ?_)|(apply f_st;first|refine n_st ?_|refine zx1 ?_)|(apply f_ia;first|refine n_ix ?_|refine zz1 ?_|refine za ?_)|(apply ze2;first|refine zy ?_|refine za ?_)|(apply zm3;first|refine zi2 ?_|refine za ?_)|(apply zw1;first|refine zl ?_|refine za ?_)|(apply f_no;first|refine zh2 ?_|refine za ?_)|(apply f_pk;first|refine za2 (v:=.c _) ?_|refine za ?_)|refine n_al ?_|refine n_bs ?_|refine zg4 ?_|refine za ?_)|(apply f_w;first|refine zv ?_|refine zc ?_)|(apply d_wo;first|(apply d_gs;first|refine o_sk ?_|refine zm4 ?_)|(apply d_bo;(refine o_gm ?_ ?_<;>intro hG<;>(try cases hG)))|(apply d_mv;refine zi ?_)|(apply d_as;refine zi ?_)|(apply d_fa;first|refine o_fa ?_|refine zn3 ?_)|(apply d_ld;first|refine zo3 ?_|refine zk2 ?_|refine zl2 ?_|refine zp3 ?_|refine zi ?_|refine o_ld ?_)|(apply d_ca;first|refine zz4 0 (hic) ?_)|(apply d_bi;first|refine zt2 ?_|refine zs2 ?_|refine zu2 ?_|refine zd2 ?_|refine zd2 (hnu:=ze _) ?_|refine zn1 ?_|refine zn1 (hnu:=ze _) ?_|refine zi ?_)|(apply d_st;first|refine o_st ?_|refine zf4 ?_)|(apply d_ia;first|refine o_ix ?_|refine zx4 ?_|refine zi ?_)|(apply d_bb;first|refine zf1 ?_|refine zg1 ?_|refine zh1 ?_|refine zl3 ?_|refine zi ?_)|refine o_al ?_|refine o_bs ?_|refine zu4 ?_|refine zi ?_)|(apply d_w;first|refine zv ?_|refine zc ?_)|refine zb fun C=>?_|refine zj (by kernel_rfl) (by kernel_rfl) fun C=>?_|refine zh ?_|refine zd ?_|refine zf ?_|refine zg ?_)
  all_goals first
   | (exfalso;clear hic hgl hgl2 hgd hL0 hg0 htot hN hpre;simp only [decide_eq_false_iff_not,bne_eq_false_iff_eq] at hG;omega)
   | skip
  rw [hv]
  refine zn (by rfl) (fun hC=>?_) fun hC=>absurd (bne_eq_false_iff_eq.1 hC) (by omega)
  repeat' (first|(apply f_wo;first|(apply f_gs;refine n_sk ?_)|(apply f_mv;first|(refine zb2 ?_ ?_<;>intro hG<;>(try cases hG))|refine zj1 (v:=.c _) ?_|refine za ?_)|(apply f_as;first|refine zi1 (v:=.c _) ?_|refine za ?_)|(apply f_fa;first|refine n_fa ?_|refine zm1 ?_)|(apply f_ld;first|refine zq1 ?_|refine zx ?_|refine zw ?_|refine zo1 ?_|refine n_ld ?_)|(apply f_ca;first|refine za3 0 (hic) ?_)|(apply f_bi;first|refine zb1 ?_|refine za1 ?_|refine zc1 ?_|refine zc2 ?_|refine zc2 (hnu:=ze _) ?_|refine zp1 ?_|refine zp1 (hnu:=ze _) ?_|refine za ?_)|(apply f_st;first|refine n_st ?_|refine zx1 ?_)|(apply f_ia;first|refine n_ix ?_|refine zz1 ?_|refine za ?_)|(apply ze2;first|refine zy ?_|refine za ?_)|(apply zm3;first|refine zi2 ?_|refine za ?_)|(apply zw1;first|refine zl ?_|refine za ?_)|(apply f_no;first|refine zh2 ?_|refine za ?_)|(apply f_pk;first|refine za2 (v:=.c _) ?_|refine za ?_)|refine n_al ?_|refine n_bs ?_|refine zg4 ?_|refine za ?_)|(apply f_w;first|refine zv ?_|refine zc ?_)|(apply d_wo;first|(apply d_gs;first|refine o_sk ?_|refine zm4 ?_)|(apply d_bo;(refine o_gm ?_ ?_<;>intro hG<;>(try cases hG)))|(apply d_mv;refine zi ?_)|(apply d_as;refine zi ?_)|(apply d_fa;first|refine o_fa ?_|refine zn3 ?_)|(apply d_ld;first|refine zo3 ?_|refine zk2 ?_|refine zl2 ?_|refine zp3 ?_|refine zi ?_|refine o_ld ?_)|(apply d_ca;first|refine zz4 0 (hic) ?_)|(apply d_bi;first|refine zt2 ?_|refine zs2 ?_|refine zu2 ?_|refine zd2 ?_|refine zd2 (hnu:=ze _) ?_|refine zn1 ?_|refine zn1 (hnu:=ze _) ?_|refine zi ?_)|(apply d_st;first|refine o_st ?_|refine zf4 ?_)|(apply d_ia;first|refine o_ix ?_|refine zx4 ?_|refine zi ?_)|(apply d_bb;first|refine zf1 ?_|refine zg1 ?_|refine zh1 ?_|refine zl3 ?_|refine zi ?_)|refine o_al ?_|refine o_bs ?_|refine zu4 ?_|refine zi ?_)|(apply d_w;first|refine zv ?_|refine zc ?_)|refine zb fun C=>?_|refine zj (by kernel_rfl) (by kernel_rfl) fun C=>?_|refine zh ?_|refine zd ?_|refine zf ?_|refine zg ?_|refine zt rfl ?_|refine zp rfl ?_)
  refine⟨M,(L++[rexE k' t' l'],q2),by omega,⟨hgl2,?_,htot⟩,?_⟩
  ·dsimp only
   cases hb2:q2.b with
   | true=>exact .inl rfl
   | false=>right;have:=hgd.2 hb2;(try dsimp only at this);omega
  ·dsimp only
   rw [List.length_append,List.length_singleton]
   refine (zx9 (i:=52) (j:=5100) rfl rfl rfl (pre:=owL L++[.v (.int .i64 k'),.v (.string t')]) (post:=[]) (by rw [List.append_assoc];rfl)).trans ?_
   (refine za6 (fun j=>if j=9 then 52 else j) _ _ rfl rfl ?_ ?_<;>(repeat' (first|exact TmOk.nil|exact RwOk.nil|refine TmOk.cons ?_ ?_|refine RwOk.cons ?_ ?_|rfl|(refine rnV_id' rfl ?_;exact byc)|(refine zv2 ?_;first|rfl|omega|(rw [zv1 (by omega) (by omega)];omega))|(refine zl1 rfl ?_;exact byc)|exact zz3 rfl rfl|(refine zw2 (by rfl) (by rfl) ?_ ?_<;>exact byc)|(refine rw_rn' rfl rfl ?_;simp;done))))
   exact zz17 (r:=⟨208,3,L.length+1,false,(owL L++[.v (.int .i64 k'),.v (.string t')])++[.ow 208 l'.length 3 (owL l')]⟩) rfl (by rw [zw9,List.append_assoc];rfl) (by first|rfl|(simp [cloV,cloL,clo,zd1,zo,ze1,zq,zr];done))
 | false =>
  rw [zm18 hgo] at htot
  rw [←htot]
  rw [hgo] at hgp
  have hfine:=hgl.fine
  have hne:=hgl.ne
  clear htot hi hg hic0 hN hL0 hgl hpre hg0
  have hgo':b=true∨s.size≤a∨v=124∨v=41:=by
   cases b with
   | true=>exact .inl rfl
   | false=>right;simp at hgp;omega
  unfold rdrS
  dsimp only
  match L,hfine,hne with
  | [],_,h0=>exact absurd h0 (by simp)
  | [x],hf,_ =>
   have hx:=hf x (List.mem_singleton.2 rfl)
   cases hx with
   | mk k' t' l' hk' ht' hl2' =>
   cases b<;>repeat' (first|(apply f_wo;first|(apply f_gs;refine n_sk ?_)|(apply f_mv;first|(refine zb2 ?_ ?_<;>intro hG<;>(try cases hG))|refine zj1 (v:=.c _) ?_|refine za ?_)|(apply f_as;first|refine zi1 (v:=.c _) ?_|refine za ?_)|(apply f_fa;first|refine n_fa ?_|refine zm1 ?_)|(apply f_ld;first|refine zq1 ?_|refine zx ?_|refine zw ?_|refine zo1 ?_|refine n_ld ?_)|(apply f_bi;first|refine zb1 ?_|refine za1 ?_|refine zc1 ?_|refine zc2 ?_|refine zc2 (hnu:=ze _) ?_|refine zp1 ?_|refine zp1 (hnu:=ze _) ?_|refine za ?_)|(apply f_st;first|refine n_st ?_|refine zx1 ?_)|(apply f_ia;first|refine n_ix ?_|refine zz1 ?_|refine za ?_)|(apply ze2;first|refine zy ?_|refine za ?_)|(apply zm3;first|refine zi2 ?_|refine za ?_)|(apply zw1;first|refine zl ?_|refine za ?_)|(apply f_no;first|refine zh2 ?_|refine za ?_)|(apply f_pk;first|refine za2 (v:=.c _) ?_|refine za ?_)|refine n_al ?_|refine n_bs ?_|refine zg4 ?_|refine za ?_)|(apply f_w;first|refine zv ?_|refine zc ?_)|(apply d_wo;first|(apply d_gs;first|refine o_sk ?_|refine zm4 ?_)|(apply d_bo;(refine o_gm ?_ ?_<;>intro hG<;>(try cases hG)))|(apply d_mv;refine zi ?_)|(apply d_as;refine zi ?_)|(apply d_fa;first|refine o_fa ?_|refine zn3 ?_)|(apply d_ld;first|refine zo3 ?_|refine zk2 ?_|refine zl2 ?_|refine zp3 ?_|refine zi ?_|refine o_ld ?_)|(apply d_bi;first|refine zt2 ?_|refine zs2 ?_|refine zu2 ?_|refine zd2 ?_|refine zd2 (hnu:=ze _) ?_|refine zn1 ?_|refine zn1 (hnu:=ze _) ?_|refine zi ?_)|(apply d_st;first|refine o_st ?_|refine zf4 ?_)|(apply d_ia;first|refine o_ix ?_|refine zx4 ?_|refine zi ?_)|(apply d_bb;first|refine zf1 ?_|refine zg1 ?_|refine zh1 ?_|refine zl3 ?_|refine zi ?_)|refine o_al ?_|refine o_bs ?_|refine zu4 ?_|refine zi ?_)|(apply d_w;first|refine zv ?_|refine zc ?_)|refine zb fun C=>?_|refine zj (by kernel_rfl) (by kernel_rfl) fun C=>?_|refine zh ?_|refine zd ?_|refine zf ?_|refine zg ?_)
   all_goals first
    | refine zp rfl ?_
    | refine zn (by rfl) (fun hC=>by exfalso;clear hfine;simp only [bne_iff_ne,ne_eq,Bool.false_eq_true,false_or,decide_eq_true_iff] at *;omega) fun hC=>?_
   all_goals
    refine zs4 (g_rev 800 (i:=9) rfl rfl (pre:=[.v (.int .i64 k'),.v (.string t')]) (post:=[]) rfl) ?_
    repeat' (first|(apply f_wo;first|(apply f_gs;refine n_sk ?_)|(apply f_mv;first|(refine zb2 ?_ ?_<;>intro hG<;>(try cases hG))|refine zj1 (v:=.c _) ?_|refine za ?_)|(apply f_as;first|refine zi1 (v:=.c _) ?_|refine za ?_)|(apply f_fa;first|refine n_fa ?_|refine zm1 ?_)|(apply f_ld;first|refine zq1 ?_|refine zx ?_|refine zw ?_|refine zo1 ?_|refine n_ld ?_)|(apply f_bi;first|refine zb1 ?_|refine za1 ?_|refine zc1 ?_|refine zc2 ?_|refine zc2 (hnu:=ze _) ?_|refine zp1 ?_|refine zp1 (hnu:=ze _) ?_|refine za ?_)|(apply f_st;first|refine n_st ?_|refine zx1 ?_)|(apply f_ia;first|refine n_ix ?_|refine zz1 ?_|refine za ?_)|(apply ze2;first|refine zy ?_|refine za ?_)|(apply zm3;first|refine zi2 ?_|refine za ?_)|(apply zw1;first|refine zl ?_|refine za ?_)|(apply f_no;first|refine zh2 ?_|refine za ?_)|(apply f_pk;first|refine za2 (v:=.c _) ?_|refine za ?_)|refine n_al ?_|refine n_bs ?_|refine zg4 ?_|refine za ?_)|(apply f_w;first|refine zv ?_|refine zc ?_)|(apply d_wo;first|(apply d_gs;first|refine o_sk ?_|refine zm4 ?_)|(apply d_bo;(refine o_gm ?_ ?_<;>intro hG<;>(try cases hG)))|(apply d_mv;refine zi ?_)|(apply d_as;refine zi ?_)|(apply d_fa;first|refine o_fa ?_|refine zn3 ?_)|(apply d_ld;first|refine zo3 ?_|refine zk2 ?_|refine zl2 ?_|refine zp3 ?_|refine zi ?_|refine o_ld ?_)|(apply d_bi;first|refine zt2 ?_|refine zs2 ?_|refine zu2 ?_|refine zd2 ?_|refine zd2 (hnu:=ze _) ?_|refine zn1 ?_|refine zn1 (hnu:=ze _) ?_|refine zi ?_)|(apply d_st;first|refine o_st ?_|refine zf4 ?_)|(apply d_ia;first|refine o_ix ?_|refine zx4 ?_|refine zi ?_)|(apply d_bb;first|refine zf1 ?_|refine zg1 ?_|refine zh1 ?_|refine zl3 ?_|refine zi ?_)|refine o_al ?_|refine o_bs ?_|refine zu4 ?_|refine zi ?_)|(apply d_w;first|refine zv ?_|refine zc ?_)|refine zb fun C=>?_|refine zj (by kernel_rfl) (by kernel_rfl) fun C=>?_|refine zh ?_|refine zd ?_|refine zf ?_|refine zg ?_|refine zt rfl ?_|refine zp rfl ?_)
    refine zu ?_;refine ret1 rfl (zy3 (zi3 rfl (zi3 rfl (zk3 rfl rfl rfl (by first|exact zq _|exact zo _|exact bytC_clo _|(simp [cloL,clo,zq,zo,ze1,zd1,zr];done)|(simp [cloL,clo,opC,opL,zq,zo,ze1,zd1,zr];done)) zn2)))) rfl (by first|rfl|(simp [cloL,clo,zq,zo,ze1,zd1,zr];done)) rfl ⟨?_,?_⟩<;>rfl
  | x :: y :: r,hf,_ =>
   have hlen2:(x :: y :: r).length=r.length+2:=rfl
   cases b<;>repeat' (first|(apply f_wo;first|(apply f_gs;refine n_sk ?_)|(apply f_mv;first|(refine zb2 ?_ ?_<;>intro hG<;>(try cases hG))|refine zj1 (v:=.c _) ?_|refine za ?_)|(apply f_as;first|refine zi1 (v:=.c _) ?_|refine za ?_)|(apply f_fa;first|refine n_fa ?_|refine zm1 ?_)|(apply f_ld;first|refine zq1 ?_|refine zx ?_|refine zw ?_|refine zo1 ?_|refine n_ld ?_)|(apply f_bi;first|refine zb1 ?_|refine za1 ?_|refine zc1 ?_|refine zc2 ?_|refine zc2 (hnu:=ze _) ?_|refine zp1 ?_|refine zp1 (hnu:=ze _) ?_|refine za ?_)|(apply f_st;first|refine n_st ?_|refine zx1 ?_)|(apply f_ia;first|refine n_ix ?_|refine zz1 ?_|refine za ?_)|(apply ze2;first|refine zy ?_|refine za ?_)|(apply zm3;first|refine zi2 ?_|refine za ?_)|(apply zw1;first|refine zl ?_|refine za ?_)|(apply f_no;first|refine zh2 ?_|refine za ?_)|(apply f_pk;first|refine za2 (v:=.c _) ?_|refine za ?_)|refine n_al ?_|refine n_bs ?_|refine zg4 ?_|refine za ?_)|(apply f_w;first|refine zv ?_|refine zc ?_)|(apply d_wo;first|(apply d_gs;first|refine o_sk ?_|refine zm4 ?_)|(apply d_bo;(refine o_gm ?_ ?_<;>intro hG<;>(try cases hG)))|(apply d_mv;refine zi ?_)|(apply d_as;refine zi ?_)|(apply d_fa;first|refine o_fa ?_|refine zn3 ?_)|(apply d_ld;first|refine zo3 ?_|refine zk2 ?_|refine zl2 ?_|refine zp3 ?_|refine zi ?_|refine o_ld ?_)|(apply d_bi;first|refine zt2 ?_|refine zs2 ?_|refine zu2 ?_|refine zd2 ?_|refine zd2 (hnu:=ze _) ?_|refine zn1 ?_|refine zn1 (hnu:=ze _) ?_|refine zi ?_)|(apply d_st;first|refine o_st ?_|refine zf4 ?_)|(apply d_ia;first|refine o_ix ?_|refine zx4 ?_|refine zi ?_)|(apply d_bb;first|refine zf1 ?_|refine zg1 ?_|refine zh1 ?_|refine zl3 ?_|refine zi ?_)|refine o_al ?_|refine o_bs ?_|refine zu4 ?_|refine zi ?_)|(apply d_w;first|refine zv ?_|refine zc ?_)|refine zb fun C=>?_|refine zj (by kernel_rfl) (by kernel_rfl) fun C=>?_|refine zh ?_|refine zd ?_|refine zf ?_|refine zg ?_)
   all_goals first
    | refine zp rfl ?_
    | refine zn (by rfl) (fun hC=>by exfalso;clear hfine;simp only [bne_iff_ne,ne_eq,Bool.false_eq_true,false_or,decide_eq_true_iff] at *;omega) fun hC=>?_
   all_goals
    repeat' (first|(apply f_wo;first|(apply f_gs;refine n_sk ?_)|(apply f_mv;first|(refine zb2 ?_ ?_<;>intro hG<;>(try cases hG))|refine zj1 (v:=.c _) ?_|refine za ?_)|(apply f_as;first|refine zi1 (v:=.c _) ?_|refine za ?_)|(apply f_fa;first|refine n_fa ?_|refine zm1 ?_)|(apply f_ld;first|refine zq1 ?_|refine zx ?_|refine zw ?_|refine zo1 ?_|refine n_ld ?_)|(apply f_bi;first|refine zb1 ?_|refine za1 ?_|refine zc1 ?_|refine zc2 ?_|refine zc2 (hnu:=ze _) ?_|refine zp1 ?_|refine zp1 (hnu:=ze _) ?_|refine za ?_)|(apply f_st;first|refine n_st ?_|refine zx1 ?_)|(apply f_ia;first|refine n_ix ?_|refine zz1 ?_|refine za ?_)|(apply ze2;first|refine zy ?_|refine za ?_)|(apply zm3;first|refine zi2 ?_|refine za ?_)|(apply zw1;first|refine zl ?_|refine za ?_)|(apply f_no;first|refine zh2 ?_|refine za ?_)|(apply f_pk;first|refine za2 (v:=.c _) ?_|refine za ?_)|refine n_al ?_|refine n_bs ?_|refine zg4 ?_|refine za ?_)|(apply f_w;first|refine zv ?_|refine zc ?_)|(apply d_wo;first|(apply d_gs;first|refine o_sk ?_|refine zm4 ?_)|(apply d_bo;(refine o_gm ?_ ?_<;>intro hG<;>(try cases hG)))|(apply d_mv;refine zi ?_)|(apply d_as;refine zi ?_)|(apply d_fa;first|refine o_fa ?_|refine zn3 ?_)|(apply d_ld;first|refine zo3 ?_|refine zk2 ?_|refine zl2 ?_|refine zp3 ?_|refine zi ?_|refine o_ld ?_)|(apply d_bi;first|refine zt2 ?_|refine zs2 ?_|refine zu2 ?_|refine zd2 ?_|refine zd2 (hnu:=ze _) ?_|refine zn1 ?_|refine zn1 (hnu:=ze _) ?_|refine zi ?_)|(apply d_st;first|refine o_st ?_|refine zf4 ?_)|(apply d_ia;first|refine o_ix ?_|refine zx4 ?_|refine zi ?_)|(apply d_bb;first|refine zf1 ?_|refine zg1 ?_|refine zh1 ?_|refine zl3 ?_|refine zi ?_)|refine o_al ?_|refine o_bs ?_|refine zu4 ?_|refine zi ?_)|(apply d_w;first|refine zv ?_|refine zc ?_)|refine zb fun C=>?_|refine zj (by kernel_rfl) (by kernel_rfl) fun C=>?_|refine zh ?_|refine zd ?_|refine zf ?_|refine zg ?_)
    refine zn (by rfl) (fun hC=>by exfalso;simp at hC;omega) fun hC=>?_
    repeat' (first|(apply f_wo;first|(apply f_gs;refine n_sk ?_)|(apply f_mv;first|(refine zb2 ?_ ?_<;>intro hG<;>(try cases hG))|refine zj1 (v:=.c _) ?_|refine za ?_)|(apply f_as;first|refine zi1 (v:=.c _) ?_|refine za ?_)|(apply f_fa;first|refine n_fa ?_|refine zm1 ?_)|(apply f_ld;first|refine zq1 ?_|refine zx ?_|refine zw ?_|refine zo1 ?_|refine n_ld ?_)|(apply f_bi;first|refine zb1 ?_|refine za1 ?_|refine zc1 ?_|refine zc2 ?_|refine zc2 (hnu:=ze _) ?_|refine zp1 ?_|refine zp1 (hnu:=ze _) ?_|refine za ?_)|(apply f_st;first|refine n_st ?_|refine zx1 ?_)|(apply f_ia;first|refine n_ix ?_|refine zz1 ?_|refine za ?_)|(apply ze2;first|refine zy ?_|refine za ?_)|(apply zm3;first|refine zi2 ?_|refine za ?_)|(apply zw1;first|refine zl ?_|refine za ?_)|(apply f_no;first|refine zh2 ?_|refine za ?_)|(apply f_pk;first|refine za2 (v:=.c _) ?_|refine za ?_)|refine n_al ?_|refine n_bs ?_|refine zg4 ?_|refine za ?_)|(apply f_w;first|refine zv ?_|refine zc ?_)|(apply d_wo;first|(apply d_gs;first|refine o_sk ?_|refine zm4 ?_)|(apply d_bo;(refine o_gm ?_ ?_<;>intro hG<;>(try cases hG)))|(apply d_mv;refine zi ?_)|(apply d_as;refine zi ?_)|(apply d_fa;first|refine o_fa ?_|refine zn3 ?_)|(apply d_ld;first|refine zo3 ?_|refine zk2 ?_|refine zl2 ?_|refine zp3 ?_|refine zi ?_|refine o_ld ?_)|(apply d_bi;first|refine zt2 ?_|refine zs2 ?_|refine zu2 ?_|refine zd2 ?_|refine zd2 (hnu:=ze _) ?_|refine zn1 ?_|refine zn1 (hnu:=ze _) ?_|refine zi ?_)|(apply d_st;first|refine o_st ?_|refine zf4 ?_)|(apply d_ia;first|refine o_ix ?_|refine zx4 ?_|refine zi ?_)|(apply d_bb;first|refine zf1 ?_|refine zg1 ?_|refine zh1 ?_|refine zl3 ?_|refine zi ?_)|refine o_al ?_|refine o_bs ?_|refine zu4 ?_|refine zi ?_)|(apply d_w;first|refine zv ?_|refine zc ?_)|refine zb fun C=>?_|refine zj (by kernel_rfl) (by kernel_rfl) fun C=>?_|refine zh ?_|refine zd ?_|refine zf ?_|refine zg ?_)
    refine zu ?_;refine ret1 rfl (zy3 (zi3 rfl (zi3 rfl (zk3 rfl rfl rfl (by first|exact zq _|exact zo _|exact bytC_clo _|(simp [cloL,clo,zq,zo,ze1,zd1,zr];done)|(simp [cloL,clo,opC,opL,zq,zo,ze1,zd1,zr];done)) zn2)))) rfl (by first|rfl|(simp [cloL,clo,zq,zo,ze1,zd1,zr];done)) rfl ⟨?_,?_⟩<;>rfl
end Go.Proofs.YtghljnfbbaklnaaGreat
