/- The reference's reader of regular expressions: atoms and items: by the abstract machine. -/
import Derived.Test.YtnjfnhoipnbpeaaGreatDoorTxtPR
namespace Go.Proofs.YtnjfnhoipnbpeaaGreatDoor
open Go.RowKit
set_option maxRecDepth 100000
theorem atomS_eq {s:ByteArray}{alt:PS→E×PS}{a d c:Nat}(ha:a<s.size)(hc:bAt s a=c):atomS s alt ⟨a,d,false⟩=atomSc s alt c ⟨a+1,d,false⟩:=by
 unfold atomS
 rw [if_neg (by simp;exact ha),hc];rfl
set_option maxHeartbeats 8000000 in
theorem l3Atom_c {s:ByteArray}(hs:s.size≤1048576){alt:PS→E×PS}{p:PS}(hp:Pre s p)
 (hgr:p.b=false→p.a<s.size→Ctr Tryz.prog 166 [.c (.pt 0 0)] [rdrS s (p.go 1)] (.ag (owE (groupS s alt (p.go 1)).1)) [rdrS s (groupS s alt (p.go 1)).2])
 (hgg:p.b=false→p.a<s.size→GoodS s (p.go 1) (groupS s alt (p.go 1))) :
 Ctr Tryz.prog 157 [.c (.pt 0 0)] [rdrS s p] (.ag (owE (atomS s alt p).1)) [rdrS s (atomS s alt p).2]:=by
 obtain⟨a,d,b⟩:=p
 have hple:a≤s.size:=hp.1
 have hbad0:=zf11 (s:=s) (p:=⟨a,d,b⟩)
 cases b with
 | true =>
  have hr:atomS s alt ⟨a,d,true⟩=(zeroR,⟨a,d,true⟩):=by unfold atomS;rw [if_pos (.inl rfl)];rfl
  rw [hr]
  refine ze1 Tryz.func157 rfl rfl ?_
  unfold rdrS at hbad0 ⊢
  dsimp only [PS.bad] at hbad0 ⊢
  repeat' (first|(apply f_wo;first|(apply f_mv;refine zv (v:=.c _) ?_)|(apply f_ca;refine zh2 0 (hbad0) ?_)|(apply f_st;refine n_st ?_)|refine n_al ?_)|(apply f_w;first|refine zj ?_|refine zb ?_)|(apply d_wo;first|(apply d_gs;refine o_sk ?_)|(apply d_bo;(refine o_gm ?_ ?_<;>intro hG<;>(try cases hG)))|(apply d_mv;refine ze2 ?_)|(apply d_fa;refine o_fa ?_)|(apply d_ld;refine zp3 ?_)|refine ze2 ?_)|(apply d_w;first|refine zj ?_|refine zb ?_)|refine za fun C=>?_|refine zn (by kernel_rfl) (by kernel_rfl) fun C=>?_|refine zd ?_|refine za1 rfl ?_)
  refine zh ?_;refine ret1 rfl (zt2 (zg2 rfl (zg2 rfl (zp2 rfl rfl rfl (by first|exact zo _|exact zk _|exact bytC_clo _|(simp [cloL,clo,zo,zk,zd1,zc1,zt];done)|(simp [cloL,clo,opC,opL,zo,zk,zd1,zc1,zt];done)) zf2)))) rfl (by first|rfl|(simp [cloL,clo,zo,zk,zd1,zc1,zt];done)) rfl ⟨?_,?_⟩<;>rfl
 | false =>
 by_cases hlt:a<s.size
 ·have hgr:=hgr rfl hlt
  have hgg:=hgg rfl hlt
  obtain⟨u,hu⟩:∃u:UInt8,bAt s a=u.toNat:=⟨UInt8.ofNat (bAt s a),by rw [UInt8.toNat_ofNat'];have:=zq5 s a;omega⟩
  obtain⟨c,hc⟩:∃c,u.toNat=c:=⟨_,rfl⟩
  have hcl:c<256:=hc▸u.toNat_lt
  rw [atomS_eq hlt (hu.trans hc)]
  have hlb:=zd14 hcl
  have hbad1:=zf11 (s:=s) (p:=⟨a+1,d,false⟩)
  have hq1:(PS.mk a d false).go 1=⟨a+1,d,false⟩:=rfl
  rw [hq1] at hgr hgg
  refine ze1 Tryz.func157 rfl rfl ?_
  unfold rdrS at hgr hbad1 ⊢
  dsimp only [PS.bad] at hgr hbad1 ⊢
  have hbu:bAt s a=c:=hu.trans hc
  repeat' (first|(apply f_wo;refine n_al ?_)|(apply f_w;first|refine zj ?_|refine zb ?_)|(apply d_wo;first|(apply d_bo;(refine o_gm ?_ ?_<;>intro hG<;>(try cases hG)))|(apply d_mv;refine ze2 ?_)|(apply d_fa;refine o_fa ?_)|(apply d_ld;refine zp3 ?_)|(apply d_bi;refine zr5 ?_)|(apply d_bb;refine ze2 ?_)|refine ze2 ?_)|(apply d_w;first|refine zj ?_|refine zb ?_)|refine za fun C=>?_|refine zn (by kernel_rfl) (by kernel_rfl) fun C=>?_|refine zd ?_)
  refine zi (by rfl) (fun hC=>by exfalso;simp only [decide_eq_true_iff] at hC;omega) fun hC=>?_
  have hu':bAt s a=u.toNat:=hu
  repeat' (first|(apply f_wo;first|(apply f_mv;refine zv (v:=.c _) ?_)|(apply f_as;refine zq (v:=.c _) ?_)|(apply f_fa;refine n_fa ?_)|(apply f_ld;refine zn1 ?_)|(apply f_st;refine n_st ?_)|(apply zr1;refine zv2 ?_)|(apply zd2;refine zj1 ?_)|refine zz1 ?_)|(apply f_w;first|refine zj ?_|refine zb ?_)|(apply d_wo;first|(apply d_mv;refine ze2 ?_)|(apply d_as;refine ze2 ?_)|(apply d_fa;refine o_fa ?_)|(apply d_ld;refine zp3 ?_)|refine zl8 ?_|refine ze2 ?_)|(apply d_w;first|refine zj ?_|refine zb ?_)|refine za fun C=>?_|refine zn (by kernel_rfl) (by kernel_rfl) fun C=>?_|refine zd ?_|refine ze ?_|refine zg ?_)
  rw [hbu]
  by_cases h3:c=46∨c=94∨c=36
  ·obtain⟨kk,hr,hkk⟩:∃kk:Int,atomSc s alt c ⟨a+1,d,false⟩=(rexE kk ByteArray.empty [],⟨a+1,d,false⟩)∧((c=46∧kk=2)∨(c=94∧kk=10)∨(c=36∧kk=11)):=by
    rcases h3 with h|h|h
    ·exact⟨2,by rw [h];rfl,.inl ⟨h,rfl⟩⟩
    ·exact⟨10,by rw [h];rfl,.inr (.inl ⟨h,rfl⟩)⟩
    ·exact⟨11,by rw [h];rfl,.inr (.inr ⟨h,rfl⟩)⟩
   rw [hr]
   clear hr h3
   rcases hkk with ⟨h,rfl⟩|⟨h,rfl⟩|⟨h,rfl⟩
   all_goals
    rw [h]
    repeat' (first|(apply f_wo;first|(apply f_mv;refine zv (v:=.c _) ?_)|(apply f_as;refine zq (v:=.c _) ?_)|(apply f_st;refine n_st ?_)|(apply zr1;refine zv2 ?_)|refine zz1 ?_)|(apply f_w;first|refine zj ?_|refine zb ?_)|refine za fun C=>?_|refine zd ?_|refine za1 rfl ?_|refine zf1 rfl ?_)
    refine zk3 (zf5 900 (i:=2) 140 3 rfl rfl (pre:=[_,_]) (post:=[]) rfl) ?_;refine zh ?_;refine ret1 rfl (zt2 (zg2 rfl (zg2 rfl (zp2 rfl rfl rfl (by first|exact zo _|exact zk _|exact bytC_clo _|(simp [cloL,clo,zo,zk,zd1,zc1,zt];done)|(simp [cloL,clo,opC,opL,zo,zk,zd1,zc1,zt];done)) zf2)))) rfl (by first|rfl|(simp [cloL,clo,zo,zk,zd1,zc1,zt];done)) rfl ⟨?_,?_⟩<;>rfl
  have h46:c≠46:=fun h=>h3 (.inl h)
  have h94:c≠94:=fun h=>h3 (.inr (.inl h))
  have h36:c≠36:=fun h=>h3 (.inr (.inr h))
  by_cases h40:c=40
  ·have hr:atomSc s alt c ⟨a+1,d,false⟩=groupS s alt ⟨a+1,d,false⟩:=by rw [h40];rfl
   rw [hr]
   rw [h40]
   obtain⟨⟨e,q⟩,hq⟩:∃r,groupS s alt ⟨a+1,d,false⟩=r:=⟨_,rfl⟩
   rw [hq] at hgr hgg ⊢
   have hfi:Fine e:=hgg.fine
   cases hfi with
   | mk k t l hk ht hl2 =>
   dsimp only at hgr ⊢
   repeat' (first|(apply f_wo;first|(apply f_mv;refine zv (v:=.c _) ?_)|(apply f_as;refine zq (v:=.c _) ?_)|(apply f_ca;refine zh2 0 (hgr) ?_)|(apply f_st;refine n_st ?_)|(apply zr1;refine zv2 ?_))|(apply f_w;first|refine zj ?_|refine zb ?_)|refine za fun C=>?_|refine zd ?_|refine za1 rfl ?_|refine zf1 rfl ?_)
   refine zh ?_;refine ret1 rfl (zt2 (zg2 rfl (zg2 rfl (zp2 rfl rfl rfl (by first|exact zo _|exact zk _|exact bytC_clo _|(simp [cloL,clo,zo,zk,zd1,zc1,zt];done)|(simp [cloL,clo,opC,opL,zo,zk,zd1,zc1,zt];done)) zf2)))) rfl (by first|rfl|(simp [cloL,clo,zo,zk,zd1,zc1,zt];done)) rfl ⟨?_,?_⟩<;>rfl
  iterate 3
   refine zi (by rfl) (fun hC=>absurd (eq_of_beq hC) (by omega)) fun hC=>?_
   repeat' (first|(apply f_wo;first|(apply f_mv;refine zv (v:=.c _) ?_)|(apply f_as;refine zq (v:=.c _) ?_)|(apply zr1;refine zv2 ?_))|(apply f_w;first|refine zj ?_|refine zb ?_)|refine za fun C=>?_|refine zd ?_)
  refine zi (by rfl) (fun hC=>absurd (eq_of_beq hC) (by omega)) fun hC=>?_
  cases hl:litB c with
  | true =>
   have hr:atomSc s alt c ⟨a+1,d,false⟩=(rexE 1 (oneB c) [],⟨a+1,d,false⟩):=zp8 hl
   rw [hr]
   rw [hl] at hlb
   subst hc
   repeat' (first|(apply f_wo;first|(apply f_mv;refine zv (v:=.c _) ?_)|(apply f_as;refine zq (v:=.c _) ?_)|(apply f_ca;refine zk1 hlb ?_)|(apply f_st;refine n_st ?_)|(apply f_cv;refine zz1 ?_)|refine n_bs ?_|refine zz1 ?_)|(apply f_w;first|refine zj ?_|refine zb ?_)|refine za fun C=>?_|refine zd ?_|refine za1 rfl ?_)
   refine zk3 (zf5 900 (i:=2) 140 3 rfl rfl (pre:=[_,_]) (post:=[]) rfl) ?_;refine zh ?_;refine ret1 rfl (zt2 (zg2 rfl (zg2 rfl (zp2 rfl rfl rfl (by first|exact zo _|exact zk _|exact bytC_clo _|(simp [cloL,clo,zo,zk,zd1,zc1,zt];done)|(simp [cloL,clo,opC,opL,zo,zk,zd1,zc1,zt];done)) zf2)))) rfl (by first|rfl|(simp [cloL,clo,zo,zk,zd1,zc1,zt];done)) rfl ⟨?_,?_⟩<;>rfl
  | false =>
   rw [hl] at hlb
   by_cases h91:c=91
   ·subst h91
    obtain⟨g1,g2,g3,g4⟩:=zb8 (s:=s) (c:=93) s.size (a+1) (by omega) (by omega)
    have hr:atomSc s alt 91 ⟨a+1,d,false⟩=if isB s 93 ⟨untB s 93 s.size (a+1),d,false⟩ then (rexE 3 (cutB s (a+1) (untB s 93 s.size (a+1))) [],⟨untB s 93 s.size (a+1)+1,d,false⟩) else (zeroR,⟨untB s 93 s.size (a+1),d,true⟩):=rfl
    rw [hr]
    clear hr
    generalize untB s 93 s.size (a+1)=w at *
    have hisb:=ze11 hs (c:=93) (by omega) (p:=⟨w,d,false⟩)
    have hbadw:=zf11 (s:=s) (p:=⟨w,d,false⟩)
    have ea:(a:Int)+1=((a+1:Nat):Int):=by omega
    repeat' (first|(apply f_wo;first|(apply f_mv;refine zv (v:=.c _) ?_)|(apply f_as;refine zq (v:=.c _) ?_)|(apply f_fa;refine n_fa ?_)|(apply f_ld;refine zn1 ?_)|(apply f_ca;refine zk1 hlb ?_)|(apply zn2;refine zk5 ?_)|refine zz1 ?_)|(apply f_w;first|refine zj ?_|refine zb ?_)|refine za fun C=>?_|refine zd ?_|refine ze ?_|refine zg ?_|refine zf1 rfl ?_)
    refine zv1 (fun j:Nat=>⟨tmsF [(0,.c (.pt 0 0)),(2,.c (.pt 2 0)),(4,.c (.v (.int .i64 ((a+1:Nat):Int))))],hpsF [(0,0,⟨0,0,0,true,[.v (.string s),.v (.int .i64 (j:Int)),.v (.bool false),.v (.int .i64 (d:Int))]⟩),(2,2,⟨140,0,0,true,[.v (.int .i64 0),.v (.string ByteArray.empty),.v (.slice none 0 0)]⟩)],1,[0,2],119⟩)
     (fun N j=>j+N=w∧a+1≤j) (w-(a+1)) (a+1) ⟨by omega,by omega⟩ ?_ ?_
    ·(refine zl1 _ _ rfl rfl ?_ ?_<;>(repeat' (first|exact TmOk.nil|exact RwOk.nil|refine TmOk.cons ?_ ?_|refine RwOk.cons ?_ ?_|rfl|(refine rnV_id' rfl ?_;exact byc)|(refine zp1 ?_;first|rfl|omega|(rw [zw (by omega) (by omega)];omega))|(refine zb1 rfl ?_;exact byc)|exact zc2 rfl rfl|(refine zq1 (by rfl) (by rfl) ?_ ?_<;>exact byc)|(refine rw_rn' rfl rfl ?_;simp;done))))
    rintro N j ⟨hN,hj⟩
    by_cases hjw:j<w
    ·have hlt2:j<s.size:=by omega
     have hne:=g3 j hj hjw
     repeat' (first|(apply d_wo;first|(apply d_gs;refine o_sk ?_)|(apply d_bo;(refine o_gm ?_ ?_<;>intro hG<;>(try cases hG)))|(apply d_mv;refine ze2 ?_)|(apply d_fa;refine o_fa ?_)|(apply d_ld;refine zp3 ?_)|(apply d_bi;refine zr5 ?_)|(apply d_bb;refine ze2 ?_)|refine zl8 ?_|refine ze2 ?_)|(apply d_w;first|refine zj ?_|refine zb ?_)|refine zn (by kernel_rfl) (by kernel_rfl) fun C=>?_|refine zd ?_)
     ·refine zi (by rfl) (fun hC=>?_) fun hC=>absurd (bne_eq_false_iff_eq.1 hC) (by omega)
      repeat' (first|(apply f_wo;first|(apply f_mv;refine zv (v:=.c _) ?_)|(apply f_fa;refine n_fa ?_)|(apply f_ld;refine zn1 ?_)|(apply f_st;refine n_st ?_)|(apply zd2;refine zj1 ?_)|refine zz1 ?_)|(apply f_w;first|refine zj ?_|refine zb ?_)|refine za fun C=>?_|refine ze ?_|refine zg ?_)
      refine⟨N-1,j+1,by omega,⟨by omega,by omega⟩,?_⟩
      (refine zl1 _ _ rfl rfl ?_ ?_<;>(repeat' (first|exact TmOk.nil|exact RwOk.nil|refine TmOk.cons ?_ ?_|refine RwOk.cons ?_ ?_|rfl|(refine rnV_id' rfl ?_;exact byc)|(refine zp1 ?_;first|rfl|omega|(rw [zw (by omega) (by omega)];omega))|(refine zb1 rfl ?_;exact byc)|exact zc2 rfl rfl|(refine zq1 (by rfl) (by rfl) ?_ ?_<;>exact byc)|(refine rw_rn' rfl rfl ?_;simp;done))))
     ·exfalso;simp only [decide_eq_false_iff_not] at hG;omega
    ·obtain rfl:j=w:=by omega
     by_cases hws:j<s.size
     ·have hb93:=g4 hws
      have hi:isB s 93 ⟨j,d,false⟩=true:=by unfold isB;rw [decide_eq_true hws,hb93];rfl
      rw [zf7 hi,hi] at hisb
      rw [if_pos hi]
      unfold rdrS at hisb
      dsimp only [PS.go] at hisb ⊢
      repeat' (first|(apply d_wo;first|(apply d_gs;refine o_sk ?_)|(apply d_bo;(refine o_gm ?_ ?_<;>intro hG<;>(try cases hG)))|(apply d_mv;refine ze2 ?_)|(apply d_fa;refine o_fa ?_)|(apply d_ld;refine zp3 ?_)|(apply d_bi;refine zr5 ?_)|(apply d_bb;refine ze2 ?_)|refine zl8 ?_|refine ze2 ?_)|(apply d_w;first|refine zj ?_|refine zb ?_)|refine zn (by kernel_rfl) (by kernel_rfl) fun C=>?_|refine zd ?_)
      ·rw [hb93]
       repeat' (first|(apply f_wo;first|(apply f_mv;refine zv (v:=.c _) ?_)|(apply f_ld;refine zs2 ?_)|(apply f_ca;refine zh2 0 (hisb) ?_)|(apply f_st;refine n_st ?_)|(apply f_no;refine zu2 ?_))|(apply f_w;first|refine zj ?_|refine zb ?_)|(apply d_wo;first|(apply d_mv;refine ze2 ?_)|(apply d_fa;refine o_fa ?_)|(apply d_ld;refine zp3 ?_)|(apply d_st;refine o_st ?_)|refine o_al ?_|refine o_ssl ?_|refine ze2 ?_)|(apply d_w;first|refine zj ?_|refine zb ?_)|refine za fun C=>?_|refine zn (by kernel_rfl) (by kernel_rfl) fun C=>?_|refine zd ?_|refine zg ?_|refine zu ?_|refine zf1 rfl ?_)
       refine zk3 (zf5 900 (i:=2) 140 3 rfl rfl (pre:=[_,_]) (post:=[]) rfl) ?_;refine zh ?_;refine ret1 rfl (zt2 (zg2 rfl (zg2 rfl (zp2 rfl rfl rfl (by first|exact zo _|exact zk _|exact bytC_clo _|(simp [cloL,clo,zo,zk,zd1,zc1,zt];done)|(simp [cloL,clo,opC,opL,zo,zk,zd1,zc1,zt];done)) zf2)))) rfl (by first|rfl|(simp [cloL,clo,zo,zk,zd1,zc1,zt];done)) rfl ⟨?_,?_⟩<;>rfl
      ·exfalso;simp only [decide_eq_false_iff_not] at hG;omega
     ·have hi:isB s 93 ⟨j,d,false⟩=false:=by unfold isB;rw [decide_eq_false hws];rfl
      rw [zg11 hi,hi] at hisb
      rw [if_neg (by rw [hi];simp)]
      unfold rdrS at hisb hbadw
      dsimp only [PS.bad] at hisb hbadw ⊢
      repeat' (first|(apply d_wo;first|(apply d_gs;refine o_sk ?_)|(apply d_bo;(refine o_gm ?_ ?_<;>intro hG<;>(try cases hG)))|(apply d_mv;refine ze2 ?_)|(apply d_fa;refine o_fa ?_)|(apply d_ld;refine zp3 ?_)|(apply d_bi;refine zr5 ?_)|(apply d_bb;refine ze2 ?_)|refine zl8 ?_|refine ze2 ?_)|(apply d_w;first|refine zj ?_|refine zb ?_)|refine zn (by kernel_rfl) (by kernel_rfl) fun C=>?_|refine zd ?_)
      ·exfalso;simp only [decide_eq_true_iff] at hG;omega
      ·repeat' (first|(apply f_wo;first|(apply f_mv;refine zv (v:=.c _) ?_)|(apply f_ca;first|refine zh2 0 (hisb) ?_|refine zh2 0 (hbadw) ?_)|(apply f_st;refine n_st ?_)|(apply f_no;refine zu2 ?_))|(apply f_w;first|refine zj ?_|refine zb ?_)|(apply d_wo;first|(apply d_mv;refine ze2 ?_)|(apply d_fa;refine o_fa ?_)|(apply d_ld;refine zp3 ?_)|(apply d_st;refine o_st ?_)|refine o_al ?_|refine o_ssl ?_|refine ze2 ?_)|(apply d_w;first|refine zj ?_|refine zb ?_)|refine za fun C=>?_|refine zn (by kernel_rfl) (by kernel_rfl) fun C=>?_|refine zd ?_|refine zu ?_|refine za1 rfl ?_|refine zf1 rfl ?_)
       refine zh ?_;refine ret1 rfl (zt2 (zg2 rfl (zg2 rfl (zp2 rfl rfl rfl (by first|exact zo _|exact zk _|exact bytC_clo _|(simp [cloL,clo,zo,zk,zd1,zc1,zt];done)|(simp [cloL,clo,opC,opL,zo,zk,zd1,zc1,zt];done)) zf2)))) rfl (by first|rfl|(simp [cloL,clo,zo,zk,zd1,zc1,zt];done)) rfl ⟨?_,?_⟩<;>rfl
   ·have hr:atomSc s alt c ⟨a+1,d,false⟩=(zeroR,⟨a+1,d,true⟩):=zl15 hl h46 h94 h36 h40 h91
    rw [hr]
    repeat' (first|(apply f_wo;first|(apply f_mv;refine zv (v:=.c _) ?_)|(apply f_as;refine zq (v:=.c _) ?_)|(apply f_ca;refine zk1 hlb ?_)|(apply zn2;refine zk5 ?_))|(apply f_w;first|refine zj ?_|refine zb ?_)|refine za fun C=>?_|refine zd ?_|refine zf1 rfl ?_)
    refine zi (by rfl) (fun hC=>?_) fun hC=>absurd (bne_eq_false_iff_eq.1 hC) (by omega)
    repeat' (first|(apply f_wo;first|(apply f_mv;refine zv (v:=.c _) ?_)|(apply f_ca;refine zh2 0 (hbad1) ?_)|(apply f_st;refine n_st ?_))|(apply f_w;first|refine zj ?_|refine zb ?_)|refine za fun C=>?_|refine zd ?_)
    refine zh ?_;refine ret1 rfl (zt2 (zg2 rfl (zg2 rfl (zp2 rfl rfl rfl (by first|exact zo _|exact zk _|exact bytC_clo _|(simp [cloL,clo,zo,zk,zd1,zc1,zt];done)|(simp [cloL,clo,opC,opL,zo,zk,zd1,zc1,zt];done)) zf2)))) rfl (by first|rfl|(simp [cloL,clo,zo,zk,zd1,zc1,zt];done)) rfl ⟨?_,?_⟩<;>rfl
 ·have hr:atomS s alt ⟨a,d,false⟩=(zeroR,⟨a,d,true⟩):=by unfold atomS;rw [if_pos (.inr (by dsimp only;omega))];rfl
  rw [hr]
  refine ze1 Tryz.func157 rfl rfl ?_
  unfold rdrS at hbad0 ⊢
  dsimp only [PS.bad] at hbad0 ⊢
  repeat' (first|(apply f_wo;refine n_al ?_)|(apply f_w;first|refine zj ?_|refine zb ?_)|(apply d_wo;first|(apply d_bo;(refine o_gm ?_ ?_<;>intro hG<;>(try cases hG)))|(apply d_mv;refine ze2 ?_)|(apply d_fa;refine o_fa ?_)|(apply d_ld;refine zp3 ?_)|(apply d_bi;refine zr5 ?_)|(apply d_bb;refine ze2 ?_)|refine ze2 ?_)|(apply d_w;first|refine zj ?_|refine zb ?_)|refine za fun C=>?_|refine zn (by kernel_rfl) (by kernel_rfl) fun C=>?_|refine zd ?_)
  refine zi (by rfl) (fun hC=>?_) fun hC=>by exfalso;simp only [decide_eq_false_iff_not] at hC;omega
  repeat' (first|(apply f_wo;first|(apply f_mv;refine zv (v:=.c _) ?_)|(apply f_ca;refine zh2 0 (hbad0) ?_)|(apply f_st;refine n_st ?_))|(apply f_w;first|refine zj ?_|refine zb ?_)|refine za fun C=>?_|refine zd ?_)
  refine zh ?_;refine ret1 rfl (zt2 (zg2 rfl (zg2 rfl (zp2 rfl rfl rfl (by first|exact zo _|exact zk _|exact bytC_clo _|(simp [cloL,clo,zo,zk,zd1,zc1,zt];done)|(simp [cloL,clo,opC,opL,zo,zk,zd1,zc1,zt];done)) zf2)))) rfl (by first|rfl|(simp [cloL,clo,zo,zk,zd1,zc1,zt];done)) rfl ⟨?_,?_⟩<;>rfl
set_option maxHeartbeats 4000000 in
theorem l3Item_c {s:ByteArray}(hs:s.size≤1048576){atom:PS→E×PS}{p:PS}(hg:GoodS s p (atom p))
 (ha:Ctr Tryz.prog 157 [.c (.pt 0 0)] [rdrS s p] (.ag (owE (atom p).1)) [rdrS s (atom p).2]) :
 Ctr Tryz.prog 145 [.c (.pt 0 0)] [rdrS s p] (.ag (owE (itemS s atom p).1)) [rdrS s (itemS s atom p).2]:=by
 have hr:itemS s atom p=if isB s 42 (atom p).2 then (rexE 6 ByteArray.empty [(atom p).1],(atom p).2.go 1) else if isB s 43 (atom p).2 then (rexE 7 ByteArray.empty [(atom p).1],(atom p).2.go 1) else if isB s 63 (atom p).2 then (rexE 8 ByteArray.empty [(atom p).1],(atom p).2.go 1) else atom p:=rfl
 rw [hr]
 clear hr
 obtain⟨⟨e,q⟩,hq⟩:∃r,atom p=r:=⟨_,rfl⟩
 rw [hq] at ha hg ⊢
 have hfi:Fine e:=hg.fine
 clear hg hq
 dsimp only at ha ⊢
 cases hfi with
 | mk k t l hk ht hl2 =>
 have b1:=ze11 hs (c:=42) (by omega) (p:=q)
 have b2:=ze11 hs (c:=43) (by omega) (p:=q)
 have b3:=ze11 hs (c:=63) (by omega) (p:=q)
 obtain⟨qa,qd,qb⟩:=q
 refine ze1 Tryz.func145 rfl rfl ?_
 cases h1:isB s 42 ⟨qa,qd,qb⟩ with
 | true =>
  rw [zf7 h1,h1] at b1
  rw [if_pos rfl]
  unfold rdrS at ha b1 ⊢
  dsimp only [PS.go] at ha b1 ⊢
  repeat' (first|(apply f_wo;first|(apply f_mv;refine zv (v:=.c _) ?_)|(apply f_as;refine zq (v:=.c _) ?_)|(apply f_ld;refine zs2 ?_)|(apply f_ca;first|refine zh2 0 (ha) ?_|refine zh2 0 (b1) ?_)|(apply f_st;refine n_st ?_)|refine n_al ?_|refine n_bs ?_|refine zz1 ?_)|(apply f_w;first|refine zj ?_|refine zb ?_)|refine za fun C=>?_|refine zd ?_|refine ze ?_|refine za1 rfl ?_)
  refine zk3 (zk8 (i:=10) (j:=600) rfl rfl rfl (pre:=[_,_]) (post:=[]) rfl) ?_
  refine zh ?_;refine ret1 rfl (zt2 (zg2 rfl (zg2 rfl (zp2 rfl rfl rfl (by first|exact zo _|exact zk _|exact bytC_clo _|(simp [cloL,clo,zo,zk,zd1,zc1,zt];done)|(simp [cloL,clo,opC,opL,zo,zk,zd1,zc1,zt];done)) zf2)))) rfl (by first|rfl|(simp [cloL,clo,zo,zk,zd1,zc1,zt];done)) rfl ⟨?_,?_⟩<;>rfl
 | false =>
  rw [zg11 h1,h1] at b1
  rw [if_neg (by simp)]
  cases h2:isB s 43 ⟨qa,qd,qb⟩ with
  | true =>
   rw [zf7 h2,h2] at b2
   rw [if_pos rfl]
   unfold rdrS at ha b1 b2 ⊢
   dsimp only [PS.go] at ha b1 b2 ⊢
   repeat' (first|(apply f_wo;first|(apply f_mv;refine zv (v:=.c _) ?_)|(apply f_as;refine zq (v:=.c _) ?_)|(apply f_ld;refine zs2 ?_)|(apply f_ca;first|refine zh2 0 (ha) ?_|refine zh2 0 (b1) ?_|refine zh2 0 (b2) ?_)|(apply f_st;refine n_st ?_)|refine n_al ?_|refine n_bs ?_|refine zz1 ?_)|(apply f_w;first|refine zj ?_|refine zb ?_)|refine za fun C=>?_|refine zd ?_|refine ze ?_|refine za1 rfl ?_|refine zf1 rfl ?_)
   refine zk3 (zk8 (i:=16) (j:=600) rfl rfl rfl (pre:=[_,_]) (post:=[]) rfl) ?_
   refine zh ?_;refine ret1 rfl (zt2 (zg2 rfl (zg2 rfl (zp2 rfl rfl rfl (by first|exact zo _|exact zk _|exact bytC_clo _|(simp [cloL,clo,zo,zk,zd1,zc1,zt];done)|(simp [cloL,clo,opC,opL,zo,zk,zd1,zc1,zt];done)) zf2)))) rfl (by first|rfl|(simp [cloL,clo,zo,zk,zd1,zc1,zt];done)) rfl ⟨?_,?_⟩<;>rfl
  | false =>
   rw [zg11 h2,h2] at b2
   rw [if_neg (by simp)]
   cases h3:isB s 63 ⟨qa,qd,qb⟩ with
   | true =>
    rw [zf7 h3,h3] at b3
    rw [if_pos rfl]
    unfold rdrS at ha b1 b2 b3 ⊢
    dsimp only [PS.go] at ha b1 b2 b3 ⊢
    repeat' (first|(apply f_wo;first|(apply f_mv;refine zv (v:=.c _) ?_)|(apply f_as;refine zq (v:=.c _) ?_)|(apply f_ld;refine zs2 ?_)|(apply f_ca;first|refine zh2 0 (ha) ?_|refine zh2 0 (b1) ?_|refine zh2 0 (b2) ?_|refine zh2 0 (b3) ?_)|(apply f_st;refine n_st ?_)|refine n_al ?_|refine n_bs ?_|refine zz1 ?_)|(apply f_w;first|refine zj ?_|refine zb ?_)|refine za fun C=>?_|refine zd ?_|refine ze ?_|refine za1 rfl ?_|refine zf1 rfl ?_)
    refine zk3 (zk8 (i:=22) (j:=600) rfl rfl rfl (pre:=[_,_]) (post:=[]) rfl) ?_
    refine zh ?_;refine ret1 rfl (zt2 (zg2 rfl (zg2 rfl (zp2 rfl rfl rfl (by first|exact zo _|exact zk _|exact bytC_clo _|(simp [cloL,clo,zo,zk,zd1,zc1,zt];done)|(simp [cloL,clo,opC,opL,zo,zk,zd1,zc1,zt];done)) zf2)))) rfl (by first|rfl|(simp [cloL,clo,zo,zk,zd1,zc1,zt];done)) rfl ⟨?_,?_⟩<;>rfl
   | false =>
    rw [zg11 h3,h3] at b3
    rw [if_neg (by simp)]
    unfold rdrS at ha b1 b2 b3 ⊢
    dsimp only at ha b1 b2 b3 ⊢
    repeat' (first|(apply f_wo;first|(apply f_mv;refine zv (v:=.c _) ?_)|(apply f_as;refine zq (v:=.c _) ?_)|(apply f_ld;refine zs2 ?_)|(apply f_ca;first|refine zh2 0 (ha) ?_|refine zh2 0 (b1) ?_|refine zh2 0 (b2) ?_|refine zh2 0 (b3) ?_)|(apply f_st;refine n_st ?_)|refine n_al ?_)|(apply f_w;first|refine zj ?_|refine zb ?_)|refine za fun C=>?_|refine zd ?_|refine ze ?_|refine zg ?_|refine zf1 rfl ?_)
    refine zh ?_;refine ret1 rfl (zt2 (zg2 rfl (zg2 rfl (zp2 rfl rfl rfl (by first|exact zo _|exact zk _|exact bytC_clo _|(simp [cloL,clo,zo,zk,zd1,zc1,zt];done)|(simp [cloL,clo,opC,opL,zo,zk,zd1,zc1,zt];done)) zf2)))) rfl (by first|rfl|(simp [cloL,clo,zo,zk,zd1,zc1,zt];done)) rfl ⟨?_,?_⟩<;>rfl
theorem goS_parts {s:ByteArray}{a d v:Nat}{b:Bool}(hv:bAt s a=v):goS s ⟨a,d,b⟩=(!b&&decide (a<s.size)&&!(v==124)&&!(v==41)):=by unfold goS;rw [hv]
theorem zv17 {s:ByteArray}{item:PS→E×PS}{p:PS}(h:goS s p=false):∀(n:Nat) (l:List E),catLoopS s item n l p=(l,p)
 | 0,_=>rfl
 | n+1,l=>by unfold catLoopS;rw [if_neg (by rw [h];simp)]
theorem zw17 {s:ByteArray}{cat:PS→E×PS}{p:PS}(h:isB s 124 p=false):∀(n:Nat) (l:List E),altLoopS s cat n l p=(l,p)
 | 0,_=>rfl
 | n+1,l=>by unfold altLoopS;rw [if_neg (by rw [h];simp)]
set_option maxHeartbeats 8000000 in
theorem l3Cat_c {s:ByteArray}(hs:s.size≤1048576){item:PS→E×PS}{p0:PS}(hp:Pre s p0)
 (hg:∀q,Pre s q→p0.a≤q.a→GoodS s q (item q)∧((item q).2.b=false→q.a<(item q).2.a))
 (hi:∀q,Pre s q→p0.a≤q.a→Ctr Tryz.prog 145 [.c (.pt 0 0)] [rdrS s q] (.ag (owE (item q).1)) [rdrS s (item q).2]) :
 Ctr Tryz.prog 137 [.c (.pt 0 0)] [rdrS s p0] (.ag (owE (catS s item p0).1)) [rdrS s (catS s item p0).2]:=by
 have hic0:=hi p0 hp (Nat.le_refl _)
 obtain⟨hg0,hu0⟩:=hg p0 hp (Nat.le_refl _)
 have hL0:=GoodLS.one hg0
 have hr:catS s item p0=(oneOr 4 (catLoopS s item (s.size+1) [(item p0).1] (item p0).2).1,(catLoopS s item (s.size+1) [(item p0).1] (item p0).2).2):=rfl
 rw [hr]
 clear hr
 obtain⟨⟨e,q0⟩,hq0⟩:∃r,item p0=r:=⟨_,rfl⟩
 rw [hq0] at hic0 hg0 hL0 hu0 ⊢
 have hfi:Fine e:=hg0.fine
 dsimp only at hic0 hL0 hu0 ⊢
 cases hfi with
 | mk k t l hk ht hl2 =>
 refine ze1 Tryz.func137 rfl rfl ?_
 repeat' (first|(apply f_wo;first|(apply f_mv;refine zv (v:=.c _) ?_)|(apply f_as;refine zq (v:=.c _) ?_)|(apply f_ca;refine zh2 0 (hic0) ?_)|refine n_al ?_|refine n_bs ?_)|(apply f_w;first|refine zj ?_|refine zb ?_)|refine za fun C=>?_|refine zd ?_|refine ze ?_)
 refine zv1 (fun q:List E×PS=>⟨tmsF [(0,.c (.pt 0 0)),(2,.c (.pt 2 0)),(3,.c (.sl 9 q.1.length))],hpsF [(0,0,⟨0,0,0,true,rdrS s q.2⟩),(2,2,⟨140,0,0,true,[.v (.int .i64 0),.v (.string ByteArray.empty),.v (.slice none 0 0)]⟩),(9,9,⟨140,3,q.1.length,false,owL q.1⟩)],1,[0,2,9],61⟩)
  (fun N q=>GoodLS s p0 q.1 q.2∧(q.2.b=true∨s.size+2≤q.2.a+N)∧catLoopS s item N q.1 q.2=catLoopS s item (s.size+1) [rexE k t l] q0) (s.size+1) ([rexE k t l],q0) ⟨hL0,by
    cases hb:q0.b with
    | true=>exact .inl rfl
    | false=>right;have:=hu0 hb;dsimp only;omega,rfl⟩ ?_ ?_
 ·refine (zk8 (i:=6) (j:=600) rfl rfl rfl (pre:=[_,_]) (post:=[]) rfl).trans ?_
  (refine zi6 (fun j=>if j=9 then 6 else j) _ _ rfl rfl ?_ ?_<;>(repeat' (first|exact TmOk.nil|exact RwOk.nil|refine TmOk.cons ?_ ?_|refine RwOk.cons ?_ ?_|rfl|(refine rnV_id' rfl ?_;exact byc)|(refine zp1 ?_;first|rfl|omega|(rw [zw (by omega) (by omega)];omega))|(refine zb1 rfl ?_;exact byc)|exact zc2 rfl rfl|(refine zq1 (by rfl) (by rfl) ?_ ?_<;>exact byc)|(refine rw_rn' rfl rfl ?_;simp;done))))
 rintro N ⟨L,q⟩ ⟨hgl,hN,htot⟩
 dsimp only at hgl hN htot ⊢
 have hpre:=hgl.pre hp
 obtain⟨a,d,b⟩:=q
 obtain⟨v,hv⟩:∃v,bAt s a=v:=⟨_,rfl⟩
 have hgp:=goS_parts (d:=d) (b:=b) hv
 have hlen:=hgl.len.1
 have hale:a≤s.size:=hgl.le
 dsimp only at hlen
 cases hgo:goS s ⟨a,d,b⟩ with
 | true =>
  obtain⟨hb,hlt,hv1,hv2⟩:=goS_to hgo
  dsimp only at hb hlt hv1 hv2 hN
  subst hb
  rw [hv] at hv1 hv2
  have hN:=hN.resolve_left (by simp)
  obtain⟨M,rfl⟩:∃M,N=M+1:=⟨N-1,by omega⟩
  have hic:=hi _ hpre hgl.ge
  have hgd:=hg _ hpre hgl.ge
  have hst:catLoopS s item (M+1) L ⟨a,d,false⟩=catLoopS s item M (L++[(item ⟨a,d,false⟩).1]) (item ⟨a,d,false⟩).2:=by
   show (if goS s ⟨a,d,false⟩ then _ else _)=_
   rw [if_pos hgo]
  rw [hst] at htot
  clear hst hi hg hic0
  have hgl2:=hgl.step rfl hgd
  obtain⟨⟨e2,q2⟩,hq2⟩:∃r,item ⟨a,d,false⟩=r:=⟨_,rfl⟩
  rw [hq2] at hic htot hgd hgl2
  dsimp only at hic htot hgd hgl2
  have hfi2:Fine e2:=hgd.1.fine
  cases hfi2 with
  | mk k' t' l' hk' ht' hl2' =>
  unfold rdrS at hic ⊢
  dsimp only at hic ⊢
  repeat' (first|(apply d_wo;first|(apply d_gs;refine o_sk ?_)|(apply d_bo;(refine o_gm ?_ ?_<;>intro hG<;>(try cases hG)))|(apply d_mv;refine ze2 ?_)|(apply d_fa;refine o_fa ?_)|(apply d_ld;refine zp3 ?_)|(apply d_bi;refine zr5 ?_)|(apply d_bb;refine ze2 ?_)|refine zl8 ?_|refine ze2 ?_)|(apply d_w;first|refine zj ?_|refine zb ?_)|refine zn (by kernel_rfl) (by kernel_rfl) fun C=>?_|refine zd ?_)
  all_goals first
   | (exfalso;clear hic hgl hgl2 hgd hL0 hg0 htot hN hpre;simp only [decide_eq_false_iff_not,bne_eq_false_iff_eq] at hG;omega)
   | skip
  rw [hv]
  refine zi (by rfl) (fun hC=>?_) fun hC=>absurd (bne_eq_false_iff_eq.1 hC) (by omega)
  repeat' (first|(apply f_wo;first|(apply f_mv;refine zv (v:=.c _) ?_)|(apply f_as;refine zq (v:=.c _) ?_)|(apply f_ca;refine zh2 0 (hic) ?_)|(apply f_bi;refine zj17 ?_)|refine n_bs ?_)|(apply f_w;first|refine zj ?_|refine zb ?_)|refine za fun C=>?_|refine ze ?_|refine zg ?_)
  refine⟨M,(L++[rexE k' t' l'],q2),by omega,⟨hgl2,?_,htot⟩,?_⟩
  ·dsimp only
   cases hb2:q2.b with
   | true=>exact .inl rfl
   | false=>right;have:=hgd.2 hb2;(try dsimp only at this);omega
  ·dsimp only
   rw [List.length_append,List.length_singleton]
   refine (zk8 (i:=52) (j:=5100) rfl rfl rfl (pre:=owL L++[.v (.int .i64 k'),.v (.string t')]) (post:=[]) (by rw [List.append_assoc];rfl)).trans ?_
   (refine zi6 (fun j=>if j=9 then 52 else j) _ _ rfl rfl ?_ ?_<;>(repeat' (first|exact TmOk.nil|exact RwOk.nil|refine TmOk.cons ?_ ?_|refine RwOk.cons ?_ ?_|rfl|(refine rnV_id' rfl ?_;exact byc)|(refine zp1 ?_;first|rfl|omega|(rw [zw (by omega) (by omega)];omega))|(refine zb1 rfl ?_;exact byc)|exact zc2 rfl rfl|(refine zq1 (by rfl) (by rfl) ?_ ?_<;>exact byc)|(refine rw_rn' rfl rfl ?_;simp;done))))
   exact zh17 (r:=⟨140,3,L.length+1,false,(owL L++[.v (.int .i64 k'),.v (.string t')])++[.ow 140 l'.length 3 (owL l')]⟩) rfl (by rw [zh6,List.append_assoc];rfl) (by first|rfl|(simp [cloV,cloL,clo,zc1,zk,zd1,zo,zt];done))
 | false =>
  rw [zv17 hgo] at htot
  rw [←htot]
  rw [hgo] at hgp
  have hfine:=hgl.fine
  have hne:=hgl.ne
  clear htot hi hg hic0 hN hL0 hgl hpre hg0
  have hgo':b=true∨s.size≤a∨v=124∨v=41:=by
   cases b with
   | true=>exact .inl rfl
   | false=>right;simp at hgp;omega
  unfold rdrS
  dsimp only
  match L,hfine,hne with
  | [],_,h0=>exact absurd h0 (by simp)
  | [x],hf,_ =>
   have hx:=hf x (List.mem_singleton.2 rfl)
   cases hx with
   | mk k' t' l' hk' ht' hl2' =>
   cases b<;>repeat' (first|(apply d_wo;first|(apply d_gs;refine o_sk ?_)|(apply d_bo;(refine o_gm ?_ ?_<;>intro hG<;>(try cases hG)))|(apply d_mv;refine ze2 ?_)|(apply d_fa;refine o_fa ?_)|(apply d_ld;refine zp3 ?_)|(apply d_bi;refine zr5 ?_)|(apply d_bb;refine ze2 ?_)|refine zl8 ?_|refine ze2 ?_)|(apply d_w;first|refine zj ?_|refine zb ?_)|refine zn (by kernel_rfl) (by kernel_rfl) fun C=>?_|refine zd ?_)
   all_goals first
    | refine zf1 rfl ?_
    | refine zi (by rfl) (fun hC=>by exfalso;clear hfine;simp only [bne_iff_ne,ne_eq,Bool.false_eq_true,false_or,decide_eq_true_iff] at *;omega) fun hC=>?_
   all_goals
    refine zk3 (g_rev 800 (i:=9) rfl rfl (pre:=[.v (.int .i64 k'),.v (.string t')]) (post:=[]) rfl) ?_
    repeat' (first|(apply f_wo;first|(apply f_mv;refine zv (v:=.c _) ?_)|(apply f_ld;refine zs2 ?_)|(apply f_bi;refine zj6 ?_)|(apply f_st;refine n_st ?_)|(apply f_ia;refine zk17 ?_)|(apply zr1;refine zm ?_))|(apply f_w;first|refine zj ?_|refine zb ?_)|refine za fun C=>?_|refine zd ?_|refine zu ?_|refine za1 rfl ?_)
    refine zh ?_;refine ret1 rfl (zt2 (zg2 rfl (zg2 rfl (zp2 rfl rfl rfl (by first|exact zo _|exact zk _|exact bytC_clo _|(simp [cloL,clo,zo,zk,zd1,zc1,zt];done)|(simp [cloL,clo,opC,opL,zo,zk,zd1,zc1,zt];done)) zf2)))) rfl (by first|rfl|(simp [cloL,clo,zo,zk,zd1,zc1,zt];done)) rfl ⟨?_,?_⟩<;>rfl
  | x :: y :: r,hf,_ =>
   have hlen2:(x :: y :: r).length=r.length+2:=rfl
   cases b<;>repeat' (first|(apply d_wo;first|(apply d_gs;refine o_sk ?_)|(apply d_bo;(refine o_gm ?_ ?_<;>intro hG<;>(try cases hG)))|(apply d_mv;refine ze2 ?_)|(apply d_fa;refine o_fa ?_)|(apply d_ld;refine zp3 ?_)|(apply d_bi;refine zr5 ?_)|(apply d_bb;refine ze2 ?_)|refine zl8 ?_|refine ze2 ?_)|(apply d_w;first|refine zj ?_|refine zb ?_)|refine zn (by kernel_rfl) (by kernel_rfl) fun C=>?_|refine zd ?_)
   all_goals first
    | refine zf1 rfl ?_
    | refine zi (by rfl) (fun hC=>by exfalso;clear hfine;simp only [bne_iff_ne,ne_eq,Bool.false_eq_true,false_or,decide_eq_true_iff] at *;omega) fun hC=>?_
   all_goals
    repeat' (first|(apply f_wo;first|(apply f_mv;refine zv (v:=.c _) ?_)|(apply f_bi;refine zj6 ?_)|(apply zr1;refine zm ?_))|(apply f_w;first|refine zj ?_|refine zb ?_)|refine za fun C=>?_|refine zd ?_|refine zu ?_)
    refine zi (by rfl) (fun hC=>by exfalso;simp at hC;omega) fun hC=>?_
    repeat' (first|(apply f_wo;first|(apply f_mv;refine zv (v:=.c _) ?_)|(apply f_st;refine n_st ?_)|refine zz1 ?_)|(apply f_w;first|refine zj ?_|refine zb ?_)|refine za fun C=>?_|refine zd ?_|refine zg ?_)
    refine zh ?_;refine ret1 rfl (zt2 (zg2 rfl (zg2 rfl (zp2 rfl rfl rfl (by first|exact zo _|exact zk _|exact bytC_clo _|(simp [cloL,clo,zo,zk,zd1,zc1,zt];done)|(simp [cloL,clo,opC,opL,zo,zk,zd1,zc1,zt];done)) zf2)))) rfl (by first|rfl|(simp [cloL,clo,zo,zk,zd1,zc1,zt];done)) rfl ⟨?_,?_⟩<;>rfl
end Go.Proofs.YtnjfnhoipnbpeaaGreatDoor
