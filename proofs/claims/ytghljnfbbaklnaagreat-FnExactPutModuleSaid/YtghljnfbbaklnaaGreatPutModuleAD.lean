/- The reference's reader of regular expressions: by the abstract machine. -/
import Derived.Test.YtghljnfbbaklnaaGreatPutModuleAC
namespace Go.Proofs.YtghljnfbbaklnaaGreat
open Go.RowKit
set_option maxRecDepth 100000
def rdrS (s:ByteArray)(p:PS):List AC:=[.v (.string s),.v (.int .i64 (p.a:Int)),.v (.bool p.b),.v (.int .i64 (p.d:Int))]
def isP (s:ByteArray)(c:Nat)(p:PS):PS:=if isB s c p then p.go 1 else p
set_option maxHeartbeats 4000000 in
theorem zl12 {s:ByteArray}(hs:s.size≤1048576){c:Nat}(hc:c<256){p:PS}:Ctr Tryz.prog 203 [.c (.pt 0 0),.c (.v (.int .u8 (c:Int)))] [rdrS s p] (.c (.v (.bool (isB s c p)))) [rdrS s (isP s c p)]:=by
 obtain⟨a,d,b⟩:=p
 refine zo2 Tryz.func203 rfl rfl ?_
 unfold rdrS
 dsimp only
 cases b with
 | true =>
  have hr:isB s c ⟨a,d,true⟩=false:=rfl
  unfold isP
  rw [hr]
  repeat' (first|(apply f_wo;first|(apply f_gs;refine n_sk ?_)|(apply f_mv;first|(refine zb2 ?_ ?_<;>intro hG<;>(try cases hG))|refine zj1 (v:=.c _) ?_|refine za ?_)|(apply f_as;first|refine zi1 (v:=.c _) ?_|refine za ?_)|(apply f_fa;first|refine n_fa ?_|refine zm1 ?_)|(apply f_ld;first|refine zq1 ?_|refine zx ?_|refine n_ld ?_)|(apply f_bi;first|refine zb1 ?_|refine za1 ?_|refine zc1 ?_|refine za ?_)|(apply f_st;first|refine n_st ?_|refine zx1 ?_)|(apply zm3;first|refine zi2 ?_|refine za ?_)|(apply za4;first|refine zs1 ?_|refine za ?_)|(apply zu1;first|refine zk ?_|refine zt1 ?_|refine za ?_)|(apply f_pk;first|refine za2 (v:=.c _) ?_|refine za ?_)|refine zg4 ?_|refine za ?_)|(apply f_w;first|refine zv ?_|refine zc ?_)|(apply d_wo;first|(apply d_gs;first|refine o_sk ?_|refine zm4 ?_)|(apply d_bo;(refine o_gm ?_ ?_<;>intro hG<;>(try cases hG)))|(apply d_mv;refine zi ?_)|(apply d_as;refine zi ?_)|(apply d_fa;first|refine o_fa ?_|refine zn3 ?_)|(apply d_ld;first|refine zo3 ?_|refine zk2 ?_|refine zl2 ?_|refine zp3 ?_|refine zi ?_|refine o_ld ?_)|(apply d_bi;first|refine zt2 ?_|refine zs2 ?_|refine zu2 ?_|refine zd2 ?_|refine zd2 (hnu:=ze _) ?_|refine zn1 ?_|refine zn1 (hnu:=ze _) ?_|refine zi ?_)|(apply d_st;first|refine o_st ?_|refine zf4 ?_)|(apply d_bb;first|refine zf1 ?_|refine zg1 ?_|refine zh1 ?_|refine zl3 ?_|refine zi ?_)|refine zu4 ?_|refine zi ?_)|(apply d_w;first|refine zv ?_|refine zc ?_)|refine zb fun C=>?_|refine zj (by kernel_rfl) (by kernel_rfl) fun C=>?_|refine zh ?_|refine zd ?_|refine zf ?_|refine zg ?_|refine zt rfl ?_|refine zp rfl ?_)
  refine zu ?_;refine ret1 rfl zf3 rfl (by first|rfl|(simp [cloL,clo,zq,zo,ze1,zd1,zr];done)) rfl ⟨?_,?_⟩<;>rfl
 | false =>
  by_cases hlt:a<s.size
  ·by_cases he:bAt s a=c
   ·have hr:isB s c ⟨a,d,false⟩=true:=by unfold isB;rw [decide_eq_true hlt,he];simp
    unfold isP
    rw [hr]
    subst he
    repeat' (first|(apply f_wo;first|(apply f_gs;refine n_sk ?_)|(apply f_mv;first|(refine zb2 ?_ ?_<;>intro hG<;>(try cases hG))|refine zj1 (v:=.c _) ?_|refine za ?_)|(apply f_as;first|refine zi1 (v:=.c _) ?_|refine za ?_)|(apply f_fa;first|refine n_fa ?_|refine zm1 ?_)|(apply f_ld;first|refine zq1 ?_|refine zx ?_|refine n_ld ?_)|(apply f_bi;first|refine zb1 ?_|refine za1 ?_|refine zc1 ?_|refine za ?_)|(apply f_st;first|refine n_st ?_|refine zx1 ?_)|(apply zm3;first|refine zi2 ?_|refine za ?_)|(apply za4;first|refine zs1 ?_|refine za ?_)|(apply zu1;first|refine zk ?_|refine zt1 ?_|refine za ?_)|(apply f_pk;first|refine za2 (v:=.c _) ?_|refine za ?_)|refine zg4 ?_|refine za ?_)|(apply f_w;first|refine zv ?_|refine zc ?_)|(apply d_wo;first|(apply d_gs;first|refine o_sk ?_|refine zm4 ?_)|(apply d_bo;(refine o_gm ?_ ?_<;>intro hG<;>(try cases hG)))|(apply d_mv;refine zi ?_)|(apply d_as;refine zi ?_)|(apply d_fa;first|refine o_fa ?_|refine zn3 ?_)|(apply d_ld;first|refine zo3 ?_|refine zk2 ?_|refine zl2 ?_|refine zp3 ?_|refine zi ?_|refine o_ld ?_)|(apply d_bi;first|refine zt2 ?_|refine zs2 ?_|refine zu2 ?_|refine zd2 ?_|refine zd2 (hnu:=ze _) ?_|refine zn1 ?_|refine zn1 (hnu:=ze _) ?_|refine zi ?_)|(apply d_st;first|refine o_st ?_|refine zf4 ?_)|(apply d_bb;first|refine zf1 ?_|refine zg1 ?_|refine zh1 ?_|refine zl3 ?_|refine zi ?_)|refine zu4 ?_|refine zi ?_)|(apply d_w;first|refine zv ?_|refine zc ?_)|refine zb fun C=>?_|refine zj (by kernel_rfl) (by kernel_rfl) fun C=>?_|refine zh ?_|refine zd ?_|refine zf ?_|refine zg ?_)
    ·exfalso;simp only [decide_eq_true_iff] at hG;omega
    ·refine zn (by rfl) (fun hC=>absurd hC (by simp)) fun hC=>?_
     repeat' (first|(apply f_wo;first|(apply f_gs;refine n_sk ?_)|(apply f_mv;first|(refine zb2 ?_ ?_<;>intro hG<;>(try cases hG))|refine zj1 (v:=.c _) ?_|refine za ?_)|(apply f_as;first|refine zi1 (v:=.c _) ?_|refine za ?_)|(apply f_fa;first|refine n_fa ?_|refine zm1 ?_)|(apply f_ld;first|refine zq1 ?_|refine zx ?_|refine n_ld ?_)|(apply f_bi;first|refine zb1 ?_|refine za1 ?_|refine zc1 ?_|refine za ?_)|(apply f_st;first|refine n_st ?_|refine zx1 ?_)|(apply zm3;first|refine zi2 ?_|refine za ?_)|(apply za4;first|refine zs1 ?_|refine za ?_)|(apply zu1;first|refine zk ?_|refine zt1 ?_|refine za ?_)|(apply f_pk;first|refine za2 (v:=.c _) ?_|refine za ?_)|refine zg4 ?_|refine za ?_)|(apply f_w;first|refine zv ?_|refine zc ?_)|(apply d_wo;first|(apply d_gs;first|refine o_sk ?_|refine zm4 ?_)|(apply d_bo;(refine o_gm ?_ ?_<;>intro hG<;>(try cases hG)))|(apply d_mv;refine zi ?_)|(apply d_as;refine zi ?_)|(apply d_fa;first|refine o_fa ?_|refine zn3 ?_)|(apply d_ld;first|refine zo3 ?_|refine zk2 ?_|refine zl2 ?_|refine zp3 ?_|refine zi ?_|refine o_ld ?_)|(apply d_bi;first|refine zt2 ?_|refine zs2 ?_|refine zu2 ?_|refine zd2 ?_|refine zd2 (hnu:=ze _) ?_|refine zn1 ?_|refine zn1 (hnu:=ze _) ?_|refine zi ?_)|(apply d_st;first|refine o_st ?_|refine zf4 ?_)|(apply d_bb;first|refine zf1 ?_|refine zg1 ?_|refine zh1 ?_|refine zl3 ?_|refine zi ?_)|refine zu4 ?_|refine zi ?_)|(apply d_w;first|refine zv ?_|refine zc ?_)|refine zb fun C=>?_|refine zj (by kernel_rfl) (by kernel_rfl) fun C=>?_|refine zh ?_|refine zd ?_|refine zf ?_|refine zg ?_|refine zt rfl ?_|refine zp rfl ?_)
     refine zu ?_;refine ret1 rfl zf3 rfl (by first|rfl|(simp [cloL,clo,zq,zo,ze1,zd1,zr];done)) rfl ⟨?_,?_⟩<;>rfl
   ·have hr:isB s c ⟨a,d,false⟩=false:=by unfold isB;simp [he]
    unfold isP
    rw [hr]
    repeat' (first|(apply f_wo;first|(apply f_gs;refine n_sk ?_)|(apply f_mv;first|(refine zb2 ?_ ?_<;>intro hG<;>(try cases hG))|refine zj1 (v:=.c _) ?_|refine za ?_)|(apply f_as;first|refine zi1 (v:=.c _) ?_|refine za ?_)|(apply f_fa;first|refine n_fa ?_|refine zm1 ?_)|(apply f_ld;first|refine zq1 ?_|refine zx ?_|refine n_ld ?_)|(apply f_bi;first|refine zb1 ?_|refine za1 ?_|refine zc1 ?_|refine za ?_)|(apply f_st;first|refine n_st ?_|refine zx1 ?_)|(apply zm3;first|refine zi2 ?_|refine za ?_)|(apply za4;first|refine zs1 ?_|refine za ?_)|(apply zu1;first|refine zk ?_|refine zt1 ?_|refine za ?_)|(apply f_pk;first|refine za2 (v:=.c _) ?_|refine za ?_)|refine zg4 ?_|refine za ?_)|(apply f_w;first|refine zv ?_|refine zc ?_)|(apply d_wo;first|(apply d_gs;first|refine o_sk ?_|refine zm4 ?_)|(apply d_bo;(refine o_gm ?_ ?_<;>intro hG<;>(try cases hG)))|(apply d_mv;refine zi ?_)|(apply d_as;refine zi ?_)|(apply d_fa;first|refine o_fa ?_|refine zn3 ?_)|(apply d_ld;first|refine zo3 ?_|refine zk2 ?_|refine zl2 ?_|refine zp3 ?_|refine zi ?_|refine o_ld ?_)|(apply d_bi;first|refine zt2 ?_|refine zs2 ?_|refine zu2 ?_|refine zd2 ?_|refine zd2 (hnu:=ze _) ?_|refine zn1 ?_|refine zn1 (hnu:=ze _) ?_|refine zi ?_)|(apply d_st;first|refine o_st ?_|refine zf4 ?_)|(apply d_bb;first|refine zf1 ?_|refine zg1 ?_|refine zh1 ?_|refine zl3 ?_|refine zi ?_)|refine zu4 ?_|refine zi ?_)|(apply d_w;first|refine zv ?_|refine zc ?_)|refine zb fun C=>?_|refine zj (by kernel_rfl) (by kernel_rfl) fun C=>?_|refine zh ?_|refine zd ?_|refine zf ?_|refine zg ?_)
    ·exfalso;simp only [decide_eq_true_iff] at hG;omega
    ·refine zn (by rfl) (fun hC=>?_) fun hC=>absurd (bne_eq_false_iff_eq.1 hC) (by omega)
     repeat' (first|(apply f_wo;first|(apply f_gs;refine n_sk ?_)|(apply f_mv;first|(refine zb2 ?_ ?_<;>intro hG<;>(try cases hG))|refine zj1 (v:=.c _) ?_|refine za ?_)|(apply f_as;first|refine zi1 (v:=.c _) ?_|refine za ?_)|(apply f_fa;first|refine n_fa ?_|refine zm1 ?_)|(apply f_ld;first|refine zq1 ?_|refine zx ?_|refine n_ld ?_)|(apply f_bi;first|refine zb1 ?_|refine za1 ?_|refine zc1 ?_|refine za ?_)|(apply f_st;first|refine n_st ?_|refine zx1 ?_)|(apply zm3;first|refine zi2 ?_|refine za ?_)|(apply za4;first|refine zs1 ?_|refine za ?_)|(apply zu1;first|refine zk ?_|refine zt1 ?_|refine za ?_)|(apply f_pk;first|refine za2 (v:=.c _) ?_|refine za ?_)|refine zg4 ?_|refine za ?_)|(apply f_w;first|refine zv ?_|refine zc ?_)|(apply d_wo;first|(apply d_gs;first|refine o_sk ?_|refine zm4 ?_)|(apply d_bo;(refine o_gm ?_ ?_<;>intro hG<;>(try cases hG)))|(apply d_mv;refine zi ?_)|(apply d_as;refine zi ?_)|(apply d_fa;first|refine o_fa ?_|refine zn3 ?_)|(apply d_ld;first|refine zo3 ?_|refine zk2 ?_|refine zl2 ?_|refine zp3 ?_|refine zi ?_|refine o_ld ?_)|(apply d_bi;first|refine zt2 ?_|refine zs2 ?_|refine zu2 ?_|refine zd2 ?_|refine zd2 (hnu:=ze _) ?_|refine zn1 ?_|refine zn1 (hnu:=ze _) ?_|refine zi ?_)|(apply d_st;first|refine o_st ?_|refine zf4 ?_)|(apply d_bb;first|refine zf1 ?_|refine zg1 ?_|refine zh1 ?_|refine zl3 ?_|refine zi ?_)|refine zu4 ?_|refine zi ?_)|(apply d_w;first|refine zv ?_|refine zc ?_)|refine zb fun C=>?_|refine zj (by kernel_rfl) (by kernel_rfl) fun C=>?_|refine zh ?_|refine zd ?_|refine zf ?_|refine zg ?_|refine zt rfl ?_|refine zp rfl ?_)
     refine zu ?_;refine ret1 rfl zf3 rfl (by first|rfl|(simp [cloL,clo,zq,zo,ze1,zd1,zr];done)) rfl ⟨?_,?_⟩<;>rfl
  ·have hr:isB s c ⟨a,d,false⟩=false:=by unfold isB;simp [hlt]
   unfold isP
   rw [hr]
   repeat' (first|(apply f_wo;first|(apply f_gs;refine n_sk ?_)|(apply f_mv;first|(refine zb2 ?_ ?_<;>intro hG<;>(try cases hG))|refine zj1 (v:=.c _) ?_|refine za ?_)|(apply f_as;first|refine zi1 (v:=.c _) ?_|refine za ?_)|(apply f_fa;first|refine n_fa ?_|refine zm1 ?_)|(apply f_ld;first|refine zq1 ?_|refine zx ?_|refine n_ld ?_)|(apply f_bi;first|refine zb1 ?_|refine za1 ?_|refine zc1 ?_|refine za ?_)|(apply f_st;first|refine n_st ?_|refine zx1 ?_)|(apply zm3;first|refine zi2 ?_|refine za ?_)|(apply za4;first|refine zs1 ?_|refine za ?_)|(apply zu1;first|refine zk ?_|refine zt1 ?_|refine za ?_)|(apply f_pk;first|refine za2 (v:=.c _) ?_|refine za ?_)|refine zg4 ?_|refine za ?_)|(apply f_w;first|refine zv ?_|refine zc ?_)|(apply d_wo;first|(apply d_gs;first|refine o_sk ?_|refine zm4 ?_)|(apply d_bo;(refine o_gm ?_ ?_<;>intro hG<;>(try cases hG)))|(apply d_mv;refine zi ?_)|(apply d_as;refine zi ?_)|(apply d_fa;first|refine o_fa ?_|refine zn3 ?_)|(apply d_ld;first|refine zo3 ?_|refine zk2 ?_|refine zl2 ?_|refine zp3 ?_|refine zi ?_|refine o_ld ?_)|(apply d_bi;first|refine zt2 ?_|refine zs2 ?_|refine zu2 ?_|refine zd2 ?_|refine zd2 (hnu:=ze _) ?_|refine zn1 ?_|refine zn1 (hnu:=ze _) ?_|refine zi ?_)|(apply d_st;first|refine o_st ?_|refine zf4 ?_)|(apply d_bb;first|refine zf1 ?_|refine zg1 ?_|refine zh1 ?_|refine zl3 ?_|refine zi ?_)|refine zu4 ?_|refine zi ?_)|(apply d_w;first|refine zv ?_|refine zc ?_)|refine zb fun C=>?_|refine zj (by kernel_rfl) (by kernel_rfl) fun C=>?_|refine zh ?_|refine zd ?_|refine zf ?_|refine zg ?_)
   ·refine zt rfl ?_
    repeat' (first|(apply f_wo;first|(apply f_gs;refine n_sk ?_)|(apply f_mv;first|(refine zb2 ?_ ?_<;>intro hG<;>(try cases hG))|refine zj1 (v:=.c _) ?_|refine za ?_)|(apply f_as;first|refine zi1 (v:=.c _) ?_|refine za ?_)|(apply f_fa;first|refine n_fa ?_|refine zm1 ?_)|(apply f_ld;first|refine zq1 ?_|refine zx ?_|refine n_ld ?_)|(apply f_bi;first|refine zb1 ?_|refine za1 ?_|refine zc1 ?_|refine za ?_)|(apply f_st;first|refine n_st ?_|refine zx1 ?_)|(apply zm3;first|refine zi2 ?_|refine za ?_)|(apply za4;first|refine zs1 ?_|refine za ?_)|(apply zu1;first|refine zk ?_|refine zt1 ?_|refine za ?_)|(apply f_pk;first|refine za2 (v:=.c _) ?_|refine za ?_)|refine zg4 ?_|refine za ?_)|(apply f_w;first|refine zv ?_|refine zc ?_)|(apply d_wo;first|(apply d_gs;first|refine o_sk ?_|refine zm4 ?_)|(apply d_bo;(refine o_gm ?_ ?_<;>intro hG<;>(try cases hG)))|(apply d_mv;refine zi ?_)|(apply d_as;refine zi ?_)|(apply d_fa;first|refine o_fa ?_|refine zn3 ?_)|(apply d_ld;first|refine zo3 ?_|refine zk2 ?_|refine zl2 ?_|refine zp3 ?_|refine zi ?_|refine o_ld ?_)|(apply d_bi;first|refine zt2 ?_|refine zs2 ?_|refine zu2 ?_|refine zd2 ?_|refine zd2 (hnu:=ze _) ?_|refine zn1 ?_|refine zn1 (hnu:=ze _) ?_|refine zi ?_)|(apply d_st;first|refine o_st ?_|refine zf4 ?_)|(apply d_bb;first|refine zf1 ?_|refine zg1 ?_|refine zh1 ?_|refine zl3 ?_|refine zi ?_)|refine zu4 ?_|refine zi ?_)|(apply d_w;first|refine zv ?_|refine zc ?_)|refine zb fun C=>?_|refine zj (by kernel_rfl) (by kernel_rfl) fun C=>?_|refine zh ?_|refine zd ?_|refine zf ?_|refine zg ?_|refine zt rfl ?_|refine zp rfl ?_)
    refine zu ?_;refine ret1 rfl zf3 rfl (by first|rfl|(simp [cloL,clo,zq,zo,ze1,zd1,zr];done)) rfl ⟨?_,?_⟩<;>rfl
   ·exfalso;simp only [decide_eq_false_iff_not] at hG;omega
theorem zm12 {s:ByteArray}{p:PS}:Ctr Tryz.prog 235 [.c (.pt 0 0)] [rdrS s p] (.ag (owE zeroR)) [rdrS s p.bad]:=by
 obtain⟨a,d,b⟩:=p
 refine zo2 Tryz.func235 rfl rfl ?_
 unfold rdrS
 dsimp only
 repeat' (first|(apply f_wo;first|(apply f_mv;first|refine zj1 (v:=.c _) ?_|refine za ?_)|(apply f_fa;first|refine n_fa ?_|refine zm1 ?_)|(apply f_st;first|refine n_st ?_|refine zx1 ?_)|refine n_al ?_|refine za ?_)|(apply f_w;first|refine zv ?_|refine zc ?_)|refine zb fun C=>?_|refine zh ?_|refine zd ?_|refine zf ?_|refine zg ?_|refine zt rfl ?_|refine zp rfl ?_)
 refine zs4 (zs6 900 (i:=2) 208 3 rfl rfl (pre:=[_,_]) (post:=[]) rfl) ?_;refine zu ?_;refine ret1 rfl (zy3 (zi3 rfl (zi3 rfl (zk3 rfl rfl rfl (by first|exact zq _|exact zo _|exact bytC_clo _|(simp [cloL,clo,zq,zo,ze1,zd1,zr];done)|(simp [cloL,clo,opC,opL,zq,zo,ze1,zd1,zr];done)) zn2)))) rfl (by first|rfl|(simp [cloL,clo,zq,zo,ze1,zd1,zr];done)) rfl ⟨?_,?_⟩<;>rfl
theorem zr8 {s:ByteArray}{c:Nat}{p:PS}(h:isB s c p=true):isP s c p=p.go 1:=if_pos h
theorem zn12 {s:ByteArray}{c:Nat}{p:PS}(h:isB s c p=false):isP s c p=p:=by unfold isP;rw [h];rfl
set_option maxHeartbeats 4000000 in
theorem l3Group_c {s:ByteArray}(hs:s.size≤1048576){alt:PS→E×PS}{p:PS}(hp:Pre s p)(hb:p.b=false)(hg:p.d≤7→GoodS s ⟨p.a,p.d+1,p.b⟩ (alt ⟨p.a,p.d+1,p.b⟩))
 (ha:p.d≤7→Ctr Tryz.prog 185 [.c (.pt 0 0)] [rdrS s ⟨p.a,p.d+1,p.b⟩] (.ag (owE (alt ⟨p.a,p.d+1,p.b⟩).1)) [rdrS s (alt ⟨p.a,p.d+1,p.b⟩).2]) :
 Ctr Tryz.prog 236 [.c (.pt 0 0)] [rdrS s p] (.ag (owE (groupS s alt p).1)) [rdrS s (groupS s alt p).2]:=by
 obtain⟨a,d,b⟩:=p
 have hb:b=false:=hb
 subst hb
 dsimp only at ha hg
 have hpd:d≤8:=hp.2.2 rfl
 have h41:=zl12 hs (c:=41) (by omega) (p:=⟨a,d,false⟩)
 cases h1:isB s 41 ⟨a,d,false⟩ with
 | true =>
  have hr:groupS s alt ⟨a,d,false⟩=(rexE 9 ByteArray.empty [],⟨a+1,d,false⟩):=by unfold groupS;rw [if_pos h1];rfl
  rw [hr]
  rw [zr8 h1,h1] at h41
  refine zo2 Tryz.func236 rfl rfl ?_
  unfold rdrS at h41 ⊢
  dsimp only [PS.go] at h41 ⊢
  repeat' (first|(apply f_wo;first|(apply f_mv;first|refine zj1 (v:=.c _) ?_|refine za ?_)|(apply f_fa;first|refine n_fa ?_|refine zm1 ?_)|(apply f_ld;first|refine zq1 ?_|refine zx ?_|refine zw ?_|refine zo1 ?_|refine n_ld ?_)|(apply f_ca;first|refine za3 0 (h41) ?_)|(apply f_st;first|refine n_st ?_|refine zx1 ?_)|(apply zx3;first|refine zr1 ?_|refine za ?_)|(apply zu1;first|refine zk ?_|refine zt1 ?_|refine za ?_)|(apply f_no;first|refine zh2 ?_|refine za ?_)|(apply f_bb;first|refine zf2 ?_|refine zg2 ?_|refine za ?_)|refine n_al ?_|refine za ?_)|(apply f_w;first|refine zv ?_|refine zc ?_)|refine zb fun C=>?_|refine zh ?_|refine zd ?_|refine zf ?_|refine zg ?_|refine zt rfl ?_|refine zp rfl ?_)
  refine zs4 (zs6 900 (i:=2) 208 3 rfl rfl (pre:=[_,_]) (post:=[]) rfl) ?_;refine zu ?_;refine ret1 rfl (zy3 (zi3 rfl (zi3 rfl (zk3 rfl rfl rfl (by first|exact zq _|exact zo _|exact bytC_clo _|(simp [cloL,clo,zq,zo,ze1,zd1,zr];done)|(simp [cloL,clo,opC,opL,zq,zo,ze1,zd1,zr];done)) zn2)))) rfl (by first|rfl|(simp [cloL,clo,zq,zo,ze1,zd1,zr];done)) rfl ⟨?_,?_⟩<;>rfl
 | false =>
  rw [zn12 h1,h1] at h41
  by_cases h8:8<d+1
  ·have hr:groupS s alt ⟨a,d,false⟩=(zeroR,⟨a,d+1,true⟩):=by unfold groupS;rw [if_neg (by rw [h1];simp),if_pos h8]
   rw [hr]
   have hbad:=zm12 (s:=s) (p:=⟨a,d+1,false⟩)
   refine zo2 Tryz.func236 rfl rfl ?_
   unfold rdrS at h41 hbad ⊢
   dsimp only [PS.bad] at h41 hbad ⊢
   repeat' (first|(apply f_wo;first|(apply f_mv;first|refine zj1 (v:=.c _) ?_|refine za ?_)|(apply f_fa;first|refine n_fa ?_|refine zm1 ?_)|(apply f_ld;first|refine zq1 ?_|refine zx ?_|refine zw ?_|refine zo1 ?_|refine n_ld ?_)|(apply f_ca;first|refine za3 0 (h41) ?_|refine za3 0 (hbad) ?_)|(apply f_st;first|refine n_st ?_|refine zx1 ?_)|(apply zx3;first|refine zr1 ?_|refine za ?_)|(apply zu1;first|refine zk ?_|refine zt1 ?_|refine za ?_)|(apply f_no;first|refine zh2 ?_|refine za ?_)|(apply f_bb;first|refine zf2 ?_|refine zg2 ?_|refine za ?_)|refine n_al ?_|refine za ?_)|(apply f_w;first|refine zv ?_|refine zc ?_)|refine zb fun C=>?_|refine zh ?_|refine zd ?_|refine zf ?_|refine zg ?_|refine zt rfl ?_|refine zp rfl ?_)
   refine zn (by rfl) (fun hC=>?_) fun hC=>by exfalso;simp only [decide_eq_false_iff_not] at hC;omega
   repeat' (first|(apply f_wo;first|(apply f_mv;first|refine zj1 (v:=.c _) ?_|refine za ?_)|(apply f_fa;first|refine n_fa ?_|refine zm1 ?_)|(apply f_ld;first|refine zq1 ?_|refine zx ?_|refine zw ?_|refine zo1 ?_|refine n_ld ?_)|(apply f_ca;first|refine za3 0 (h41) ?_|refine za3 0 (hbad) ?_)|(apply f_st;first|refine n_st ?_|refine zx1 ?_)|(apply zx3;first|refine zr1 ?_|refine za ?_)|(apply zu1;first|refine zk ?_|refine zt1 ?_|refine za ?_)|(apply f_no;first|refine zh2 ?_|refine za ?_)|(apply f_bb;first|refine zf2 ?_|refine zg2 ?_|refine za ?_)|refine n_al ?_|refine za ?_)|(apply f_w;first|refine zv ?_|refine zc ?_)|refine zb fun C=>?_|refine zh ?_|refine zd ?_|refine zf ?_|refine zg ?_|refine zt rfl ?_|refine zp rfl ?_)
   refine zu ?_;refine ret1 rfl (zy3 (zi3 rfl (zi3 rfl (zk3 rfl rfl rfl (by first|exact zq _|exact zo _|exact bytC_clo _|(simp [cloL,clo,zq,zo,ze1,zd1,zr];done)|(simp [cloL,clo,opC,opL,zq,zo,ze1,zd1,zr];done)) zn2)))) rfl (by first|rfl|(simp [cloL,clo,zq,zo,ze1,zd1,zr];done)) rfl ⟨?_,?_⟩<;>rfl
  ·have hic:=ha (by omega)
   obtain⟨g1,g2,g3,g4,g5,g6⟩:=hg (by omega)
   clear ha hg
   have hr:groupS s alt ⟨a,d,false⟩=if isB s 41 ⟨(alt ⟨a,d+1,false⟩).2.a,(alt ⟨a,d+1,false⟩).2.d-1,(alt ⟨a,d+1,false⟩).2.b⟩ then ((alt ⟨a,d+1,false⟩).1,⟨(alt ⟨a,d+1,false⟩).2.a+1,(alt ⟨a,d+1,false⟩).2.d-1,(alt ⟨a,d+1,false⟩).2.b⟩) else (zeroR,⟨(alt ⟨a,d+1,false⟩).2.a,(alt ⟨a,d+1,false⟩).2.d-1,true⟩):=by unfold groupS;rw [if_neg (by rw [h1];simp),if_neg h8];rfl
   rw [hr]
   clear hr
   obtain⟨⟨e,q⟩,hq⟩:∃r,alt ⟨a,d+1,false⟩=r:=⟨_,rfl⟩
   rw [hq] at hic g1 g2 g3 g4 g5 g6 ⊢
   dsimp only at hic g1 g2 g3 g4 g5 g6 ⊢
   cases g1 with
   | mk k t l hk ht hl2 =>
   obtain⟨qa,qd,qb⟩:=q
   dsimp only at hic g2 g3 g4 g5 g6 ⊢
   have hqd:((qd:Nat):Int)-1=((qd-1:Nat):Int):=by omega
   have hbad:=zm12 (s:=s) (p:=⟨qa,qd-1,qb⟩)
   have h41b:=zl12 hs (c:=41) (by omega) (p:=⟨qa,qd-1,qb⟩)
   cases h2:isB s 41 ⟨qa,qd-1,qb⟩ with
   | true =>
    rw [zr8 h2,h2] at h41b
    rw [if_pos rfl]
    refine zo2 Tryz.func236 rfl rfl ?_
    unfold rdrS at h41 hic h41b ⊢
    dsimp only [PS.go] at h41 hic h41b ⊢
    rw [←hqd] at h41b ⊢
    repeat' (first|(apply f_wo;first|(apply f_mv;first|refine zj1 (v:=.c _) ?_|refine za ?_)|(apply f_fa;first|refine n_fa ?_|refine zm1 ?_)|(apply f_ld;first|refine zq1 ?_|refine zx ?_|refine zw ?_|refine zo1 ?_|refine n_ld ?_)|(apply f_ca;first|refine za3 0 (h41) ?_|refine za3 0 (hic) ?_|refine za3 0 (h41b) ?_)|(apply f_st;first|refine n_st ?_|refine zx1 ?_)|(apply zx3;first|refine zr1 ?_|refine za ?_)|(apply zu1;first|refine zk ?_|refine zt1 ?_|refine za ?_)|(apply f_no;first|refine zh2 ?_|refine za ?_)|(apply f_bb;first|refine zf2 ?_|refine zg2 ?_|refine za ?_)|refine n_al ?_|refine za ?_)|(apply f_w;first|refine zv ?_|refine zc ?_)|refine zb fun C=>?_|refine zh ?_|refine zd ?_|refine zf ?_|refine zg ?_|refine zt rfl ?_|refine zp rfl ?_)
    refine zn (by rfl) (fun hC=>by exfalso;simp only [decide_eq_true_iff] at hC;omega) fun hC=>?_
    repeat' (first|(apply f_wo;first|(apply f_mv;first|refine zj1 (v:=.c _) ?_|refine za ?_)|(apply f_fa;first|refine n_fa ?_|refine zm1 ?_)|(apply f_ld;first|refine zq1 ?_|refine zx ?_|refine zw ?_|refine zo1 ?_|refine n_ld ?_)|(apply f_ca;first|refine za3 0 (h41) ?_|refine za3 0 (hic) ?_|refine za3 0 (h41b) ?_)|(apply f_st;first|refine n_st ?_|refine zx1 ?_)|(apply zx3;first|refine zr1 ?_|refine za ?_)|(apply zu1;first|refine zk ?_|refine zt1 ?_|refine za ?_)|(apply f_no;first|refine zh2 ?_|refine za ?_)|(apply f_bb;first|refine zf2 ?_|refine zg2 ?_|refine za ?_)|refine n_al ?_|refine za ?_)|(apply f_w;first|refine zv ?_|refine zc ?_)|refine zb fun C=>?_|refine zh ?_|refine zd ?_|refine zf ?_|refine zg ?_|refine zt rfl ?_|refine zp rfl ?_)
    refine zu ?_;refine ret1 rfl (zy3 (zi3 rfl (zi3 rfl (zk3 rfl rfl rfl (by first|exact zq _|exact zo _|exact bytC_clo _|(simp [cloL,clo,zq,zo,ze1,zd1,zr];done)|(simp [cloL,clo,opC,opL,zq,zo,ze1,zd1,zr];done)) zn2)))) rfl (by first|rfl|(simp [cloL,clo,zq,zo,ze1,zd1,zr];done)) rfl ⟨?_,?_⟩<;>rfl
   | false =>
    rw [zn12 h2,h2] at h41b
    rw [if_neg (by simp)]
    refine zo2 Tryz.func236 rfl rfl ?_
    unfold rdrS at h41 hic h41b hbad ⊢
    dsimp only [PS.bad] at h41 hic h41b hbad ⊢
    rw [←hqd] at h41b hbad ⊢
    repeat' (first|(apply f_wo;first|(apply f_mv;first|refine zj1 (v:=.c _) ?_|refine za ?_)|(apply f_fa;first|refine n_fa ?_|refine zm1 ?_)|(apply f_ld;first|refine zq1 ?_|refine zx ?_|refine zw ?_|refine zo1 ?_|refine n_ld ?_)|(apply f_ca;first|refine za3 0 (h41) ?_|refine za3 0 (hic) ?_|refine za3 0 (h41b) ?_|refine za3 0 (hbad) ?_)|(apply f_st;first|refine n_st ?_|refine zx1 ?_)|(apply zx3;first|refine zr1 ?_|refine za ?_)|(apply zu1;first|refine zk ?_|refine zt1 ?_|refine za ?_)|(apply f_no;first|refine zh2 ?_|refine za ?_)|(apply f_bb;first|refine zf2 ?_|refine zg2 ?_|refine za ?_)|refine n_al ?_|refine za ?_)|(apply f_w;first|refine zv ?_|refine zc ?_)|refine zb fun C=>?_|refine zh ?_|refine zd ?_|refine zf ?_|refine zg ?_|refine zt rfl ?_|refine zp rfl ?_)
    refine zn (by rfl) (fun hC=>by exfalso;simp only [decide_eq_true_iff] at hC;omega) fun hC=>?_
    repeat' (first|(apply f_wo;first|(apply f_mv;first|refine zj1 (v:=.c _) ?_|refine za ?_)|(apply f_fa;first|refine n_fa ?_|refine zm1 ?_)|(apply f_ld;first|refine zq1 ?_|refine zx ?_|refine zw ?_|refine zo1 ?_|refine n_ld ?_)|(apply f_ca;first|refine za3 0 (h41) ?_|refine za3 0 (hic) ?_|refine za3 0 (h41b) ?_|refine za3 0 (hbad) ?_)|(apply f_st;first|refine n_st ?_|refine zx1 ?_)|(apply zx3;first|refine zr1 ?_|refine za ?_)|(apply zu1;first|refine zk ?_|refine zt1 ?_|refine za ?_)|(apply f_no;first|refine zh2 ?_|refine za ?_)|(apply f_bb;first|refine zf2 ?_|refine zg2 ?_|refine za ?_)|refine n_al ?_|refine za ?_)|(apply f_w;first|refine zv ?_|refine zc ?_)|refine zb fun C=>?_|refine zh ?_|refine zd ?_|refine zf ?_|refine zg ?_|refine zt rfl ?_|refine zp rfl ?_)
    refine zu ?_;refine ret1 rfl (zy3 (zi3 rfl (zi3 rfl (zk3 rfl rfl rfl (by first|exact zq _|exact zo _|exact bytC_clo _|(simp [cloL,clo,zq,zo,ze1,zd1,zr];done)|(simp [cloL,clo,opC,opL,zq,zo,ze1,zd1,zr];done)) zn2)))) rfl (by first|rfl|(simp [cloL,clo,zq,zo,ze1,zd1,zr];done)) rfl ⟨?_,?_⟩<;>rfl
end Go.Proofs.YtghljnfbbaklnaaGreat
