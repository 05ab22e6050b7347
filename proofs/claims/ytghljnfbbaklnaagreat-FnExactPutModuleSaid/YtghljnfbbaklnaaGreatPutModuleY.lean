/- The program's reader of regular expressions: by the abstract machine. -/
import Derived.Test.YtghljnfbbaklnaaGreatPutModuleX
namespace Go.Proofs.YtghljnfbbaklnaaGreat
open Go.RowKit
set_option maxRecDepth 100000
def rdrI (s:ByteArray)(p:PS):List AC:=[.v (.string s),.v (.int .i64 (p.a:Int)),.v (.int .i64 (p.d:Int)),.v (.bool p.b)]
theorem zv13 {s:ByteArray}(hs:s.size≤1048576){p:PS}:Ctr Tryz.prog 207 [.c (.pt 0 0)] [rdrI s p] (.c (.v (.int .u8 (bAt s p.a:Int)))) [rdrI s p]:=by
 obtain⟨a,d,b⟩:=p
 refine zo2 Tryz.func207 rfl rfl ?_
 unfold rdrI
 dsimp only
 repeat' (first|(apply f_wo;first|(apply f_mv;first|refine zj1 (v:=.c _) ?_|refine za ?_)|(apply f_as;first|refine zi1 (v:=.c _) ?_|refine za ?_)|(apply f_fa;first|refine n_fa ?_|refine zm1 ?_)|(apply f_ld;first|refine zq1 ?_|refine zx ?_|refine n_ld ?_)|(apply f_bi;first|refine zb1 ?_|refine za1 ?_|refine zc1 ?_|refine za ?_)|(apply za4;first|refine zs1 ?_|refine za ?_)|refine zg4 ?_|refine za ?_)|(apply f_w;first|refine zv ?_|refine zc ?_)|(apply d_wo;first|(apply d_mv;refine zi ?_)|(apply d_as;refine zi ?_)|(apply d_fa;first|refine o_fa ?_|refine zn3 ?_)|(apply d_ld;first|refine zo3 ?_|refine zk2 ?_|refine zl2 ?_|refine zp3 ?_|refine zi ?_|refine o_ld ?_)|(apply d_bi;first|refine zt2 ?_|refine zs2 ?_|refine zu2 ?_|refine zd2 ?_|refine zd2 (hnu:=ze _) ?_|refine zn1 ?_|refine zn1 (hnu:=ze _) ?_|refine zi ?_)|(apply d_bb;first|refine zf1 ?_|refine zg1 ?_|refine zh1 ?_|refine zl3 ?_|refine zi ?_)|refine zu4 ?_|refine zi ?_)|(apply d_w;first|refine zv ?_|refine zc ?_)|refine zb fun C=>?_|refine zj (by kernel_rfl) (by kernel_rfl) fun C=>?_|refine zh ?_|refine zd ?_|refine zf ?_|refine zg ?_)
 refine zn (by rfl) (fun hC=>?_) fun hC=>?_
 ·repeat' (first|(apply f_wo;first|(apply f_mv;first|refine zj1 (v:=.c _) ?_|refine za ?_)|(apply f_as;first|refine zi1 (v:=.c _) ?_|refine za ?_)|(apply f_fa;first|refine n_fa ?_|refine zm1 ?_)|(apply f_ld;first|refine zq1 ?_|refine zx ?_|refine n_ld ?_)|(apply f_bi;first|refine zb1 ?_|refine za1 ?_|refine zc1 ?_|refine za ?_)|(apply za4;first|refine zs1 ?_|refine za ?_)|refine zg4 ?_|refine za ?_)|(apply f_w;first|refine zv ?_|refine zc ?_)|(apply d_wo;first|(apply d_mv;refine zi ?_)|(apply d_as;refine zi ?_)|(apply d_fa;first|refine o_fa ?_|refine zn3 ?_)|(apply d_ld;first|refine zo3 ?_|refine zk2 ?_|refine zl2 ?_|refine zp3 ?_|refine zi ?_|refine o_ld ?_)|(apply d_bi;first|refine zt2 ?_|refine zs2 ?_|refine zu2 ?_|refine zd2 ?_|refine zd2 (hnu:=ze _) ?_|refine zn1 ?_|refine zn1 (hnu:=ze _) ?_|refine zi ?_)|(apply d_bb;first|refine zf1 ?_|refine zg1 ?_|refine zh1 ?_|refine zl3 ?_|refine zi ?_)|refine zu4 ?_|refine zi ?_)|(apply d_w;first|refine zv ?_|refine zc ?_)|refine zb fun C=>?_|refine zj (by kernel_rfl) (by kernel_rfl) fun C=>?_|refine zh ?_|refine zd ?_|refine zf ?_|refine zg ?_|(refine zn (by rfl) ?_ ?_<;>intro hC<;>(try cases hC)))
  refine zu ?_;refine ret1 rfl zf3 rfl (by first|rfl|(simp [cloL,clo,zq,zo,ze1,zd1,zr];done)) rfl ⟨?_,?_⟩
  ·rw [za10 (by simp only [decide_eq_true_iff] at hC;omega)];rfl
  ·rfl
 ·have hlt:a<s.size:=by simp only [decide_eq_false_iff_not] at hC;omega
  repeat' (first|(apply f_wo;first|(apply f_mv;first|refine zj1 (v:=.c _) ?_|refine za ?_)|(apply f_as;first|refine zi1 (v:=.c _) ?_|refine za ?_)|(apply f_fa;first|refine n_fa ?_|refine zm1 ?_)|(apply f_ld;first|refine zq1 ?_|refine zx ?_|refine n_ld ?_)|(apply f_bi;first|refine zb1 ?_|refine za1 ?_|refine zc1 ?_|refine za ?_)|(apply za4;first|refine zs1 ?_|refine za ?_)|refine zg4 ?_|refine za ?_)|(apply f_w;first|refine zv ?_|refine zc ?_)|(apply d_wo;first|(apply d_mv;refine zi ?_)|(apply d_as;refine zi ?_)|(apply d_fa;first|refine o_fa ?_|refine zn3 ?_)|(apply d_ld;first|refine zo3 ?_|refine zk2 ?_|refine zl2 ?_|refine zp3 ?_|refine zi ?_|refine o_ld ?_)|(apply d_bi;first|refine zt2 ?_|refine zs2 ?_|refine zu2 ?_|refine zd2 ?_|refine zd2 (hnu:=ze _) ?_|refine zn1 ?_|refine zn1 (hnu:=ze _) ?_|refine zi ?_)|(apply d_bb;first|refine zf1 ?_|refine zg1 ?_|refine zh1 ?_|refine zl3 ?_|refine zi ?_)|refine zu4 ?_|refine zi ?_)|(apply d_w;first|refine zv ?_|refine zc ?_)|refine zb fun C=>?_|refine zj (by kernel_rfl) (by kernel_rfl) fun C=>?_|refine zh ?_|refine zd ?_|refine zf ?_|refine zg ?_|(refine zn (by rfl) ?_ ?_<;>intro hC<;>(try cases hC)))
  refine zu ?_;refine ret1 rfl zf3 rfl (by first|rfl|(simp [cloL,clo,zq,zo,ze1,zd1,zr];done)) rfl ⟨?_,?_⟩
  ·rfl
  ·rfl
theorem zk18 {s:ByteArray}{a b k:Nat}(hb:b≤s.size):(cutB s a b).data.toList[k]? = if a+k<b then some (UInt8.ofNat (bAt s (a+k))) else none:=by
 unfold cutB bAt
 rw [Array.getElem?_toList,ByteArray.data_extract,Array.getElem?_extract]
 have e:s.data.size=s.size:=rfl
 by_cases h:a+k<b
 ·rw [if_pos h,if_pos (by omega),Array.getElem?_eq_getElem (show a+k<s.data.size by omega),Option.getD_some,UInt8.ofNat_toNat]
 ·rw [if_neg h,if_neg (by omega)]
theorem zp9 {s:ByteArray}{c:Nat}:∀(f a:Nat),s.size≤a+f→a≤s.size→a≤untB s c f a∧untB s c f a≤s.size∧(∀j,a≤j→j<untB s c f a→bAt s j≠c)∧(untB s c f a<s.size→bAt s (untB s c f a)=c)
 | 0,a,h,h2=>⟨Nat.le_refl _,h2,fun j h1 h3=>absurd h3 (by show ¬j<a;omega),fun h3=>absurd h3 (by show ¬a<s.size;omega)⟩
 | f+1,a,h,h2=>by
  unfold untB
  split
  ·rename_i h3
   obtain⟨g1,g2,g3,g4⟩:=zp9 (s:=s) (c:=c) f (a+1) (by omega) (by omega)
   refine⟨by omega,g2,fun j h4 h5=>?_,g4⟩
   by_cases e:j=a
   ·rw [e];exact h3.2
   ·exact g3 j (by omega) h5
  ·rename_i h3
   exact⟨Nat.le_refl _,h2,fun j h4 h5=>by omega,fun h4=>Classical.byContradiction fun h5=>h3 ⟨h4,h5⟩⟩
theorem ofNat_ne {a b:Nat}(ha:a<256)(hb:b<256)(h:UInt8.ofNat a=UInt8.ofNat b):a=b:=by
 have:=congrArg UInt8.toNat h
 rw [UInt8.toNat_ofNat',UInt8.toNat_ofNat'] at this
 omega
theorem idx_unt {s:ByteArray}{a c:Nat}(ha:a≤s.size)(hc:c<256):Lib.indexByte (cutB s a s.size).data.toList (UInt8.ofNat c)=if untB s c s.size a<s.size then ((untB s c s.size a-a:Nat):Int) else -1:=by
 obtain⟨g1,g2,g3,g4⟩:=zp9 (s:=s) (c:=c) s.size a (by omega) ha
 have hge:=Lib.indexByte_ge (cutB s a s.size).data.toList (UInt8.ofNat c)
 rcases Int.lt_or_le (Lib.indexByte (cutB s a s.size).data.toList (UInt8.ofNat c)) 0 with hn|hn
 ·have e:Lib.indexByte (cutB s a s.size).data.toList (UInt8.ofNat c) = -1:=by omega
  rw [e]
  have h0:=Lib.indexByte_none e
  by_cases hu:untB s c s.size a<s.size
  ·exfalso
   have h1:=h0 (untB s c s.size a-a)
   rw [zk18 (Nat.le_refl _),if_pos (by omega),show a+(untB s c s.size a-a)=untB s c s.size a by omega,g4 hu] at h1
   exact h1 rfl
  ·rw [if_neg hu]
 ·obtain⟨o,ho⟩:∃o:Nat,Lib.indexByte (cutB s a s.size).data.toList (UInt8.ofNat c)=(o:Int):=⟨_,(Int.toNat_of_nonneg hn).symm⟩
  obtain⟨h1,h2⟩:=Lib.indexByte_some ho
  rw [zk18 (Nat.le_refl _)] at h1
  by_cases hlt:a+o<s.size
  ·rw [if_pos hlt] at h1
   injection h1 with h1
   have h3:=ofNat_ne (zw8 _ _) hc h1
   have h4:untB s c s.size a=a+o:=by
    rcases Nat.lt_trichotomy (untB s c s.size a) (a+o) with h|h|h
    ·exfalso
     have h5:=h2 (untB s c s.size a-a) (by omega)
     rw [zk18 (Nat.le_refl _),if_pos (by omega),show a+(untB s c s.size a-a)=untB s c s.size a by omega,g4 (by omega)] at h5
     exact h5 rfl
    ·exact h
    ·exact absurd h3 (g3 (a+o) (by omega) h)
   rw [ho,h4,if_pos hlt,show a+o-a=o by omega]
  ·rw [if_neg hlt] at h1;cases h1
theorem atomI_eq {s:ByteArray}{alt:PS→E×PS}{a d:Nat}{b:Bool}{c:Nat}(hc:bAt s a=c):atomI s alt ⟨a,d,b⟩=atomIc s alt c ⟨a+1,d,b⟩:=by unfold atomI;rw [hc];rfl
set_option maxHeartbeats 4000000 in
theorem atom_c {s:ByteArray}(hs:s.size≤1048576){alt:PS→E×PS}{p:PS}(hp:p.a<s.size)(hd:p.d≤p.a+1)(hg:Good s (p.go 1) (alt (p.go 1)) 0 0 1)
 (ha:Ctr Tryz.prog 188 [.c (.pt 0 0)] [rdrI s (p.go 1)] (.ag (owE (alt (p.go 1)).1)) [rdrI s (alt (p.go 1)).2]) :
 Ctr Tryz.prog 227 [.c (.pt 0 0)] [rdrI s p] (.ag (owE (atomI s alt p).1)) [rdrI s (atomI s alt p).2]:=by
 have hn:=zv13 hs (p:=p)
 have hn2:=zv13 hs (p:=p.go 1)
 obtain⟨a,d,b⟩:=p
 have hp:a<s.size:=hp
 have ha:Ctr Tryz.prog 188 [.c (.pt 0 0)] [rdrI s ⟨a+1,d,b⟩] (.ag (owE (alt ⟨a+1,d,b⟩).1)) [rdrI s (alt ⟨a+1,d,b⟩).2]:=ha
 have hg:Good s ⟨a+1,d,b⟩ (alt ⟨a+1,d,b⟩) 0 0 1:=hg
 have hn:Ctr Tryz.prog 207 [.c (.pt 0 0)] [rdrI s ⟨a,d,b⟩] (.c (.v (.int .u8 (bAt s a:Int)))) [rdrI s ⟨a,d,b⟩]:=hn
 have hn2:Ctr Tryz.prog 207 [.c (.pt 0 0)] [rdrI s ⟨a+1,d,b⟩] (.c (.v (.int .u8 (bAt s (a+1):Int)))) [rdrI s ⟨a+1,d,b⟩]:=hn2
 obtain⟨c,hc⟩:∃c,bAt s a=c:=⟨_,rfl⟩
 have hcl:c<256:=hc▸zw8 s a
 rw [atomI_eq hc]
 rw [hc] at hn
 have hl:=zi12 hcl
 unfold rdrI at *
 dsimp only at hn hn2 ha ⊢
 refine zo2 Tryz.func227 rfl rfl ?_
 by_cases h1:litB c=true
 ·rw [h1] at hl
  have hr:atomIc s alt c ⟨a+1,d,b⟩=(rexE 1 (oneB c) [],⟨a+1,d,b⟩):=if_pos h1
  have hc128:c<128:=by
   unfold litB at h1
   simp only [Bool.or_eq_true,Bool.and_eq_true,decide_eq_true_iff,beq_iff_eq] at h1
   omega
  rw [hr]
  repeat' (first|(apply f_wo;first|(apply f_gs;refine n_sk ?_)|(apply f_mv;first|(refine zb2 ?_ ?_<;>intro hG<;>(try cases hG))|refine zj1 (v:=.c _) ?_|refine za ?_)|(apply f_as;first|refine zi1 (v:=.c _) ?_|refine za ?_)|(apply f_fa;first|refine n_fa ?_|refine zm1 ?_)|(apply f_ld;first|refine zq1 ?_|refine zx ?_|refine zw ?_|refine zo1 ?_|refine n_ld ?_)|(apply f_ca;first|refine za3 0 (hn) ?_|refine zz2 hl ?_|refine zx2 hl ?_)|(apply f_st;first|refine n_st ?_|refine zx1 ?_)|(apply ze2;first|refine zj2 ?_|refine za ?_)|(apply zm3;first|refine zi2 ?_|refine za ?_)|(apply zw1;first|refine zl ?_|refine za ?_)|(apply zu1;first|refine zk ?_|refine zt1 ?_|refine za ?_)|(apply f_pk;first|refine za2 (v:=.c _) ?_|refine za ?_)|(apply f_cv;first|refine zm8 ?_|refine zv4 ?_|refine zt5 ?_|refine zu5 ?_|refine za ?_)|refine n_al ?_|refine zq5 ?_|refine zr5 ?_|refine zs5 ?_|refine za ?_|refine n_mv ?_)|(apply f_w;first|refine zv ?_|refine zc ?_)|(apply d_wo;first|(apply d_gs;first|refine o_sk ?_|refine zm4 ?_)|(apply d_bo;(refine o_gm ?_ ?_<;>intro hG<;>(try cases hG)))|(apply d_mv;refine zi ?_)|(apply d_as;refine zi ?_)|(apply d_fa;first|refine o_fa ?_|refine zn3 ?_)|(apply d_ld;first|refine zo3 ?_|refine zk2 ?_|refine zl2 ?_|refine zp3 ?_|refine zi ?_|refine o_ld ?_)|(apply d_ca;first|refine zz4 0 (hn) ?_|refine zi5 hl ?_)|(apply d_st;first|refine o_st ?_|refine zf4 ?_)|(apply d_bb;first|refine zf1 ?_|refine zg1 ?_|refine zh1 ?_|refine zl3 ?_|refine zi ?_)|(apply d_cv;first|refine zs3 ?_|refine zt4 ?_|refine zn5 ?_|refine zo5 ?_|refine zi ?_)|refine o_al ?_|refine zk5 ?_|refine zl5 ?_|refine zm5 ?_|refine zi ?_|refine o_mv ?_)|(apply d_w;first|refine zv ?_|refine zc ?_)|refine zb fun C=>?_|refine zj (by kernel_rfl) (by kernel_rfl) fun C=>?_|refine zh ?_|refine zd ?_|refine zf ?_|refine zg ?_|(refine zn (by rfl) ?_ ?_<;>intro hC<;>(try cases hC)))
  refine zs4 (zs6 900 (i:=2) 208 3 rfl rfl (pre:=[_,_]) (post:=[]) rfl) ?_;refine zu ?_;refine ret1 rfl (zy3 (zi3 rfl (zi3 rfl (zk3 rfl rfl rfl (by first|exact zq _|exact zo _|exact bytC_clo _|(simp [cloL,clo,zq,zo,ze1,zd1,zr];done)|(simp [cloL,clo,opC,opL,zq,zo,ze1,zd1,zr];done)) zn2)))) rfl (by first|rfl|(simp [cloL,clo,zq,zo,ze1,zd1,zr];done)) rfl ⟨?_,?_⟩
  ·rfl
  ·rfl
 have h1:litB c=false:=by simpa using h1
 rw [h1] at hl
 by_cases h2:c=46
 ·subst h2
  have hr:atomIc s alt 46 ⟨a+1,d,b⟩=(rexE 2 ByteArray.empty [],⟨a+1,d,b⟩):=rfl
  rw [hr]
  repeat' (first|(apply f_wo;first|(apply f_gs;refine n_sk ?_)|(apply f_mv;first|(refine zb2 ?_ ?_<;>intro hG<;>(try cases hG))|refine zj1 (v:=.c _) ?_|refine za ?_)|(apply f_as;first|refine zi1 (v:=.c _) ?_|refine za ?_)|(apply f_fa;first|refine n_fa ?_|refine zm1 ?_)|(apply f_ld;first|refine zq1 ?_|refine zx ?_|refine zw ?_|refine zo1 ?_|refine n_ld ?_)|(apply f_ca;first|refine za3 0 (hn) ?_|refine zz2 hl ?_|refine zx2 hl ?_)|(apply f_st;first|refine n_st ?_|refine zx1 ?_)|(apply ze2;first|refine zj2 ?_|refine za ?_)|(apply zm3;first|refine zi2 ?_|refine za ?_)|(apply zw1;first|refine zl ?_|refine za ?_)|(apply zu1;first|refine zk ?_|refine zt1 ?_|refine za ?_)|(apply f_pk;first|refine za2 (v:=.c _) ?_|refine za ?_)|(apply f_cv;first|refine zm8 ?_|refine zv4 ?_|refine zt5 ?_|refine zu5 ?_|refine za ?_)|refine n_al ?_|refine zq5 ?_|refine zr5 ?_|refine zs5 ?_|refine za ?_|refine n_mv ?_)|(apply f_w;first|refine zv ?_|refine zc ?_)|(apply d_wo;first|(apply d_gs;first|refine o_sk ?_|refine zm4 ?_)|(apply d_bo;(refine o_gm ?_ ?_<;>intro hG<;>(try cases hG)))|(apply d_mv;refine zi ?_)|(apply d_as;refine zi ?_)|(apply d_fa;first|refine o_fa ?_|refine zn3 ?_)|(apply d_ld;first|refine zo3 ?_|refine zk2 ?_|refine zl2 ?_|refine zp3 ?_|refine zi ?_|refine o_ld ?_)|(apply d_ca;first|refine zz4 0 (hn) ?_|refine zi5 hl ?_)|(apply d_st;first|refine o_st ?_|refine zf4 ?_)|(apply d_bb;first|refine zf1 ?_|refine zg1 ?_|refine zh1 ?_|refine zl3 ?_|refine zi ?_)|(apply d_cv;first|refine zs3 ?_|refine zt4 ?_|refine zn5 ?_|refine zo5 ?_|refine zi ?_)|refine o_al ?_|refine zk5 ?_|refine zl5 ?_|refine zm5 ?_|refine zi ?_|refine o_mv ?_)|(apply d_w;first|refine zv ?_|refine zc ?_)|refine zb fun C=>?_|refine zj (by kernel_rfl) (by kernel_rfl) fun C=>?_|refine zh ?_|refine zd ?_|refine zf ?_|refine zg ?_|(refine zn (by rfl) ?_ ?_<;>intro hC<;>(try cases hC)))
  refine zs4 (zs6 900 (i:=2) 208 3 rfl rfl (pre:=[_,_]) (post:=[]) rfl) ?_;refine zu ?_;refine ret1 rfl (zy3 (zi3 rfl (zi3 rfl (zk3 rfl rfl rfl (by first|exact zq _|exact zo _|exact bytC_clo _|(simp [cloL,clo,zq,zo,ze1,zd1,zr];done)|(simp [cloL,clo,opC,opL,zq,zo,ze1,zd1,zr];done)) zn2)))) rfl (by first|rfl|(simp [cloL,clo,zq,zo,ze1,zd1,zr];done)) rfl ⟨?_,?_⟩
  ·rfl
  ·rfl
 by_cases h3:c=94
 ·subst h3
  have hr:atomIc s alt 94 ⟨a+1,d,b⟩=(rexE 10 ByteArray.empty [],⟨a+1,d,b⟩):=rfl
  rw [hr]
  repeat' (first|(apply f_wo;first|(apply f_gs;refine n_sk ?_)|(apply f_mv;first|(refine zb2 ?_ ?_<;>intro hG<;>(try cases hG))|refine zj1 (v:=.c _) ?_|refine za ?_)|(apply f_as;first|refine zi1 (v:=.c _) ?_|refine za ?_)|(apply f_fa;first|refine n_fa ?_|refine zm1 ?_)|(apply f_ld;first|refine zq1 ?_|refine zx ?_|refine zw ?_|refine zo1 ?_|refine n_ld ?_)|(apply f_ca;first|refine za3 0 (hn) ?_|refine zz2 hl ?_|refine zx2 hl ?_)|(apply f_st;first|refine n_st ?_|refine zx1 ?_)|(apply ze2;first|refine zj2 ?_|refine za ?_)|(apply zm3;first|refine zi2 ?_|refine za ?_)|(apply zw1;first|refine zl ?_|refine za ?_)|(apply zu1;first|refine zk ?_|refine zt1 ?_|refine za ?_)|(apply f_pk;first|refine za2 (v:=.c _) ?_|refine za ?_)|(apply f_cv;first|refine zm8 ?_|refine zv4 ?_|refine zt5 ?_|refine zu5 ?_|refine za ?_)|refine n_al ?_|refine zq5 ?_|refine zr5 ?_|refine zs5 ?_|refine za ?_|refine n_mv ?_)|(apply f_w;first|refine zv ?_|refine zc ?_)|(apply d_wo;first|(apply d_gs;first|refine o_sk ?_|refine zm4 ?_)|(apply d_bo;(refine o_gm ?_ ?_<;>intro hG<;>(try cases hG)))|(apply d_mv;refine zi ?_)|(apply d_as;refine zi ?_)|(apply d_fa;first|refine o_fa ?_|refine zn3 ?_)|(apply d_ld;first|refine zo3 ?_|refine zk2 ?_|refine zl2 ?_|refine zp3 ?_|refine zi ?_|refine o_ld ?_)|(apply d_ca;first|refine zz4 0 (hn) ?_|refine zi5 hl ?_)|(apply d_st;first|refine o_st ?_|refine zf4 ?_)|(apply d_bb;first|refine zf1 ?_|refine zg1 ?_|refine zh1 ?_|refine zl3 ?_|refine zi ?_)|(apply d_cv;first|refine zs3 ?_|refine zt4 ?_|refine zn5 ?_|refine zo5 ?_|refine zi ?_)|refine o_al ?_|refine zk5 ?_|refine zl5 ?_|refine zm5 ?_|refine zi ?_|refine o_mv ?_)|(apply d_w;first|refine zv ?_|refine zc ?_)|refine zb fun C=>?_|refine zj (by kernel_rfl) (by kernel_rfl) fun C=>?_|refine zh ?_|refine zd ?_|refine zf ?_|refine zg ?_|(refine zn (by rfl) ?_ ?_<;>intro hC<;>(try cases hC)))
  refine zs4 (zs6 900 (i:=2) 208 3 rfl rfl (pre:=[_,_]) (post:=[]) rfl) ?_;refine zu ?_;refine ret1 rfl (zy3 (zi3 rfl (zi3 rfl (zk3 rfl rfl rfl (by first|exact zq _|exact zo _|exact bytC_clo _|(simp [cloL,clo,zq,zo,ze1,zd1,zr];done)|(simp [cloL,clo,opC,opL,zq,zo,ze1,zd1,zr];done)) zn2)))) rfl (by first|rfl|(simp [cloL,clo,zq,zo,ze1,zd1,zr];done)) rfl ⟨?_,?_⟩
  ·rfl
  ·rfl
 by_cases h4:c=36
 ·subst h4
  have hr:atomIc s alt 36 ⟨a+1,d,b⟩=(rexE 11 ByteArray.empty [],⟨a+1,d,b⟩):=rfl
  rw [hr]
  repeat' (first|(apply f_wo;first|(apply f_gs;refine n_sk ?_)|(apply f_mv;first|(refine zb2 ?_ ?_<;>intro hG<;>(try cases hG))|refine zj1 (v:=.c _) ?_|refine za ?_)|(apply f_as;first|refine zi1 (v:=.c _) ?_|refine za ?_)|(apply f_fa;first|refine n_fa ?_|refine zm1 ?_)|(apply f_ld;first|refine zq1 ?_|refine zx ?_|refine zw ?_|refine zo1 ?_|refine n_ld ?_)|(apply f_ca;first|refine za3 0 (hn) ?_|refine zz2 hl ?_|refine zx2 hl ?_)|(apply f_st;first|refine n_st ?_|refine zx1 ?_)|(apply ze2;first|refine zj2 ?_|refine za ?_)|(apply zm3;first|refine zi2 ?_|refine za ?_)|(apply zw1;first|refine zl ?_|refine za ?_)|(apply zu1;first|refine zk ?_|refine zt1 ?_|refine za ?_)|(apply f_pk;first|refine za2 (v:=.c _) ?_|refine za ?_)|(apply f_cv;first|refine zm8 ?_|refine zv4 ?_|refine zt5 ?_|refine zu5 ?_|refine za ?_)|refine n_al ?_|refine zq5 ?_|refine zr5 ?_|refine zs5 ?_|refine za ?_|refine n_mv ?_)|(apply f_w;first|refine zv ?_|refine zc ?_)|(apply d_wo;first|(apply d_gs;first|refine o_sk ?_|refine zm4 ?_)|(apply d_bo;(refine o_gm ?_ ?_<;>intro hG<;>(try cases hG)))|(apply d_mv;refine zi ?_)|(apply d_as;refine zi ?_)|(apply d_fa;first|refine o_fa ?_|refine zn3 ?_)|(apply d_ld;first|refine zo3 ?_|refine zk2 ?_|refine zl2 ?_|refine zp3 ?_|refine zi ?_|refine o_ld ?_)|(apply d_ca;first|refine zz4 0 (hn) ?_|refine zi5 hl ?_)|(apply d_st;first|refine o_st ?_|refine zf4 ?_)|(apply d_bb;first|refine zf1 ?_|refine zg1 ?_|refine zh1 ?_|refine zl3 ?_|refine zi ?_)|(apply d_cv;first|refine zs3 ?_|refine zt4 ?_|refine zn5 ?_|refine zo5 ?_|refine zi ?_)|refine o_al ?_|refine zk5 ?_|refine zl5 ?_|refine zm5 ?_|refine zi ?_|refine o_mv ?_)|(apply d_w;first|refine zv ?_|refine zc ?_)|refine zb fun C=>?_|refine zj (by kernel_rfl) (by kernel_rfl) fun C=>?_|refine zh ?_|refine zd ?_|refine zf ?_|refine zg ?_|(refine zn (by rfl) ?_ ?_<;>intro hC<;>(try cases hC)))
  refine zs4 (zs6 900 (i:=2) 208 3 rfl rfl (pre:=[_,_]) (post:=[]) rfl) ?_;refine zu ?_;refine ret1 rfl (zy3 (zi3 rfl (zi3 rfl (zk3 rfl rfl rfl (by first|exact zq _|exact zo _|exact bytC_clo _|(simp [cloL,clo,zq,zo,ze1,zd1,zr];done)|(simp [cloL,clo,opC,opL,zq,zo,ze1,zd1,zr];done)) zn2)))) rfl (by first|rfl|(simp [cloL,clo,zq,zo,ze1,zd1,zr];done)) rfl ⟨?_,?_⟩
  ·rfl
  ·rfl
 by_cases h5:c=91
 ·subst h5
  have hix:=idx_unt (s:=s) (a:=a+1) (c:=93) (by omega) (by omega)
  have c3:=zz11 (cutB s (a+1) s.size) (c:=93) (by omega)
  obtain⟨g1,g2,g3,g4⟩:=zp9 (s:=s) (c:=93) s.size (a+1) (by omega) (by omega)
  rw [hix] at c3
  have hr:atomIc s alt 91 ⟨a+1,d,b⟩=if untB s 93 s.size (a+1)<s.size then (rexE 3 (cutB s (a+1) (untB s 93 s.size (a+1))) [],⟨untB s 93 s.size (a+1)+1,d,b⟩) else (zeroR,⟨a+1,d,true⟩):=rfl
  rw [hr]
  clear hr hix
  generalize untB s 93 s.size (a+1)=u at *
  by_cases hu:u<s.size
  ·rw [if_pos hu] at c3
   rw [if_pos hu]
   have e0:(a:Int)+1=((a+1:Nat):Int):=by omega
   have e1:(a:Int)+1+((u-(a+1):Nat):Int)=(u:Int):=by omega
   repeat' (first|(apply f_wo;first|(apply f_gs;refine n_sk ?_)|(apply f_mv;first|(refine zb2 ?_ ?_<;>intro hG<;>(try cases hG))|refine zj1 (v:=.c _) ?_|refine za ?_)|(apply f_as;first|refine zi1 (v:=.c _) ?_|refine za ?_)|(apply f_fa;first|refine n_fa ?_|refine zm1 ?_)|(apply f_ld;first|refine zq1 ?_|refine zx ?_|refine zw ?_|refine zo1 ?_|refine n_ld ?_)|(apply f_ca;first|refine za3 0 (hn) ?_|refine zz2 hl ?_|refine zx2 hl ?_|refine zz2 c3 ?_|refine zx2 c3 ?_)|(apply f_st;first|refine n_st ?_|refine zx1 ?_)|(apply ze2;first|refine zj2 ?_|refine za ?_)|(apply zm3;first|refine zi2 ?_|refine za ?_)|(apply zw1;first|refine zl ?_|refine za ?_)|(apply zu1;first|refine zk ?_|refine zt1 ?_|refine za ?_)|(apply f_pk;first|refine za2 (v:=.c _) ?_|refine za ?_)|(apply f_cv;first|refine zm8 ?_|refine zv4 ?_|refine zt5 ?_|refine zu5 ?_|refine za ?_)|refine n_al ?_|refine zq5 ?_|refine zr5 ?_|refine zs5 ?_|refine za ?_|refine n_mv ?_)|(apply f_w;first|refine zv ?_|refine zc ?_)|(apply d_wo;first|(apply d_gs;first|refine o_sk ?_|refine zm4 ?_)|(apply d_bo;(refine o_gm ?_ ?_<;>intro hG<;>(try cases hG)))|(apply d_mv;refine zi ?_)|(apply d_as;refine zi ?_)|(apply d_fa;first|refine o_fa ?_|refine zn3 ?_)|(apply d_ld;first|refine zo3 ?_|refine zk2 ?_|refine zl2 ?_|refine zp3 ?_|refine zi ?_|refine o_ld ?_)|(apply d_ca;first|refine zz4 0 (hn) ?_|refine zi5 hl ?_|refine zi5 c3 ?_)|(apply d_st;first|refine o_st ?_|refine zf4 ?_)|(apply d_bb;first|refine zf1 ?_|refine zg1 ?_|refine zh1 ?_|refine zl3 ?_|refine zi ?_)|(apply d_cv;first|refine zs3 ?_|refine zt4 ?_|refine zn5 ?_|refine zo5 ?_|refine zi ?_)|refine o_al ?_|refine zk5 ?_|refine zl5 ?_|refine zm5 ?_|refine zi ?_|refine o_mv ?_)|(apply d_w;first|refine zv ?_|refine zc ?_)|refine zb fun C=>?_|refine zj (by kernel_rfl) (by kernel_rfl) fun C=>?_|refine zh ?_|refine zd ?_|refine zf ?_|refine zg ?_|refine zt rfl ?_|refine zp rfl ?_)
   refine zs4 (zs6 900 (i:=2) 208 3 rfl rfl (pre:=[_,_]) (post:=[]) rfl) ?_;refine zu ?_;refine ret1 rfl (zy3 (zi3 rfl (zi3 rfl (zk3 rfl rfl rfl (by first|exact zq _|exact zo _|exact bytC_clo _|(simp [cloL,clo,zq,zo,ze1,zd1,zr];done)|(simp [cloL,clo,opC,opL,zq,zo,ze1,zd1,zr];done)) zn2)))) rfl (by first|rfl|(simp [cloL,clo,zq,zo,ze1,zd1,zr];done)) rfl ⟨?_,?_⟩
   ·rfl
   ·rw [show ((u+1:Nat):Int)=(a:Int)+1+(((u-(a+1):Nat):Int)+1) by omega];rfl
  ·rw [if_neg hu] at c3
   rw [if_neg hu]
   repeat' (first|(apply f_wo;first|(apply f_gs;refine n_sk ?_)|(apply f_mv;first|(refine zb2 ?_ ?_<;>intro hG<;>(try cases hG))|refine zj1 (v:=.c _) ?_|refine za ?_)|(apply f_as;first|refine zi1 (v:=.c _) ?_|refine za ?_)|(apply f_fa;first|refine n_fa ?_|refine zm1 ?_)|(apply f_ld;first|refine zq1 ?_|refine zx ?_|refine zw ?_|refine zo1 ?_|refine n_ld ?_)|(apply f_ca;first|refine za3 0 (hn) ?_|refine zz2 hl ?_|refine zx2 hl ?_|refine zz2 c3 ?_|refine zx2 c3 ?_)|(apply f_st;first|refine n_st ?_|refine zx1 ?_)|(apply ze2;first|refine zj2 ?_|refine za ?_)|(apply zm3;first|refine zi2 ?_|refine za ?_)|(apply zw1;first|refine zl ?_|refine za ?_)|(apply zu1;first|refine zk ?_|refine zt1 ?_|refine za ?_)|(apply f_pk;first|refine za2 (v:=.c _) ?_|refine za ?_)|(apply f_cv;first|refine zm8 ?_|refine zv4 ?_|refine zt5 ?_|refine zu5 ?_|refine za ?_)|refine n_al ?_|refine zq5 ?_|refine zr5 ?_|refine zs5 ?_|refine za ?_|refine n_mv ?_)|(apply f_w;first|refine zv ?_|refine zc ?_)|(apply d_wo;first|(apply d_gs;first|refine o_sk ?_|refine zm4 ?_)|(apply d_bo;(refine o_gm ?_ ?_<;>intro hG<;>(try cases hG)))|(apply d_mv;refine zi ?_)|(apply d_as;refine zi ?_)|(apply d_fa;first|refine o_fa ?_|refine zn3 ?_)|(apply d_ld;first|refine zo3 ?_|refine zk2 ?_|refine zl2 ?_|refine zp3 ?_|refine zi ?_|refine o_ld ?_)|(apply d_ca;first|refine zz4 0 (hn) ?_|refine zi5 hl ?_|refine zi5 c3 ?_)|(apply d_st;first|refine o_st ?_|refine zf4 ?_)|(apply d_bb;first|refine zf1 ?_|refine zg1 ?_|refine zh1 ?_|refine zl3 ?_|refine zi ?_)|(apply d_cv;first|refine zs3 ?_|refine zt4 ?_|refine zn5 ?_|refine zo5 ?_|refine zi ?_)|refine o_al ?_|refine zk5 ?_|refine zl5 ?_|refine zm5 ?_|refine zi ?_|refine o_mv ?_)|(apply d_w;first|refine zv ?_|refine zc ?_)|refine zb fun C=>?_|refine zj (by kernel_rfl) (by kernel_rfl) fun C=>?_|refine zh ?_|refine zd ?_|refine zf ?_|refine zg ?_|(refine zn (by rfl) ?_ ?_<;>intro hC<;>(try cases hC)))
   refine zs4 (zs6 900 (i:=2) 208 3 rfl rfl (pre:=[_,_]) (post:=[]) rfl) ?_;refine zu ?_;refine ret1 rfl (zy3 (zi3 rfl (zi3 rfl (zk3 rfl rfl rfl (by first|exact zq _|exact zo _|exact bytC_clo _|(simp [cloL,clo,zq,zo,ze1,zd1,zr];done)|(simp [cloL,clo,opC,opL,zq,zo,ze1,zd1,zr];done)) zn2)))) rfl (by first|rfl|(simp [cloL,clo,zq,zo,ze1,zd1,zr];done)) rfl ⟨?_,?_⟩
   ·rfl
   ·rfl
 by_cases h6:c=40
 ·subst h6
  by_cases h41:bAt s (a+1)=41
  ·have hr:atomIc s alt 40 ⟨a+1,d,b⟩=(rexE 9 ByteArray.empty [],⟨a+2,d,b⟩):=by
    rw [zc10,if_pos h41];rfl
   rw [hr]
   rw [h41] at hn2
   repeat' (first|(apply f_wo;first|(apply f_gs;refine n_sk ?_)|(apply f_mv;first|(refine zb2 ?_ ?_<;>intro hG<;>(try cases hG))|refine zj1 (v:=.c _) ?_|refine za ?_)|(apply f_as;first|refine zi1 (v:=.c _) ?_|refine za ?_)|(apply f_fa;first|refine n_fa ?_|refine zm1 ?_)|(apply f_ld;first|refine zq1 ?_|refine zx ?_|refine zw ?_|refine zo1 ?_|refine n_ld ?_)|(apply f_ca;first|refine za3 0 (hn) ?_|refine za3 0 (hn2) ?_|refine zz2 hl ?_|refine zx2 hl ?_)|(apply f_st;first|refine n_st ?_|refine zx1 ?_)|(apply ze2;first|refine zj2 ?_|refine za ?_)|(apply zm3;first|refine zi2 ?_|refine za ?_)|(apply zw1;first|refine zl ?_|refine za ?_)|(apply zu1;first|refine zk ?_|refine zt1 ?_|refine za ?_)|(apply f_pk;first|refine za2 (v:=.c _) ?_|refine za ?_)|(apply f_cv;first|refine zm8 ?_|refine zv4 ?_|refine zt5 ?_|refine zu5 ?_|refine za ?_)|refine n_al ?_|refine zq5 ?_|refine zr5 ?_|refine zs5 ?_|refine za ?_|refine n_mv ?_)|(apply f_w;first|refine zv ?_|refine zc ?_)|(apply d_wo;first|(apply d_gs;first|refine o_sk ?_|refine zm4 ?_)|(apply d_bo;(refine o_gm ?_ ?_<;>intro hG<;>(try cases hG)))|(apply d_mv;refine zi ?_)|(apply d_as;refine zi ?_)|(apply d_fa;first|refine o_fa ?_|refine zn3 ?_)|(apply d_ld;first|refine zo3 ?_|refine zk2 ?_|refine zl2 ?_|refine zp3 ?_|refine zi ?_|refine o_ld ?_)|(apply d_ca;first|refine zz4 0 (hn) ?_|refine zz4 0 (hn2) ?_|refine zi5 hl ?_)|(apply d_st;first|refine o_st ?_|refine zf4 ?_)|(apply d_bb;first|refine zf1 ?_|refine zg1 ?_|refine zh1 ?_|refine zl3 ?_|refine zi ?_)|(apply d_cv;first|refine zs3 ?_|refine zt4 ?_|refine zn5 ?_|refine zo5 ?_|refine zi ?_)|refine o_al ?_|refine zk5 ?_|refine zl5 ?_|refine zm5 ?_|refine zi ?_|refine o_mv ?_)|(apply d_w;first|refine zv ?_|refine zc ?_)|refine zb fun C=>?_|refine zj (by kernel_rfl) (by kernel_rfl) fun C=>?_|refine zh ?_|refine zd ?_|refine zf ?_|refine zg ?_|(refine zn (by rfl) ?_ ?_<;>intro hC<;>(try cases hC)))
   refine zs4 (zs6 900 (i:=2) 208 3 rfl rfl (pre:=[_,_]) (post:=[]) rfl) ?_;refine zu ?_;refine ret1 rfl (zy3 (zi3 rfl (zi3 rfl (zk3 rfl rfl rfl (by first|exact zq _|exact zo _|exact bytC_clo _|(simp [cloL,clo,zq,zo,ze1,zd1,zr];done)|(simp [cloL,clo,opC,opL,zq,zo,ze1,zd1,zr];done)) zn2)))) rfl (by first|rfl|(simp [cloL,clo,zq,zo,ze1,zd1,zr];done)) rfl ⟨?_,?_⟩
   ·rfl
   ·rfl
  ·have hr:atomIc s alt 40 ⟨a+1,d,b⟩=if bAt s (alt ⟨a+1,d,b⟩).2.a=41 then ((alt ⟨a+1,d,b⟩).1,(alt ⟨a+1,d,b⟩).2.go 1) else (zeroR,(alt ⟨a+1,d,b⟩).2.bad):=by
    rw [zc10,if_neg h41]
   rw [hr]
   clear hr
   obtain⟨⟨e,q⟩,hq⟩:∃r,alt ⟨a+1,d,b⟩=r:=⟨_,rfl⟩
   rw [hq] at ha hg ⊢
   have hn3:=zv13 hs (p:=q)
   unfold rdrI at hn3
   have hle:q.a≤s.size:=hg.le
   have hqd:q.d=d:=hg.d
   obtain⟨qa,qd,qb⟩:=q
   dsimp only at ha hn3 hle hqd ⊢
   have hfi:Fine e:=hg.fine
   cases hfi with
   | mk k t l hk ht hl2 =>
   by_cases h7:bAt s qa=41
   ·rw [if_pos h7]
    rw [h7] at hn3
    have hlt:qa<s.size:=zb5 (by rw [h7];decide)
    repeat' (first|(apply f_wo;first|(apply f_gs;refine n_sk ?_)|(apply f_mv;first|(refine zb2 ?_ ?_<;>intro hG<;>(try cases hG))|refine zj1 (v:=.c _) ?_|refine za ?_)|(apply f_as;first|refine zi1 (v:=.c _) ?_|refine za ?_)|(apply f_fa;first|refine n_fa ?_|refine zm1 ?_)|(apply f_ld;first|refine zq1 ?_|refine zx ?_|refine zw ?_|refine zo1 ?_|refine n_ld ?_)|(apply f_ca;first|refine za3 0 (hn) ?_|refine za3 0 (hn2) ?_|refine zz2 hl ?_|refine zx2 hl ?_|refine za3 0 (ha) ?_|refine za3 0 (hn3) ?_)|(apply f_st;first|refine n_st ?_|refine zx1 ?_)|(apply ze2;first|refine zj2 ?_|refine za ?_)|(apply zm3;first|refine zi2 ?_|refine za ?_)|(apply zw1;first|refine zl ?_|refine za ?_)|(apply zu1;first|refine zk ?_|refine zt1 ?_|refine za ?_)|(apply f_pk;first|refine za2 (v:=.c _) ?_|refine za ?_)|(apply f_cv;first|refine zm8 ?_|refine zv4 ?_|refine zt5 ?_|refine zu5 ?_|refine za ?_)|refine n_al ?_|refine zq5 ?_|refine zr5 ?_|refine zs5 ?_|refine za ?_|refine n_mv ?_)|(apply f_w;first|refine zv ?_|refine zc ?_)|(apply d_wo;first|(apply d_gs;first|refine o_sk ?_|refine zm4 ?_)|(apply d_bo;(refine o_gm ?_ ?_<;>intro hG<;>(try cases hG)))|(apply d_mv;refine zi ?_)|(apply d_as;refine zi ?_)|(apply d_fa;first|refine o_fa ?_|refine zn3 ?_)|(apply d_ld;first|refine zo3 ?_|refine zk2 ?_|refine zl2 ?_|refine zp3 ?_|refine zi ?_|refine o_ld ?_)|(apply d_ca;first|refine zz4 0 (hn) ?_|refine zz4 0 (hn2) ?_|refine zi5 hl ?_|refine zz4 0 (ha) ?_|refine zz4 0 (hn3) ?_)|(apply d_st;first|refine o_st ?_|refine zf4 ?_)|(apply d_bb;first|refine zf1 ?_|refine zg1 ?_|refine zh1 ?_|refine zl3 ?_|refine zi ?_)|(apply d_cv;first|refine zs3 ?_|refine zt4 ?_|refine zn5 ?_|refine zo5 ?_|refine zi ?_)|refine o_al ?_|refine zk5 ?_|refine zl5 ?_|refine zm5 ?_|refine zi ?_|refine o_mv ?_)|(apply d_w;first|refine zv ?_|refine zc ?_)|refine zb fun C=>?_|refine zj (by kernel_rfl) (by kernel_rfl) fun C=>?_|refine zh ?_|refine zd ?_|refine zf ?_|refine zg ?_|refine zt rfl ?_|refine zp rfl ?_)
    refine zn (by rfl) (fun hC=>absurd (eq_of_beq hC) (by omega)) fun hC=>?_
    repeat' (first|(apply f_wo;first|(apply f_gs;refine n_sk ?_)|(apply f_mv;first|(refine zb2 ?_ ?_<;>intro hG<;>(try cases hG))|refine zj1 (v:=.c _) ?_|refine za ?_)|(apply f_as;first|refine zi1 (v:=.c _) ?_|refine za ?_)|(apply f_fa;first|refine n_fa ?_|refine zm1 ?_)|(apply f_ld;first|refine zq1 ?_|refine zx ?_|refine zw ?_|refine zo1 ?_|refine n_ld ?_)|(apply f_ca;first|refine za3 0 (hn) ?_|refine za3 0 (hn2) ?_|refine zz2 hl ?_|refine zx2 hl ?_|refine za3 0 (ha) ?_|refine za3 0 (hn3) ?_)|(apply f_st;first|refine n_st ?_|refine zx1 ?_)|(apply ze2;first|refine zj2 ?_|refine za ?_)|(apply zm3;first|refine zi2 ?_|refine za ?_)|(apply zw1;first|refine zl ?_|refine za ?_)|(apply zu1;first|refine zk ?_|refine zt1 ?_|refine za ?_)|(apply f_pk;first|refine za2 (v:=.c _) ?_|refine za ?_)|(apply f_cv;first|refine zm8 ?_|refine zv4 ?_|refine zt5 ?_|refine zu5 ?_|refine za ?_)|refine n_al ?_|refine zq5 ?_|refine zr5 ?_|refine zs5 ?_|refine za ?_|refine n_mv ?_)|(apply f_w;first|refine zv ?_|refine zc ?_)|(apply d_wo;first|(apply d_gs;first|refine o_sk ?_|refine zm4 ?_)|(apply d_bo;(refine o_gm ?_ ?_<;>intro hG<;>(try cases hG)))|(apply d_mv;refine zi ?_)|(apply d_as;refine zi ?_)|(apply d_fa;first|refine o_fa ?_|refine zn3 ?_)|(apply d_ld;first|refine zo3 ?_|refine zk2 ?_|refine zl2 ?_|refine zp3 ?_|refine zi ?_|refine o_ld ?_)|(apply d_ca;first|refine zz4 0 (hn) ?_|refine zz4 0 (hn2) ?_|refine zi5 hl ?_|refine zz4 0 (ha) ?_|refine zz4 0 (hn3) ?_)|(apply d_st;first|refine o_st ?_|refine zf4 ?_)|(apply d_bb;first|refine zf1 ?_|refine zg1 ?_|refine zh1 ?_|refine zl3 ?_|refine zi ?_)|(apply d_cv;first|refine zs3 ?_|refine zt4 ?_|refine zn5 ?_|refine zo5 ?_|refine zi ?_)|refine o_al ?_|refine zk5 ?_|refine zl5 ?_|refine zm5 ?_|refine zi ?_|refine o_mv ?_)|(apply d_w;first|refine zv ?_|refine zc ?_)|refine zb fun C=>?_|refine zj (by kernel_rfl) (by kernel_rfl) fun C=>?_|refine zh ?_|refine zd ?_|refine zf ?_|refine zg ?_|refine zt rfl ?_|refine zp rfl ?_)
    refine zu ?_;refine ret1 rfl (zy3 (zi3 rfl (zi3 rfl (zk3 rfl rfl rfl (by first|exact zq _|exact zo _|exact bytC_clo _|(simp [cloL,clo,zq,zo,ze1,zd1,zr];done)|(simp [cloL,clo,opC,opL,zq,zo,ze1,zd1,zr];done)) zn2)))) rfl (by first|rfl|(simp [cloL,clo,zq,zo,ze1,zd1,zr];done)) rfl ⟨?_,?_⟩
    ·rfl
    ·rfl
   ·rw [if_neg h7]
    repeat' (first|(apply f_wo;first|(apply f_gs;refine n_sk ?_)|(apply f_mv;first|(refine zb2 ?_ ?_<;>intro hG<;>(try cases hG))|refine zj1 (v:=.c _) ?_|refine za ?_)|(apply f_as;first|refine zi1 (v:=.c _) ?_|refine za ?_)|(apply f_fa;first|refine n_fa ?_|refine zm1 ?_)|(apply f_ld;first|refine zq1 ?_|refine zx ?_|refine zw ?_|refine zo1 ?_|refine n_ld ?_)|(apply f_ca;first|refine za3 0 (hn) ?_|refine za3 0 (hn2) ?_|refine zz2 hl ?_|refine zx2 hl ?_|refine za3 0 (ha) ?_|refine za3 0 (hn3) ?_)|(apply f_st;first|refine n_st ?_|refine zx1 ?_)|(apply ze2;first|refine zj2 ?_|refine za ?_)|(apply zm3;first|refine zi2 ?_|refine za ?_)|(apply zw1;first|refine zl ?_|refine za ?_)|(apply zu1;first|refine zk ?_|refine zt1 ?_|refine za ?_)|(apply f_pk;first|refine za2 (v:=.c _) ?_|refine za ?_)|(apply f_cv;first|refine zm8 ?_|refine zv4 ?_|refine zt5 ?_|refine zu5 ?_|refine za ?_)|refine n_al ?_|refine zq5 ?_|refine zr5 ?_|refine zs5 ?_|refine za ?_|refine n_mv ?_)|(apply f_w;first|refine zv ?_|refine zc ?_)|(apply d_wo;first|(apply d_gs;first|refine o_sk ?_|refine zm4 ?_)|(apply d_bo;(refine o_gm ?_ ?_<;>intro hG<;>(try cases hG)))|(apply d_mv;refine zi ?_)|(apply d_as;refine zi ?_)|(apply d_fa;first|refine o_fa ?_|refine zn3 ?_)|(apply d_ld;first|refine zo3 ?_|refine zk2 ?_|refine zl2 ?_|refine zp3 ?_|refine zi ?_|refine o_ld ?_)|(apply d_ca;first|refine zz4 0 (hn) ?_|refine zz4 0 (hn2) ?_|refine zi5 hl ?_|refine zz4 0 (ha) ?_|refine zz4 0 (hn3) ?_)|(apply d_st;first|refine o_st ?_|refine zf4 ?_)|(apply d_bb;first|refine zf1 ?_|refine zg1 ?_|refine zh1 ?_|refine zl3 ?_|refine zi ?_)|(apply d_cv;first|refine zs3 ?_|refine zt4 ?_|refine zn5 ?_|refine zo5 ?_|refine zi ?_)|refine o_al ?_|refine zk5 ?_|refine zl5 ?_|refine zm5 ?_|refine zi ?_|refine o_mv ?_)|(apply d_w;first|refine zv ?_|refine zc ?_)|refine zb fun C=>?_|refine zj (by kernel_rfl) (by kernel_rfl) fun C=>?_|refine zh ?_|refine zd ?_|refine zf ?_|refine zg ?_|refine zt rfl ?_|refine zp rfl ?_)
    refine zn (by rfl) (fun hC=>absurd (eq_of_beq hC) (by omega)) fun hC=>?_
    repeat' (first|(apply f_wo;first|(apply f_gs;refine n_sk ?_)|(apply f_mv;first|(refine zb2 ?_ ?_<;>intro hG<;>(try cases hG))|refine zj1 (v:=.c _) ?_|refine za ?_)|(apply f_as;first|refine zi1 (v:=.c _) ?_|refine za ?_)|(apply f_fa;first|refine n_fa ?_|refine zm1 ?_)|(apply f_ld;first|refine zq1 ?_|refine zx ?_|refine zw ?_|refine zo1 ?_|refine n_ld ?_)|(apply f_ca;first|refine za3 0 (hn) ?_|refine za3 0 (hn2) ?_|refine zz2 hl ?_|refine zx2 hl ?_|refine za3 0 (ha) ?_|refine za3 0 (hn3) ?_)|(apply f_st;first|refine n_st ?_|refine zx1 ?_)|(apply ze2;first|refine zj2 ?_|refine za ?_)|(apply zm3;first|refine zi2 ?_|refine za ?_)|(apply zw1;first|refine zl ?_|refine za ?_)|(apply zu1;first|refine zk ?_|refine zt1 ?_|refine za ?_)|(apply f_pk;first|refine za2 (v:=.c _) ?_|refine za ?_)|(apply f_cv;first|refine zm8 ?_|refine zv4 ?_|refine zt5 ?_|refine zu5 ?_|refine za ?_)|refine n_al ?_|refine zq5 ?_|refine zr5 ?_|refine zs5 ?_|refine za ?_|refine n_mv ?_)|(apply f_w;first|refine zv ?_|refine zc ?_)|(apply d_wo;first|(apply d_gs;first|refine o_sk ?_|refine zm4 ?_)|(apply d_bo;(refine o_gm ?_ ?_<;>intro hG<;>(try cases hG)))|(apply d_mv;refine zi ?_)|(apply d_as;refine zi ?_)|(apply d_fa;first|refine o_fa ?_|refine zn3 ?_)|(apply d_ld;first|refine zo3 ?_|refine zk2 ?_|refine zl2 ?_|refine zp3 ?_|refine zi ?_|refine o_ld ?_)|(apply d_ca;first|refine zz4 0 (hn) ?_|refine zz4 0 (hn2) ?_|refine zi5 hl ?_|refine zz4 0 (ha) ?_|refine zz4 0 (hn3) ?_)|(apply d_st;first|refine o_st ?_|refine zf4 ?_)|(apply d_bb;first|refine zf1 ?_|refine zg1 ?_|refine zh1 ?_|refine zl3 ?_|refine zi ?_)|(apply d_cv;first|refine zs3 ?_|refine zt4 ?_|refine zn5 ?_|refine zo5 ?_|refine zi ?_)|refine o_al ?_|refine zk5 ?_|refine zl5 ?_|refine zm5 ?_|refine zi ?_|refine o_mv ?_)|(apply d_w;first|refine zv ?_|refine zc ?_)|refine zb fun C=>?_|refine zj (by kernel_rfl) (by kernel_rfl) fun C=>?_|refine zh ?_|refine zd ?_|refine zf ?_|refine zg ?_|refine zt rfl ?_|refine zp rfl ?_)
    refine zn (by rfl) (fun hC=>?_) fun hC=>absurd (bne_eq_false_iff_eq.1 hC) (by omega)
    repeat' (first|(apply f_wo;first|(apply f_gs;refine n_sk ?_)|(apply f_mv;first|(refine zb2 ?_ ?_<;>intro hG<;>(try cases hG))|refine zj1 (v:=.c _) ?_|refine za ?_)|(apply f_as;first|refine zi1 (v:=.c _) ?_|refine za ?_)|(apply f_fa;first|refine n_fa ?_|refine zm1 ?_)|(apply f_ld;first|refine zq1 ?_|refine zx ?_|refine zw ?_|refine zo1 ?_|refine n_ld ?_)|(apply f_ca;first|refine za3 0 (hn) ?_|refine za3 0 (hn2) ?_|refine zz2 hl ?_|refine zx2 hl ?_|refine za3 0 (ha) ?_|refine za3 0 (hn3) ?_)|(apply f_st;first|refine n_st ?_|refine zx1 ?_)|(apply ze2;first|refine zj2 ?_|refine za ?_)|(apply zm3;first|refine zi2 ?_|refine za ?_)|(apply zw1;first|refine zl ?_|refine za ?_)|(apply zu1;first|refine zk ?_|refine zt1 ?_|refine za ?_)|(apply f_pk;first|refine za2 (v:=.c _) ?_|refine za ?_)|(apply f_cv;first|refine zm8 ?_|refine zv4 ?_|refine zt5 ?_|refine zu5 ?_|refine za ?_)|refine n_al ?_|refine zq5 ?_|refine zr5 ?_|refine zs5 ?_|refine za ?_|refine n_mv ?_)|(apply f_w;first|refine zv ?_|refine zc ?_)|(apply d_wo;first|(apply d_gs;first|refine o_sk ?_|refine zm4 ?_)|(apply d_bo;(refine o_gm ?_ ?_<;>intro hG<;>(try cases hG)))|(apply d_mv;refine zi ?_)|(apply d_as;refine zi ?_)|(apply d_fa;first|refine o_fa ?_|refine zn3 ?_)|(apply d_ld;first|refine zo3 ?_|refine zk2 ?_|refine zl2 ?_|refine zp3 ?_|refine zi ?_|refine o_ld ?_)|(apply d_ca;first|refine zz4 0 (hn) ?_|refine zz4 0 (hn2) ?_|refine zi5 hl ?_|refine zz4 0 (ha) ?_|refine zz4 0 (hn3) ?_)|(apply d_st;first|refine o_st ?_|refine zf4 ?_)|(apply d_bb;first|refine zf1 ?_|refine zg1 ?_|refine zh1 ?_|refine zl3 ?_|refine zi ?_)|(apply d_cv;first|refine zs3 ?_|refine zt4 ?_|refine zn5 ?_|refine zo5 ?_|refine zi ?_)|refine o_al ?_|refine zk5 ?_|refine zl5 ?_|refine zm5 ?_|refine zi ?_|refine o_mv ?_)|(apply d_w;first|refine zv ?_|refine zc ?_)|refine zb fun C=>?_|refine zj (by kernel_rfl) (by kernel_rfl) fun C=>?_|refine zh ?_|refine zd ?_|refine zf ?_|refine zg ?_|refine zt rfl ?_|refine zp rfl ?_)
    refine zs4 (zs6 900 (i:=2) 208 3 rfl rfl (pre:=[_,_]) (post:=[]) rfl) ?_;refine zu ?_;refine ret1 rfl (zy3 (zi3 rfl (zi3 rfl (zk3 rfl rfl rfl (by first|exact zq _|exact zo _|exact bytC_clo _|(simp [cloL,clo,zq,zo,ze1,zd1,zr];done)|(simp [cloL,clo,opC,opL,zq,zo,ze1,zd1,zr];done)) zn2)))) rfl (by first|rfl|(simp [cloL,clo,zq,zo,ze1,zd1,zr];done)) rfl ⟨?_,?_⟩
    ·rfl
    ·rfl
 have hr:atomIc s alt c ⟨a+1,d,b⟩=(zeroR,⟨a+1,d,true⟩):=by
  unfold atomIc
  rw [if_neg (by rw [h1];simp),if_neg h2,if_neg h3,if_neg h4,if_neg h5,if_neg h6];rfl
 rw [hr]
 repeat' (first|(apply f_wo;first|(apply f_gs;refine n_sk ?_)|(apply f_mv;first|(refine zb2 ?_ ?_<;>intro hG<;>(try cases hG))|refine zj1 (v:=.c _) ?_|refine za ?_)|(apply f_as;first|refine zi1 (v:=.c _) ?_|refine za ?_)|(apply f_fa;first|refine n_fa ?_|refine zm1 ?_)|(apply f_ld;first|refine zq1 ?_|refine zx ?_|refine zw ?_|refine zo1 ?_|refine n_ld ?_)|(apply f_ca;first|refine za3 0 (hn) ?_|refine zz2 hl ?_|refine zx2 hl ?_)|(apply f_st;first|refine n_st ?_|refine zx1 ?_)|(apply ze2;first|refine zj2 ?_|refine za ?_)|(apply zm3;first|refine zi2 ?_|refine za ?_)|(apply zw1;first|refine zl ?_|refine za ?_)|(apply zu1;first|refine zk ?_|refine zt1 ?_|refine za ?_)|(apply f_pk;first|refine za2 (v:=.c _) ?_|refine za ?_)|(apply f_cv;first|refine zm8 ?_|refine zv4 ?_|refine zt5 ?_|refine zu5 ?_|refine za ?_)|refine n_al ?_|refine zq5 ?_|refine zr5 ?_|refine zs5 ?_|refine za ?_|refine n_mv ?_)|(apply f_w;first|refine zv ?_|refine zc ?_)|(apply d_wo;first|(apply d_gs;first|refine o_sk ?_|refine zm4 ?_)|(apply d_bo;(refine o_gm ?_ ?_<;>intro hG<;>(try cases hG)))|(apply d_mv;refine zi ?_)|(apply d_as;refine zi ?_)|(apply d_fa;first|refine o_fa ?_|refine zn3 ?_)|(apply d_ld;first|refine zo3 ?_|refine zk2 ?_|refine zl2 ?_|refine zp3 ?_|refine zi ?_|refine o_ld ?_)|(apply d_ca;first|refine zz4 0 (hn) ?_|refine zi5 hl ?_)|(apply d_st;first|refine o_st ?_|refine zf4 ?_)|(apply d_bb;first|refine zf1 ?_|refine zg1 ?_|refine zh1 ?_|refine zl3 ?_|refine zi ?_)|(apply d_cv;first|refine zs3 ?_|refine zt4 ?_|refine zn5 ?_|refine zo5 ?_|refine zi ?_)|refine o_al ?_|refine zk5 ?_|refine zl5 ?_|refine zm5 ?_|refine zi ?_|refine o_mv ?_)|(apply d_w;first|refine zv ?_|refine zc ?_)|refine zb fun C=>?_|refine zj (by kernel_rfl) (by kernel_rfl) fun C=>?_|refine zh ?_|refine zd ?_|refine zf ?_|refine zg ?_)
 iterate 5
  (first
    | refine zn (by rfl) (fun hC=>Bool.noConfusion (show false=true from hC)) fun hC=>?_
    | refine zn (by rfl) (fun hC=>absurd (eq_of_beq hC) (by omega)) fun hC=>?_
    | skip)<;>repeat' (first|(apply f_wo;first|(apply f_gs;refine n_sk ?_)|(apply f_mv;first|(refine zb2 ?_ ?_<;>intro hG<;>(try cases hG))|refine zj1 (v:=.c _) ?_|refine za ?_)|(apply f_as;first|refine zi1 (v:=.c _) ?_|refine za ?_)|(apply f_fa;first|refine n_fa ?_|refine zm1 ?_)|(apply f_ld;first|refine zq1 ?_|refine zx ?_|refine zw ?_|refine zo1 ?_|refine n_ld ?_)|(apply f_ca;first|refine za3 0 (hn) ?_|refine zz2 hl ?_|refine zx2 hl ?_)|(apply f_st;first|refine n_st ?_|refine zx1 ?_)|(apply ze2;first|refine zj2 ?_|refine za ?_)|(apply zm3;first|refine zi2 ?_|refine za ?_)|(apply zw1;first|refine zl ?_|refine za ?_)|(apply zu1;first|refine zk ?_|refine zt1 ?_|refine za ?_)|(apply f_pk;first|refine za2 (v:=.c _) ?_|refine za ?_)|(apply f_cv;first|refine zm8 ?_|refine zv4 ?_|refine zt5 ?_|refine zu5 ?_|refine za ?_)|refine n_al ?_|refine zq5 ?_|refine zr5 ?_|refine zs5 ?_|refine za ?_|refine n_mv ?_)|(apply f_w;first|refine zv ?_|refine zc ?_)|(apply d_wo;first|(apply d_gs;first|refine o_sk ?_|refine zm4 ?_)|(apply d_bo;(refine o_gm ?_ ?_<;>intro hG<;>(try cases hG)))|(apply d_mv;refine zi ?_)|(apply d_as;refine zi ?_)|(apply d_fa;first|refine o_fa ?_|refine zn3 ?_)|(apply d_ld;first|refine zo3 ?_|refine zk2 ?_|refine zl2 ?_|refine zp3 ?_|refine zi ?_|refine o_ld ?_)|(apply d_ca;first|refine zz4 0 (hn) ?_|refine zi5 hl ?_)|(apply d_st;first|refine o_st ?_|refine zf4 ?_)|(apply d_bb;first|refine zf1 ?_|refine zg1 ?_|refine zh1 ?_|refine zl3 ?_|refine zi ?_)|(apply d_cv;first|refine zs3 ?_|refine zt4 ?_|refine zn5 ?_|refine zo5 ?_|refine zi ?_)|refine o_al ?_|refine zk5 ?_|refine zl5 ?_|refine zm5 ?_|refine zi ?_|refine o_mv ?_)|(apply d_w;first|refine zv ?_|refine zc ?_)|refine zb fun C=>?_|refine zj (by kernel_rfl) (by kernel_rfl) fun C=>?_|refine zh ?_|refine zd ?_|refine zf ?_|refine zg ?_)
 ·exact absurd (eq_of_beq hG) (by omega)
 iterate 2
  (first
    | refine zn (by rfl) (fun hC=>Bool.noConfusion (show false=true from hC)) fun hC=>?_
    | refine zn (by rfl) (fun hC=>absurd (eq_of_beq hC) (by omega)) fun hC=>?_
    | skip)<;>repeat' (first|(apply f_wo;first|(apply f_gs;refine n_sk ?_)|(apply f_mv;first|(refine zb2 ?_ ?_<;>intro hG<;>(try cases hG))|refine zj1 (v:=.c _) ?_|refine za ?_)|(apply f_as;first|refine zi1 (v:=.c _) ?_|refine za ?_)|(apply f_fa;first|refine n_fa ?_|refine zm1 ?_)|(apply f_ld;first|refine zq1 ?_|refine zx ?_|refine zw ?_|refine zo1 ?_|refine n_ld ?_)|(apply f_ca;first|refine za3 0 (hn) ?_|refine zz2 hl ?_|refine zx2 hl ?_)|(apply f_st;first|refine n_st ?_|refine zx1 ?_)|(apply ze2;first|refine zj2 ?_|refine za ?_)|(apply zm3;first|refine zi2 ?_|refine za ?_)|(apply zw1;first|refine zl ?_|refine za ?_)|(apply zu1;first|refine zk ?_|refine zt1 ?_|refine za ?_)|(apply f_pk;first|refine za2 (v:=.c _) ?_|refine za ?_)|(apply f_cv;first|refine zm8 ?_|refine zv4 ?_|refine zt5 ?_|refine zu5 ?_|refine za ?_)|refine n_al ?_|refine zq5 ?_|refine zr5 ?_|refine zs5 ?_|refine za ?_|refine n_mv ?_)|(apply f_w;first|refine zv ?_|refine zc ?_)|(apply d_wo;first|(apply d_gs;first|refine o_sk ?_|refine zm4 ?_)|(apply d_bo;(refine o_gm ?_ ?_<;>intro hG<;>(try cases hG)))|(apply d_mv;refine zi ?_)|(apply d_as;refine zi ?_)|(apply d_fa;first|refine o_fa ?_|refine zn3 ?_)|(apply d_ld;first|refine zo3 ?_|refine zk2 ?_|refine zl2 ?_|refine zp3 ?_|refine zi ?_|refine o_ld ?_)|(apply d_ca;first|refine zz4 0 (hn) ?_|refine zi5 hl ?_)|(apply d_st;first|refine o_st ?_|refine zf4 ?_)|(apply d_bb;first|refine zf1 ?_|refine zg1 ?_|refine zh1 ?_|refine zl3 ?_|refine zi ?_)|(apply d_cv;first|refine zs3 ?_|refine zt4 ?_|refine zn5 ?_|refine zo5 ?_|refine zi ?_)|refine o_al ?_|refine zk5 ?_|refine zl5 ?_|refine zm5 ?_|refine zi ?_|refine o_mv ?_)|(apply d_w;first|refine zv ?_|refine zc ?_)|refine zb fun C=>?_|refine zj (by kernel_rfl) (by kernel_rfl) fun C=>?_|refine zh ?_|refine zd ?_|refine zf ?_|refine zg ?_)
 refine zs4 (zs6 900 (i:=2) 208 3 rfl rfl (pre:=[_,_]) (post:=[]) rfl) ?_;refine zu ?_;refine ret1 rfl (zy3 (zi3 rfl (zi3 rfl (zk3 rfl rfl rfl (by first|exact zq _|exact zo _|exact bytC_clo _|(simp [cloL,clo,zq,zo,ze1,zd1,zr];done)|(simp [cloL,clo,opC,opL,zq,zo,ze1,zd1,zr];done)) zn2)))) rfl (by first|rfl|(simp [cloL,clo,zq,zo,ze1,zd1,zr];done)) rfl ⟨?_,?_⟩
 ·rfl
 ·rfl
end Go.Proofs.YtghljnfbbaklnaaGreat
