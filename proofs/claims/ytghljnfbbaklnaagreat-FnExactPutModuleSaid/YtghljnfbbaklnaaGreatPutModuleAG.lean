/- The program's reader of regular expressions: items, rows of items, alternatives: by the abstract machine. -/
import Derived.Test.YtghljnfbbaklnaaGreatPutModuleAF
namespace Go.Proofs.YtghljnfbbaklnaaGreat
open Go.RowKit
set_option maxRecDepth 100000
theorem itemI_eq {s:ByteArray}{atom:PS→E×PS}{p:PS}{e:E}{a d:Nat}{b:Bool}(h:atom p=(e,⟨a,d,b⟩)):itemI s atom p =
 (if bAt s a=42 then (rexE 6 ByteArray.empty [e],⟨a+1,d,b⟩) else if bAt s a=43 then (rexE 7 ByteArray.empty [e],⟨a+1,d,b⟩) else if bAt s a=63 then (rexE 8 ByteArray.empty [e],⟨a+1,d,b⟩) else (e,⟨a,d,b⟩)):=by
 unfold itemI
 rw [h];rfl
set_option maxHeartbeats 4000000 in
theorem item_c {s:ByteArray}(hs:s.size≤1048576){atom:PS→E×PS}{p:PS}(hg:Good s p (atom p) 1 1 0)
 (ha:Ctr Tryz.prog 227 [.c (.pt 0 0)] [rdrI s p] (.ag (owE (atom p).1)) [rdrI s (atom p).2]) :
 Ctr Tryz.prog 215 [.c (.pt 0 0)] [rdrI s p] (.ag (owE (itemI s atom p).1)) [rdrI s (itemI s atom p).2]:=by
 obtain⟨⟨e,q⟩,hq⟩:∃r,atom p=r:=⟨_,rfl⟩
 rw [hq] at ha hg
 have hn3:=zv13 hs (p:=q)
 have hle:q.a≤s.size:=hg.le
 obtain⟨qa,qd,qb⟩:=q
 rw [itemI_eq hq]
 clear hq
 have hfi:Fine e:=hg.fine
 clear hg
 unfold rdrI at *
 dsimp only at ha hn3 hle ⊢
 cases hfi with
 | mk k t l hk ht hl2 =>
 generalize hv:bAt s qa=v at *
 refine zo2 Tryz.func215 rfl rfl ?_
 have hb3:(⟨5,1,3,false,[.v (.int .u8 42),.v (.int .u8 43),.v (.int .u8 63)]⟩:Row).cs.length=3:=rfl
 repeat' (first|(apply f_wo;first|(apply f_mv;first|refine zj1 (v:=.c _) ?_|refine za ?_)|(apply f_as;first|refine zi1 (v:=.c _) ?_|refine za ?_)|(apply f_fa;first|refine n_fa ?_|refine zm1 ?_)|(apply f_ld;first|refine zq1 ?_|refine zx ?_|refine zw ?_|refine zo1 ?_|refine n_ld ?_)|(apply f_ca;first|refine za3 0 (ha) ?_)|(apply f_bi;first|refine zb1 ?_|refine za1 ?_|refine zc1 ?_|refine za ?_)|(apply f_st;first|refine n_st ?_|refine zx1 ?_)|(apply f_ia;first|refine n_ix ?_|refine zz1 ?_|refine za ?_)|(apply ze2;first|refine zj2 ?_|refine za ?_)|(apply zw1;first|refine zl ?_|refine za ?_)|(apply zu1;first|refine zk ?_|refine zt1 ?_|refine za ?_)|(apply f_cv;refine za ?_)|refine n_al ?_|refine n_bs ?_|refine za ?_)|(apply f_w;first|refine zv ?_|refine zc ?_)|refine zb fun C=>?_|refine zh ?_|refine zd ?_|refine zf ?_|refine zg ?_)
 refine n_cvm ?_ (e:=5) (by kernel_rfl) (by kernel_rfl)
 repeat' (first|(apply f_wo;first|(apply f_mv;first|refine zj1 (v:=.c _) ?_|refine za ?_)|(apply f_as;first|refine zi1 (v:=.c _) ?_|refine za ?_)|(apply f_fa;first|refine n_fa ?_|refine zm1 ?_)|(apply f_ld;first|refine zq1 ?_|refine zx ?_|refine zw ?_|refine zo1 ?_|refine n_ld ?_)|(apply f_ca;first|refine za3 0 (ha) ?_)|(apply f_bi;first|refine zb1 ?_|refine za1 ?_|refine zc1 ?_|refine za ?_)|(apply f_st;first|refine n_st ?_|refine zx1 ?_)|(apply f_ia;first|refine n_ix ?_|refine zz1 ?_|refine za ?_)|(apply ze2;first|refine zj2 ?_|refine za ?_)|(apply zw1;first|refine zl ?_|refine za ?_)|(apply zu1;first|refine zk ?_|refine zt1 ?_|refine za ?_)|(apply f_cv;refine za ?_)|refine n_al ?_|refine n_bs ?_|refine za ?_)|(apply f_w;first|refine zv ?_|refine zc ?_)|refine zb fun C=>?_|refine zh ?_|refine zd ?_|refine zf ?_|refine zg ?_)
 refine ze3 (fun j:Nat=>⟨tmsF [(0,.c (.pt 0 0)),(2,.c (.pt 2 0)),(3,.c (.pt 3 0)),(9,.c (.ro 3 1 [.v (.int .u8 42),.v (.int .u8 43),.v (.int .u8 63)])),(10,.c (.v (.int .i64 3))),(11,.c (.v (.int .i64 j)))],hpsF [(0,0,⟨0,0,0,true,[.v (.string s),.v (.int .i64 qa),.v (.int .i64 qd),.v (.bool qb)]⟩),(2,2,⟨208,0,0,true,[.v (.int .i64 0),.v (.string ByteArray.empty),.v (.slice none 0 0)]⟩),(3,3,⟨208,0,0,true,[.v (.int .i64 k),.v (.string t),.sl 5 l.length]⟩),(5,5,⟨208,3,l.length,false,owL l⟩)],1,[0,2,3,5],34⟩)
  (fun N j=>j+N=3∧(1≤j→v≠42)∧(2≤j→v≠43)∧(3≤j→v≠63)) 3 0 ⟨by omega,by omega,by omega,by omega⟩ ?_ ?_
 ·(refine za6 (fun j=>if j=5 then 800 else j) _ _ rfl rfl ?_ ?_<;>(repeat' (first|exact TmOk.nil|exact RwOk.nil|refine TmOk.cons ?_ ?_|refine RwOk.cons ?_ ?_|rfl|(refine rnV_id' rfl ?_;exact byc)|(refine zv2 ?_;first|rfl|omega|(rw [zv1 (by omega) (by omega)];omega))|(refine zl1 rfl ?_;exact byc)|exact zz3 rfl rfl|(refine zw2 (by rfl) (by rfl) ?_ ?_<;>exact byc)|(refine rw_rn' rfl rfl ?_;simp;done))))
 rintro N j ⟨hN,hj1,hj2,hj3⟩
 obtain rfl|rfl|rfl|rfl:j=0∨j=1∨j=2∨j=3:=by omega
 ·by_cases hv0:v=42
  ·rw [if_pos hv0]
   subst hv0
   have hlt:qa<s.size:=zb5 (by rw [hv];decide)
   repeat' (first|(apply f_wo;first|(apply f_mv;first|refine zj1 (v:=.c _) ?_|refine za ?_)|(apply f_as;first|refine zi1 (v:=.c _) ?_|refine za ?_)|(apply f_fa;first|refine n_fa ?_|refine zm1 ?_)|(apply f_ld;first|refine zq1 ?_|refine zx ?_|refine zw ?_|refine zo1 ?_|refine n_ld ?_)|(apply f_ca;first|refine za3 0 (hn3) ?_)|(apply f_bi;first|refine zb1 ?_|refine za1 ?_|refine zc1 ?_|refine za ?_)|(apply f_st;first|refine n_st ?_|refine zx1 ?_)|(apply f_ia;first|refine n_ix ?_|refine zz1 ?_|refine za ?_)|(apply ze2;first|refine zj2 ?_|refine za ?_)|(apply zw1;first|refine zl ?_|refine za ?_)|(apply zu1;first|refine zk ?_|refine zt1 ?_|refine za ?_)|(apply f_cv;refine za ?_)|refine n_al ?_|refine n_bs ?_|refine za ?_)|(apply f_w;first|refine zv ?_|refine zc ?_)|refine zb fun C=>?_|refine zh ?_|refine zd ?_|refine zf ?_|refine zg ?_|refine zt rfl ?_|refine zp rfl ?_)
   refine zs4 (zx9 (i:=30) (j:=5) rfl rfl rfl (pre:=[_,_]) (post:=[]) rfl) ?_
   refine zu ?_;refine ret1 rfl (zy3 (zi3 rfl (zi3 rfl (zk3 rfl rfl rfl (by first|exact zq _|exact zo _|exact bytC_clo _|(simp [cloL,clo,zq,zo,ze1,zd1,zr];done)|(simp [cloL,clo,opC,opL,zq,zo,ze1,zd1,zr];done)) zn2)))) rfl (by first|rfl|(simp [cloL,clo,zq,zo,ze1,zd1,zr];done)) rfl ⟨?_,?_⟩
   ·rfl
   ·rfl
  ·repeat' (first|(apply f_wo;first|(apply f_mv;first|refine zj1 (v:=.c _) ?_|refine za ?_)|(apply f_as;first|refine zi1 (v:=.c _) ?_|refine za ?_)|(apply f_fa;first|refine n_fa ?_|refine zm1 ?_)|(apply f_ld;first|refine zq1 ?_|refine zx ?_|refine zw ?_|refine zo1 ?_|refine n_ld ?_)|(apply f_ca;first|refine za3 0 (hn3) ?_)|(apply f_bi;first|refine zb1 ?_|refine za1 ?_|refine zc1 ?_|refine za ?_)|(apply f_st;first|refine n_st ?_|refine zx1 ?_)|(apply f_ia;first|refine n_ix ?_|refine zz1 ?_|refine za ?_)|(apply ze2;first|refine zj2 ?_|refine za ?_)|(apply zw1;first|refine zl ?_|refine za ?_)|(apply zu1;first|refine zk ?_|refine zt1 ?_|refine za ?_)|(apply f_cv;refine za ?_)|refine n_al ?_|refine n_bs ?_|refine za ?_)|(apply f_w;first|refine zv ?_|refine zc ?_)|refine zb fun C=>?_|refine zh ?_|refine zd ?_|refine zf ?_|refine zg ?_|refine zt rfl ?_|refine zp rfl ?_)
   refine zn (by rfl) (fun hC=>absurd (eq_of_beq hC) (by omega)) fun hC=>?_
   repeat' (first|(apply f_wo;first|(apply f_mv;first|refine zj1 (v:=.c _) ?_|refine za ?_)|(apply f_as;first|refine zi1 (v:=.c _) ?_|refine za ?_)|(apply f_fa;first|refine n_fa ?_|refine zm1 ?_)|(apply f_ld;first|refine zq1 ?_|refine zx ?_|refine zw ?_|refine zo1 ?_|refine n_ld ?_)|(apply f_ca;first|refine za3 0 (hn3) ?_)|(apply f_bi;first|refine zb1 ?_|refine za1 ?_|refine zc1 ?_|refine za ?_)|(apply f_st;first|refine n_st ?_|refine zx1 ?_)|(apply f_ia;first|refine n_ix ?_|refine zz1 ?_|refine za ?_)|(apply ze2;first|refine zj2 ?_|refine za ?_)|(apply zw1;first|refine zl ?_|refine za ?_)|(apply zu1;first|refine zk ?_|refine zt1 ?_|refine za ?_)|(apply f_cv;refine za ?_)|refine n_al ?_|refine n_bs ?_|refine za ?_)|(apply f_w;first|refine zv ?_|refine zc ?_)|refine zb fun C=>?_|refine zh ?_|refine zd ?_|refine zf ?_|refine zg ?_|refine zt rfl ?_|refine zp rfl ?_)
   refine⟨N-1,1,by omega,⟨by omega,by omega,by omega,by omega⟩,?_⟩
   (refine zr2 _ _ rfl rfl ?_ ?_<;>(repeat' (first|exact TmOk.nil|exact RwOk.nil|refine TmOk.cons ?_ ?_|refine RwOk.cons ?_ ?_|rfl|(refine rnV_id' rfl ?_;exact byc)|(refine zv2 ?_;first|rfl|omega|(rw [zv1 (by omega) (by omega)];omega))|(refine zl1 rfl ?_;exact byc)|exact zz3 rfl rfl|(refine zw2 (by rfl) (by rfl) ?_ ?_<;>exact byc)|(refine rw_rn' rfl rfl ?_;simp;done))))
 ·by_cases hv1:v=43
  ·rw [if_neg (hj1 (by omega)),if_pos hv1]
   subst hv1
   have hlt:qa<s.size:=zb5 (by rw [hv];decide)
   repeat' (first|(apply f_wo;first|(apply f_mv;first|refine zj1 (v:=.c _) ?_|refine za ?_)|(apply f_as;first|refine zi1 (v:=.c _) ?_|refine za ?_)|(apply f_fa;first|refine n_fa ?_|refine zm1 ?_)|(apply f_ld;first|refine zq1 ?_|refine zx ?_|refine zw ?_|refine zo1 ?_|refine n_ld ?_)|(apply f_ca;first|refine za3 0 (hn3) ?_)|(apply f_bi;first|refine zb1 ?_|refine za1 ?_|refine zc1 ?_|refine za ?_)|(apply f_st;first|refine n_st ?_|refine zx1 ?_)|(apply f_ia;first|refine n_ix ?_|refine zz1 ?_|refine za ?_)|(apply ze2;first|refine zj2 ?_|refine za ?_)|(apply zw1;first|refine zl ?_|refine za ?_)|(apply zu1;first|refine zk ?_|refine zt1 ?_|refine za ?_)|(apply f_cv;refine za ?_)|refine n_al ?_|refine n_bs ?_|refine za ?_)|(apply f_w;first|refine zv ?_|refine zc ?_)|refine zb fun C=>?_|refine zh ?_|refine zd ?_|refine zf ?_|refine zg ?_|refine zt rfl ?_|refine zp rfl ?_)
   refine zs4 (zx9 (i:=30) (j:=5) rfl rfl rfl (pre:=[_,_]) (post:=[]) rfl) ?_
   refine zu ?_;refine ret1 rfl (zy3 (zi3 rfl (zi3 rfl (zk3 rfl rfl rfl (by first|exact zq _|exact zo _|exact bytC_clo _|(simp [cloL,clo,zq,zo,ze1,zd1,zr];done)|(simp [cloL,clo,opC,opL,zq,zo,ze1,zd1,zr];done)) zn2)))) rfl (by first|rfl|(simp [cloL,clo,zq,zo,ze1,zd1,zr];done)) rfl ⟨?_,?_⟩
   ·rfl
   ·rfl
  ·repeat' (first|(apply f_wo;first|(apply f_mv;first|refine zj1 (v:=.c _) ?_|refine za ?_)|(apply f_as;first|refine zi1 (v:=.c _) ?_|refine za ?_)|(apply f_fa;first|refine n_fa ?_|refine zm1 ?_)|(apply f_ld;first|refine zq1 ?_|refine zx ?_|refine zw ?_|refine zo1 ?_|refine n_ld ?_)|(apply f_ca;first|refine za3 0 (hn3) ?_)|(apply f_bi;first|refine zb1 ?_|refine za1 ?_|refine zc1 ?_|refine za ?_)|(apply f_st;first|refine n_st ?_|refine zx1 ?_)|(apply f_ia;first|refine n_ix ?_|refine zz1 ?_|refine za ?_)|(apply ze2;first|refine zj2 ?_|refine za ?_)|(apply zw1;first|refine zl ?_|refine za ?_)|(apply zu1;first|refine zk ?_|refine zt1 ?_|refine za ?_)|(apply f_cv;refine za ?_)|refine n_al ?_|refine n_bs ?_|refine za ?_)|(apply f_w;first|refine zv ?_|refine zc ?_)|refine zb fun C=>?_|refine zh ?_|refine zd ?_|refine zf ?_|refine zg ?_|refine zt rfl ?_|refine zp rfl ?_)
   refine zn (by rfl) (fun hC=>absurd (eq_of_beq hC) (by omega)) fun hC=>?_
   repeat' (first|(apply f_wo;first|(apply f_mv;first|refine zj1 (v:=.c _) ?_|refine za ?_)|(apply f_as;first|refine zi1 (v:=.c _) ?_|refine za ?_)|(apply f_fa;first|refine n_fa ?_|refine zm1 ?_)|(apply f_ld;first|refine zq1 ?_|refine zx ?_|refine zw ?_|refine zo1 ?_|refine n_ld ?_)|(apply f_ca;first|refine za3 0 (hn3) ?_)|(apply f_bi;first|refine zb1 ?_|refine za1 ?_|refine zc1 ?_|refine za ?_)|(apply f_st;first|refine n_st ?_|refine zx1 ?_)|(apply f_ia;first|refine n_ix ?_|refine zz1 ?_|refine za ?_)|(apply ze2;first|refine zj2 ?_|refine za ?_)|(apply zw1;first|refine zl ?_|refine za ?_)|(apply zu1;first|refine zk ?_|refine zt1 ?_|refine za ?_)|(apply f_cv;refine za ?_)|refine n_al ?_|refine n_bs ?_|refine za ?_)|(apply f_w;first|refine zv ?_|refine zc ?_)|refine zb fun C=>?_|refine zh ?_|refine zd ?_|refine zf ?_|refine zg ?_|refine zt rfl ?_|refine zp rfl ?_)
   refine⟨N-1,2,by omega,⟨by omega,by omega,by omega,by omega⟩,?_⟩
   (refine zr2 _ _ rfl rfl ?_ ?_<;>(repeat' (first|exact TmOk.nil|exact RwOk.nil|refine TmOk.cons ?_ ?_|refine RwOk.cons ?_ ?_|rfl|(refine rnV_id' rfl ?_;exact byc)|(refine zv2 ?_;first|rfl|omega|(rw [zv1 (by omega) (by omega)];omega))|(refine zl1 rfl ?_;exact byc)|exact zz3 rfl rfl|(refine zw2 (by rfl) (by rfl) ?_ ?_<;>exact byc)|(refine rw_rn' rfl rfl ?_;simp;done))))
 ·by_cases hv2:v=63
  ·rw [if_neg (hj1 (by omega)),if_neg (hj2 (by omega)),if_pos hv2]
   subst hv2
   have hlt:qa<s.size:=zb5 (by rw [hv];decide)
   repeat' (first|(apply f_wo;first|(apply f_mv;first|refine zj1 (v:=.c _) ?_|refine za ?_)|(apply f_as;first|refine zi1 (v:=.c _) ?_|refine za ?_)|(apply f_fa;first|refine n_fa ?_|refine zm1 ?_)|(apply f_ld;first|refine zq1 ?_|refine zx ?_|refine zw ?_|refine zo1 ?_|refine n_ld ?_)|(apply f_ca;first|refine za3 0 (hn3) ?_)|(apply f_bi;first|refine zb1 ?_|refine za1 ?_|refine zc1 ?_|refine za ?_)|(apply f_st;first|refine n_st ?_|refine zx1 ?_)|(apply f_ia;first|refine n_ix ?_|refine zz1 ?_|refine za ?_)|(apply ze2;first|refine zj2 ?_|refine za ?_)|(apply zw1;first|refine zl ?_|refine za ?_)|(apply zu1;first|refine zk ?_|refine zt1 ?_|refine za ?_)|(apply f_cv;refine za ?_)|refine n_al ?_|refine n_bs ?_|refine za ?_)|(apply f_w;first|refine zv ?_|refine zc ?_)|refine zb fun C=>?_|refine zh ?_|refine zd ?_|refine zf ?_|refine zg ?_|refine zt rfl ?_|refine zp rfl ?_)
   refine zs4 (zx9 (i:=30) (j:=5) rfl rfl rfl (pre:=[_,_]) (post:=[]) rfl) ?_
   refine zu ?_;refine ret1 rfl (zy3 (zi3 rfl (zi3 rfl (zk3 rfl rfl rfl (by first|exact zq _|exact zo _|exact bytC_clo _|(simp [cloL,clo,zq,zo,ze1,zd1,zr];done)|(simp [cloL,clo,opC,opL,zq,zo,ze1,zd1,zr];done)) zn2)))) rfl (by first|rfl|(simp [cloL,clo,zq,zo,ze1,zd1,zr];done)) rfl ⟨?_,?_⟩
   ·rfl
   ·rfl
  ·repeat' (first|(apply f_wo;first|(apply f_mv;first|refine zj1 (v:=.c _) ?_|refine za ?_)|(apply f_as;first|refine zi1 (v:=.c _) ?_|refine za ?_)|(apply f_fa;first|refine n_fa ?_|refine zm1 ?_)|(apply f_ld;first|refine zq1 ?_|refine zx ?_|refine zw ?_|refine zo1 ?_|refine n_ld ?_)|(apply f_ca;first|refine za3 0 (hn3) ?_)|(apply f_bi;first|refine zb1 ?_|refine za1 ?_|refine zc1 ?_|refine za ?_)|(apply f_st;first|refine n_st ?_|refine zx1 ?_)|(apply f_ia;first|refine n_ix ?_|refine zz1 ?_|refine za ?_)|(apply ze2;first|refine zj2 ?_|refine za ?_)|(apply zw1;first|refine zl ?_|refine za ?_)|(apply zu1;first|refine zk ?_|refine zt1 ?_|refine za ?_)|(apply f_cv;refine za ?_)|refine n_al ?_|refine n_bs ?_|refine za ?_)|(apply f_w;first|refine zv ?_|refine zc ?_)|refine zb fun C=>?_|refine zh ?_|refine zd ?_|refine zf ?_|refine zg ?_|refine zt rfl ?_|refine zp rfl ?_)
   refine zn (by rfl) (fun hC=>absurd (eq_of_beq hC) (by omega)) fun hC=>?_
   repeat' (first|(apply f_wo;first|(apply f_mv;first|refine zj1 (v:=.c _) ?_|refine za ?_)|(apply f_as;first|refine zi1 (v:=.c _) ?_|refine za ?_)|(apply f_fa;first|refine n_fa ?_|refine zm1 ?_)|(apply f_ld;first|refine zq1 ?_|refine zx ?_|refine zw ?_|refine zo1 ?_|refine n_ld ?_)|(apply f_ca;first|refine za3 0 (hn3) ?_)|(apply f_bi;first|refine zb1 ?_|refine za1 ?_|refine zc1 ?_|refine za ?_)|(apply f_st;first|refine n_st ?_|refine zx1 ?_)|(apply f_ia;first|refine n_ix ?_|refine zz1 ?_|refine za ?_)|(apply ze2;first|refine zj2 ?_|refine za ?_)|(apply zw1;first|refine zl ?_|refine za ?_)|(apply zu1;first|refine zk ?_|refine zt1 ?_|refine za ?_)|(apply f_cv;refine za ?_)|refine n_al ?_|refine n_bs ?_|refine za ?_)|(apply f_w;first|refine zv ?_|refine zc ?_)|refine zb fun C=>?_|refine zh ?_|refine zd ?_|refine zf ?_|refine zg ?_|refine zt rfl ?_|refine zp rfl ?_)
   refine⟨N-1,3,by omega,⟨by omega,by omega,by omega,by omega⟩,?_⟩
   (refine zr2 _ _ rfl rfl ?_ ?_<;>(repeat' (first|exact TmOk.nil|exact RwOk.nil|refine TmOk.cons ?_ ?_|refine RwOk.cons ?_ ?_|rfl|(refine rnV_id' rfl ?_;exact byc)|(refine zv2 ?_;first|rfl|omega|(rw [zv1 (by omega) (by omega)];omega))|(refine zl1 rfl ?_;exact byc)|exact zz3 rfl rfl|(refine zw2 (by rfl) (by rfl) ?_ ?_<;>exact byc)|(refine rw_rn' rfl rfl ?_;simp;done))))
 ·rw [if_neg (hj1 (by omega)),if_neg (hj2 (by omega)),if_neg (hj3 (by omega))]
  repeat' (first|(apply f_wo;first|(apply f_mv;first|refine zj1 (v:=.c _) ?_|refine za ?_)|(apply f_as;first|refine zi1 (v:=.c _) ?_|refine za ?_)|(apply f_fa;first|refine n_fa ?_|refine zm1 ?_)|(apply f_ld;first|refine zq1 ?_|refine zx ?_|refine zw ?_|refine zo1 ?_|refine n_ld ?_)|(apply f_ca;first|refine za3 0 (hn3) ?_)|(apply f_bi;first|refine zb1 ?_|refine za1 ?_|refine zc1 ?_|refine za ?_)|(apply f_st;first|refine n_st ?_|refine zx1 ?_)|(apply f_ia;first|refine n_ix ?_|refine zz1 ?_|refine za ?_)|(apply ze2;first|refine zj2 ?_|refine za ?_)|(apply zw1;first|refine zl ?_|refine za ?_)|(apply zu1;first|refine zk ?_|refine zt1 ?_|refine za ?_)|(apply f_cv;refine za ?_)|refine n_al ?_|refine n_bs ?_|refine za ?_)|(apply f_w;first|refine zv ?_|refine zc ?_)|refine zb fun C=>?_|refine zh ?_|refine zd ?_|refine zf ?_|refine zg ?_|refine zt rfl ?_|refine zp rfl ?_)
  refine zu ?_;refine ret1 rfl (zy3 (zi3 rfl (zi3 rfl (zk3 rfl rfl rfl (by first|exact zq _|exact zo _|exact bytC_clo _|(simp [cloL,clo,zq,zo,ze1,zd1,zr];done)|(simp [cloL,clo,opC,opL,zq,zo,ze1,zd1,zr];done)) zn2)))) rfl (by first|rfl|(simp [cloL,clo,zq,zo,ze1,zd1,zr];done)) rfl ⟨?_,?_⟩
  ·rfl
  ·rfl
end Go.Proofs.YtghljnfbbaklnaaGreat
