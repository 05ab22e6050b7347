/- PutModule of the reference: the walk. -/
import Derived.Test.YtghljnfbbaklnaaGreatPutModuleAR
namespace Go.Proofs.YtghljnfbbaklnaaGreat
open Go.RowKit
set_option maxRecDepth 100000
set_option maxHeartbeats 8000000 in
theorem zu12 {e:E}(he:e.Ty Tryz.prog 33)(hsz:e.sz≤1048576)(hok:modOkE e=true):Ctr Tryz.prog 7 [.ag (acE e)] [] (.c (.ow 5 (pmE e).length 1 (bytC (pmE e)))) []:=by
 have cm:=zk8 he hsz
 rw [hok] at cm
 unfold pmE
 rw [if_pos hok]
 obtain⟨x0A,x0c,l0,x1A,x1c,l1,x2,x3,x4A,x4c,l4,rfl,⟨a0,ka0⟩,⟨a1,ka1⟩,-,-,⟨a4,ka4⟩,-⟩:=zg3 he
 obtain⟨n0,n1,b2,b3,b4,v0,v1,v4⟩:=zj10 hok
 show Ctr _ _ _ _ (.c (.ow _ (pmL l0 l1 x2 x3 l4).length 1 (bytC (pmL l0 l1 x2 x3 l4)))) _
 unfold pmL
 have q97:=zr3 97
 have qn0:=zr3 (l0.length:Int)
 have qn1:=zr3 (l1.length:Int)
 have qx2:=zr3 x2
 have qx3:=zr3 x3
 have qn4:=zr3 (l4.length:Int)
 -- the bytes,step by step
 obtain⟨A,A0,As,Al,Ab⟩:=zh17 putVE (putU 97++putU (l0.length:Int)) l0 212 fun x hx=>zf15 (v0 x hx)
 obtain⟨B,B0,Bs,Bl,Bb⟩:=zh17 putTE (A l0.length++putU (l1.length:Int)) l1 206 fun x hx=>(zs9 (v1 x hx)).1
 obtain⟨D,D0,Ds,Dl,Db⟩:=zh17 putFE (((B l1.length++putU x2)++putU x3)++putU (l4.length:Int)) l4 36012 fun x hx=>by
  obtain⟨k,hk⟩:=List.mem_iff_getElem?.1 hx
  exact zr12 (a4 x hx) (zf8 v4 hk)
 rw [←Al,←Bl,←Dl]
 have c1:=zg5 (bs:=[]) 97 (by decide)
 rw [List.nil_append] at c1
 have c2:=zg5 (bs:=putU 97) (l0.length:Int) (by omega)
 rw [←A0] at c2
 simp only [List.length_append] at Ab Bb Db
 have Ab':=Ab l0.length
 have c3:=zg5 (bs:=A l0.length) (l1.length:Int) (by omega)
 rw [←B0] at c3
 have Bb':=Bb l1.length
 have c4:=zg5 (bs:=B l1.length) x2 (by omega)
 have c5:=zg5 (bs:=B l1.length++putU x2) x3 (by rw [List.length_append];omega)
 have c6:=zg5 (bs:=(B l1.length++putU x2)++putU x3) (l4.length:Int) (by simp only [List.length_append];omega)
 rw [←D0] at c6
 have hAb:∀k,(A k).length≤1000000:=fun k=>by have:=Ab k;omega
 have hBb:∀k,(B k).length≤1000000:=fun k=>by have:=Bb k;omega
 have hDb:∀k,(D k).length≤1000000:=fun k=>by have:=Db k;omega
 clear Ab Bb Db Ab' Bb' A0 B0 D0 Al Bl Dl q97 qn0 qn1
 have hwr:∀z:Int,0≤z→z≤1000000→IntKind.i64.wrap z=z:=fun z h0 h1=>by rw [IntKind.wrap_i64];omega
 refine zo2 Tryz.func7 rfl rfl ?_
 repeat' (first|(apply f_wo;first|(apply f_mv;first|refine zj1 (v:=.c _) ?_|refine za ?_)|(apply f_as;first|refine zi1 (v:=.c _) ?_|refine za ?_)|(apply f_fa;first|refine n_fa ?_|refine zm1 ?_)|(apply f_ld;first|refine zq1 ?_|refine zx ?_|refine zw ?_|refine zo1 ?_|refine n_ld ?_)|(apply f_ca;first|refine zz2 cm ?_|refine zx2 cm ?_|refine zj4 c1 ?_|refine zk4 c1 ?_|refine zj4 c2 ?_|refine zk4 c2 ?_)|(apply f_bi;first|refine zb1 ?_|refine za1 ?_|refine zc1 ?_|refine za ?_)|(apply f_ia;first|refine n_ix ?_|refine zz1 ?_|refine za ?_)|(apply zw1;first|refine zl ?_|refine za ?_)|(apply zu1;first|refine zk ?_|refine zt1 ?_|refine za ?_)|(apply f_no;first|refine zh2 ?_|refine za ?_)|refine n_bo ?_|refine n_bs ?_|refine za ?_)|(apply f_w;first|refine zv ?_|refine zc ?_)|(apply d_wo;first|(apply d_mv;refine zi ?_)|(apply d_as;refine zi ?_)|(apply d_fa;first|refine o_fa ?_|refine zn3 ?_)|(apply d_ld;first|refine zo3 ?_|refine zk2 ?_|refine zl2 ?_|refine zp3 ?_|refine zi ?_|refine o_ld ?_)|(apply d_ca;first|refine zi5 cm ?_|refine zp5 c1 ?_|refine zp5 c2 ?_)|(apply d_bi;first|refine zt2 ?_|refine zs2 ?_|refine zu2 ?_|refine zd2 ?_|refine zd2 (hnu:=ze _) ?_|refine zn1 ?_|refine zn1 (hnu:=ze _) ?_|refine zi ?_)|(apply d_ia;first|refine o_ix ?_|refine zx4 ?_|refine zi ?_)|(apply d_bb;first|refine zf1 ?_|refine zg1 ?_|refine zh1 ?_|refine zl3 ?_|refine zi ?_)|refine o_bo ?_|refine o_bs ?_|refine zi ?_)|(apply d_w;first|refine zv ?_|refine zc ?_)|refine zb fun C=>?_|refine zj (by kernel_rfl) (by kernel_rfl) fun C=>?_|refine zh ?_|refine zd ?_|refine zf ?_|refine zg ?_|refine zt rfl ?_|refine zp rfl ?_)
 refine ze3 (fun k:Nat=>⟨tmsF [(1,.c (.pt 1 0)),(3,.c (.sl 1800 (A k).length)),(4,.c (.v (.int .i64 k)))],hpsF [(1,1,⟨33,0,0,true,[.ro l0.length 3 (acL l0),.ro l1.length 1 (acL l1),.v (.int .i64 x2),.v (.int .i64 x3),.ro l4.length 2 (acL l4)]⟩),(1800,1800,⟨5,1,(A k).length,false,bytC (A k)⟩)],0,[1,1800],108⟩)
  (fun N k=>k+N=l0.length) l0.length 0 (by omega) ?_ ?_
 ·(refine zr2 _ _ rfl rfl ?_ ?_<;>(repeat' (first|exact TmOk.nil|exact RwOk.nil|refine TmOk.cons ?_ ?_|refine RwOk.cons ?_ ?_|rfl|exact zl1 rfl (by assumption)|exact zl1 rfl (zq2 _)|(refine rnV_id' rfl ?_;exact byc)|(refine zv2 ?_;first|rfl|omega|(rw [zv1 (by omega) (by omega)];omega))|(refine zl1 rfl ?_;exact byc)|exact zz3 rfl rfl|(refine zw2 (by rfl) (by rfl) ?_ ?_<;>exact byc)|(refine rw_rn' rfl rfl ?_;simp;done))))
 ·rintro N k hN
  try dsimp only
  repeat' (first|(apply f_wo;first|(apply f_mv;first|refine zj1 (v:=.c _) ?_|refine za ?_)|(apply f_as;first|refine zi1 (v:=.c _) ?_|refine za ?_)|(apply f_fa;first|refine n_fa ?_|refine zm1 ?_)|(apply f_ld;first|refine zq1 ?_|refine zx ?_|refine zw ?_|refine zo1 ?_|refine n_ld ?_)|(apply f_bi;first|refine zb1 ?_|refine za1 ?_|refine zc1 ?_|refine za ?_)|(apply f_ia;first|refine n_ix ?_|refine zz1 ?_|refine za ?_)|(apply zw1;first|refine zl ?_|refine za ?_)|(apply zu1;first|refine zk ?_|refine zt1 ?_|refine za ?_)|(apply f_no;first|refine zh2 ?_|refine za ?_)|refine n_bo ?_|refine n_bs ?_|refine za ?_)|(apply f_w;first|refine zv ?_|refine zc ?_)|(apply d_wo;first|(apply d_mv;refine zi ?_)|(apply d_as;refine zi ?_)|(apply d_fa;first|refine o_fa ?_|refine zn3 ?_)|(apply d_ld;first|refine zo3 ?_|refine zk2 ?_|refine zl2 ?_|refine zp3 ?_|refine zi ?_|refine o_ld ?_)|(apply d_bi;first|refine zt2 ?_|refine zs2 ?_|refine zu2 ?_|refine zd2 ?_|refine zd2 (hnu:=ze _) ?_|refine zn1 ?_|refine zn1 (hnu:=ze _) ?_|refine zi ?_)|(apply d_ia;first|refine o_ix ?_|refine zx4 ?_|refine zi ?_)|(apply d_bb;first|refine zf1 ?_|refine zg1 ?_|refine zh1 ?_|refine zl3 ?_|refine zi ?_)|refine o_bo ?_|refine o_bs ?_|refine zi ?_)|(apply d_w;first|refine zv ?_|refine zc ?_)|refine zb fun C=>?_|refine zj (by kernel_rfl) (by kernel_rfl) fun C=>?_|refine zh ?_|refine zd ?_|refine zf ?_|refine zg ?_)
  refine zn (by rfl) (fun hk1=>?_) fun hk1=>?_
  ·have hk':k<l0.length:=by simpa using hk1
   obtain⟨x,hx⟩:∃x,l0[k]? = some x:=⟨_,List.getElem?_eq_getElem hk'⟩
   have hxm:=List.mem_of_getElem? hx
   have hxz:=v0 x hxm
   have hAs:=As k x hx
   obtain⟨vk,vn,vs,rfl,-,gn,gs,-⟩:=zu3 (a0 x hxm)
   have hz2:vs.size≤200:=ze15 hxz
   have c7:=zn16 (bs:=A k) (k:=vk) (n:=vn) (s:=vs) (zz7 gn) (by have:=hAb k;omega) (by omega)
   rw [show putV vk vn vs=putVE (.agg [.int .i64 vk,.int .i64 vn,.str vs]) from rfl,hAs] at c7
   repeat' (first|(apply f_wo;first|(apply f_mv;first|refine zj1 (v:=.c _) ?_|refine za ?_)|(apply f_as;first|refine zi1 (v:=.c _) ?_|refine za ?_)|(apply f_fa;first|refine n_fa ?_|refine zm1 ?_)|(apply f_ld;first|refine zq1 ?_|refine zx ?_|refine zw ?_|refine zo1 ?_|refine n_ld ?_)|(apply f_ca;first|refine zj4 c7 ?_|refine zk4 c7 ?_)|(apply f_bi;first|refine zb1 ?_|refine za1 ?_|refine zc1 ?_|refine za ?_)|(apply f_ia;first|refine n_ix ?_|refine zz1 ?_|refine za ?_)|(apply zw1;first|refine zl ?_|refine za ?_)|(apply zu1;first|refine zk ?_|refine zt1 ?_|refine za ?_)|(apply f_no;first|refine zh2 ?_|refine za ?_)|refine n_bo ?_|refine n_bs ?_|refine za ?_)|(apply f_w;first|refine zv ?_|refine zc ?_)|(apply d_wo;first|(apply d_mv;refine zi ?_)|(apply d_as;refine zi ?_)|(apply d_fa;first|refine o_fa ?_|refine zn3 ?_)|(apply d_ld;first|refine zo3 ?_|refine zk2 ?_|refine zl2 ?_|refine zp3 ?_|refine zi ?_|refine o_ld ?_)|(apply d_ca;first|refine zp5 c7 ?_)|(apply d_bi;first|refine zt2 ?_|refine zs2 ?_|refine zu2 ?_|refine zd2 ?_|refine zd2 (hnu:=ze _) ?_|refine zn1 ?_|refine zn1 (hnu:=ze _) ?_|refine zi ?_)|(apply d_ia;first|refine o_ix ?_|refine zx4 ?_|refine zi ?_)|(apply d_bb;first|refine zf1 ?_|refine zg1 ?_|refine zh1 ?_|refine zl3 ?_|refine zi ?_)|refine o_bo ?_|refine o_bs ?_|refine zi ?_)|(apply d_w;first|refine zv ?_|refine zc ?_)|refine zb fun C=>?_|refine zj (by kernel_rfl) (by kernel_rfl) fun C=>?_|refine zh ?_|refine zd ?_|refine zf ?_|refine zg ?_)
   refine⟨N-1,k+1,by omega,by omega,?_⟩
   (refine za6 (fun j=>if j=1800 then 3200 else j) _ _ rfl rfl ?_ ?_<;>(repeat' (first|exact TmOk.nil|exact RwOk.nil|refine TmOk.cons ?_ ?_|refine RwOk.cons ?_ ?_|rfl|exact zl1 rfl (by assumption)|exact zl1 rfl (zq2 _)|(refine rnV_id' rfl ?_;exact byc)|(refine zv2 ?_;first|rfl|omega|(rw [zv1 (by omega) (by omega)];omega))|(refine zl1 rfl ?_;exact byc)|exact zz3 rfl rfl|(refine zw2 (by rfl) (by rfl) ?_ ?_<;>exact byc)|(refine rw_rn' rfl rfl ?_;simp;done))))
  ·obtain rfl:k=l0.length:=by have:¬k<l0.length:=by simpa using hk1
                              omega
   repeat' (first|(apply f_wo;first|(apply f_mv;first|refine zj1 (v:=.c _) ?_|refine za ?_)|(apply f_as;first|refine zi1 (v:=.c _) ?_|refine za ?_)|(apply f_fa;first|refine n_fa ?_|refine zm1 ?_)|(apply f_ld;first|refine zq1 ?_|refine zx ?_|refine zw ?_|refine zo1 ?_|refine n_ld ?_)|(apply f_ca;first|refine zj4 c3 ?_|refine zk4 c3 ?_)|(apply f_bi;first|refine zb1 ?_|refine za1 ?_|refine zc1 ?_|refine za ?_)|(apply f_ia;first|refine n_ix ?_|refine zz1 ?_|refine za ?_)|(apply zw1;first|refine zl ?_|refine za ?_)|(apply zu1;first|refine zk ?_|refine zt1 ?_|refine za ?_)|(apply f_no;first|refine zh2 ?_|refine za ?_)|refine n_bo ?_|refine n_bs ?_|refine za ?_)|(apply f_w;first|refine zv ?_|refine zc ?_)|(apply d_wo;first|(apply d_mv;refine zi ?_)|(apply d_as;refine zi ?_)|(apply d_fa;first|refine o_fa ?_|refine zn3 ?_)|(apply d_ld;first|refine zo3 ?_|refine zk2 ?_|refine zl2 ?_|refine zp3 ?_|refine zi ?_|refine o_ld ?_)|(apply d_ca;first|refine zp5 c3 ?_)|(apply d_bi;first|refine zt2 ?_|refine zs2 ?_|refine zu2 ?_|refine zd2 ?_|refine zd2 (hnu:=ze _) ?_|refine zn1 ?_|refine zn1 (hnu:=ze _) ?_|refine zi ?_)|(apply d_ia;first|refine o_ix ?_|refine zx4 ?_|refine zi ?_)|(apply d_bb;first|refine zf1 ?_|refine zg1 ?_|refine zh1 ?_|refine zl3 ?_|refine zi ?_)|refine o_bo ?_|refine o_bs ?_|refine zi ?_)|(apply d_w;first|refine zv ?_|refine zc ?_)|refine zb fun C=>?_|refine zj (by kernel_rfl) (by kernel_rfl) fun C=>?_|refine zh ?_|refine zd ?_|refine zf ?_|refine zg ?_|refine zt rfl ?_|refine zp rfl ?_)
   refine ze3 (fun k:Nat=>⟨tmsF [(1,.c (.pt 1 0)),(3,.c (.sl 3700 (B k).length)),(5,.c (.v (.int .i64 k)))],hpsF [(1,1,⟨33,0,0,true,[.ro l0.length 3 (acL l0),.ro l1.length 1 (acL l1),.v (.int .i64 x2),.v (.int .i64 x3),.ro l4.length 2 (acL l4)]⟩),(3700,3700,⟨5,1,(B k).length,false,bytC (B k)⟩)],0,[1,3700],108⟩)
    (fun N k=>k+N=l1.length) l1.length 0 (by omega) ?_ ?_
   ·(refine zr2 _ _ rfl rfl ?_ ?_<;>(repeat' (first|exact TmOk.nil|exact RwOk.nil|refine TmOk.cons ?_ ?_|refine RwOk.cons ?_ ?_|rfl|exact zl1 rfl (by assumption)|exact zl1 rfl (zq2 _)|(refine rnV_id' rfl ?_;exact byc)|(refine zv2 ?_;first|rfl|omega|(rw [zv1 (by omega) (by omega)];omega))|(refine zl1 rfl ?_;exact byc)|exact zz3 rfl rfl|(refine zw2 (by rfl) (by rfl) ?_ ?_<;>exact byc)|(refine rw_rn' rfl rfl ?_;simp;done))))
   ·rintro N k hN
    try dsimp only
    repeat' (first|(apply f_wo;first|(apply f_mv;first|refine zj1 (v:=.c _) ?_|refine za ?_)|(apply f_as;first|refine zi1 (v:=.c _) ?_|refine za ?_)|(apply f_fa;first|refine n_fa ?_|refine zm1 ?_)|(apply f_ld;first|refine zq1 ?_|refine zx ?_|refine zw ?_|refine zo1 ?_|refine n_ld ?_)|(apply f_bi;first|refine zb1 ?_|refine za1 ?_|refine zc1 ?_|refine za ?_)|(apply f_ia;first|refine n_ix ?_|refine zz1 ?_|refine za ?_)|(apply zw1;first|refine zl ?_|refine za ?_)|(apply zu1;first|refine zk ?_|refine zt1 ?_|refine za ?_)|(apply f_no;first|refine zh2 ?_|refine za ?_)|refine n_bo ?_|refine n_bs ?_|refine za ?_)|(apply f_w;first|refine zv ?_|refine zc ?_)|(apply d_wo;first|(apply d_mv;refine zi ?_)|(apply d_as;refine zi ?_)|(apply d_fa;first|refine o_fa ?_|refine zn3 ?_)|(apply d_ld;first|refine zo3 ?_|refine zk2 ?_|refine zl2 ?_|refine zp3 ?_|refine zi ?_|refine o_ld ?_)|(apply d_bi;first|refine zt2 ?_|refine zs2 ?_|refine zu2 ?_|refine zd2 ?_|refine zd2 (hnu:=ze _) ?_|refine zn1 ?_|refine zn1 (hnu:=ze _) ?_|refine zi ?_)|(apply d_ia;first|refine o_ix ?_|refine zx4 ?_|refine zi ?_)|(apply d_bb;first|refine zf1 ?_|refine zg1 ?_|refine zh1 ?_|refine zl3 ?_|refine zi ?_)|refine o_bo ?_|refine o_bs ?_|refine zi ?_)|(apply d_w;first|refine zv ?_|refine zc ?_)|refine zb fun C=>?_|refine zj (by kernel_rfl) (by kernel_rfl) fun C=>?_|refine zh ?_|refine zd ?_|refine zf ?_|refine zg ?_)
    refine zn (by rfl) (fun hk1=>?_) fun hk1=>?_
    ·have hk':k<l1.length:=by simpa using hk1
     obtain⟨x,hx⟩:∃x,l1[k]? = some x:=⟨_,List.getElem?_eq_getElem hk'⟩
     have hxm:=List.mem_of_getElem? hx
     have hxz:=(zs9 (v1 x hxm)).2
     have hBs:=Bs k x hx
     obtain⟨s,rfl,-⟩:=(a1 x hxm).str_ Tryz.underlying9
     have c7:=zh9 (bs:=B k) s (by have:=hBb k;omega) (by simp only [strB] at hxz;omega)
     rw [show putT s=putTE (.str s) from rfl,hBs] at c7
     repeat' (first|(apply f_wo;first|(apply f_mv;first|refine zj1 (v:=.c _) ?_|refine za ?_)|(apply f_as;first|refine zi1 (v:=.c _) ?_|refine za ?_)|(apply f_fa;first|refine n_fa ?_|refine zm1 ?_)|(apply f_ld;first|refine zq1 ?_|refine zx ?_|refine zw ?_|refine zo1 ?_|refine n_ld ?_)|(apply f_ca;first|refine zj4 c7 ?_|refine zk4 c7 ?_)|(apply f_bi;first|refine zb1 ?_|refine za1 ?_|refine zc1 ?_|refine za ?_)|(apply f_ia;first|refine n_ix ?_|refine zz1 ?_|refine za ?_)|(apply zw1;first|refine zl ?_|refine za ?_)|(apply zu1;first|refine zk ?_|refine zt1 ?_|refine za ?_)|(apply f_no;first|refine zh2 ?_|refine za ?_)|refine n_bo ?_|refine n_bs ?_|refine za ?_)|(apply f_w;first|refine zv ?_|refine zc ?_)|(apply d_wo;first|(apply d_mv;refine zi ?_)|(apply d_as;refine zi ?_)|(apply d_fa;first|refine o_fa ?_|refine zn3 ?_)|(apply d_ld;first|refine zo3 ?_|refine zk2 ?_|refine zl2 ?_|refine zp3 ?_|refine zi ?_|refine o_ld ?_)|(apply d_ca;first|refine zp5 c7 ?_)|(apply d_bi;first|refine zt2 ?_|refine zs2 ?_|refine zu2 ?_|refine zd2 ?_|refine zd2 (hnu:=ze _) ?_|refine zn1 ?_|refine zn1 (hnu:=ze _) ?_|refine zi ?_)|(apply d_ia;first|refine o_ix ?_|refine zx4 ?_|refine zi ?_)|(apply d_bb;first|refine zf1 ?_|refine zg1 ?_|refine zh1 ?_|refine zl3 ?_|refine zi ?_)|refine o_bo ?_|refine o_bs ?_|refine zi ?_)|(apply d_w;first|refine zv ?_|refine zc ?_)|refine zb fun C=>?_|refine zj (by kernel_rfl) (by kernel_rfl) fun C=>?_|refine zh ?_|refine zd ?_|refine zf ?_|refine zg ?_)
     refine⟨N-1,k+1,by omega,by omega,?_⟩
     (refine za6 (fun j=>if j=3700 then 5100 else j) _ _ rfl rfl ?_ ?_<;>(repeat' (first|exact TmOk.nil|exact RwOk.nil|refine TmOk.cons ?_ ?_|refine RwOk.cons ?_ ?_|rfl|exact zl1 rfl (by assumption)|exact zl1 rfl (zq2 _)|(refine rnV_id' rfl ?_;exact byc)|(refine zv2 ?_;first|rfl|omega|(rw [zv1 (by omega) (by omega)];omega))|(refine zl1 rfl ?_;exact byc)|exact zz3 rfl rfl|(refine zw2 (by rfl) (by rfl) ?_ ?_<;>exact byc)|(refine rw_rn' rfl rfl ?_;simp;done))))
    ·obtain rfl:k=l1.length:=by have:¬k<l1.length:=by simpa using hk1
                                omega
     repeat' (first|(apply f_wo;first|(apply f_mv;first|refine zj1 (v:=.c _) ?_|refine za ?_)|(apply f_as;first|refine zi1 (v:=.c _) ?_|refine za ?_)|(apply f_fa;first|refine n_fa ?_|refine zm1 ?_)|(apply f_ld;first|refine zq1 ?_|refine zx ?_|refine zw ?_|refine zo1 ?_|refine n_ld ?_)|(apply f_ca;first|refine zj4 c4 ?_|refine zk4 c4 ?_|refine zj4 c5 ?_|refine zk4 c5 ?_|refine zj4 c6 ?_|refine zk4 c6 ?_)|(apply f_bi;first|refine zb1 ?_|refine za1 ?_|refine zc1 ?_|refine za ?_)|(apply f_ia;first|refine n_ix ?_|refine zz1 ?_|refine za ?_)|(apply zw1;first|refine zl ?_|refine za ?_)|(apply zu1;first|refine zk ?_|refine zt1 ?_|refine za ?_)|(apply f_no;first|refine zh2 ?_|refine za ?_)|refine n_bo ?_|refine n_bs ?_|refine za ?_)|(apply f_w;first|refine zv ?_|refine zc ?_)|(apply d_wo;first|(apply d_mv;refine zi ?_)|(apply d_as;refine zi ?_)|(apply d_fa;first|refine o_fa ?_|refine zn3 ?_)|(apply d_ld;first|refine zo3 ?_|refine zk2 ?_|refine zl2 ?_|refine zp3 ?_|refine zi ?_|refine o_ld ?_)|(apply d_ca;first|refine zp5 c4 ?_|refine zp5 c5 ?_|refine zp5 c6 ?_)|(apply d_bi;first|refine zt2 ?_|refine zs2 ?_|refine zu2 ?_|refine zd2 ?_|refine zd2 (hnu:=ze _) ?_|refine zn1 ?_|refine zn1 (hnu:=ze _) ?_|refine zi ?_)|(apply d_ia;first|refine o_ix ?_|refine zx4 ?_|refine zi ?_)|(apply d_bb;first|refine zf1 ?_|refine zg1 ?_|refine zh1 ?_|refine zl3 ?_|refine zi ?_)|refine o_bo ?_|refine o_bs ?_|refine zi ?_)|(apply d_w;first|refine zv ?_|refine zc ?_)|refine zb fun C=>?_|refine zj (by kernel_rfl) (by kernel_rfl) fun C=>?_|refine zh ?_|refine zd ?_|refine zf ?_|refine zg ?_|refine zt rfl ?_|refine zp rfl ?_)
     refine ze3 (fun k:Nat=>⟨tmsF [(1,.c (.pt 1 0)),(3,.c (.sl 6200 (D k).length)),(6,.c (.v (.int .i64 k)))],hpsF [(1,1,⟨33,0,0,true,[.ro l0.length 3 (acL l0),.ro l1.length 1 (acL l1),.v (.int .i64 x2),.v (.int .i64 x3),.ro l4.length 2 (acL l4)]⟩),(6200,6200,⟨5,1,(D k).length,false,bytC (D k)⟩)],0,[1,6200],108⟩)
      (fun N k=>k+N=l4.length) l4.length 0 (by omega) ?_ ?_
     ·(refine zr2 _ _ rfl rfl ?_ ?_<;>(repeat' (first|exact TmOk.nil|exact RwOk.nil|refine TmOk.cons ?_ ?_|refine RwOk.cons ?_ ?_|rfl|exact zl1 rfl (by assumption)|exact zl1 rfl (zq2 _)|(refine rnV_id' rfl ?_;exact byc)|(refine zv2 ?_;first|rfl|omega|(rw [zv1 (by omega) (by omega)];omega))|(refine zl1 rfl ?_;exact byc)|exact zz3 rfl rfl|(refine zw2 (by rfl) (by rfl) ?_ ?_<;>exact byc)|(refine rw_rn' rfl rfl ?_;simp;done))))
     ·rintro N k hN
      try dsimp only
      repeat' (first|(apply f_wo;first|(apply f_mv;first|refine zj1 (v:=.c _) ?_|refine za ?_)|(apply f_as;first|refine zi1 (v:=.c _) ?_|refine za ?_)|(apply f_fa;first|refine n_fa ?_|refine zm1 ?_)|(apply f_ld;first|refine zq1 ?_|refine zx ?_|refine zw ?_|refine zo1 ?_|refine n_ld ?_)|(apply f_bi;first|refine zb1 ?_|refine za1 ?_|refine zc1 ?_|refine za ?_)|(apply f_ia;first|refine n_ix ?_|refine zz1 ?_|refine za ?_)|(apply zw1;first|refine zl ?_|refine za ?_)|(apply zu1;first|refine zk ?_|refine zt1 ?_|refine za ?_)|(apply f_no;first|refine zh2 ?_|refine za ?_)|refine n_bo ?_|refine n_bs ?_|refine za ?_)|(apply f_w;first|refine zv ?_|refine zc ?_)|(apply d_wo;first|(apply d_mv;refine zi ?_)|(apply d_as;refine zi ?_)|(apply d_fa;first|refine o_fa ?_|refine zn3 ?_)|(apply d_ld;first|refine zo3 ?_|refine zk2 ?_|refine zl2 ?_|refine zp3 ?_|refine zi ?_|refine o_ld ?_)|(apply d_bi;first|refine zt2 ?_|refine zs2 ?_|refine zu2 ?_|refine zd2 ?_|refine zd2 (hnu:=ze _) ?_|refine zn1 ?_|refine zn1 (hnu:=ze _) ?_|refine zi ?_)|(apply d_ia;first|refine o_ix ?_|refine zx4 ?_|refine zi ?_)|(apply d_bb;first|refine zf1 ?_|refine zg1 ?_|refine zh1 ?_|refine zl3 ?_|refine zi ?_)|refine o_bo ?_|refine o_bs ?_|refine zi ?_)|(apply d_w;first|refine zv ?_|refine zc ?_)|refine zb fun C=>?_|refine zj (by kernel_rfl) (by kernel_rfl) fun C=>?_|refine zh ?_|refine zd ?_|refine zf ?_|refine zg ?_)
      refine zn (by rfl) (fun hk1=>?_) fun hk1=>?_
      ·have hk':k<l4.length:=by simpa using hk1
       obtain⟨x,hx⟩:∃x,l4[k]? = some x:=⟨_,List.getElem?_eq_getElem hk'⟩
       have hxm:=List.mem_of_getElem? hx
       have hfk:=zf8 v4 hx
       have hDs:=Ds k x hx
       have hD1:=hDb (k+1)
       have hgk:=ka4
       obtain⟨pp,pA,pc,code,rfl,-,⟨hc,hck⟩,-⟩:=zb4 (a4 x hxm)
       have hcl:=zq12 hfk
       rw [show putFE (.agg [.int .i64 pp,.lst 2 82 pA pc code])=putU pp++putU (code.length:Int)++code.flatMap putIE from rfl,←List.append_assoc,←List.append_assoc] at hDs
       obtain⟨F,F0,Fs,Fl,Fb⟩:=zh17 putIE ((D k++putU pp)++putU (code.length:Int)) code 12 fun x _=>zt9 x
       simp only [List.length_append] at Fb
       have qp:=zr3 pp
       have qc:=zr3 (code.length:Int)
       have hDk:=hDb k
       have c7:=zg5 (bs:=D k) pp (by omega)
       have c8:=zg5 (bs:=D k++putU pp) (code.length:Int) (by rw [List.length_append];omega)
       rw [←F0] at c8
       repeat' (first|(apply f_wo;first|(apply f_mv;first|refine zj1 (v:=.c _) ?_|refine za ?_)|(apply f_as;first|refine zi1 (v:=.c _) ?_|refine za ?_)|(apply f_fa;first|refine n_fa ?_|refine zm1 ?_)|(apply f_ld;first|refine zq1 ?_|refine zx ?_|refine zw ?_|refine zo1 ?_|refine n_ld ?_)|(apply f_ca;first|refine zj4 c7 ?_|refine zk4 c7 ?_|refine zj4 c8 ?_|refine zk4 c8 ?_)|(apply f_bi;first|refine zb1 ?_|refine za1 ?_|refine zc1 ?_|refine za ?_)|(apply f_ia;first|refine n_ix ?_|refine zz1 ?_|refine za ?_)|(apply zw1;first|refine zl ?_|refine za ?_)|(apply zu1;first|refine zk ?_|refine zt1 ?_|refine za ?_)|(apply f_no;first|refine zh2 ?_|refine za ?_)|refine n_bo ?_|refine n_bs ?_|refine za ?_)|(apply f_w;first|refine zv ?_|refine zc ?_)|(apply d_wo;first|(apply d_mv;refine zi ?_)|(apply d_as;refine zi ?_)|(apply d_fa;first|refine o_fa ?_|refine zn3 ?_)|(apply d_ld;first|refine zo3 ?_|refine zk2 ?_|refine zl2 ?_|refine zp3 ?_|refine zi ?_|refine o_ld ?_)|(apply d_ca;first|refine zp5 c7 ?_|refine zp5 c8 ?_)|(apply d_bi;first|refine zt2 ?_|refine zs2 ?_|refine zu2 ?_|refine zd2 ?_|refine zd2 (hnu:=ze _) ?_|refine zn1 ?_|refine zn1 (hnu:=ze _) ?_|refine zi ?_)|(apply d_ia;first|refine o_ix ?_|refine zx4 ?_|refine zi ?_)|(apply d_bb;first|refine zf1 ?_|refine zg1 ?_|refine zh1 ?_|refine zl3 ?_|refine zi ?_)|refine o_bo ?_|refine o_bs ?_|refine zi ?_)|(apply d_w;first|refine zv ?_|refine zc ?_)|refine zb fun C=>?_|refine zj (by kernel_rfl) (by kernel_rfl) fun C=>?_|refine zh ?_|refine zd ?_|refine zf ?_|refine zg ?_|refine zt rfl ?_|refine zp rfl ?_)
       refine ze3 (fun m:Nat=>⟨tmsF [(1,.c (.pt 1 0)),(3,.c (.sl 8500 (F m).length)),(6,.c (.v (.int .i64 k))),(7,.c (.v (.int .i64 m)))],hpsF [(1,1,⟨33,0,0,true,[.ro l0.length 3 (acL l0),.ro l1.length 1 (acL l1),.v (.int .i64 x2),.v (.int .i64 x3),.ro l4.length 2 (acL l4)]⟩),(8500,8500,⟨5,1,(F m).length,false,bytC (F m)⟩)],0,[1,8500],108⟩)
        (fun N m=>m+N=code.length) code.length 0 (by omega) ?_ ?_
       ·(refine zr2 _ _ rfl rfl ?_ ?_<;>(repeat' (first|exact TmOk.nil|exact RwOk.nil|refine TmOk.cons ?_ ?_|refine RwOk.cons ?_ ?_|rfl|exact zl1 rfl (by assumption)|exact zl1 rfl (zq2 _)|(refine rnV_id' rfl ?_;exact byc)|(refine zv2 ?_;first|rfl|omega|(rw [zv1 (by omega) (by omega)];omega))|(refine zl1 rfl ?_;exact byc)|exact zz3 rfl rfl|(refine zw2 (by rfl) (by rfl) ?_ ?_<;>exact byc)|(refine rw_rn' rfl rfl ?_;simp;done))))
       ·rintro N2 m hN2
        try dsimp only
        repeat' (first|(apply f_wo;first|(apply f_mv;first|refine zj1 (v:=.c _) ?_|refine za ?_)|(apply f_as;first|refine zi1 (v:=.c _) ?_|refine za ?_)|(apply f_fa;first|refine n_fa ?_|refine zm1 ?_)|(apply f_ld;first|refine zq1 ?_|refine zx ?_|refine zw ?_|refine zo1 ?_|refine n_ld ?_)|(apply f_bi;first|refine zb1 ?_|refine za1 ?_|refine zc1 ?_|refine za ?_)|(apply f_ia;first|refine n_ix ?_|refine zz1 ?_|refine za ?_)|(apply zw1;first|refine zl ?_|refine za ?_)|(apply zu1;first|refine zk ?_|refine zt1 ?_|refine za ?_)|(apply f_no;first|refine zh2 ?_|refine za ?_)|refine n_bo ?_|refine n_bs ?_|refine za ?_)|(apply f_w;first|refine zv ?_|refine zc ?_)|(apply d_wo;first|(apply d_mv;refine zi ?_)|(apply d_as;refine zi ?_)|(apply d_fa;first|refine o_fa ?_|refine zn3 ?_)|(apply d_ld;first|refine zo3 ?_|refine zk2 ?_|refine zl2 ?_|refine zp3 ?_|refine zi ?_|refine o_ld ?_)|(apply d_bi;first|refine zt2 ?_|refine zs2 ?_|refine zu2 ?_|refine zd2 ?_|refine zd2 (hnu:=ze _) ?_|refine zn1 ?_|refine zn1 (hnu:=ze _) ?_|refine zi ?_)|(apply d_ia;first|refine o_ix ?_|refine zx4 ?_|refine zi ?_)|(apply d_bb;first|refine zf1 ?_|refine zg1 ?_|refine zh1 ?_|refine zl3 ?_|refine zi ?_)|refine o_bo ?_|refine o_bs ?_|refine zi ?_)|(apply d_w;first|refine zv ?_|refine zc ?_)|refine zb fun C=>?_|refine zj (by kernel_rfl) (by kernel_rfl) fun C=>?_|refine zh ?_|refine zd ?_|refine zf ?_|refine zg ?_)
        refine zn (by rfl) (fun hm1=>?_) fun hm1=>?_
        ·have hm':m<code.length:=by simpa using hm1
         obtain⟨y,hy⟩:∃y,code[m]? = some y:=⟨_,List.getElem?_eq_getElem hm'⟩
         have hFs:=Fs m y hy
         have hFm:=Fb m
         obtain⟨y0,y1,rfl,-⟩:=zh4 (hc y (List.mem_of_getElem? hy))
         have c9:=zj16 (bs:=F m) y0 y1 (by omega)
         rw [show putIns y0 y1=putIE (.agg [.int .i64 y0,.int .i64 y1]) from rfl,hFs] at c9
         repeat' (first|(apply f_wo;first|(apply f_mv;first|refine zj1 (v:=.c _) ?_|refine za ?_)|(apply f_as;first|refine zi1 (v:=.c _) ?_|refine za ?_)|(apply f_fa;first|refine n_fa ?_|refine zm1 ?_)|(apply f_ld;first|refine zq1 ?_|refine zx ?_|refine zw ?_|refine zo1 ?_|refine n_ld ?_)|(apply f_ca;first|refine zj4 c9 ?_|refine zk4 c9 ?_)|(apply f_bi;first|refine zb1 ?_|refine za1 ?_|refine zc1 ?_|refine za ?_)|(apply f_ia;first|refine n_ix ?_|refine zz1 ?_|refine za ?_)|(apply zw1;first|refine zl ?_|refine za ?_)|(apply zu1;first|refine zk ?_|refine zt1 ?_|refine za ?_)|(apply f_no;first|refine zh2 ?_|refine za ?_)|refine n_bo ?_|refine n_bs ?_|refine za ?_)|(apply f_w;first|refine zv ?_|refine zc ?_)|(apply d_wo;first|(apply d_mv;refine zi ?_)|(apply d_as;refine zi ?_)|(apply d_fa;first|refine o_fa ?_|refine zn3 ?_)|(apply d_ld;first|refine zo3 ?_|refine zk2 ?_|refine zl2 ?_|refine zp3 ?_|refine zi ?_|refine o_ld ?_)|(apply d_ca;first|refine zp5 c9 ?_)|(apply d_bi;first|refine zt2 ?_|refine zs2 ?_|refine zu2 ?_|refine zd2 ?_|refine zd2 (hnu:=ze _) ?_|refine zn1 ?_|refine zn1 (hnu:=ze _) ?_|refine zi ?_)|(apply d_ia;first|refine o_ix ?_|refine zx4 ?_|refine zi ?_)|(apply d_bb;first|refine zf1 ?_|refine zg1 ?_|refine zh1 ?_|refine zl3 ?_|refine zi ?_)|refine o_bo ?_|refine o_bs ?_|refine zi ?_)|(apply d_w;first|refine zv ?_|refine zc ?_)|refine zb fun C=>?_|refine zj (by kernel_rfl) (by kernel_rfl) fun C=>?_|refine zh ?_|refine zd ?_|refine zf ?_|refine zg ?_)
         refine⟨N2-1,m+1,by omega,by omega,?_⟩
         (refine za6 (fun j=>if j=8500 then 10700 else j) _ _ rfl rfl ?_ ?_<;>(repeat' (first|exact TmOk.nil|exact RwOk.nil|refine TmOk.cons ?_ ?_|refine RwOk.cons ?_ ?_|rfl|exact zl1 rfl (by assumption)|exact zl1 rfl (zq2 _)|(refine rnV_id' rfl ?_;exact byc)|(refine zv2 ?_;first|rfl|omega|(rw [zv1 (by omega) (by omega)];omega))|(refine zl1 rfl ?_;exact byc)|exact zz3 rfl rfl|(refine zw2 (by rfl) (by rfl) ?_ ?_<;>exact byc)|(refine rw_rn' rfl rfl ?_;simp;done))))
        ·obtain rfl:m=code.length:=by have:¬m<code.length:=by simpa using hm1
                                      omega
         rw [Fl,hDs]
         repeat' (first|(apply f_wo;first|(apply f_mv;first|refine zj1 (v:=.c _) ?_|refine za ?_)|(apply f_as;first|refine zi1 (v:=.c _) ?_|refine za ?_)|(apply f_fa;first|refine n_fa ?_|refine zm1 ?_)|(apply f_ld;first|refine zq1 ?_|refine zx ?_|refine zw ?_|refine zo1 ?_|refine n_ld ?_)|(apply f_bi;first|refine zb1 ?_|refine za1 ?_|refine zc1 ?_|refine za ?_)|(apply f_ia;first|refine n_ix ?_|refine zz1 ?_|refine za ?_)|(apply zw1;first|refine zl ?_|refine za ?_)|(apply zu1;first|refine zk ?_|refine zt1 ?_|refine za ?_)|(apply f_no;first|refine zh2 ?_|refine za ?_)|refine n_bo ?_|refine n_bs ?_|refine za ?_)|(apply f_w;first|refine zv ?_|refine zc ?_)|(apply d_wo;first|(apply d_mv;refine zi ?_)|(apply d_as;refine zi ?_)|(apply d_fa;first|refine o_fa ?_|refine zn3 ?_)|(apply d_ld;first|refine zo3 ?_|refine zk2 ?_|refine zl2 ?_|refine zp3 ?_|refine zi ?_|refine o_ld ?_)|(apply d_bi;first|refine zt2 ?_|refine zs2 ?_|refine zu2 ?_|refine zd2 ?_|refine zd2 (hnu:=ze _) ?_|refine zn1 ?_|refine zn1 (hnu:=ze _) ?_|refine zi ?_)|(apply d_ia;first|refine o_ix ?_|refine zx4 ?_|refine zi ?_)|(apply d_bb;first|refine zf1 ?_|refine zg1 ?_|refine zh1 ?_|refine zl3 ?_|refine zi ?_)|refine o_bo ?_|refine o_bs ?_|refine zi ?_)|(apply d_w;first|refine zv ?_|refine zc ?_)|refine zb fun C=>?_|refine zj (by kernel_rfl) (by kernel_rfl) fun C=>?_|refine zh ?_|refine zd ?_|refine zf ?_|refine zg ?_)
         refine⟨N-1,k+1,by omega,by omega,?_⟩
         (refine za6 (fun j=>if j=6200 then 8500 else j) _ _ rfl rfl ?_ ?_<;>(repeat' (first|exact TmOk.nil|exact RwOk.nil|refine TmOk.cons ?_ ?_|refine RwOk.cons ?_ ?_|rfl|exact zl1 rfl (by assumption)|exact zl1 rfl (zq2 _)|(refine rnV_id' rfl ?_;exact byc)|(refine zv2 ?_;first|rfl|omega|(rw [zv1 (by omega) (by omega)];omega))|(refine zl1 rfl ?_;exact byc)|exact zz3 rfl rfl|(refine zw2 (by rfl) (by rfl) ?_ ?_<;>exact byc)|(refine rw_rn' rfl rfl ?_;simp;done))))
      ·obtain rfl:k=l4.length:=by have:¬k<l4.length:=by simpa using hk1
                                  omega
       repeat' (first|(apply f_wo;first|(apply f_mv;first|refine zj1 (v:=.c _) ?_|refine za ?_)|(apply f_as;first|refine zi1 (v:=.c _) ?_|refine za ?_)|(apply f_fa;first|refine n_fa ?_|refine zm1 ?_)|(apply f_ld;first|refine zq1 ?_|refine zx ?_|refine zw ?_|refine zo1 ?_|refine n_ld ?_)|(apply f_bi;first|refine zb1 ?_|refine za1 ?_|refine zc1 ?_|refine za ?_)|(apply f_ia;first|refine n_ix ?_|refine zz1 ?_|refine za ?_)|(apply zw1;first|refine zl ?_|refine za ?_)|(apply zu1;first|refine zk ?_|refine zt1 ?_|refine za ?_)|(apply f_no;first|refine zh2 ?_|refine za ?_)|refine n_bo ?_|refine n_bs ?_|refine za ?_)|(apply f_w;first|refine zv ?_|refine zc ?_)|(apply d_wo;first|(apply d_mv;refine zi ?_)|(apply d_as;refine zi ?_)|(apply d_fa;first|refine o_fa ?_|refine zn3 ?_)|(apply d_ld;first|refine zo3 ?_|refine zk2 ?_|refine zl2 ?_|refine zp3 ?_|refine zi ?_|refine o_ld ?_)|(apply d_bi;first|refine zt2 ?_|refine zs2 ?_|refine zu2 ?_|refine zd2 ?_|refine zd2 (hnu:=ze _) ?_|refine zn1 ?_|refine zn1 (hnu:=ze _) ?_|refine zi ?_)|(apply d_ia;first|refine o_ix ?_|refine zx4 ?_|refine zi ?_)|(apply d_bb;first|refine zf1 ?_|refine zg1 ?_|refine zh1 ?_|refine zl3 ?_|refine zi ?_)|refine o_bo ?_|refine o_bs ?_|refine zi ?_)|(apply d_w;first|refine zv ?_|refine zc ?_)|refine zb fun C=>?_|refine zj (by kernel_rfl) (by kernel_rfl) fun C=>?_|refine zh ?_|refine zd ?_|refine zf ?_|refine zg ?_|refine zt rfl ?_|refine zp rfl ?_)
       refine zu ?_
       exact ret0 rfl (zv8 (zk3 rfl rfl rfl (zq2 _) zn2)) ⟨rfl,rfl⟩
theorem zv12 {e:E}(he:e.Ty Tryz.prog 33)(hsz:e.sz≤1048576):Ctr Tryz.prog 7 [.ag (acE e)] [] (.c (.ow 5 (pmE e).length 1 (bytC (pmE e)))) []:=by
 cases hok:modOkE e with
 | true=>exact zu12 he hsz hok
 | false =>
  have cm:=zk8 he hsz
  rw [hok] at cm
  unfold pmE
  rw [if_neg (by rw [hok];decide)]
  obtain⟨x0A,x0c,l0,x1A,x1c,l1,x2,x3,x4A,x4c,l4,rfl,⟨a0,ka0⟩,⟨a1,ka1⟩,-,-,⟨a4,ka4⟩,-⟩:=zg3 he
  refine zo2 Tryz.func7 rfl rfl ?_
  repeat' (first|(apply f_wo;first|(apply f_mv;first|refine zj1 (v:=.c _) ?_|refine za ?_)|(apply f_as;first|refine zi1 (v:=.c _) ?_|refine za ?_)|(apply f_fa;first|refine n_fa ?_|refine zm1 ?_)|(apply f_ld;first|refine zq1 ?_|refine zx ?_|refine zw ?_|refine zo1 ?_|refine n_ld ?_)|(apply f_ca;first|refine zz2 cm ?_|refine zx2 cm ?_)|(apply f_bi;first|refine zb1 ?_|refine za1 ?_|refine zc1 ?_|refine za ?_)|(apply f_ia;first|refine n_ix ?_|refine zz1 ?_|refine za ?_)|(apply zw1;first|refine zl ?_|refine za ?_)|(apply zu1;first|refine zk ?_|refine zt1 ?_|refine za ?_)|(apply f_no;first|refine zh2 ?_|refine za ?_)|refine n_bo ?_|refine n_bs ?_|refine za ?_)|(apply f_w;first|refine zv ?_|refine zc ?_)|(apply d_wo;first|(apply d_mv;refine zi ?_)|(apply d_as;refine zi ?_)|(apply d_fa;first|refine o_fa ?_|refine zn3 ?_)|(apply d_ld;first|refine zo3 ?_|refine zk2 ?_|refine zl2 ?_|refine zp3 ?_|refine zi ?_|refine o_ld ?_)|(apply d_ca;first|refine zi5 cm ?_)|(apply d_bi;first|refine zt2 ?_|refine zs2 ?_|refine zu2 ?_|refine zd2 ?_|refine zd2 (hnu:=ze _) ?_|refine zn1 ?_|refine zn1 (hnu:=ze _) ?_|refine zi ?_)|(apply d_ia;first|refine o_ix ?_|refine zx4 ?_|refine zi ?_)|(apply d_bb;first|refine zf1 ?_|refine zg1 ?_|refine zh1 ?_|refine zl3 ?_|refine zi ?_)|refine o_bo ?_|refine o_bs ?_|refine zi ?_)|(apply d_w;first|refine zv ?_|refine zc ?_)|refine zb fun C=>?_|refine zj (by kernel_rfl) (by kernel_rfl) fun C=>?_|refine zh ?_|refine zd ?_|refine zf ?_|refine zg ?_|refine zt rfl ?_|refine zp rfl ?_)
  refine zu ?_
  exact ret0 rfl (zv8 (zk3 rfl rfl rfl rfl zn2)) ⟨rfl,rfl⟩
end Go.Proofs.YtghljnfbbaklnaaGreat
