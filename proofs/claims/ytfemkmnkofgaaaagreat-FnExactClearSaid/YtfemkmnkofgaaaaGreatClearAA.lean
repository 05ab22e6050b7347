/- Clear of the reference. Printed by gen_clear2.py. -/
import Derived.Test.YtfemkmnkofgaaaaGreatClearZ
namespace Go.Proofs.YtfemkmnkofgaaaaGreat
open Go.RowKit
set_option maxRecDepth 100000
set_option maxHeartbeats 8000000 in
theorem zd13 {e:E}(he:e.Ty Tryz.prog 42)(hsz:e.sz≤1048576):Ctr Tryz.prog 5 [.ag (acE e)] [] (.ag (owE (clearE e))) []:=by
 have cC0:=zn18 he hsz
 obtain⟨x0A,x0c,x0l,x1A,x1c,x1l,x2A,x2c,x2l,x3A,x3c,x3l,x4,x5A,x5c,x5l,x6,x7A,x7c,x7l,x8,x9,x10,x11,x12,rfl,⟨h0,k0⟩,⟨h1,k1⟩,⟨h2,k2⟩,⟨h3,k3⟩,g4,⟨h5,k5⟩,g6,⟨h7,k7⟩,g8,g9,g10,g11,-⟩:=zb1 he
 have cC:Ctr Tryz.prog 17 [.ag [.ro x0l.length 4 (acL x0l),.ro x1l.length 1 (acL x1l),.ro x2l.length 1 (acL x2l),.ro x3l.length 6 (acL x3l),.v (.string x4),.ro x5l.length 1 (acL x5l),.v (.int .i64 x6),.ro x7l.length 1 (acL x7l),.v (.int .i64 x8),.v (.int .i64 x9),.v (.int .i64 x10),.v (.int .i64 x11),.v (.bool x12)]] [] (.ag [.ow 110 x0l.length 4 (owL x0l),.ow 3 x1l.length 1 (owL x1l),.ow 65 x2l.length 1 (owL x2l),.ow 60 x3l.length 6 (owL x3l),.v (.string x4),.ow 9 x5l.length 1 (owL x5l),.v (.int .i64 x6),.ow 5 x7l.length 1 (owL x7l),.v (.int .i64 x8),.v (.int .i64 x9),.v (.int .i64 x10),.v (.int .i64 x11),.v (.bool x12)]) []:=cC0
 clear cC0
 simp only [E.sz,E.szL] at hsz
 have hR:cloL [.ro x1l.length 1 (acL x1l),.ro x2l.length 1 (acL x2l),.ro x3l.length 6 (acL x3l),.v (.string x4),.ow 9 x5l.length 1 (owL x5l),.v (.int .i64 x6),.ow 5 x7l.length 1 (owL x7l),.v (.int .i64 x8),.v (.int .i64 x9),.v (.int .i64 x10),.v (.int .i64 x11),.v (.bool x12)]=true:=by simp [cloL,clo,zj,zn]
 obtain⟨H,H0,Hs,Hl,Hok⟩:=zb3 (f:=frameF) x3l HpOk (l:=x0l) ⟨h0,k0,by omega⟩ (fun a x h=>h.frame x)
 refine zm2 Tryz.func5 rfl rfl ?_
 refine zp ?_
 refine zc fun C=>?_
 repeat' (first|(apply f_wo;first|(apply f_mv;first|refine zt1 (v:=.c _) ?_|refine zf2 ?_)|(apply f_as;first|refine zp2 (v:=.c _) ?_|refine zf2 ?_)|(apply f_fa;first|refine n_fa ?_|refine zb7 ?_)|(apply f_ld;first|refine zh2 ?_|refine zn4 ?_|refine zu3 ?_|refine zf5 ?_|refine n_ld ?_)|(apply f_bi;first|refine zi2 ?_|refine zp10 ?_|refine zq10 ?_|refine zf2 ?_)|(apply f_st;first|refine n_st ?_|refine zb9 ?_)|(apply f_ia;first|refine n_ix ?_|refine za7 ?_|refine zf2 ?_)|(apply zf3;first|refine zf1 ?_|refine zf2 ?_)|(apply zm3;first|refine zh1 ?_|refine zn17 ?_|refine zf2 ?_)|refine n_al ?_|refine n_bo ?_|refine n_bs ?_|refine zf2 ?_)|(apply f_w;first|refine za1 ?_|refine zd ?_))
 refine zp ?_
 refine zc fun C=>?_
 repeat' (first|(apply f_wo;first|(apply f_mv;first|refine zt1 (v:=.c _) ?_|refine zf2 ?_)|(apply f_as;first|refine zp2 (v:=.c _) ?_|refine zf2 ?_)|(apply f_fa;first|refine n_fa ?_|refine zb7 ?_)|(apply f_ld;first|refine zh2 ?_|refine zn4 ?_|refine zu3 ?_|refine zf5 ?_|refine n_ld ?_)|(apply f_ca;first|refine zv7 cC ?_|refine zq14 cC ?_)|(apply f_bi;first|refine zi2 ?_|refine zp10 ?_|refine zq10 ?_|refine zf2 ?_)|(apply f_st;first|refine n_st ?_|refine zb9 ?_)|(apply f_ia;first|refine n_ix ?_|refine za7 ?_|refine zf2 ?_)|(apply zf3;first|refine zf1 ?_|refine zf2 ?_)|(apply zm3;first|refine zh1 ?_|refine zn17 ?_|refine zf2 ?_)|refine n_al ?_|refine n_bo ?_|refine n_bs ?_|refine zf2 ?_)|(apply f_w;first|refine za1 ?_|refine zd ?_))
 refine zk2 (ze3 (i:=3) (j:=1000) rfl rfl rfl (pre:=[]) (post:=[_,_,_,_,_,_,_,_,_,_,_,_]) rfl) ?_
 refine zk2 (ze3 (i:=3) (j:=1001) rfl rfl rfl (pre:=[_]) (post:=[_,_,_,_,_,_,_,_,_,_,_]) rfl) ?_
 refine zk2 (ze3 (i:=3) (j:=1002) rfl rfl rfl (pre:=[_,_]) (post:=[_,_,_,_,_,_,_,_,_,_]) rfl) ?_
 refine zk2 (ze3 (i:=3) (j:=1003) rfl rfl rfl (pre:=[_,_,_]) (post:=[_,_,_,_,_,_,_,_,_]) rfl) ?_
 refine zk2 (ze3 (i:=3) (j:=1004) rfl rfl rfl (pre:=[_,_,_,_,_]) (post:=[_,_,_,_,_,_,_]) rfl) ?_
 refine zk2 (ze3 (i:=3) (j:=1005) rfl rfl rfl (pre:=[_,_,_,_,_,_,_]) (post:=[_,_,_,_,_]) rfl) ?_
 refine zk2 (zo22 (i:=3) (pre:=[_]) (mid:=[_,_,_]) (mid':=[.ro x1l.length 1 (acL x1l),.ro x2l.length 1 (acL x2l),.ro x3l.length 6 (acL x3l)]) (post:=[_,_,_,_,_,_,_,_,_]) rfl rfl (by simp only [fzL,fzC,zj7]) rfl) ?_
 repeat' (first|(apply f_wo;(apply f_as;refine zp2 (v:=.c _) ?_))|(apply f_w;first|refine za1 ?_|refine zd ?_)|refine zc fun C=>?_|refine zp ?_|refine zw ?_)
 refine zw1 (fun k:Nat=>⟨tmsF [(2,.c (.pt 2 0)),(3,.c (.pt 3 0)),(4,.c (.v (.int .i64 k)))],hpsF [(2,2,⟨42,0,0,true,[.v (.slice none 0 0),.v (.slice none 0 0),.v (.slice none 0 0),.v (.slice none 0 0),.v (.string ByteArray.empty),.v (.slice none 0 0),.v (.int .i64 0),.v (.slice none 0 0),.v (.int .i64 0),.v (.int .i64 0),.v (.int .i64 0),.v (.int .i64 0),.v (.bool false)]⟩),(3,3,⟨42,0,0,true,.ow 110 (H k).length 4 (owL (H k)) :: [.ro x1l.length 1 (acL x1l),.ro x2l.length 1 (acL x2l),.ro x3l.length 6 (acL x3l),.v (.string x4),.ow 9 x5l.length 1 (owL x5l),.v (.int .i64 x6),.ow 5 x7l.length 1 (owL x7l),.v (.int .i64 x8),.v (.int .i64 x9),.v (.int .i64 x10),.v (.int .i64 x11),.v (.bool x12)]⟩)],0,[2,3],74⟩)
  (fun N k=>k+N=x3l.length) x3l.length 0 (by omega) ?_ ?_
 ·try dsimp only
  rw [H0]
  (refine zm1 _ _ rfl rfl ?_ ?_<;>(repeat' (first|exact TmOk.nil|exact RwOk.nil|refine TmOk.cons ?_ ?_|refine RwOk.cons ?_ ?_|rfl|(refine rnV_id' rfl ?_;exact byc)|(refine zu1 ?_;first|rfl|omega|(rw [zy (by omega) (by omega)];omega))|(refine zr rfl ?_;exact byc)|exact zj2 rfl rfl|(refine zv1 (by rfl) (by rfl) ?_ ?_<;>exact byc)|(refine rw_rn' rfl rfl ?_;simp;done))))
 rintro N k hN
 try dsimp only
 repeat' (first|(apply f_wo;first|(apply f_mv;refine zt1 (v:=.c _) ?_)|(apply f_fa;refine n_fa ?_)|(apply f_ld;refine zh2 ?_)|(apply f_bi;refine zi2 ?_)|(apply zf3;refine zf1 ?_))|(apply f_w;first|refine za1 ?_|refine zd ?_)|refine zc fun C=>?_|refine zp ?_)
 refine zj1 (by rfl) (fun hk'=>?_) fun hk'=>?_
 ·have hlt:k<x3l.length:=by simpa using hk'
  obtain⟨x,hx⟩:∃x,x3l[k]? = some x:=⟨_,List.getElem?_eq_getElem hlt⟩
  have hHs:=Hs k x hx
  have hxz:=E.szL_mem (List.mem_of_getElem? hx)
  have hxt:=h3 x (List.mem_of_getElem? hx)
  have c7:=zw9 hR (Hok k) hxt (by omega)
  rw [hHs] at c7
  obtain⟨y0,y1,y2A,y2c,loc,y3A,y3c,stk,y4A,y4c,lab,y5A,y5c,its,rfl,-,-,⟨q2,r2⟩,⟨q3,r3⟩,⟨q4,r4⟩,⟨q5,r5⟩,-⟩:=zd1 hxt
  have c8:Ctr Tryz.prog 18 [.c (.pt 0 0),.ag [.v (.int .i64 y0),.v (.int .i64 y1),.ro loc.length 1 (acL loc),.ro stk.length 2 (acL stk),.ro lab.length 5 (acL lab),.ro its.length 2 (acL its)]] [.ow 110 (H k).length 4 (owL (H k)) :: [.ro x1l.length 1 (acL x1l),.ro x2l.length 1 (acL x2l),.ro x3l.length 6 (acL x3l),.v (.string x4),.ow 9 x5l.length 1 (owL x5l),.v (.int .i64 x6),.ow 5 x7l.length 1 (owL x7l),.v (.int .i64 x8),.v (.int .i64 x9),.v (.int .i64 x10),.v (.int .i64 x11),.v (.bool x12)]] (.tu []) [.ow 110 (H (k+1)).length 4 (owL (H (k+1))) :: [.ro x1l.length 1 (acL x1l),.ro x2l.length 1 (acL x2l),.ro x3l.length 6 (acL x3l),.v (.string x4),.ow 9 x5l.length 1 (owL x5l),.v (.int .i64 x6),.ow 5 x7l.length 1 (owL x7l),.v (.int .i64 x8),.v (.int .i64 x9),.v (.int .i64 x10),.v (.int .i64 x11),.v (.bool x12)]]:=c7
  have hcl:=zc1 (T:=110) (n:=(H k).length) (k:=4) (l:=H k) hR
  have hcl2:=zc1 (T:=110) (n:=(H (k+1)).length) (k:=4) (l:=H (k+1)) hR
  repeat' (first|(apply f_wo;first|(apply f_mv;refine zt1 (v:=.c _) ?_)|(apply f_as;refine zp2 (v:=.c _) ?_)|(apply f_fa;refine n_fa ?_)|(apply f_ld;first|refine zh2 ?_|refine zu3 ?_)|(apply f_ca;refine zb6 3 (c8) ?_ (hl:=zr4 (by rfl) hcl))|(apply f_ia;refine n_ix ?_)|(apply zm3;refine zh1 ?_))|(apply f_w;first|refine za1 ?_|refine zd ?_)|refine zc fun C=>?_|refine zp ?_|refine zw ?_|refine zl1 ?_)
  refine⟨N-1,k+1,by omega,by omega,?_⟩
  (refine zm1 _ _ rfl rfl ?_ ?_<;>(repeat' (first|exact TmOk.nil|exact RwOk.nil|refine TmOk.cons ?_ ?_|refine RwOk.cons ?_ ?_|rfl|exact zr rfl (by assumption)|(refine rnV_id' rfl ?_;exact byc)|(refine zu1 ?_;first|rfl|omega|(rw [zy (by omega) (by omega)];omega))|(refine zr rfl ?_;exact byc)|exact zj2 rfl rfl|(refine zv1 (by rfl) (by rfl) ?_ ?_<;>exact byc)|(refine rw_rn' rfl rfl ?_;simp;done))))
 obtain rfl:k=x3l.length:=by have h9:¬k<x3l.length:=(by simpa using hk');omega
 have okA:=(Hok x3l.length).letAll x1l
 obtain⟨B,B0,Bs,Bl,Bok⟩:=zb3 (f:=fun a e=>letLE a (intE e)) x1l HpOk (l:=H x3l.length) (Hok _) (fun a x h=>h.let_ (intE x))
 obtain⟨D,D0,Ds,Dl,Dok⟩:=zb3 (f:=tabF) x2l HpOk (l:=letAllE (H x3l.length) x1l) okA (fun a x h=>h.tab x)
 have Bl':B x1l.length=D 0:=Bl.trans D0.symm
 repeat' (first|(apply f_wo;(apply f_as;refine zp2 (v:=.c _) ?_))|(apply f_w;first|refine za1 ?_|refine zd ?_)|refine zc fun C=>?_|refine zp ?_|refine zw ?_|refine zy1 ?_)
 refine zw1 (fun k:Nat=>⟨tmsF [(2,.c (.pt 2 0)),(3,.c (.pt 3 0)),(5,.c (.v (.int .i64 k)))],hpsF [(2,2,⟨42,0,0,true,[.v (.slice none 0 0),.v (.slice none 0 0),.v (.slice none 0 0),.v (.slice none 0 0),.v (.string ByteArray.empty),.v (.slice none 0 0),.v (.int .i64 0),.v (.slice none 0 0),.v (.int .i64 0),.v (.int .i64 0),.v (.int .i64 0),.v (.int .i64 0),.v (.bool false)]⟩),(3,3,⟨42,0,0,true,.ow 110 (B k).length 4 (owL (B k)) :: [.ro x1l.length 1 (acL x1l),.ro x2l.length 1 (acL x2l),.ro x3l.length 6 (acL x3l),.v (.string x4),.ow 9 x5l.length 1 (owL x5l),.v (.int .i64 x6),.ow 5 x7l.length 1 (owL x7l),.v (.int .i64 x8),.v (.int .i64 x9),.v (.int .i64 x10),.v (.int .i64 x11),.v (.bool x12)]⟩)],0,[2,3],74⟩)
  (fun N k=>k+N=x1l.length) x1l.length 0 (by omega) ?_ ?_
 ·try dsimp only
  rw [B0]
  have hcl:=zc1 (T:=110) (n:=(H x3l.length).length) (k:=4) (l:=H x3l.length) hR
  (refine zm1 _ _ rfl rfl ?_ ?_<;>(repeat' (first|exact TmOk.nil|exact RwOk.nil|refine TmOk.cons ?_ ?_|refine RwOk.cons ?_ ?_|rfl|exact zr rfl (by assumption)|(refine rnV_id' rfl ?_;exact byc)|(refine zu1 ?_;first|rfl|omega|(rw [zy (by omega) (by omega)];omega))|(refine zr rfl ?_;exact byc)|exact zj2 rfl rfl|(refine zv1 (by rfl) (by rfl) ?_ ?_<;>exact byc)|(refine rw_rn' rfl rfl ?_;simp;done))))
 rintro N k hN
 try dsimp only
 repeat' (first|(apply f_wo;first|(apply f_mv;refine zt1 (v:=.c _) ?_)|(apply f_fa;refine n_fa ?_)|(apply f_ld;refine zh2 ?_)|(apply f_bi;refine zi2 ?_)|(apply zf3;refine zf1 ?_))|(apply f_w;first|refine za1 ?_|refine zd ?_)|refine zc fun C=>?_|refine zp ?_)
 refine zj1 (by rfl) (fun hk'=>?_) fun hk'=>?_
 ·have hlt:k<x1l.length:=by simpa using hk'
  obtain⟨x,hx⟩:∃x,x1l[k]? = some x:=⟨_,List.getElem?_eq_getElem hlt⟩
  have hHs:=Bs k x hx
  obtain⟨z,rfl,-⟩:=(h1 x (List.mem_of_getElem? hx)).int_ Tryz.underlying3
  have c8:Ctr Tryz.prog 19 [.c (.pt 0 0),.c (.v (.int .i64 z))] [.ow 110 (B k).length 4 (owL (B k)) :: [.ro x1l.length 1 (acL x1l),.ro x2l.length 1 (acL x2l),.ro x3l.length 6 (acL x3l),.v (.string x4),.ow 9 x5l.length 1 (owL x5l),.v (.int .i64 x6),.ow 5 x7l.length 1 (owL x7l),.v (.int .i64 x8),.v (.int .i64 x9),.v (.int .i64 x10),.v (.int .i64 x11),.v (.bool x12)]] (.tu []) [.ow 110 (B (k+1)).length 4 (owL (B (k+1))) :: [.ro x1l.length 1 (acL x1l),.ro x2l.length 1 (acL x2l),.ro x3l.length 6 (acL x3l),.v (.string x4),.ow 9 x5l.length 1 (owL x5l),.v (.int .i64 x6),.ow 5 x7l.length 1 (owL x7l),.v (.int .i64 x8),.v (.int .i64 x9),.v (.int .i64 x10),.v (.int .i64 x11),.v (.bool x12)]]:=by rw [←hHs];exact zo4 hR (Bok k).ty (Bok k).sz z
  have hcl:=zc1 (T:=110) (n:=(B k).length) (k:=4) (l:=B k) hR
  have hcl2:=zc1 (T:=110) (n:=(B (k+1)).length) (k:=4) (l:=B (k+1)) hR
  repeat' (first|(apply f_wo;first|(apply f_mv;refine zt1 (v:=.c _) ?_)|(apply f_as;refine zp2 (v:=.c _) ?_)|(apply f_fa;refine n_fa ?_)|(apply f_ld;first|refine zh2 ?_|refine zn4 ?_)|(apply f_ca;refine zb6 3 (c8) ?_ (hl:=zr4 (by rfl) hcl))|(apply f_ia;refine n_ix ?_)|(apply zm3;refine zh1 ?_))|(apply f_w;first|refine za1 ?_|refine zd ?_)|refine zc fun C=>?_|refine zp ?_|refine zw ?_|refine zl1 ?_)
  refine⟨N-1,k+1,by omega,by omega,?_⟩
  (refine zm1 _ _ rfl rfl ?_ ?_<;>(repeat' (first|exact TmOk.nil|exact RwOk.nil|refine TmOk.cons ?_ ?_|refine RwOk.cons ?_ ?_|rfl|exact zr rfl (by assumption)|(refine rnV_id' rfl ?_;exact byc)|(refine zu1 ?_;first|rfl|omega|(rw [zy (by omega) (by omega)];omega))|(refine zr rfl ?_;exact byc)|exact zj2 rfl rfl|(refine zv1 (by rfl) (by rfl) ?_ ?_<;>exact byc)|(refine rw_rn' rfl rfl ?_;simp;done))))
 obtain rfl:k=x1l.length:=by have h9:¬k<x1l.length:=(by simpa using hk');omega
 rw [Bl']
 repeat' (first|(apply f_wo;(apply f_as;refine zp2 (v:=.c _) ?_))|(apply f_w;first|refine za1 ?_|refine zd ?_)|refine zc fun C=>?_|refine zp ?_|refine zw ?_|refine zy1 ?_)
 refine zw1 (fun k:Nat=>⟨tmsF [(2,.c (.pt 2 0)),(3,.c (.pt 3 0)),(6,.c (.v (.int .i64 k)))],hpsF [(2,2,⟨42,0,0,true,[.v (.slice none 0 0),.v (.slice none 0 0),.v (.slice none 0 0),.v (.slice none 0 0),.v (.string ByteArray.empty),.v (.slice none 0 0),.v (.int .i64 0),.v (.slice none 0 0),.v (.int .i64 0),.v (.int .i64 0),.v (.int .i64 0),.v (.int .i64 0),.v (.bool false)]⟩),(3,3,⟨42,0,0,true,.ow 110 (D k).length 4 (owL (D k)) :: [.ro x1l.length 1 (acL x1l),.ro x2l.length 1 (acL x2l),.ro x3l.length 6 (acL x3l),.v (.string x4),.ow 9 x5l.length 1 (owL x5l),.v (.int .i64 x6),.ow 5 x7l.length 1 (owL x7l),.v (.int .i64 x8),.v (.int .i64 x9),.v (.int .i64 x10),.v (.int .i64 x11),.v (.bool x12)]⟩)],0,[2,3],74⟩)
  (fun N k=>k+N=x2l.length) x2l.length 0 (by omega) ?_ ?_
 ·try dsimp only
  have hcl:=zc1 (T:=110) (n:=(D 0).length) (k:=4) (l:=D 0) hR
  (refine zm1 _ _ rfl rfl ?_ ?_<;>(repeat' (first|exact TmOk.nil|exact RwOk.nil|refine TmOk.cons ?_ ?_|refine RwOk.cons ?_ ?_|rfl|exact zr rfl (by assumption)|(refine rnV_id' rfl ?_;exact byc)|(refine zu1 ?_;first|rfl|omega|(rw [zy (by omega) (by omega)];omega))|(refine zr rfl ?_;exact byc)|exact zj2 rfl rfl|(refine zv1 (by rfl) (by rfl) ?_ ?_<;>exact byc)|(refine rw_rn' rfl rfl ?_;simp;done))))
 rintro N k hN
 try dsimp only
 repeat' (first|(apply f_wo;first|(apply f_mv;refine zt1 (v:=.c _) ?_)|(apply f_fa;refine n_fa ?_)|(apply f_ld;refine zh2 ?_)|(apply f_bi;refine zi2 ?_)|(apply zf3;refine zf1 ?_))|(apply f_w;first|refine za1 ?_|refine zd ?_)|refine zc fun C=>?_|refine zp ?_)
 refine zj1 (by rfl) (fun hk'=>?_) fun hk'=>?_
 ·have hlt:k<x2l.length:=by simpa using hk'
  obtain⟨x,hx⟩:∃x,x2l[k]? = some x:=⟨_,List.getElem?_eq_getElem hlt⟩
  have hDs:=Ds k x hx
  have hxz:=E.szL_mem (List.mem_of_getElem? hx)
  obtain⟨tA,tc,es,rfl,⟨hes,he2⟩,-⟩:=zk1 (h2 x (List.mem_of_getElem? hx))
  simp only [E.sz,E.szL] at hxz
  obtain⟨G,G0,Gs,Gl,Gok⟩:=zb3 (f:=refF) es HpOk (l:=D k) (Dok k) (fun a x h=>h.ref x)
  have Gl':G es.length=D (k+1):=Gl.trans hDs
  repeat' (first|(apply f_wo;(apply f_as;refine zp2 (v:=.c _) ?_))|(apply f_w;first|refine za1 ?_|refine zd ?_)|refine zc fun C=>?_|refine zp ?_|refine zw ?_|refine zl1 ?_)
  refine zw1 (fun m:Nat=>⟨tmsF [(2,.c (.pt 2 0)),(3,.c (.pt 3 0)),(6,.c (.v (.int .i64 k))),(7,.c (.v (.int .i64 m)))],hpsF [(2,2,⟨42,0,0,true,[.v (.slice none 0 0),.v (.slice none 0 0),.v (.slice none 0 0),.v (.slice none 0 0),.v (.string ByteArray.empty),.v (.slice none 0 0),.v (.int .i64 0),.v (.slice none 0 0),.v (.int .i64 0),.v (.int .i64 0),.v (.int .i64 0),.v (.int .i64 0),.v (.bool false)]⟩),(3,3,⟨42,0,0,true,.ow 110 (G m).length 4 (owL (G m)) :: [.ro x1l.length 1 (acL x1l),.ro x2l.length 1 (acL x2l),.ro x3l.length 6 (acL x3l),.v (.string x4),.ow 9 x5l.length 1 (owL x5l),.v (.int .i64 x6),.ow 5 x7l.length 1 (owL x7l),.v (.int .i64 x8),.v (.int .i64 x9),.v (.int .i64 x10),.v (.int .i64 x11),.v (.bool x12)]⟩)],0,[2,3],74⟩)
   (fun M m=>m+M=es.length) es.length 0 (by omega) ?_ ?_
  ·try dsimp only
   rw [G0]
   have hcl:=zc1 (T:=110) (n:=(D k).length) (k:=4) (l:=D k) hR
   (refine zm1 _ _ rfl rfl ?_ ?_<;>(repeat' (first|exact TmOk.nil|exact RwOk.nil|refine TmOk.cons ?_ ?_|refine RwOk.cons ?_ ?_|rfl|exact zr rfl (by assumption)|(refine rnV_id' rfl ?_;exact byc)|(refine zu1 ?_;first|rfl|omega|(rw [zy (by omega) (by omega)];omega))|(refine zr rfl ?_;exact byc)|exact zj2 rfl rfl|(refine zv1 (by rfl) (by rfl) ?_ ?_<;>exact byc)|(refine rw_rn' rfl rfl ?_;simp;done))))
  rintro M m hM
  try dsimp only
  repeat' (first|(apply f_wo;first|(apply f_mv;refine zt1 (v:=.c _) ?_)|(apply f_fa;first|refine n_fa ?_|refine zb7 ?_)|(apply f_ld;first|refine zh2 ?_|refine zn4 ?_)|(apply f_bi;refine zi2 ?_)|(apply f_ia;refine n_ix ?_)|(apply zf3;refine zf1 ?_))|(apply f_w;first|refine za1 ?_|refine zd ?_)|refine zc fun C=>?_|refine zp ?_)
  refine zj1 (by rfl) (fun hm'=>?_) fun hm'=>?_
  ·have hlt':m<es.length:=by simpa using hm'
   obtain⟨y,hy⟩:∃y,es[m]? = some y:=⟨_,List.getElem?_eq_getElem hlt'⟩
   have hGs:=Gs m y hy
   obtain⟨ss,z,rfl,-⟩:=zp1 (hes y (List.mem_of_getElem? hy))
   have c8:Ctr Tryz.prog 19 [.c (.pt 0 0),.c (.v (.int .i64 z))] [.ow 110 (G m).length 4 (owL (G m)) :: [.ro x1l.length 1 (acL x1l),.ro x2l.length 1 (acL x2l),.ro x3l.length 6 (acL x3l),.v (.string x4),.ow 9 x5l.length 1 (owL x5l),.v (.int .i64 x6),.ow 5 x7l.length 1 (owL x7l),.v (.int .i64 x8),.v (.int .i64 x9),.v (.int .i64 x10),.v (.int .i64 x11),.v (.bool x12)]] (.tu []) [.ow 110 (G (m+1)).length 4 (owL (G (m+1))) :: [.ro x1l.length 1 (acL x1l),.ro x2l.length 1 (acL x2l),.ro x3l.length 6 (acL x3l),.v (.string x4),.ow 9 x5l.length 1 (owL x5l),.v (.int .i64 x6),.ow 5 x7l.length 1 (owL x7l),.v (.int .i64 x8),.v (.int .i64 x9),.v (.int .i64 x10),.v (.int .i64 x11),.v (.bool x12)]]:=by rw [←hGs];exact zo4 hR (Gok m).ty (Gok m).sz z
   have hcl:=zc1 (T:=110) (n:=(G m).length) (k:=4) (l:=G m) hR
   have hcl2:=zc1 (T:=110) (n:=(G (m+1)).length) (k:=4) (l:=G (m+1)) hR
   repeat' (first|(apply f_wo;first|(apply f_mv;refine zt1 (v:=.c _) ?_)|(apply f_as;refine zp2 (v:=.c _) ?_)|(apply f_fa;first|refine n_fa ?_|refine zb7 ?_)|(apply f_ld;first|refine zh2 ?_|refine zn4 ?_)|(apply f_ca;refine zb6 3 (c8) ?_ (hl:=zr4 (by rfl) hcl))|(apply f_ia;refine n_ix ?_)|(apply zm3;refine zh1 ?_))|(apply f_w;first|refine za1 ?_|refine zd ?_)|refine zc fun C=>?_|refine zp ?_|refine zw ?_|refine zl1 ?_)
   refine⟨M-1,m+1,by omega,by omega,?_⟩
   (refine zm1 _ _ rfl rfl ?_ ?_<;>(repeat' (first|exact TmOk.nil|exact RwOk.nil|refine TmOk.cons ?_ ?_|refine RwOk.cons ?_ ?_|rfl|exact zr rfl (by assumption)|(refine rnV_id' rfl ?_;exact byc)|(refine zu1 ?_;first|rfl|omega|(rw [zy (by omega) (by omega)];omega))|(refine zr rfl ?_;exact byc)|exact zj2 rfl rfl|(refine zv1 (by rfl) (by rfl) ?_ ?_<;>exact byc)|(refine rw_rn' rfl rfl ?_;simp;done))))
  obtain rfl:m=es.length:=by have h9:¬m<es.length:=(by simpa using hm');omega
  rw [Gl']
  have hcl:=zc1 (T:=110) (n:=(D (k+1)).length) (k:=4) (l:=D (k+1)) hR
  repeat' (first|(apply f_wo;first|(apply f_mv;refine zt1 (v:=.c _) ?_)|(apply f_as;refine zp2 (v:=.c _) ?_)|(apply zm3;refine zh1 ?_))|(apply f_w;first|refine za1 ?_|refine zd ?_)|refine zc fun C=>?_|refine zy1 ?_)
  refine⟨N-1,k+1,by omega,by omega,?_⟩
  (refine zm1 _ _ rfl rfl ?_ ?_<;>(repeat' (first|exact TmOk.nil|exact RwOk.nil|refine TmOk.cons ?_ ?_|refine RwOk.cons ?_ ?_|rfl|exact zr rfl (by assumption)|(refine rnV_id' rfl ?_;exact byc)|(refine zu1 ?_;first|rfl|omega|(rw [zy (by omega) (by omega)];omega))|(refine zr rfl ?_;exact byc)|exact zj2 rfl rfl|(refine zv1 (by rfl) (by rfl) ?_ ?_<;>exact byc)|(refine rw_rn' rfl rfl ?_;simp;done))))
 obtain rfl:k=x2l.length:=by have h9:¬k<x2l.length:=(by simpa using hk');omega
 have hE:D x2l.length=clrL x0l x1l x2l x3l:=by rw [Dl,Hl];rfl
 rw [hE]
 refine zy1 ?_
 refine zk2 (zt7 700 (i:=3) rfl rfl (pre:=[]) (post:=[_,_,_,_,_,_,_,_,_,_,_,_]) rfl) ?_
 refine zk2 (zt7 701 (i:=3) rfl rfl (pre:=[_,_,_,_,_]) (post:=[_,_,_,_,_,_,_]) rfl) ?_
 refine zk2 (zt7 702 (i:=3) rfl rfl (pre:=[_,_,_,_,_,_,_]) (post:=[_,_,_,_,_]) rfl) ?_
 repeat' (first|(apply f_wo;first|(apply f_fa;refine n_fa ?_)|(apply f_ld;refine zf5 ?_)|(apply f_st;refine n_st ?_)|refine n_bs ?_)|(apply f_w;first|refine za1 ?_|refine zd ?_)|refine zc fun C=>?_|refine zp ?_)
 refine zo2 ?_;refine ret0 rfl (zj5 (zc2 rfl rfl rfl (by first|exact zj _|exact zn _|exact bytC_clo _|(simp [cloL,clo,zj,zn,zv,zu,zq];done)|(simp [cloL,clo,opC,opL,zj,zn,zv,zu,zq];done)) (zc2 rfl rfl rfl (by first|exact zj _|exact zn _|exact bytC_clo _|(simp [cloL,clo,zj,zn,zv,zu,zq];done)|(simp [cloL,clo,opC,opL,zj,zn,zv,zu,zq];done)) (zc2 rfl rfl rfl (by first|exact zj _|exact zn _|exact bytC_clo _|(simp [cloL,clo,zj,zn,zv,zu,zq];done)|(simp [cloL,clo,opC,opL,zj,zn,zv,zu,zq];done)) (zc2 rfl rfl rfl (by first|exact zj _|exact zn _|exact bytC_clo _|(simp [cloL,clo,zj,zn,zv,zu,zq];done)|(simp [cloL,clo,opC,opL,zj,zn,zv,zu,zq];done)) (zu2 rfl (zc2 rfl rfl rfl (by first|exact zj _|exact zn _|exact bytC_clo _|(simp [cloL,clo,zj,zn,zv,zu,zq];done)|(simp [cloL,clo,opC,opL,zj,zn,zv,zu,zq];done)) (zu2 rfl (zc2 rfl rfl rfl (by first|exact zj _|exact zn _|exact bytC_clo _|(simp [cloL,clo,zj,zn,zv,zu,zq];done)|(simp [cloL,clo,opC,opL,zj,zn,zv,zu,zq];done)) (zu2 rfl (zu2 rfl (zu2 rfl (zu2 rfl (zu2 rfl zx3)))))))))))))) ⟨?_,rfl⟩
 rfl
theorem HpOk.clr {l:List E}(h:HpOk l)(v t f:List E):HpOk (clrL l v t f):=by
 have h1:∀(ks:List E) {l:List E},HpOk l→HpOk (ks.foldl frameF l):=fun ks=>by
  induction ks with
  | nil=>intro l h;exact h
  | cons x r ih=>intro l h;exact ih (h.frame x)
 have h2:∀(ks:List E) {l:List E},HpOk l→HpOk (ks.foldl tabF l):=fun ks=>by
  induction ks with
  | nil=>intro l h;exact h
  | cons x r ih=>intro l h;exact ih (h.tab x)
 exact h2 _ ((h1 _ h).letAll _)
theorem zl7 {e:E}(he:e.Ty Tryz.prog 42)(hsz:e.sz≤1048576):(clearE e).Ty Tryz.prog 42:=by
 obtain⟨x0A,x0c,x0l,x1A,x1c,x1l,x2A,x2c,x2l,x3A,x3c,x3l,x4,x5A,x5c,x5l,x6,x7A,x7c,x7l,x8,x9,x10,x11,x12,rfl,⟨h0,k0⟩,⟨h1,k1⟩,⟨h2,k2⟩,⟨h3,k3⟩,g4,⟨h5,k5⟩,g6,⟨h7,k7⟩,g8,g9,g10,g11,-⟩:=zb1 he
 simp only [E.sz,E.szL] at hsz
 have hc:HpOk (clrL x0l x1l x2l x3l):=HpOk.clr ⟨h0,k0,by omega⟩ _ _ _
 show (E.agg [heapE (clrL x0l x1l x2l x3l),.lst 1 3 none 0 [],.lst 1 65 none 0 [],.lst 6 60 none 0 [],.agg [.str x4,.lst 1 9 x5A x5c x5l],.int .i64 x6,.lst 1 5 x7A x7c x7l,.int .i64 x8,.int .i64 x9,.int .i64 x10,.int .i64 x11,.bool x12]).Ty Tryz.prog 42
 exact E.Ty.mk_agg Tryz.underlying42 (E.TyF.mk_cons hc.ty (E.TyF.mk_cons (E.Ty.mk_lst Tryz.underlying25 (by kernel_rfl) (by simp) (by simp)) (E.TyF.mk_cons (E.Ty.mk_lst Tryz.underlying38 (by kernel_rfl) (by simp) (by simp)) (E.TyF.mk_cons (E.Ty.mk_lst Tryz.underlying39 (by kernel_rfl) (by simp) (by simp))
  (E.TyF.mk_cons (E.Ty.mk_agg Tryz.underlying40 (E.TyF.mk_cons (by simp only [E.Ty];exact⟨Tryz.underlying9,by unfold maxLen;omega⟩) (E.TyF.mk_cons (E.Ty.mk_lst Tryz.underlying28 (by kernel_rfl) h5 k5) E.TyF.mk_nil)))
  (E.TyF.mk_cons (zl3 g6) (E.TyF.mk_cons (E.Ty.mk_lst Tryz.underlying31 (by kernel_rfl) h7 k7) (E.TyF.mk_cons (zl3 g8) (E.TyF.mk_cons (zl3 g9) (E.TyF.mk_cons (zl3 g10) (E.TyF.mk_cons (zl3 g11) (E.TyF.mk_cons (by simp only [E.Ty];exact Tryz.underlying4) E.TyF.mk_nil))))))))))))
theorem zo18 {e:E}(he:e.Ty Tryz.prog 42)(hsz:e.sz≤1048576):(clearE e).sz≤1073741824:=by
 obtain⟨x0A,x0c,x0l,x1A,x1c,x1l,x2A,x2c,x2l,x3A,x3c,x3l,x4,x5A,x5c,x5l,x6,x7A,x7c,x7l,x8,x9,x10,x11,x12,rfl,⟨h0,k0⟩,-⟩:=zb1 he
 simp only [E.sz,E.szL] at hsz
 have hc:HpOk (clrL x0l x1l x2l x3l):=HpOk.clr ⟨h0,k0,by omega⟩ _ _ _
 have hz:=hc.sz
 show (E.agg [heapE (clrL x0l x1l x2l x3l),.lst 1 3 none 0 [],.lst 1 65 none 0 [],.lst 6 60 none 0 [],.agg [.str x4,.lst 1 9 x5A x5c x5l],.int .i64 x6,.lst 1 5 x7A x7c x7l,.int .i64 x8,.int .i64 x9,.int .i64 x10,.int .i64 x11,.bool x12]).sz≤1073741824
 simp only [E.sz,E.szL,List.length_nil]
 omega
theorem zi8 {f:FuncId}{ins:List AV}{D:E}(h:Ctr Tryz.prog f ins [] (.ag (owE D)) [])(hD:D.Ty Tryz.prog 42):Ctr Tryz.prog f ins [] (avO D) []:=by
 obtain⟨fs,rfl,-⟩:=hD.agg_ Tryz.underlying42
 exact h
noncomputable def clrP (m:E):E:=liftS (fun q:E=>(q.Ty Tryz.prog 42∧q.d=m)) (fun q=>(clearE q).d) m
noncomputable def clrD (m:E):E:=(clrP m)
theorem zp18 {f:FuncId}(hf:∀{m:E} (_:m.Ty Tryz.prog 42) (_:m.sz≤1048576),Ctr Tryz.prog f [avI m] [] (avO (clearE m)) []){m:E}(hm:m.Ty Tryz.prog 42)(w:World)(im:m.In w)(zm:m.sz≤1048576) :
 Calls Tryz.prog f #[m.val] w fun r w'=>∃x:E,r=.returned (x.val)∧x.d=clrD m.d∧x.Ty Tryz.prog 42∧x.Ho w' w.heap.size w'.heap.size∧x.fp.Nodup∧Below w.heap.size w w':=by
 obtain⟨q,hq,hl⟩:=zm19 (R:=fun q:E=>(q.Ty Tryz.prog 42∧q.d=m.d)) (f:=fun q=>(clearE q).d) (z:=m.d) (a:=m) ⟨hm,rfl⟩
 obtain⟨tm,dm⟩:=hq
 try dsimp only at hl tm dm
 have hc:=hf tm (by rw [←E.sz_d,dm,E.sz_d];exact zm)
 rw [zn19 tm hm dm] at hc
 have hP:clrP m.d=(clearE q).d:=hl
 have hr0:clrD m.d=(clearE q).d:=by unfold clrD;rw [hP]
 rw [hr0]
 exact zd21 (t:=42) (D:=clearE q) hc (zl7 tm (by rw [←E.sz_d,dm,E.sz_d];exact zm)) (us:=[m.val]) (VRL_cons (zd22 hm im) VRL_nil)
theorem ze13 {m:E}(zm:m.sz≤1048576) :(clrD m).sz≤1073741824:=by
 unfold clrD clrP
 refine zn14 (fun r:E=>(r).sz≤1073741824) (fun q hq=>?_) (by show E.sz m≤_;omega)
 show E.sz (E.d _)≤_
 rw [E.sz_d]
 obtain⟨tm,dm⟩:=hq
 exact zo18 tm (by rw [←E.sz_d,dm];exact zm)
theorem zf13 {m:E}(hm:m.Ty Tryz.prog 42)(w:World)(im:m.In w)(zm:m.sz≤1048576) :
 Calls Tryz.prog 5 #[m.val] w fun r w'=>∃x:E,r=.returned (x.val)∧Hid (x.d=clrD m.d)∧x.Ty Tryz.prog 42∧x.Re w' w.heap.size w'.heap.size∧Below w.heap.size w w' :=
 (zp18 (f:=5) (fun hm zm=>by have hcc:=zi8 (zd13 hm zm) (zl7 hm zm);obtain⟨mF,rfl,-⟩:=hm.agg_ Tryz.underlying42;exact hcc) hm w im zm).mono fun _ _ ⟨x,h1,h2,h3,h4,h5,h6⟩=>⟨x,h1,h2,h3,h4.re,h6⟩
theorem zm7 {m:E}(hm:m.Ty Tryz.prog 42)(w:World)(im:m.In w)(zm:m.sz≤1048576) :
 Calls Tryz.prog 7 #[m.val] w fun r w'=>∃x:E,r=.returned (x.val)∧Hid (x.d=clrD m.d)∧x.Ty Tryz.prog 42∧x.Ho w' w.heap.size w'.heap.size∧x.fp.Nodup∧Below w.heap.size w w' :=
 (zp18 (f:=7) (fun hm zm=>by have hcc:=zi8 (zc13 hm zm) (zl7 hm zm);obtain⟨mF,rfl,-⟩:=hm.agg_ Tryz.underlying42;exact hcc) hm w im zm).mono fun _ _ ⟨x,h1,h2,h3,h4,h5,h6⟩=>⟨x,h1,h2,h3,h4,h5,h6⟩
end Go.Proofs.YtfemkmnkofgaaaaGreat
