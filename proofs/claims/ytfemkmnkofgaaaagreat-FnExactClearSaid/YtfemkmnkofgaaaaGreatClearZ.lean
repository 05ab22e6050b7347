/- Clear of the program. Printed by gen_clear2.py. -/
import Derived.Test.YtfemkmnkofgaaaaGreatClearY
namespace Go.Proofs.YtfemkmnkofgaaaaGreat
open Go.RowKit
set_option maxRecDepth 100000
set_option maxHeartbeats 8000000 in
theorem zc13 {e:E}(he:e.Ty Tryz.prog 42)(hsz:e.sz≤1048576):Ctr Tryz.prog 7 [.ag (acE e)] [] (.ag (owE (clearE e))) []:=by
 have cC0:=zl15 he hsz
 obtain⟨x0A,x0c,x0l,x1A,x1c,x1l,x2A,x2c,x2l,x3A,x3c,x3l,x4,x5A,x5c,x5l,x6,x7A,x7c,x7l,x8,x9,x10,x11,x12,rfl,⟨h0,k0⟩,⟨h1,k1⟩,⟨h2,k2⟩,⟨h3,k3⟩,g4,⟨h5,k5⟩,g6,⟨h7,k7⟩,g8,g9,g10,g11,-⟩:=zb1 he
 have cC:Ctr Tryz.prog 26 [.ag [.ro x0l.length 4 (acL x0l),.ro x1l.length 1 (acL x1l),.ro x2l.length 1 (acL x2l),.ro x3l.length 6 (acL x3l),.v (.string x4),.ro x5l.length 1 (acL x5l),.v (.int .i64 x6),.ro x7l.length 1 (acL x7l),.v (.int .i64 x8),.v (.int .i64 x9),.v (.int .i64 x10),.v (.int .i64 x11),.v (.bool x12)]] [] (.ag [.ow 110 x0l.length 4 (owL x0l),.ow 3 x1l.length 1 (owL x1l),.ow 65 x2l.length 1 (owL x2l),.ow 60 x3l.length 6 (owL x3l),.v (.string x4),.ow 9 x5l.length 1 (owL x5l),.v (.int .i64 x6),.ow 5 x7l.length 1 (owL x7l),.v (.int .i64 x8),.v (.int .i64 x9),.v (.int .i64 x10),.v (.int .i64 x11),.v (.bool x12)]) []:=cC0
 clear cC0
 simp only [E.sz,E.szL] at hsz
 have hR:cloL [.ro x1l.length 1 (acL x1l),.ro x2l.length 1 (acL x2l),.ro x3l.length 6 (acL x3l),.v (.string x4),.ow 9 x5l.length 1 (owL x5l),.v (.int .i64 x6),.ow 5 x7l.length 1 (owL x7l),.v (.int .i64 x8),.v (.int .i64 x9),.v (.int .i64 x10),.v (.int .i64 x11),.v (.bool x12)]=true:=by simp [cloL,clo,zj,zn]
 obtain⟨H,H0,Hs,Hl,Hok⟩:=zb3 (f:=frameF) x3l HpOk (l:=x0l) ⟨h0,k0,by omega⟩ (fun a x h=>h.frame x)
 refine zm2 Tryz.func7 rfl rfl ?_
 refine zp ?_
 refine zc fun C=>?_
 repeat' (first|(apply f_wo;first|(apply f_mv;first|refine zt1 (v:=.c _) ?_|refine zf2 ?_)|(apply f_fa;first|refine n_fa ?_|refine zb7 ?_)|(apply f_ld;first|refine zh2 ?_|refine zn4 ?_|refine zu3 ?_|refine zf5 ?_|refine n_ld ?_)|(apply f_bi;first|refine zi2 ?_|refine zp10 ?_|refine zq10 ?_|refine zf2 ?_)|(apply f_st;first|refine n_st ?_|refine zb9 ?_)|(apply f_ia;first|refine n_ix ?_|refine za7 ?_|refine zf2 ?_)|(apply zf3;first|refine zf1 ?_|refine zf2 ?_)|(apply zm3;first|refine zh1 ?_|refine zn17 ?_|refine zf2 ?_)|refine n_al ?_|refine n_bo ?_|refine zf2 ?_)|(apply f_w;first|refine za1 ?_|refine zd ?_))
 refine zp ?_
 refine zc fun C=>?_
 repeat' (first|(apply f_wo;first|(apply f_mv;first|refine zt1 (v:=.c _) ?_|refine zf2 ?_)|(apply f_fa;first|refine n_fa ?_|refine zb7 ?_)|(apply f_ld;first|refine zh2 ?_|refine zn4 ?_|refine zu3 ?_|refine zf5 ?_|refine n_ld ?_)|(apply f_ca;first|refine zv7 cC ?_|refine zq14 cC ?_)|(apply f_bi;first|refine zi2 ?_|refine zp10 ?_|refine zq10 ?_|refine zf2 ?_)|(apply f_st;first|refine n_st ?_|refine zb9 ?_)|(apply f_ia;first|refine n_ix ?_|refine za7 ?_|refine zf2 ?_)|(apply zf3;first|refine zf1 ?_|refine zf2 ?_)|(apply zm3;first|refine zh1 ?_|refine zn17 ?_|refine zf2 ?_)|refine n_al ?_|refine n_bo ?_|refine zf2 ?_)|(apply f_w;first|refine za1 ?_|refine zd ?_))
 refine zk2 (ze3 (i:=3) (j:=1200) rfl rfl rfl (pre:=[]) (post:=[_,_,_,_,_,_,_,_,_,_,_,_]) rfl) ?_
 refine zk2 (ze3 (i:=3) (j:=1201) rfl rfl rfl (pre:=[_]) (post:=[_,_,_,_,_,_,_,_,_,_,_]) rfl) ?_
 refine zk2 (ze3 (i:=3) (j:=1202) rfl rfl rfl (pre:=[_,_]) (post:=[_,_,_,_,_,_,_,_,_,_]) rfl) ?_
 refine zk2 (ze3 (i:=3) (j:=1203) rfl rfl rfl (pre:=[_,_,_]) (post:=[_,_,_,_,_,_,_,_,_]) rfl) ?_
 refine zk2 (ze3 (i:=3) (j:=1204) rfl rfl rfl (pre:=[_,_,_,_,_]) (post:=[_,_,_,_,_,_,_]) rfl) ?_
 refine zk2 (ze3 (i:=3) (j:=1205) rfl rfl rfl (pre:=[_,_,_,_,_,_,_]) (post:=[_,_,_,_,_]) rfl) ?_
 refine zk2 (zo22 (i:=3) (pre:=[_]) (mid:=[_,_,_]) (mid':=[.ro x1l.length 1 (acL x1l),.ro x2l.length 1 (acL x2l),.ro x3l.length 6 (acL x3l)]) (post:=[_,_,_,_,_,_,_,_,_]) rfl rfl (by simp only [fzL,fzC,zj7]) rfl) ?_
 repeat' (first|(apply f_wo;first|(apply f_mv;refine zt1 (v:=.c _) ?_)|(apply f_fa;refine n_fa ?_)|(apply f_ld;refine zh2 ?_)|(apply f_bi;refine zi2 ?_))|(apply f_w;first|refine za1 ?_|refine zd ?_)|refine zc fun C=>?_|refine zp ?_|refine zw ?_)
 refine zw1 (fun k:Nat=>⟨tmsF [(2,.c (.pt 2 0)),(3,.c (.pt 3 0)),(13,.c (.ro x3l.length 6 (acL x3l))),(14,.c (.v (.int .i64 x3l.length))),(15,.c (.v (.int .i64 k)))],hpsF [(2,2,⟨42,0,0,true,[.v (.slice none 0 0),.v (.slice none 0 0),.v (.slice none 0 0),.v (.slice none 0 0),.v (.string ByteArray.empty),.v (.slice none 0 0),.v (.int .i64 0),.v (.slice none 0 0),.v (.int .i64 0),.v (.int .i64 0),.v (.int .i64 0),.v (.int .i64 0),.v (.bool false)]⟩),(3,3,⟨42,0,0,true,.ow 110 (H k).length 4 (owL (H k)) :: [.ro x1l.length 1 (acL x1l),.ro x2l.length 1 (acL x2l),.ro x3l.length 6 (acL x3l),.v (.string x4),.ow 9 x5l.length 1 (owL x5l),.v (.int .i64 x6),.ow 5 x7l.length 1 (owL x7l),.v (.int .i64 x8),.v (.int .i64 x9),.v (.int .i64 x10),.v (.int .i64 x11),.v (.bool x12)]⟩)],0,[2,3],51⟩)
  (fun N k=>k+N=x3l.length) x3l.length 0 (by omega) ?_ ?_
 ·try dsimp only
  rw [H0]
  (refine zm1 _ _ rfl rfl ?_ ?_<;>(repeat' (first|exact TmOk.nil|exact RwOk.nil|refine TmOk.cons ?_ ?_|refine RwOk.cons ?_ ?_|rfl|(refine rnV_id' rfl ?_;exact byc)|(refine zu1 ?_;first|rfl|omega|(rw [zy (by omega) (by omega)];omega))|(refine zr rfl ?_;exact byc)|exact zj2 rfl rfl|(refine zv1 (by rfl) (by rfl) ?_ ?_<;>exact byc)|(refine rw_rn' rfl rfl ?_;simp;done))))
 rintro N k hN
 try dsimp only
 repeat' (first|(apply f_wo;(apply zf3;refine zf1 ?_))|(apply f_w;first|refine za1 ?_|refine zd ?_)|refine zc fun C=>?_|refine zp ?_)
 refine zj1 (by rfl) (fun hk'=>?_) fun hk'=>?_
 ·have hlt:k<x3l.length:=by simpa using hk'
  obtain⟨x,hx⟩:∃x,x3l[k]? = some x:=⟨_,List.getElem?_eq_getElem hlt⟩
  have hHs:=Hs k x hx
  have hxz:=E.szL_mem (List.mem_of_getElem? hx)
  have hxt:=h3 x (List.mem_of_getElem? hx)
  have c7:=zk15 hR (Hok k) hxt (by omega)
  rw [hHs] at c7
  obtain⟨y0,y1,y2A,y2c,loc,y3A,y3c,stk,y4A,y4c,lab,y5A,y5c,its,rfl,-,-,⟨q2,r2⟩,⟨q3,r3⟩,⟨q4,r4⟩,⟨q5,r5⟩,-⟩:=zd1 hxt
  have c8:Ctr Tryz.prog 27 [.c (.pt 0 0),.ag [.v (.int .i64 y0),.v (.int .i64 y1),.ro loc.length 1 (acL loc),.ro stk.length 2 (acL stk),.ro lab.length 5 (acL lab),.ro its.length 2 (acL its)]] [.ow 110 (H k).length 4 (owL (H k)) :: [.ro x1l.length 1 (acL x1l),.ro x2l.length 1 (acL x2l),.ro x3l.length 6 (acL x3l),.v (.string x4),.ow 9 x5l.length 1 (owL x5l),.v (.int .i64 x6),.ow 5 x7l.length 1 (owL x7l),.v (.int .i64 x8),.v (.int .i64 x9),.v (.int .i64 x10),.v (.int .i64 x11),.v (.bool x12)]] (.tu []) [.ow 110 (H (k+1)).length 4 (owL (H (k+1))) :: [.ro x1l.length 1 (acL x1l),.ro x2l.length 1 (acL x2l),.ro x3l.length 6 (acL x3l),.v (.string x4),.ow 9 x5l.length 1 (owL x5l),.v (.int .i64 x6),.ow 5 x7l.length 1 (owL x7l),.v (.int .i64 x8),.v (.int .i64 x9),.v (.int .i64 x10),.v (.int .i64 x11),.v (.bool x12)]]:=c7
  have hcl:=zc1 (T:=110) (n:=(H k).length) (k:=4) (l:=H k) hR
  have hcl2:=zc1 (T:=110) (n:=(H (k+1)).length) (k:=4) (l:=H (k+1)) hR
  repeat' (first|(apply f_wo;first|(apply f_mv;refine zt1 (v:=.c _) ?_)|(apply f_fa;refine n_fa ?_)|(apply f_ld;first|refine zu3 ?_|refine zf5 ?_)|(apply f_ca;refine zb6 3 (c8) ?_ (hl:=zr4 (by rfl) hcl))|(apply f_st;refine n_st ?_)|(apply f_ia;refine n_ix ?_)|(apply zm3;refine zh1 ?_)|refine n_al ?_)|(apply f_w;first|refine za1 ?_|refine zd ?_)|refine zc fun C=>?_|refine zp ?_|refine zw ?_|refine zl1 ?_)
  refine⟨N-1,k+1,by omega,by omega,?_⟩
  (refine zm1 _ _ rfl rfl ?_ ?_<;>(repeat' (first|exact TmOk.nil|exact RwOk.nil|refine TmOk.cons ?_ ?_|refine RwOk.cons ?_ ?_|rfl|exact zr rfl (by assumption)|(refine rnV_id' rfl ?_;exact byc)|(refine zu1 ?_;first|rfl|omega|(rw [zy (by omega) (by omega)];omega))|(refine zr rfl ?_;exact byc)|exact zj2 rfl rfl|(refine zv1 (by rfl) (by rfl) ?_ ?_<;>exact byc)|(refine rw_rn' rfl rfl ?_;simp;done))))
 obtain rfl:k=x3l.length:=by have h9:¬k<x3l.length:=(by simpa using hk');omega
 have okA:=(Hok x3l.length).letAll x1l
 have cA:=zv9 hR (Hok x3l.length) h1 k1 (by omega)
 have hclA:=zc1 (T:=110) (n:=(H x3l.length).length) (k:=4) (l:=H x3l.length) hR
 obtain⟨D,D0,Ds,Dl,Dok⟩:=zb3 (f:=tabF) x2l HpOk (l:=letAllE (H x3l.length) x1l) okA (fun a x h=>h.tab x)
 repeat' (first|(apply f_wo;first|(apply f_mv;refine zt1 (v:=.c _) ?_)|(apply f_fa;refine n_fa ?_)|(apply f_ld;refine zh2 ?_)|(apply f_ca;refine zb6 3 (cA) ?_ (hl:=zr4 (by rfl) hclA))|(apply f_bi;refine zi2 ?_))|(apply f_w;first|refine za1 ?_|refine zd ?_)|refine zc fun C=>?_|refine zp ?_|refine zw ?_|refine zy1 ?_)
 refine zw1 (fun k:Nat=>⟨tmsF [(2,.c (.pt 2 0)),(3,.c (.pt 3 0)),(28,.c (.ro x2l.length 1 (acL x2l))),(29,.c (.v (.int .i64 x2l.length))),(30,.c (.v (.int .i64 k)))],hpsF [(2,2,⟨42,0,0,true,[.v (.slice none 0 0),.v (.slice none 0 0),.v (.slice none 0 0),.v (.slice none 0 0),.v (.string ByteArray.empty),.v (.slice none 0 0),.v (.int .i64 0),.v (.slice none 0 0),.v (.int .i64 0),.v (.int .i64 0),.v (.int .i64 0),.v (.int .i64 0),.v (.bool false)]⟩),(3,3,⟨42,0,0,true,.ow 110 (D k).length 4 (owL (D k)) :: [.ro x1l.length 1 (acL x1l),.ro x2l.length 1 (acL x2l),.ro x3l.length 6 (acL x3l),.v (.string x4),.ow 9 x5l.length 1 (owL x5l),.v (.int .i64 x6),.ow 5 x7l.length 1 (owL x7l),.v (.int .i64 x8),.v (.int .i64 x9),.v (.int .i64 x10),.v (.int .i64 x11),.v (.bool x12)]⟩)],0,[2,3],51⟩)
  (fun N k=>k+N=x2l.length) x2l.length 0 (by omega) ?_ ?_
 ·try dsimp only
  rw [D0]
  have hcl:=zc1 (T:=110) (n:=(letAllE (H x3l.length) x1l).length) (k:=4) (l:=letAllE (H x3l.length) x1l) hR
  (refine zm1 _ _ rfl rfl ?_ ?_<;>(repeat' (first|exact TmOk.nil|exact RwOk.nil|refine TmOk.cons ?_ ?_|refine RwOk.cons ?_ ?_|rfl|exact zr rfl (by assumption)|(refine rnV_id' rfl ?_;exact byc)|(refine zu1 ?_;first|rfl|omega|(rw [zy (by omega) (by omega)];omega))|(refine zr rfl ?_;exact byc)|exact zj2 rfl rfl|(refine zv1 (by rfl) (by rfl) ?_ ?_<;>exact byc)|(refine rw_rn' rfl rfl ?_;simp;done))))
 rintro N k hN
 try dsimp only
 repeat' (first|(apply f_wo;(apply zf3;refine zf1 ?_))|(apply f_w;first|refine za1 ?_|refine zd ?_)|refine zc fun C=>?_|refine zp ?_)
 refine zj1 (by rfl) (fun hk'=>?_) fun hk'=>?_
 ·have hlt:k<x2l.length:=by simpa using hk'
  obtain⟨x,hx⟩:∃x,x2l[k]? = some x:=⟨_,List.getElem?_eq_getElem hlt⟩
  have hDs:=Ds k x hx
  have hxz:=E.szL_mem (List.mem_of_getElem? hx)
  obtain⟨tA,tc,es,rfl,⟨hes,he2⟩,-⟩:=zk1 (h2 x (List.mem_of_getElem? hx))
  simp only [E.sz,E.szL] at hxz
  obtain⟨G,G0,Gs,Gl,Gok⟩:=zb3 (f:=refF) es HpOk (l:=D k) (Dok k) (fun a x h=>h.ref x)
  have Gl':G es.length=D (k+1):=Gl.trans hDs
  repeat' (first|(apply f_wo;first|(apply f_mv;refine zt1 (v:=.c _) ?_)|(apply f_fa;refine n_fa ?_)|(apply f_ld;first|refine zh2 ?_|refine zu3 ?_)|(apply f_bi;refine zi2 ?_)|(apply f_st;refine n_st ?_)|(apply f_ia;refine n_ix ?_)|refine n_al ?_)|(apply f_w;first|refine za1 ?_|refine zd ?_)|refine zc fun C=>?_|refine zp ?_|refine zw ?_|refine zl1 ?_)
  refine zw1 (fun m:Nat=>⟨tmsF [(2,.c (.pt 2 0)),(3,.c (.pt 3 0)),(28,.c (.ro x2l.length 1 (acL x2l))),(29,.c (.v (.int .i64 x2l.length))),(30,.c (.v (.int .i64 k))),(35,.c (.ro es.length 2 (acL es))),(36,.c (.v (.int .i64 es.length))),(37,.c (.v (.int .i64 m)))],hpsF [(2,2,⟨42,0,0,true,[.v (.slice none 0 0),.v (.slice none 0 0),.v (.slice none 0 0),.v (.slice none 0 0),.v (.string ByteArray.empty),.v (.slice none 0 0),.v (.int .i64 0),.v (.slice none 0 0),.v (.int .i64 0),.v (.int .i64 0),.v (.int .i64 0),.v (.int .i64 0),.v (.bool false)]⟩),(3,3,⟨42,0,0,true,.ow 110 (G m).length 4 (owL (G m)) :: [.ro x1l.length 1 (acL x1l),.ro x2l.length 1 (acL x2l),.ro x3l.length 6 (acL x3l),.v (.string x4),.ow 9 x5l.length 1 (owL x5l),.v (.int .i64 x6),.ow 5 x7l.length 1 (owL x7l),.v (.int .i64 x8),.v (.int .i64 x9),.v (.int .i64 x10),.v (.int .i64 x11),.v (.bool x12)]⟩)],0,[2,3],51⟩)
   (fun M m=>m+M=es.length) es.length 0 (by omega) ?_ ?_
  ·try dsimp only
   rw [G0]
   have hcl:=zc1 (T:=110) (n:=(D k).length) (k:=4) (l:=D k) hR
   (refine zm1 _ _ rfl rfl ?_ ?_<;>(repeat' (first|exact TmOk.nil|exact RwOk.nil|refine TmOk.cons ?_ ?_|refine RwOk.cons ?_ ?_|rfl|exact zr rfl (by assumption)|(refine rnV_id' rfl ?_;exact byc)|(refine zu1 ?_;first|rfl|omega|(rw [zy (by omega) (by omega)];omega))|(refine zr rfl ?_;exact byc)|exact zj2 rfl rfl|(refine zv1 (by rfl) (by rfl) ?_ ?_<;>exact byc)|(refine rw_rn' rfl rfl ?_;simp;done))))
  rintro M m hM
  try dsimp only
  repeat' (first|(apply f_wo;(apply zf3;refine zf1 ?_))|(apply f_w;first|refine za1 ?_|refine zd ?_)|refine zc fun C=>?_|refine zp ?_)
  refine zj1 (by rfl) (fun hm'=>?_) fun hm'=>?_
  ·have hlt':m<es.length:=by simpa using hm'
   obtain⟨y,hy⟩:∃y,es[m]? = some y:=⟨_,List.getElem?_eq_getElem hlt'⟩
   have hGs:=Gs m y hy
   obtain⟨ss,z,rfl,-⟩:=zp1 (hes y (List.mem_of_getElem? hy))
   have c8:Ctr Tryz.prog 29 [.c (.pt 0 0),.c (.v (.int .i64 z))] [.ow 110 (G m).length 4 (owL (G m)) :: [.ro x1l.length 1 (acL x1l),.ro x2l.length 1 (acL x2l),.ro x3l.length 6 (acL x3l),.v (.string x4),.ow 9 x5l.length 1 (owL x5l),.v (.int .i64 x6),.ow 5 x7l.length 1 (owL x7l),.v (.int .i64 x8),.v (.int .i64 x9),.v (.int .i64 x10),.v (.int .i64 x11),.v (.bool x12)]] (.tu []) [.ow 110 (G (m+1)).length 4 (owL (G (m+1))) :: [.ro x1l.length 1 (acL x1l),.ro x2l.length 1 (acL x2l),.ro x3l.length 6 (acL x3l),.v (.string x4),.ow 9 x5l.length 1 (owL x5l),.v (.int .i64 x6),.ow 5 x7l.length 1 (owL x7l),.v (.int .i64 x8),.v (.int .i64 x9),.v (.int .i64 x10),.v (.int .i64 x11),.v (.bool x12)]]:=by rw [←hGs];exact za18 hR (Gok m).ty (Gok m).sz z
   have hcl:=zc1 (T:=110) (n:=(G m).length) (k:=4) (l:=G m) hR
   have hcl2:=zc1 (T:=110) (n:=(G (m+1)).length) (k:=4) (l:=G (m+1)) hR
   repeat' (first|(apply f_wo;first|(apply f_mv;refine zt1 (v:=.c _) ?_)|(apply f_fa;refine n_fa ?_)|(apply f_ld;first|refine zh2 ?_|refine zu3 ?_)|(apply f_ca;refine zb6 3 (c8) ?_ (hl:=zr4 (by rfl) hcl))|(apply f_st;refine n_st ?_)|(apply f_ia;refine n_ix ?_)|(apply zm3;refine zh1 ?_)|refine n_al ?_)|(apply f_w;first|refine za1 ?_|refine zd ?_)|refine zc fun C=>?_|refine zp ?_|refine zw ?_|refine zl1 ?_)
   refine⟨M-1,m+1,by omega,by omega,?_⟩
   (refine zm1 _ _ rfl rfl ?_ ?_<;>(repeat' (first|exact TmOk.nil|exact RwOk.nil|refine TmOk.cons ?_ ?_|refine RwOk.cons ?_ ?_|rfl|exact zr rfl (by assumption)|(refine rnV_id' rfl ?_;exact byc)|(refine zu1 ?_;first|rfl|omega|(rw [zy (by omega) (by omega)];omega))|(refine zr rfl ?_;exact byc)|exact zj2 rfl rfl|(refine zv1 (by rfl) (by rfl) ?_ ?_<;>exact byc)|(refine rw_rn' rfl rfl ?_;simp;done))))
  obtain rfl:m=es.length:=by have h9:¬m<es.length:=(by simpa using hm');omega
  rw [Gl']
  have hcl:=zc1 (T:=110) (n:=(D (k+1)).length) (k:=4) (l:=D (k+1)) hR
  repeat' (first|(apply f_wo;first|(apply f_mv;refine zt1 (v:=.c _) ?_)|(apply zm3;refine zh1 ?_))|(apply f_w;first|refine za1 ?_|refine zd ?_)|refine zc fun C=>?_|refine zy1 ?_)
  refine⟨N-1,k+1,by omega,by omega,?_⟩
  (refine zm1 _ _ rfl rfl ?_ ?_<;>(repeat' (first|exact TmOk.nil|exact RwOk.nil|refine TmOk.cons ?_ ?_|refine RwOk.cons ?_ ?_|rfl|exact zr rfl (by assumption)|(refine rnV_id' rfl ?_;exact byc)|(refine zu1 ?_;first|rfl|omega|(rw [zy (by omega) (by omega)];omega))|(refine zr rfl ?_;exact byc)|exact zj2 rfl rfl|(refine zv1 (by rfl) (by rfl) ?_ ?_<;>exact byc)|(refine rw_rn' rfl rfl ?_;simp;done))))
 obtain rfl:k=x2l.length:=by have h9:¬k<x2l.length:=(by simpa using hk');omega
 have hE:D x2l.length=clrL x0l x1l x2l x3l:=by rw [Dl,Hl];rfl
 rw [hE]
 refine zy1 ?_
 refine zp ?_
 refine zc fun C=>?_
 repeat' (first|(apply f_wo;first|(apply f_mv;first|refine zt1 (v:=.c _) ?_|refine zf2 ?_)|(apply f_fa;first|refine n_fa ?_|refine zb7 ?_)|(apply f_ld;first|refine zh2 ?_|refine zn4 ?_|refine zu3 ?_|refine zf5 ?_|refine n_ld ?_)|(apply f_bi;first|refine zi2 ?_|refine zp10 ?_|refine zq10 ?_|refine zf2 ?_)|(apply f_st;first|refine n_st ?_|refine zb9 ?_)|(apply f_ia;first|refine n_ix ?_|refine za7 ?_|refine zf2 ?_)|(apply zf3;first|refine zf1 ?_|refine zf2 ?_)|(apply zm3;first|refine zh1 ?_|refine zn17 ?_|refine zf2 ?_)|refine n_al ?_|refine n_bo ?_|refine zf2 ?_)|(apply f_w;first|refine za1 ?_|refine zd ?_))
 refine zk2 (zu8 710 (i:=3) 3 1 rfl rfl (pre:=[_]) (post:=[_,_,_,_,_,_,_,_,_,_,_]) rfl) ?_
 refine zk2 (zu8 711 (i:=3) 65 1 rfl rfl (pre:=[_,_]) (post:=[_,_,_,_,_,_,_,_,_,_]) rfl) ?_
 refine zk2 (zu8 712 (i:=3) 60 6 rfl rfl (pre:=[_,_,_]) (post:=[_,_,_,_,_,_,_,_,_]) rfl) ?_
 refine zk2 (zt7 700 (i:=3) rfl rfl (pre:=[]) (post:=[_,_,_,_,_,_,_,_,_,_,_,_]) rfl) ?_
 refine zk2 (zt7 701 (i:=3) rfl rfl (pre:=[_,_,_,_,_]) (post:=[_,_,_,_,_,_,_]) rfl) ?_
 refine zk2 (zt7 702 (i:=3) rfl rfl (pre:=[_,_,_,_,_,_,_]) (post:=[_,_,_,_,_]) rfl) ?_
 repeat' (first|(apply f_wo;first|(apply f_ld;refine zf5 ?_)|(apply f_st;refine n_st ?_))|(apply f_w;first|refine za1 ?_|refine zd ?_)|refine zc fun C=>?_|refine zp ?_)
 refine zo2 ?_;refine ret0 rfl (zj5 (zc2 rfl rfl rfl (by first|exact zj _|exact zn _|exact bytC_clo _|(simp [cloL,clo,zj,zn,zv,zu,zq];done)|(simp [cloL,clo,opC,opL,zj,zn,zv,zu,zq];done)) (zc2 rfl rfl rfl (by first|exact zj _|exact zn _|exact bytC_clo _|(simp [cloL,clo,zj,zn,zv,zu,zq];done)|(simp [cloL,clo,opC,opL,zj,zn,zv,zu,zq];done)) (zc2 rfl rfl rfl (by first|exact zj _|exact zn _|exact bytC_clo _|(simp [cloL,clo,zj,zn,zv,zu,zq];done)|(simp [cloL,clo,opC,opL,zj,zn,zv,zu,zq];done)) (zc2 rfl rfl rfl (by first|exact zj _|exact zn _|exact bytC_clo _|(simp [cloL,clo,zj,zn,zv,zu,zq];done)|(simp [cloL,clo,opC,opL,zj,zn,zv,zu,zq];done)) (zu2 rfl (zc2 rfl rfl rfl (by first|exact zj _|exact zn _|exact bytC_clo _|(simp [cloL,clo,zj,zn,zv,zu,zq];done)|(simp [cloL,clo,opC,opL,zj,zn,zv,zu,zq];done)) (zu2 rfl (zc2 rfl rfl rfl (by first|exact zj _|exact zn _|exact bytC_clo _|(simp [cloL,clo,zj,zn,zv,zu,zq];done)|(simp [cloL,clo,opC,opL,zj,zn,zv,zu,zq];done)) (zu2 rfl (zu2 rfl (zu2 rfl (zu2 rfl (zu2 rfl zx3)))))))))))))) ⟨?_,rfl⟩
 rfl
section
variable {ops:Array Oper}{Q:Exit→Act→World→Prop}{C:Ctx}{H:List (Nat×Oper×Inf)}{i:Nat}{r:List Nat}{dr:Bool}
variable {tm:Nat→AV}{hp:Nat→Option Row}{gn L:Nat}{us:List Nat}
theorem ze23 {ty:TypeId}{gd:Option (Nat×Bool)}{bT:TypeId}{parts:Array (Nat×Operand)}{ps:String}{af:Array Edge}{t:Nat}(cells:List AC)(h:Walk Tryz.prog ops Q C dr (keepH dr (i,(⟨some t,.build bT parts,ty,ps,af,gd⟩:Oper),⟨fpO (AS.ev ⟨tm,hp,gn,us,L⟩) (⟨some t,.build bT parts,ty,ps,af,gd⟩:Oper),[],[],.ag cells⟩) H) r ⟨upd tm t (.ag cells),hp,gn,us,L⟩)(ht:Nat.blt t L=true:=by exact rfl)(hg:gw ops tm (⟨some t,.build bT parts,ty,ps,af,gd⟩:Oper)=some true:=by exact rfl)(he:EffD Tryz.prog (⟨some t,.build bT parts,ty,ps,af,gd⟩:Oper) (AS.ev ⟨tm,hp,gn,us,L⟩) hp 0=some (.ag cells,.nop):=by kernel_rfl)(hc:chk dr ops i (⟨some t,.build bT parts,ty,ps,af,gd⟩:Oper) ⟨fpO (AS.ev ⟨tm,hp,gn,us,L⟩) (⟨some t,.build bT parts,ty,ps,af,gd⟩:Oper),[],[],.ag cells⟩ H=true:=by first|(with_reducible exact zr1)|kernel_rfl):WalkO Tryz.prog ops Q C dr H i (⟨some t,.build bT parts,ty,ps,af,gd⟩:Oper) r ⟨tm,hp,gn,us,L⟩:=zo3 (x:=.ag cells) (h:=h) (ht:=ht) (hg:=hg) (he:=he) (hc:=hc)
end
set_option maxHeartbeats 8000000 in
theorem zn18 {e:E}(he:e.Ty Tryz.prog 42)(hsz:e.sz≤1048576):Ctr Tryz.prog 17 [.ag (acE e)] [] (.ag (owE e)) []:=by
 obtain⟨x0A,x0c,x0l,x1A,x1c,x1l,x2A,x2c,x2l,x3A,x3c,x3l,x4,x5A,x5c,x5l,x6,x7A,x7c,x7l,x8,x9,x10,x11,x12,rfl,⟨h0,k0⟩,⟨h1,k1⟩,⟨h2,k2⟩,⟨h3,k3⟩,g4,⟨h5,k5⟩,g6,⟨h7,k7⟩,g8,g9,g10,g11,-⟩:=zb1 he
 simp only [E.sz,E.szL] at hsz
 have cH:Ctr Tryz.prog 52 [.ag [.ro x0l.length 4 (acL x0l)]] [] (.ag [.ow 110 x0l.length 4 (owL x0l)]) []:=zx17 (e:=heapE x0l) (HpOk.ty ⟨h0,k0,by omega⟩) (HpOk.sz ⟨h0,k0,by omega⟩)
 have cR:Ctr Tryz.prog 53 [.ag [.v (.string x4),.ro x5l.length 1 (acL x5l)]] [] (.ag [.v (.string x4),.ow 9 x5l.length 1 (owL x5l)]) []:=zk18 (e:=.agg [.str x4,.lst 1 9 none 0 x5l]) (zm18 g4 h5 k5) (by simp only [E.sz,E.szL];omega)
 refine zm2 Tryz.func17 rfl rfl ?_
 repeat' (first|(apply d_wo;refine ze23 [.sl 900 x0l.length,.sl 12 x1l.length,.v (.slice none 0 0),.v (.slice none 0 0),.v (.string x4),.sl 1600 x5l.length,.v (.int .i64 x6),.sl 21 x7l.length,.v (.int .i64 x8),.v (.int .i64 x9),.v (.int .i64 x10),.v (.int .i64 x11),.v (.bool x12)] ?_)|(apply f_wo;first|(apply f_as;refine zp2 (v:=.c _) ?_)|refine n_al ?_|refine n_bo ?_)|(apply f_w;first|refine za1 ?_|refine zd ?_)|(apply d_wo;first|(apply d_fa;refine o_fa ?_)|(apply d_ld;first|refine zx4 ?_|refine zo3 ?_)|(apply d_ca;first|refine ze12 cH ?_|refine ze12 cR ?_)|(apply d_bi;refine zy8 ?_)|(apply d_st;refine o_st ?_)|refine o_al ?_|refine o_bs ?_)|(apply d_w;first|refine za1 ?_|refine zd ?_)|refine zc fun C=>?_|refine zq1 (by kernel_rfl) (by kernel_rfl) fun C=>?_|refine zp ?_|refine zw ?_)
 refine zw1 (fun k:Nat=>⟨tmsF [(1,.c (.pt 1 0)),(2,.c (.pt 2 0)),(3,.c (.pt 3 0)),(4,.c (.v (.int .i64 k)))],hpsF [(2,2,⟨42,0,0,true,[.v (.slice none 0 0),.v (.slice none 0 0),.v (.slice none 0 0),.v (.slice none 0 0),.v (.string ByteArray.empty),.v (.slice none 0 0),.v (.int .i64 0),.v (.slice none 0 0),.v (.int .i64 0),.v (.int .i64 0),.v (.int .i64 0),.v (.int .i64 0),.v (.bool false)]⟩),(3,3,⟨42,0,0,true,[.sl 900 x0l.length,.sl 12 x1l.length,.sl 800 k,.sl 801 0,.v (.string x4),.sl 1600 x5l.length,.v (.int .i64 x6),.sl 21 x7l.length,.v (.int .i64 x8),.v (.int .i64 x9),.v (.int .i64 x10),.v (.int .i64 x11),.v (.bool x12)]⟩),(900,900,⟨110,4,x0l.length,false,owL x0l⟩),(12,12,⟨3,1,x1l.length,false,acL x1l⟩),(800,800,⟨65,1,k,false,owL (x2l.take k)⟩),(801,801,⟨60,6,0,false,[]⟩),(1600,1600,⟨9,1,x5l.length,false,owL x5l⟩),(21,21,⟨5,1,x7l.length,false,acL x7l⟩),(1,1,⟨42,0,0,true,[.ro x0l.length 4 (acL x0l),.ro x1l.length 1 (acL x1l),.ro x2l.length 1 (acL x2l),.ro x3l.length 6 (acL x3l),.v (.string x4),.ro x5l.length 1 (acL x5l),.v (.int .i64 x6),.ro x7l.length 1 (acL x7l),.v (.int .i64 x8),.v (.int .i64 x9),.v (.int .i64 x10),.v (.int .i64 x11),.v (.bool x12)]⟩)],0,[2,3,900,12,800,801,1600,21,1],73⟩)
  (fun N k=>k+N=x2l.length) x2l.length 0 (by omega) ?_ ?_
 ·refine (zu8 800 (i:=3) 65 1 rfl rfl (pre:=[_,_]) (post:=[_,_,_,_,_,_,_,_,_,_]) rfl).trans ?_
  refine (zu8 801 (i:=3) 60 6 rfl rfl (pre:=[_,_,_]) (post:=[_,_,_,_,_,_,_,_,_]) rfl).trans ?_
  (refine zm1 _ _ rfl rfl ?_ ?_<;>(repeat' (first|exact TmOk.nil|exact RwOk.nil|refine TmOk.cons ?_ ?_|refine RwOk.cons ?_ ?_|rfl|exact zr rfl (by assumption)|(refine rnV_id' rfl ?_;exact byc)|(refine zu1 ?_;first|rfl|omega|(rw [zy (by omega) (by omega)];omega))|(refine zr rfl ?_;exact byc)|exact zj2 rfl rfl|(refine zv1 (by rfl) (by rfl) ?_ ?_<;>exact byc)|(refine rw_rn' rfl rfl ?_;simp;done))))
 rintro N k hN
 try dsimp only
 repeat' (first|(apply f_wo;first|(apply f_mv;refine zt1 (v:=.c _) ?_)|(apply f_fa;refine n_fa ?_)|(apply f_ld;refine zh2 ?_)|(apply f_bi;refine zi2 ?_)|(apply zf3;refine zf1 ?_))|(apply f_w;first|refine za1 ?_|refine zd ?_)|refine zc fun C=>?_|refine zp ?_)
 refine zj1 (by rfl) (fun hC=>?_) fun hC=>?_
 ·have hk':k<x2l.length:=by simpa using hC
  obtain⟨x,hx⟩:∃x,x2l[k]? = some x:=⟨_,List.getElem?_eq_getElem hk'⟩
  have hxz:=E.szL_mem (List.mem_of_getElem? hx)
  obtain⟨kA,kc,ks,rfl,⟨hks,hk1⟩,-⟩:=zk1 (h2 x (List.mem_of_getElem? hx))
  simp only [E.sz,E.szL] at hxz
  repeat' (first|(apply f_wo;first|(apply f_mv;refine zt1 (v:=.c _) ?_)|(apply f_as;refine zp2 (v:=.c _) ?_)|(apply zm3;refine zh1 ?_))|(apply f_w;first|refine za1 ?_|refine zd ?_)|(apply d_wo;first|(apply d_mv;refine zo3 ?_)|(apply d_fa;first|refine o_fa ?_|refine zp19 ?_)|(apply d_ld;first|refine zx4 ?_|refine zy6 ?_)|(apply d_bi;refine zy8 ?_)|(apply d_st;refine o_st ?_)|(apply d_ia;refine o_ix ?_)|refine o_bs ?_|refine zo3 ?_)|(apply d_w;first|refine za1 ?_|refine zd ?_)|refine zc fun C=>?_|refine zq1 (by kernel_rfl) (by kernel_rfl) fun C=>?_|refine zp ?_|refine zw ?_|refine zl1 ?_)
  refine⟨N-1,k+1,by omega,by omega,?_⟩
  refine (ze3 (i:=52) (j:=49) rfl rfl rfl (pre:=(owL (x2l.take k))) (post:=[]) (by first|rfl|(simp;done)|(simp [ld];done)|(simp [ld,opL,opC];done))).trans ?_
  (refine zf8 (fun j=>if j=800 then 52 else j) _ _ rfl rfl ?_ ?_<;>(repeat' (first|exact TmOk.nil|exact RwOk.nil|refine TmOk.cons ?_ ?_|refine RwOk.cons ?_ ?_|rfl|(refine rnV_id' rfl ?_;exact byc)|(refine zu1 ?_;first|rfl|omega|(rw [zy (by omega) (by omega)];omega))|(refine zr rfl ?_;exact byc)|exact zj2 rfl rfl|(refine zv1 (by rfl) (by rfl) ?_ ?_<;>exact byc)|(refine rw_rn' rfl rfl ?_;simp;done))))
  exact zm14 (r:=⟨65,1,k+1,false,(owL (x2l.take k))++.ow 67 ks.length 2 (acL ks) :: []⟩) rfl (by rw [zq2 hx];simp [owE,owL,zk7 hks]) (by first|rfl|(simp [cloV,cloL,clo,zu,zn,zv,zj,zq];done))
 obtain rfl:k=x2l.length:=by have h9:¬k<x2l.length:=(by simpa using hC);omega
 repeat' (first|(apply f_wo;(apply f_as;refine zp2 (v:=.c _) ?_))|(apply f_w;first|refine za1 ?_|refine zd ?_)|refine zc fun C=>?_|refine zp ?_|refine zw ?_|refine zy1 ?_)
 refine zw1 (fun k:Nat=>⟨tmsF [(1,.c (.pt 1 0)),(2,.c (.pt 2 0)),(3,.c (.pt 3 0)),(5,.c (.v (.int .i64 k)))],hpsF [(2,2,⟨42,0,0,true,[.v (.slice none 0 0),.v (.slice none 0 0),.v (.slice none 0 0),.v (.slice none 0 0),.v (.string ByteArray.empty),.v (.slice none 0 0),.v (.int .i64 0),.v (.slice none 0 0),.v (.int .i64 0),.v (.int .i64 0),.v (.int .i64 0),.v (.int .i64 0),.v (.bool false)]⟩),(3,3,⟨42,0,0,true,[.sl 900 x0l.length,.sl 12 x1l.length,.sl 800 x2l.length,.sl 801 k,.v (.string x4),.sl 1600 x5l.length,.v (.int .i64 x6),.sl 21 x7l.length,.v (.int .i64 x8),.v (.int .i64 x9),.v (.int .i64 x10),.v (.int .i64 x11),.v (.bool x12)]⟩),(900,900,⟨110,4,x0l.length,false,owL x0l⟩),(12,12,⟨3,1,x1l.length,false,acL x1l⟩),(800,800,⟨65,1,x2l.length,false,owL (x2l.take x2l.length)⟩),(801,801,⟨60,6,k,false,owL (x3l.take k)⟩),(1600,1600,⟨9,1,x5l.length,false,owL x5l⟩),(21,21,⟨5,1,x7l.length,false,acL x7l⟩),(1,1,⟨42,0,0,true,[.ro x0l.length 4 (acL x0l),.ro x1l.length 1 (acL x1l),.ro x2l.length 1 (acL x2l),.ro x3l.length 6 (acL x3l),.v (.string x4),.ro x5l.length 1 (acL x5l),.v (.int .i64 x6),.ro x7l.length 1 (acL x7l),.v (.int .i64 x8),.v (.int .i64 x9),.v (.int .i64 x10),.v (.int .i64 x11),.v (.bool x12)]⟩)],0,[2,3,900,12,800,801,1600,21,1],73⟩)
  (fun N k=>k+N=x3l.length) x3l.length 0 (by omega) ?_ ?_
 ·(refine zm1 _ _ rfl rfl ?_ ?_<;>(repeat' (first|exact TmOk.nil|exact RwOk.nil|refine TmOk.cons ?_ ?_|refine RwOk.cons ?_ ?_|rfl|exact zr rfl (by assumption)|(refine rnV_id' rfl ?_;exact byc)|(refine zu1 ?_;first|rfl|omega|(rw [zy (by omega) (by omega)];omega))|(refine zr rfl ?_;exact byc)|exact zj2 rfl rfl|(refine zv1 (by rfl) (by rfl) ?_ ?_<;>exact byc)|(refine rw_rn' rfl rfl ?_;simp;done))))
 rintro N k hN
 try dsimp only
 repeat' (first|(apply f_wo;first|(apply f_mv;refine zt1 (v:=.c _) ?_)|(apply f_fa;refine n_fa ?_)|(apply f_ld;refine zh2 ?_)|(apply f_bi;refine zi2 ?_)|(apply zf3;refine zf1 ?_))|(apply f_w;first|refine za1 ?_|refine zd ?_)|refine zc fun C=>?_|refine zp ?_)
 refine zj1 (by rfl) (fun hC=>?_) fun hC=>?_
 ·have hk':k<x3l.length:=by simpa using hC
  obtain⟨x,hx⟩:∃x,x3l[k]? = some x:=⟨_,List.getElem?_eq_getElem hk'⟩
  have hxz:=E.szL_mem (List.mem_of_getElem? hx)
  have hxt:=h3 x (List.mem_of_getElem? hx)
  have cF:=za8 hxt (by omega)
  obtain⟨y0,y1,y2A,y2c,loc,y3A,y3c,stk,y4A,y4c,lab,y5A,y5c,its,rfl,-,-,⟨q2,r2⟩,⟨q3,r3⟩,⟨q4,r4⟩,⟨q5,r5⟩,-⟩:=zd1 hxt
  have cF':Ctr Tryz.prog 54 [.ag [.v (.int .i64 y0),.v (.int .i64 y1),.ro loc.length 1 (acL loc),.ro stk.length 2 (acL stk),.ro lab.length 5 (acL lab),.ro its.length 2 (acL its)]] [] (.ag [.v (.int .i64 y0),.v (.int .i64 y1),.ow 3 loc.length 1 (owL loc),.ow 102 stk.length 2 (owL stk),.ow 148 lab.length 5 (owL lab),.ow 105 its.length 2 (owL its)]) []:=cF
  repeat' (first|(apply f_wo;first|(apply f_mv;refine zt1 (v:=.c _) ?_)|(apply f_as;refine zp2 (v:=.c _) ?_)|(apply zm3;refine zh1 ?_))|(apply f_w;first|refine za1 ?_|refine zd ?_)|(apply d_wo;first|(apply d_mv;refine zo3 ?_)|(apply d_fa;refine o_fa ?_)|(apply d_ld;first|refine zx4 ?_|refine zo20 ?_)|(apply d_ca;refine ze12 (cF') ?_)|(apply d_bi;refine zy8 ?_)|(apply d_st;refine o_st ?_)|(apply d_ia;refine o_ix ?_)|refine o_bs ?_)|(apply d_w;first|refine za1 ?_|refine zd ?_)|refine zc fun C=>?_|refine zq1 (by kernel_rfl) (by kernel_rfl) fun C=>?_|refine zp ?_|refine zw ?_|refine zl1 ?_)
  refine⟨N-1,k+1,by omega,by omega,?_⟩
  refine (ze3 (i:=70) (j:=6900) rfl rfl rfl (pre:=(owL (x3l.take k)++[.v (.int .i64 y0),.v (.int .i64 y1)])) (post:=[.sl 6901 stk.length,.sl 6902 lab.length,.sl 6903 its.length]) (by first|rfl|(simp;done)|(simp [ld];done)|(simp [ld,opL,opC];done))).trans ?_
  refine (ze3 (i:=70) (j:=6901) rfl rfl rfl (pre:=(owL (x3l.take k)++[.v (.int .i64 y0),.v (.int .i64 y1),.ow 3 loc.length 1 (owL loc)])) (post:=[.sl 6902 lab.length,.sl 6903 its.length]) (by first|rfl|(simp;done)|(simp [ld];done)|(simp [ld,opL,opC];done))).trans ?_
  refine (ze3 (i:=70) (j:=6902) rfl rfl rfl (pre:=(owL (x3l.take k)++[.v (.int .i64 y0),.v (.int .i64 y1),.ow 3 loc.length 1 (owL loc),.ow 102 stk.length 2 (owL stk)])) (post:=[.sl 6903 its.length]) (by first|rfl|(simp;done)|(simp [ld];done)|(simp [ld,opL,opC];done))).trans ?_
  refine (ze3 (i:=70) (j:=6903) rfl rfl rfl (pre:=(owL (x3l.take k)++[.v (.int .i64 y0),.v (.int .i64 y1),.ow 3 loc.length 1 (owL loc),.ow 102 stk.length 2 (owL stk),.ow 148 lab.length 5 (owL lab)])) (post:=[]) (by first|rfl|(simp;done)|(simp [ld];done)|(simp [ld,opL,opC];done))).trans ?_
  (refine zf8 (fun j=>if j=801 then 70 else j) _ _ rfl rfl ?_ ?_<;>(repeat' (first|exact TmOk.nil|exact RwOk.nil|refine TmOk.cons ?_ ?_|refine RwOk.cons ?_ ?_|rfl|(refine rnV_id' rfl ?_;exact byc)|(refine zu1 ?_;first|rfl|omega|(rw [zy (by omega) (by omega)];omega))|(refine zr rfl ?_;exact byc)|exact zj2 rfl rfl|(refine zv1 (by rfl) (by rfl) ?_ ?_<;>exact byc)|(refine rw_rn' rfl rfl ?_;simp;done))))
  exact zm14 (r:=⟨60,6,k+1,false,(owL (x3l.take k)++[.v (.int .i64 y0),.v (.int .i64 y1),.ow 3 loc.length 1 (owL loc),.ow 102 stk.length 2 (owL stk),.ow 148 lab.length 5 (owL lab)])++.ow 105 its.length 2 (owL its) :: []⟩) rfl (by rw [zq2 hx];simp [owE,owL,ld]) (by first|rfl|(simp [cloV,cloL,clo,zu,zn,zv,zj,zq];done))
 obtain rfl:k=x3l.length:=by have h9:¬k<x3l.length:=(by simpa using hC);omega
 repeat' (first|(apply f_wo;first|(apply f_ld;refine zf5 ?_)|(apply f_st;refine n_st ?_))|(apply f_w;first|refine za1 ?_|refine zd ?_)|refine zc fun C=>?_|refine zp ?_|refine zy1 ?_)
 refine zo2 ?_;refine ret0 rfl (zj5 (zc2 rfl rfl rfl (by first|exact zj _|exact zn _|exact bytC_clo _|(simp [cloL,clo,zj,zn,zv,zu,zq];done)|(simp [cloL,clo,opC,opL,zj,zn,zv,zu,zq];done)) (zc2 rfl rfl rfl (by first|exact zj _|exact zn _|exact bytC_clo _|(simp [cloL,clo,zj,zn,zv,zu,zq];done)|(simp [cloL,clo,opC,opL,zj,zn,zv,zu,zq];done)) (zc2 rfl rfl rfl (by first|exact zj _|exact zn _|exact bytC_clo _|(simp [cloL,clo,zj,zn,zv,zu,zq];done)|(simp [cloL,clo,opC,opL,zj,zn,zv,zu,zq];done)) (zc2 rfl rfl rfl (by first|exact zj _|exact zn _|exact bytC_clo _|(simp [cloL,clo,zj,zn,zv,zu,zq];done)|(simp [cloL,clo,opC,opL,zj,zn,zv,zu,zq];done)) (zu2 rfl (zc2 rfl rfl rfl (by first|exact zj _|exact zn _|exact bytC_clo _|(simp [cloL,clo,zj,zn,zv,zu,zq];done)|(simp [cloL,clo,opC,opL,zj,zn,zv,zu,zq];done)) (zu2 rfl (zc2 rfl rfl rfl (by first|exact zj _|exact zn _|exact bytC_clo _|(simp [cloL,clo,zj,zn,zv,zu,zq];done)|(simp [cloL,clo,opC,opL,zj,zn,zv,zu,zq];done)) (zu2 rfl (zu2 rfl (zu2 rfl (zu2 rfl (zu2 rfl zx3)))))))))))))) ⟨?_,rfl⟩
 rw [List.take_length,List.take_length,zl18 h7,zi6 h1];rfl
end Go.Proofs.YtfemkmnkofgaaaaGreat
