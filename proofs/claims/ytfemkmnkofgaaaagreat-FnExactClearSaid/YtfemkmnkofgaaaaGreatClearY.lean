/- The machine's copies, both sides. Printed by gen_clear.py. -/
import Derived.Test.YtfemkmnkofgaaaaGreatClearX
namespace Go.Proofs.YtfemkmnkofgaaaaGreat
open Go.RowKit
set_option maxRecDepth 100000
theorem zi6 {l:List E}(h:∀e∈l,e.Ty Tryz.prog 3):acL l=owL l:=zi3 l (zr3 fun e he=>by obtain⟨z,rfl,-⟩:=(h e he).int_ Tryz.underlying3;rfl)
theorem zl18 {l:List E}(h:∀e∈l,e.Ty Tryz.prog 5):acL l=owL l:=zi3 l (zr3 fun e he=>by obtain⟨z,rfl,-⟩:=(h e he).int_ Tryz.underlying5;rfl)
theorem zm11 {l:List E}(h:∀e∈l,e.Ty Tryz.prog 102):acL l=owL l:=zi3 l (zr3 fun e he=>by obtain⟨y0,y1,rfl,-⟩:=zx1 (h e he);rfl)
theorem zh8 {l:List E}(h:∀e∈l,e.Ty Tryz.prog 148):acL l=owL l:=zi3 l (zr3 fun e he=>by obtain⟨y0,y1,y2,y3,y4,rfl,-⟩:=zz1 (h e he);rfl)
theorem zk7 {l:List E}(h:∀e∈l,e.Ty Tryz.prog 67):acL l=owL l:=zi3 l (zr3 fun e he=>by obtain⟨y0,y1,rfl,-⟩:=zp1 (h e he);rfl)
theorem zr5 {l:List E}(hl:∀e∈l,e.Ty Tryz.prog 3)(hlen:l.length≤1048576):Ctr Tryz.prog 62 [.c (.ro l.length 1 (acL l))] [] (.c (.ow 3 l.length 1 (owL l))) []:=by
 rw [←zi6 hl]
 refine zm2 Tryz.func62 rfl rfl ?_
 repeat' (first|(apply f_wo;first|(apply f_mv;refine zt1 (v:=.c _) ?_)|(apply f_as;refine zp2 (v:=.c _) ?_)|(apply f_bi;refine zm17 ?_))|(apply f_w;first|refine za1 ?_|refine zd ?_)|refine zc fun C=>?_|refine zp ?_)
 refine zo2 ?_;refine ret0 rfl (zz21 (zc2 rfl rfl rfl (by first|exact zj _|exact zn _|exact bytC_clo _|(simp [cloL,clo,zj,zn,zv,zu,zq];done)|(simp [cloL,clo,opC,opL,zj,zn,zv,zu,zq];done)) zx3)) ⟨?_,rfl⟩;rfl
theorem zm18 {s:ByteArray}(hs:s.size≤9223372036854775807){l:List E}(h:∀e∈l,e.Ty Tryz.prog 9)(hk:∀e∈l,e.enc.length=1):(E.agg [.str s,.lst 1 9 none 0 l]).Ty Tryz.prog 40:=E.Ty.mk_agg Tryz.underlying40 (E.TyF.mk_cons (by simp only [E.Ty];exact⟨Tryz.underlying9,by unfold maxLen;omega⟩) (E.TyF.mk_cons (E.Ty.mk_lst Tryz.underlying28 (by kernel_rfl) h hk) E.TyF.mk_nil))
set_option maxHeartbeats 4000000 in
theorem za8 {e:E}(he:e.Ty Tryz.prog 60)(hsz:e.sz≤1048576):Ctr Tryz.prog 54 [.ag (acE e)] [] (.ag (owE e)) []:=by
 obtain⟨x0,x1,x2A,x2c,loc,x3A,x3c,stk,x4A,x4c,lab,x5A,x5c,its,rfl,-,-,⟨h2,k2⟩,⟨h3,k3⟩,⟨h4,k4⟩,⟨h5,k5⟩,-⟩:=zd1 he
 simp only [E.sz,E.szL] at hsz
 refine zm2 Tryz.func54 rfl rfl ?_
 repeat' (first|(apply f_wo;first|(apply f_as;refine zp2 (v:=.c _) ?_)|refine n_al ?_|refine n_bo ?_)|(apply f_w;first|refine za1 ?_|refine zd ?_)|(apply d_wo;first|(apply d_fa;refine o_fa ?_)|(apply d_ld;refine zx4 ?_)|(apply d_bi;refine zy8 ?_)|(apply d_st;refine o_st ?_)|refine o_al ?_|refine o_bs ?_|refine zo3 ?_)|(apply d_w;first|refine za1 ?_|refine zd ?_)|refine zc fun C=>?_|refine zq1 (by kernel_rfl) (by kernel_rfl) fun C=>?_|refine zp ?_|refine zw ?_)
 refine zw1 (fun k:Nat=>⟨tmsF [(1,.c (.pt 1 0)),(2,.c (.pt 2 0)),(3,.c (.pt 3 0)),(4,.c (.v (.int .i64 k)))],hpsF [(1,1,⟨60,0,0,true,[.v (.int .i64 x0),.v (.int .i64 x1),.ro loc.length 1 (acL loc),.ro stk.length 2 (acL stk),.ro lab.length 5 (acL lab),.ro its.length 2 (acL its)]⟩),(2,2,⟨60,0,0,true,[.v (.int .i64 0),.v (.int .i64 0),.v (.slice none 0 0),.v (.slice none 0 0),.v (.slice none 0 0),.v (.slice none 0 0)]⟩),(3,3,⟨60,0,0,true,[.v (.int .i64 x0),.v (.int .i64 x1),.sl 12 loc.length,.sl 16 stk.length,.sl 20 lab.length,.sl 800 k]⟩),(12,12,⟨3,1,loc.length,false,acL loc⟩),(16,16,⟨102,2,stk.length,false,acL stk⟩),(20,20,⟨148,5,lab.length,false,acL lab⟩),(800,800,⟨105,2,k,false,owL (its.take k)⟩)],0,[1,2,3,12,16,20,800],50⟩)
  (fun N k=>k+N=its.length) its.length 0 (by omega) ?_ ?_
 ·refine (zu8 800 (i:=3) 105 2 rfl rfl (pre:=[_,_,_,_,_]) (post:=[]) rfl).trans ?_
  (refine zm1 _ _ rfl rfl ?_ ?_<;>(repeat' (first|exact TmOk.nil|exact RwOk.nil|refine TmOk.cons ?_ ?_|refine RwOk.cons ?_ ?_|rfl|exact zr rfl (by assumption)|(refine rnV_id' rfl ?_;exact byc)|(refine zu1 ?_;first|rfl|omega|(rw [zy (by omega) (by omega)];omega))|(refine zr rfl ?_;exact byc)|exact zj2 rfl rfl|(refine zv1 (by rfl) (by rfl) ?_ ?_<;>exact byc)|(refine rw_rn' rfl rfl ?_;simp;done))))
 rintro N k hN
 try dsimp only
 repeat' (first|(apply f_wo;first|(apply f_mv;refine zt1 (v:=.c _) ?_)|(apply f_fa;refine n_fa ?_)|(apply f_ld;refine zh2 ?_)|(apply f_bi;refine zi2 ?_)|(apply zf3;refine zf1 ?_))|(apply f_w;first|refine za1 ?_|refine zd ?_)|refine zc fun C=>?_|refine zp ?_)
 refine zj1 (by rfl) (fun h1=>?_) fun h1=>?_
 ·have hk':k<its.length:=by simpa using h1
  obtain⟨x,hx⟩:∃x,its[k]? = some x:=⟨_,List.getElem?_eq_getElem hk'⟩
  have hxz:=E.szL_mem (List.mem_of_getElem? hx)
  obtain⟨kA,kc,ks,at_,rfl,⟨hks,hk1⟩,-⟩:=zs1 (h5 x (List.mem_of_getElem? hx))
  simp only [E.sz,E.szL] at hxz
  repeat' (first|(apply f_wo;first|(apply f_mv;refine zt1 (v:=.c _) ?_)|(apply f_as;refine zp2 (v:=.c _) ?_)|(apply zm3;refine zh1 ?_))|(apply f_w;first|refine za1 ?_|refine zd ?_)|(apply d_wo;first|(apply d_mv;refine zo3 ?_)|(apply d_fa;first|refine o_fa ?_|refine zp19 ?_)|(apply d_ld;first|refine zx4 ?_|refine zy6 ?_)|(apply d_bi;refine zy8 ?_)|(apply d_st;refine o_st ?_)|(apply d_ia;refine o_ix ?_)|refine o_bs ?_|refine zo3 ?_)|(apply d_w;first|refine za1 ?_|refine zd ?_)|refine zc fun C=>?_|refine zq1 (by kernel_rfl) (by kernel_rfl) fun C=>?_|refine zp ?_|refine zw ?_|refine zl1 ?_)
  refine⟨N-1,k+1,by omega,by omega,?_⟩
  refine (ze3 (i:=47) (j:=38) rfl rfl rfl (pre:=(owL (its.take k))) (post:=[.v (.int .i64 at_)]) (by first|rfl|(simp;done)|(simp [ld];done)|(simp [ld,opL,opC];done))).trans ?_
  (refine zf8 (fun j=>if j=800 then 47 else j) _ _ rfl rfl ?_ ?_<;>(repeat' (first|exact TmOk.nil|exact RwOk.nil|refine TmOk.cons ?_ ?_|refine RwOk.cons ?_ ?_|rfl|(refine rnV_id' rfl ?_;exact byc)|(refine zu1 ?_;first|rfl|omega|(rw [zy (by omega) (by omega)];omega))|(refine zr rfl ?_;exact byc)|exact zj2 rfl rfl|(refine zv1 (by rfl) (by rfl) ?_ ?_<;>exact byc)|(refine rw_rn' rfl rfl ?_;simp;done))))
  exact zm14 (r:=⟨105,2,k+1,false,(owL (its.take k))++.ow 3 ks.length 1 (acL ks) :: [.v (.int .i64 at_)]⟩) rfl (by rw [zq2 hx];simp [owE,owL,zi6 hks]) (by first|rfl|(simp [cloV,cloL,clo,zu,zn,zv,zj,zq];done))
 ·obtain rfl:k=its.length:=by have h9:¬k<its.length:=(by simpa using h1);omega
  repeat' (first|(apply f_wo;first|(apply f_ld;refine zf5 ?_)|(apply f_st;refine n_st ?_))|(apply f_w;first|refine za1 ?_|refine zd ?_)|refine zc fun C=>?_|refine zp ?_|refine zy1 ?_)
  refine zo2 ?_;refine ret0 rfl (zj5 (zu2 rfl (zu2 rfl (zc2 rfl rfl rfl (by first|exact zj _|exact zn _|exact bytC_clo _|(simp [cloL,clo,zj,zn,zv,zu,zq];done)|(simp [cloL,clo,opC,opL,zj,zn,zv,zu,zq];done)) (zc2 rfl rfl rfl (by first|exact zj _|exact zn _|exact bytC_clo _|(simp [cloL,clo,zj,zn,zv,zu,zq];done)|(simp [cloL,clo,opC,opL,zj,zn,zv,zu,zq];done)) (zc2 rfl rfl rfl (by first|exact zj _|exact zn _|exact bytC_clo _|(simp [cloL,clo,zj,zn,zv,zu,zq];done)|(simp [cloL,clo,opC,opL,zj,zn,zv,zu,zq];done)) (zc2 rfl rfl rfl (by first|exact zj _|exact zn _|exact bytC_clo _|(simp [cloL,clo,zj,zn,zv,zu,zq];done)|(simp [cloL,clo,opC,opL,zj,zn,zv,zu,zq];done)) zx3))))))) ⟨?_,rfl⟩
  rw [List.take_length,zi6 h2,zm11 h3,zh8 h4];rfl
set_option maxHeartbeats 8000000 in
theorem zl15 {e:E}(he:e.Ty Tryz.prog 42)(hsz:e.sz≤1048576):Ctr Tryz.prog 26 [.ag (acE e)] [] (.ag (owE e)) []:=by
 obtain⟨x0A,x0c,x0l,x1A,x1c,x1l,x2A,x2c,x2l,x3A,x3c,x3l,x4,x5A,x5c,x5l,x6,x7A,x7c,x7l,x8,x9,x10,x11,x12,rfl,⟨h0,k0⟩,⟨h1,k1⟩,⟨h2,k2⟩,⟨h3,k3⟩,g4,⟨h5,k5⟩,g6,⟨h7,k7⟩,g8,g9,g10,g11,-⟩:=zb1 he
 simp only [E.sz,E.szL] at hsz
 have cH:Ctr Tryz.prog 61 [.ag [.ro x0l.length 4 (acL x0l)]] [] (.ag [.ow 110 x0l.length 4 (owL x0l)]) []:=zy14 (e:=heapE x0l) (HpOk.ty ⟨h0,k0,by omega⟩) (HpOk.sz ⟨h0,k0,by omega⟩)
 have cR:Ctr Tryz.prog 63 [.ag [.v (.string x4),.ro x5l.length 1 (acL x5l)]] [] (.ag [.v (.string x4),.ow 9 x5l.length 1 (owL x5l)]) []:=zj18 (e:=.agg [.str x4,.lst 1 9 none 0 x5l]) (zm18 g4 h5 k5) (by simp only [E.sz,E.szL];omega)
 have cI:=zr5 h1 (by omega)
 refine zm2 Tryz.func26 rfl rfl ?_
 repeat' (first|(apply f_wo;first|(apply f_mv;refine zt1 (v:=.c _) ?_)|(apply f_fa;refine n_fa ?_)|(apply f_ld;first|refine zh2 ?_|refine zf5 ?_)|(apply f_ca;first|refine zq14 cH ?_|refine zq14 cR ?_|refine zq14 cI ?_)|(apply f_bi;first|refine zi2 ?_|refine zm17 ?_)|(apply f_st;refine n_st ?_)|refine n_al ?_|refine n_bo ?_|refine zf2 ?_)|(apply f_w;first|refine za1 ?_|refine zd ?_)|refine zc fun C=>?_|refine zp ?_|refine zw ?_)
 refine zw1 (fun k:Nat=>⟨tmsF [(1,.c (.pt 1 0)),(2,.c (.pt 2 0)),(3,.c (.pt 3 0)),(31,.c (.ro x2l.length 1 (acL x2l))),(32,.c (.v (.int .i64 x2l.length))),(33,.c (.v (.int .i64 k)))],hpsF [(2,2,⟨42,0,0,true,[.v (.slice none 0 0),.v (.slice none 0 0),.v (.slice none 0 0),.v (.slice none 0 0),.v (.string ByteArray.empty),.v (.slice none 0 0),.v (.int .i64 0),.v (.slice none 0 0),.v (.int .i64 0),.v (.int .i64 0),.v (.int .i64 0),.v (.int .i64 0),.v (.bool false)]⟩),(3,3,⟨42,0,0,true,[.sl 1500 x0l.length,.sl 1900 x1l.length,.sl 800 k,.sl 801 0,.v (.string x4),.sl 2300 x5l.length,.v (.int .i64 x6),.sl 26 x7l.length,.v (.int .i64 x8),.v (.int .i64 x9),.v (.int .i64 x10),.v (.int .i64 x11),.v (.bool x12)]⟩),(1500,1500,⟨110,4,x0l.length,false,owL x0l⟩),(1900,1900,⟨3,1,x1l.length,false,owL x1l⟩),(800,800,⟨65,1,k,false,owL (x2l.take k)⟩),(801,801,⟨60,6,0,false,[]⟩),(2300,2300,⟨9,1,x5l.length,false,owL x5l⟩),(26,26,⟨5,1,x7l.length,false,acL x7l⟩),(1,1,⟨42,0,0,true,[.ro x0l.length 4 (acL x0l),.ro x1l.length 1 (acL x1l),.ro x2l.length 1 (acL x2l),.ro x3l.length 6 (acL x3l),.v (.string x4),.ro x5l.length 1 (acL x5l),.v (.int .i64 x6),.ro x7l.length 1 (acL x7l),.v (.int .i64 x8),.v (.int .i64 x9),.v (.int .i64 x10),.v (.int .i64 x11),.v (.bool x12)]⟩)],0,[2,3,1500,1900,800,801,2300,26,1],95⟩)
  (fun N k=>k+N=x2l.length) x2l.length 0 (by omega) ?_ ?_
 ·refine (zu8 800 (i:=3) 65 1 rfl rfl (pre:=[_,_]) (post:=[_,_,_,_,_,_,_,_,_,_]) rfl).trans ?_
  refine (zu8 801 (i:=3) 60 6 rfl rfl (pre:=[_,_,_]) (post:=[_,_,_,_,_,_,_,_,_]) rfl).trans ?_
  (refine zm1 _ _ rfl rfl ?_ ?_<;>(repeat' (first|exact TmOk.nil|exact RwOk.nil|refine TmOk.cons ?_ ?_|refine RwOk.cons ?_ ?_|rfl|exact zr rfl (by assumption)|(refine rnV_id' rfl ?_;exact byc)|(refine zu1 ?_;first|rfl|omega|(rw [zy (by omega) (by omega)];omega))|(refine zr rfl ?_;exact byc)|exact zj2 rfl rfl|(refine zv1 (by rfl) (by rfl) ?_ ?_<;>exact byc)|(refine rw_rn' rfl rfl ?_;simp;done))))
 rintro N k hN
 try dsimp only
 repeat' (first|(apply f_wo;(apply zf3;refine zf1 ?_))|(apply f_w;first|refine za1 ?_|refine zd ?_)|refine zc fun C=>?_|refine zp ?_)
 refine zj1 (by rfl) (fun hC=>?_) fun hC=>?_
 ·have hk':k<x2l.length:=by simpa using hC
  obtain⟨x,hx⟩:∃x,x2l[k]? = some x:=⟨_,List.getElem?_eq_getElem hk'⟩
  have hxz:=E.szL_mem (List.mem_of_getElem? hx)
  obtain⟨kA,kc,ks,rfl,⟨hks,hk1⟩,-⟩:=zk1 (h2 x (List.mem_of_getElem? hx))
  simp only [E.sz,E.szL] at hxz
  repeat' (first|(apply f_wo;first|(apply f_mv;refine zt1 (v:=.c _) ?_)|(apply f_ld;refine zu3 ?_)|(apply f_st;refine n_st ?_)|(apply f_ia;refine n_ix ?_)|(apply zm3;refine zh1 ?_)|refine n_al ?_)|(apply f_w;first|refine za1 ?_|refine zd ?_)|(apply d_wo;first|(apply d_fa;refine o_fa ?_)|(apply d_ld;refine zx4 ?_)|(apply d_bi;first|refine zy8 ?_|refine zi17 ?_)|(apply d_st;refine o_st ?_)|refine o_bs ?_|refine zo3 ?_)|(apply d_w;first|refine za1 ?_|refine zd ?_)|refine zc fun C=>?_|refine zq1 (by kernel_rfl) (by kernel_rfl) fun C=>?_|refine zp ?_|refine zw ?_|refine zl1 ?_)
  refine⟨N-1,k+1,by omega,by omega,?_⟩
  refine (ze3 (i:=44) (j:=41) rfl rfl rfl (pre:=(owL (x2l.take k))) (post:=[]) (by first|rfl|(simp;done)|(simp [ld];done)|(simp [ld,opL,opC];done))).trans ?_
  (refine zf8 (fun j=>if j=800 then 44 else j) _ _ rfl rfl ?_ ?_<;>(repeat' (first|exact TmOk.nil|exact RwOk.nil|refine TmOk.cons ?_ ?_|refine RwOk.cons ?_ ?_|rfl|(refine rnV_id' rfl ?_;exact byc)|(refine zu1 ?_;first|rfl|omega|(rw [zy (by omega) (by omega)];omega))|(refine zr rfl ?_;exact byc)|exact zj2 rfl rfl|(refine zv1 (by rfl) (by rfl) ?_ ?_<;>exact byc)|(refine rw_rn' rfl rfl ?_;simp;done))))
  exact zm14 (r:=⟨65,1,k+1,false,(owL (x2l.take k))++.ow 67 ks.length 2 (acL ks) :: []⟩) rfl (by rw [zq2 hx];simp [owE,owL,zk7 hks]) (by first|rfl|(simp [cloV,cloL,clo,zu,zn,zv,zj,zq];done))
 obtain rfl:k=x2l.length:=by have h9:¬k<x2l.length:=(by simpa using hC);omega
 repeat' (first|(apply f_wo;first|(apply f_mv;refine zt1 (v:=.c _) ?_)|(apply f_fa;refine n_fa ?_)|(apply f_ld;refine zh2 ?_)|(apply f_bi;refine zi2 ?_))|(apply f_w;first|refine za1 ?_|refine zd ?_)|refine zc fun C=>?_|refine zp ?_|refine zw ?_|refine zy1 ?_)
 refine zw1 (fun k:Nat=>⟨tmsF [(2,.c (.pt 2 0)),(3,.c (.pt 3 0)),(48,.c (.ro x3l.length 6 (acL x3l))),(49,.c (.v (.int .i64 x3l.length))),(50,.c (.v (.int .i64 k)))],hpsF [(2,2,⟨42,0,0,true,[.v (.slice none 0 0),.v (.slice none 0 0),.v (.slice none 0 0),.v (.slice none 0 0),.v (.string ByteArray.empty),.v (.slice none 0 0),.v (.int .i64 0),.v (.slice none 0 0),.v (.int .i64 0),.v (.int .i64 0),.v (.int .i64 0),.v (.int .i64 0),.v (.bool false)]⟩),(3,3,⟨42,0,0,true,[.sl 1500 x0l.length,.sl 1900 x1l.length,.sl 800 x2l.length,.sl 801 k,.v (.string x4),.sl 2300 x5l.length,.v (.int .i64 x6),.sl 26 x7l.length,.v (.int .i64 x8),.v (.int .i64 x9),.v (.int .i64 x10),.v (.int .i64 x11),.v (.bool x12)]⟩),(1500,1500,⟨110,4,x0l.length,false,owL x0l⟩),(1900,1900,⟨3,1,x1l.length,false,owL x1l⟩),(800,800,⟨65,1,x2l.length,false,owL (x2l.take x2l.length)⟩),(801,801,⟨60,6,k,false,owL (x3l.take k)⟩),(2300,2300,⟨9,1,x5l.length,false,owL x5l⟩),(26,26,⟨5,1,x7l.length,false,acL x7l⟩)],0,[2,3,1500,1900,800,801,2300,26],95⟩)
  (fun N k=>k+N=x3l.length) x3l.length 0 (by omega) ?_ ?_
 ·(refine zm1 _ _ rfl rfl ?_ ?_<;>(repeat' (first|exact TmOk.nil|exact RwOk.nil|refine TmOk.cons ?_ ?_|refine RwOk.cons ?_ ?_|rfl|exact zr rfl (by assumption)|(refine rnV_id' rfl ?_;exact byc)|(refine zu1 ?_;first|rfl|omega|(rw [zy (by omega) (by omega)];omega))|(refine zr rfl ?_;exact byc)|exact zj2 rfl rfl|(refine zv1 (by rfl) (by rfl) ?_ ?_<;>exact byc)|(refine rw_rn' rfl rfl ?_;simp;done))))
 rintro N k hN
 try dsimp only
 repeat' (first|(apply f_wo;(apply zf3;refine zf1 ?_))|(apply f_w;first|refine za1 ?_|refine zd ?_)|refine zc fun C=>?_|refine zp ?_)
 refine zj1 (by rfl) (fun hC=>?_) fun hC=>?_
 ·have hk':k<x3l.length:=by simpa using hC
  obtain⟨x,hx⟩:∃x,x3l[k]? = some x:=⟨_,List.getElem?_eq_getElem hk'⟩
  have hxz:=E.szL_mem (List.mem_of_getElem? hx)
  have hxt:=h3 x (List.mem_of_getElem? hx)
  obtain⟨y0,y1,y2A,y2c,loc,y3A,y3c,stk,y4A,y4c,lab,y5A,y5c,its,rfl,-,-,⟨q2,r2⟩,⟨q3,r3⟩,⟨q4,r4⟩,⟨q5,r5⟩,-⟩:=zd1 hxt
  simp only [E.sz,E.szL] at hxz
  have cI:=zr5 q2 (by omega)
  repeat' (first|(apply f_wo;first|(apply f_mv;refine zt1 (v:=.c _) ?_)|(apply f_fa;refine n_fa ?_)|(apply f_ld;first|refine zh2 ?_|refine zu3 ?_)|(apply f_bi;refine zi2 ?_)|(apply f_st;refine n_st ?_)|(apply f_ia;refine n_ix ?_)|refine n_al ?_)|(apply f_w;first|refine za1 ?_|refine zd ?_)|(apply d_wo;first|(apply d_fa;refine o_fa ?_)|(apply d_ld;refine zx4 ?_)|(apply d_ca;refine ze12 cI ?_)|(apply d_bi;refine zi17 ?_)|(apply d_st;refine o_st ?_)|refine o_al ?_|refine zo3 ?_)|(apply d_w;first|refine za1 ?_|refine zd ?_)|refine zc fun C=>?_|refine zq1 (by kernel_rfl) (by kernel_rfl) fun C=>?_|refine zp ?_|refine zw ?_|refine zl1 ?_)
  refine zw1 (fun m:Nat=>⟨tmsF [(2,.c (.pt 2 0)),(3,.c (.pt 3 0)),(8,.c (.pt 8 0)),(48,.c (.ro x3l.length 6 (acL x3l))),(49,.c (.v (.int .i64 x3l.length))),(50,.c (.v (.int .i64 k))),(69,.c (.ro its.length 2 (acL its))),(70,.c (.v (.int .i64 its.length))),(71,.c (.v (.int .i64 m)))],hpsF [(2,2,⟨42,0,0,true,[.v (.slice none 0 0),.v (.slice none 0 0),.v (.slice none 0 0),.v (.slice none 0 0),.v (.string ByteArray.empty),.v (.slice none 0 0),.v (.int .i64 0),.v (.slice none 0 0),.v (.int .i64 0),.v (.int .i64 0),.v (.int .i64 0),.v (.int .i64 0),.v (.bool false)]⟩),(3,3,⟨42,0,0,true,[.sl 1500 x0l.length,.sl 1900 x1l.length,.sl 800 x2l.length,.sl 801 k,.v (.string x4),.sl 2300 x5l.length,.v (.int .i64 x6),.sl 26 x7l.length,.v (.int .i64 x8),.v (.int .i64 x9),.v (.int .i64 x10),.v (.int .i64 x11),.v (.bool x12)]⟩),(1500,1500,⟨110,4,x0l.length,false,owL x0l⟩),(1900,1900,⟨3,1,x1l.length,false,owL x1l⟩),(800,800,⟨65,1,x2l.length,false,owL (x2l.take x2l.length)⟩),(801,801,⟨60,6,k,false,owL (x3l.take k)⟩),(2300,2300,⟨9,1,x5l.length,false,owL x5l⟩),(26,26,⟨5,1,x7l.length,false,acL x7l⟩),(8,8,⟨60,0,0,true,[.v (.int .i64 y0),.v (.int .i64 y1),.sl 6100 loc.length,.sl 63 stk.length,.sl 66 lab.length,.sl 802 m]⟩),(6100,6100,⟨3,1,loc.length,false,owL loc⟩),(63,63,⟨102,2,stk.length,false,acL stk⟩),(66,66,⟨148,5,lab.length,false,acL lab⟩),(802,802,⟨105,2,m,false,owL (its.take m)⟩)],0,[2,3,1500,1900,800,801,2300,26,8,6100,63,66,802],95⟩)
   (fun M m=>m+M=its.length) its.length 0 (by omega) ?_ ?_
  ·refine (zu8 802 (i:=8) 105 2 rfl rfl (pre:=[_,_,_,_,_]) (post:=[]) rfl).trans ?_
   (refine zm1 _ _ rfl rfl ?_ ?_<;>(repeat' (first|exact TmOk.nil|exact RwOk.nil|refine TmOk.cons ?_ ?_|refine RwOk.cons ?_ ?_|rfl|exact zr rfl (by assumption)|(refine rnV_id' rfl ?_;exact byc)|(refine zu1 ?_;first|rfl|omega|(rw [zy (by omega) (by omega)];omega))|(refine zr rfl ?_;exact byc)|exact zj2 rfl rfl|(refine zv1 (by rfl) (by rfl) ?_ ?_<;>exact byc)|(refine rw_rn' rfl rfl ?_;simp;done))))
  rintro M m hM
  try dsimp only
  repeat' (first|(apply f_wo;(apply zf3;refine zf1 ?_))|(apply f_w;first|refine za1 ?_|refine zd ?_)|refine zc fun C=>?_|refine zp ?_)
  refine zj1 (by rfl) (fun hD=>?_) fun hD=>?_
  ·have hm':m<its.length:=by simpa using hD
   obtain⟨z,hz⟩:∃z,its[m]? = some z:=⟨_,List.getElem?_eq_getElem hm'⟩
   have hzz:=E.szL_mem (List.mem_of_getElem? hz)
   obtain⟨kA,kc,ks,at_,rfl,⟨hks,hk1⟩,-⟩:=zs1 (q5 z (List.mem_of_getElem? hz))
   simp only [E.sz,E.szL] at hzz
   have cK:=zr5 hks (by omega)
   repeat' (first|(apply f_wo;first|(apply f_mv;refine zt1 (v:=.c _) ?_)|(apply f_ld;refine zu3 ?_)|(apply f_st;refine n_st ?_)|(apply f_ia;refine n_ix ?_)|(apply zm3;refine zh1 ?_)|refine n_al ?_)|(apply f_w;first|refine za1 ?_|refine zd ?_)|(apply d_wo;first|(apply d_fa;refine o_fa ?_)|(apply d_ld;refine zx4 ?_)|(apply d_ca;refine ze12 cK ?_)|(apply d_bi;refine zy8 ?_)|(apply d_st;refine o_st ?_)|refine o_bs ?_|refine zo3 ?_)|(apply d_w;first|refine za1 ?_|refine zd ?_)|refine zc fun C=>?_|refine zq1 (by kernel_rfl) (by kernel_rfl) fun C=>?_|refine zp ?_|refine zw ?_|refine zl1 ?_)
   refine⟨M-1,m+1,by omega,by omega,?_⟩
   refine (ze3 (i:=84) (j:=8000) rfl rfl rfl (pre:=(owL (its.take m))) (post:=[.v (.int .i64 at_)]) (by first|rfl|(simp;done)|(simp [ld];done)|(simp [ld,opL,opC];done))).trans ?_
   (refine zf8 (fun j=>if j=802 then 84 else j) _ _ rfl rfl ?_ ?_<;>(repeat' (first|exact TmOk.nil|exact RwOk.nil|refine TmOk.cons ?_ ?_|refine RwOk.cons ?_ ?_|rfl|(refine rnV_id' rfl ?_;exact byc)|(refine zu1 ?_;first|rfl|omega|(rw [zy (by omega) (by omega)];omega))|(refine zr rfl ?_;exact byc)|exact zj2 rfl rfl|(refine zv1 (by rfl) (by rfl) ?_ ?_<;>exact byc)|(refine rw_rn' rfl rfl ?_;simp;done))))
   exact zm14 (r:=⟨105,2,m+1,false,(owL (its.take m))++.ow 3 ks.length 1 (owL ks) :: [.v (.int .i64 at_)]⟩) rfl (by rw [zq2 hz];simp [owE,owL]) (by first|rfl|(simp [cloV,cloL,clo,zu,zn,zv,zj,zq];done))
  obtain rfl:m=its.length:=by have h9:¬m<its.length:=(by simpa using hD);omega
  repeat' (first|(apply f_wo;first|(apply f_mv;refine zt1 (v:=.c _) ?_)|(apply f_fa;refine n_fa ?_)|(apply f_ld;first|refine zh2 ?_|refine zf5 ?_)|(apply f_bi;refine zb23 ?_)|(apply f_st;refine n_st ?_)|(apply zm3;refine zh1 ?_)|refine n_bs ?_)|(apply f_w;first|refine za1 ?_|refine zd ?_)|refine zc fun C=>?_|refine zy1 ?_)
  refine⟨N-1,k+1,by omega,by omega,?_⟩
  refine (ze3 (i:=91) (j:=6100) rfl rfl rfl (pre:=(owL (x3l.take k)++[.v (.int .i64 y0),.v (.int .i64 y1)])) (post:=[.sl 63 stk.length,.sl 66 lab.length,.sl 802 its.length]) (by first|rfl|(simp;done)|(simp [ld];done)|(simp [ld,opL,opC];done))).trans ?_
  refine (ze3 (i:=91) (j:=63) rfl rfl rfl (pre:=(owL (x3l.take k)++[.v (.int .i64 y0),.v (.int .i64 y1),.ow 3 loc.length 1 (owL loc)])) (post:=[.sl 66 lab.length,.sl 802 its.length]) (by first|rfl|(simp;done)|(simp [ld];done)|(simp [ld,opL,opC];done))).trans ?_
  refine (ze3 (i:=91) (j:=66) rfl rfl rfl (pre:=(owL (x3l.take k)++[.v (.int .i64 y0),.v (.int .i64 y1),.ow 3 loc.length 1 (owL loc),.ow 102 stk.length 2 (acL stk)])) (post:=[.sl 802 its.length]) (by first|rfl|(simp;done)|(simp [ld];done)|(simp [ld,opL,opC];done))).trans ?_
  refine (ze3 (i:=91) (j:=802) rfl rfl rfl (pre:=(owL (x3l.take k)++[.v (.int .i64 y0),.v (.int .i64 y1),.ow 3 loc.length 1 (owL loc),.ow 102 stk.length 2 (acL stk),.ow 148 lab.length 5 (acL lab)])) (post:=[]) (by first|rfl|(simp;done)|(simp [ld];done)|(simp [ld,opL,opC];done))).trans ?_
  (refine zf8 (fun j=>if j=801 then 91 else j) _ _ rfl rfl ?_ ?_<;>(repeat' (first|exact TmOk.nil|exact RwOk.nil|refine TmOk.cons ?_ ?_|refine RwOk.cons ?_ ?_|rfl|(refine rnV_id' rfl ?_;exact byc)|(refine zu1 ?_;first|rfl|omega|(rw [zy (by omega) (by omega)];omega))|(refine zr rfl ?_;exact byc)|exact zj2 rfl rfl|(refine zv1 (by rfl) (by rfl) ?_ ?_<;>exact byc)|(refine rw_rn' rfl rfl ?_;simp;done))))
  exact zm14 (r:=⟨60,6,k+1,false,(owL (x3l.take k)++[.v (.int .i64 y0),.v (.int .i64 y1),.ow 3 loc.length 1 (owL loc),.ow 102 stk.length 2 (acL stk),.ow 148 lab.length 5 (acL lab)])++.ow 105 its.length 2 (owL (its.take its.length)) :: []⟩) rfl (by rw [zq2 hx,List.take_length,zm11 q3,zh8 q4];simp [owE,owL,ld]) (by first|rfl|(simp [cloV,cloL,clo,zu,zn,zv,zj,zq];done))
 obtain rfl:k=x3l.length:=by have h9:¬k<x3l.length:=(by simpa using hC);omega
 repeat' (first|(apply f_wo;first|(apply f_ld;refine zf5 ?_)|(apply f_st;refine n_st ?_))|(apply f_w;first|refine za1 ?_|refine zd ?_)|refine zc fun C=>?_|refine zp ?_|refine zy1 ?_)
 refine zo2 ?_;refine ret0 rfl (zj5 (zc2 rfl rfl rfl (by first|exact zj _|exact zn _|exact bytC_clo _|(simp [cloL,clo,zj,zn,zv,zu,zq];done)|(simp [cloL,clo,opC,opL,zj,zn,zv,zu,zq];done)) (zc2 rfl rfl rfl (by first|exact zj _|exact zn _|exact bytC_clo _|(simp [cloL,clo,zj,zn,zv,zu,zq];done)|(simp [cloL,clo,opC,opL,zj,zn,zv,zu,zq];done)) (zc2 rfl rfl rfl (by first|exact zj _|exact zn _|exact bytC_clo _|(simp [cloL,clo,zj,zn,zv,zu,zq];done)|(simp [cloL,clo,opC,opL,zj,zn,zv,zu,zq];done)) (zc2 rfl rfl rfl (by first|exact zj _|exact zn _|exact bytC_clo _|(simp [cloL,clo,zj,zn,zv,zu,zq];done)|(simp [cloL,clo,opC,opL,zj,zn,zv,zu,zq];done)) (zu2 rfl (zc2 rfl rfl rfl (by first|exact zj _|exact zn _|exact bytC_clo _|(simp [cloL,clo,zj,zn,zv,zu,zq];done)|(simp [cloL,clo,opC,opL,zj,zn,zv,zu,zq];done)) (zu2 rfl (zc2 rfl rfl rfl (by first|exact zj _|exact zn _|exact bytC_clo _|(simp [cloL,clo,zj,zn,zv,zu,zq];done)|(simp [cloL,clo,opC,opL,zj,zn,zv,zu,zq];done)) (zu2 rfl (zu2 rfl (zu2 rfl (zu2 rfl (zu2 rfl zx3)))))))))))))) ⟨?_,rfl⟩
 rw [List.take_length,List.take_length,zl18 h7];rfl
end Go.Proofs.YtfemkmnkofgaaaaGreat
