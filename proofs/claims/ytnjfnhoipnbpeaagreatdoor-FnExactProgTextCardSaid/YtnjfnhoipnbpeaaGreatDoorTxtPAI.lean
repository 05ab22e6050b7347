/- Texts of statements and of bodies: the reference. -/
import Derived.Test.YtnjfnhoipnbpeaaGreatDoorTxtPAH
namespace Go.Proofs.YtnjfnhoipnbpeaaGreatDoor
open Go.RowKit
set_option maxRecDepth 100000
set_option maxHeartbeats 2000000 in
theorem zq11 {l:List E}(hl:∀e∈l,e.Ty Tryz.prog 71)(hk:∀e∈l,e.enc.length=6)(hlen:l.length+E.szL l≤1048576)(hc:∀x∈l,Ctr Tryz.prog 29 [.ag (acE x)] [] (.c (.v (.string (stE x)))) []):Ctr Tryz.prog 12 [.c (.ro l.length 6 (acL l))] [] (.c (.v (.string (blT (l.map stE))))) []:=by
 have hs:=zu5 hl
 refine ze1 Tryz.func12 rfl rfl ?_
 repeat' (first|(apply f_wo;(apply f_as;refine zq (v:=.c _) ?_))|(apply f_w;first|refine zj ?_|refine zb ?_)|refine za fun C=>?_|refine zd ?_|refine ze ?_)
 refine zv1 (fun k:Nat=>⟨tmsF [(0,.c (.ro l.length 6 (acL l))),(3,.c (.v (.string (blA ((l.map stE).take k))))),(4,.c (.v (.int .i64 k)))],hpsF [],0,[],21⟩)
  (fun N k=>k+N=l.length) l.length 0 (by omega) ?_ ?_
 ·(refine zl1 _ _ rfl rfl ?_ ?_<;>(repeat' (first|exact TmOk.nil|exact RwOk.nil|refine TmOk.cons ?_ ?_|refine RwOk.cons ?_ ?_|rfl|(refine rnV_id' rfl ?_;exact byc)|(refine zp1 ?_;first|rfl|omega|(rw [zw (by omega) (by omega)];omega))|(refine zb1 rfl ?_;exact byc)|exact zc2 rfl rfl|(refine zq1 (by rfl) (by rfl) ?_ ?_<;>exact byc)|(refine rw_rn' rfl rfl ?_;simp;done))))
 rintro N k hN
 try dsimp only
 have hq:=zj14 ((l.map stE).take k)
 have hq2:=zd6 (l.map stE) k
 repeat' (first|(apply f_wo;first|(apply f_mv;refine zv (v:=.c _) ?_)|(apply f_bi;refine zy1 ?_)|(apply zg3;refine zs1 ?_))|(apply f_w;first|refine zj ?_|refine zb ?_)|refine za fun C=>?_|refine zd ?_)
 refine zi (by rfl) (fun hk1=>?_) fun hk1=>?_
 ·have hk':k<l.length:=by simpa using hk1
  obtain⟨x,hx⟩:∃x,l[k]? = some x:=⟨_,List.getElem?_eq_getElem hk'⟩
  have hxm:=List.mem_of_getElem? hx
  have hxt:=hl x hxm
  have c3:=hc x hxm
  have hxz:=E.szL_mem hxm
  have hts:=stE_le hxt
  have e:(l.map stE).take (k+1)=(l.map stE).take k++[stE x]:=by rw [List.take_add_one,List.getElem?_map,hx];rfl
  generalize stE x=T at c3 hts e
  obtain⟨y0,y1,y2,yA,yc,yl,zA,zc,zl,uA,uc,ul,rfl,-⟩:=zt1 hxt
  have hT1:(blA ((l.map stE).take k)++T).size=(blA ((l.map stE).take k)).size+T.size:=ByteArray.size_append' _ _
  repeat' (first|(apply f_wo;first|(apply f_mv;refine zv (v:=.c _) ?_)|(apply f_as;refine zq (v:=.c _) ?_)|(apply f_ld;refine zq2 ?_)|(apply f_ca;refine zk1 c3 ?_)|(apply f_ia;refine n_ix ?_)|(apply zd2;first|refine zj1 ?_|refine zl3 ?_))|(apply f_w;first|refine zj ?_|refine zb ?_)|refine za fun C=>?_|refine zd ?_|refine ze ?_|refine zg ?_)
  refine⟨N-1,k+1,by omega,by omega,?_⟩
  rw [e,zi20,←ByteArray.append_assoc]
  (refine zl1 _ _ rfl rfl ?_ ?_<;>(repeat' (first|exact TmOk.nil|exact RwOk.nil|refine TmOk.cons ?_ ?_|refine RwOk.cons ?_ ?_|rfl|(refine rnV_id' rfl ?_;exact byc)|(refine zp1 ?_;first|rfl|omega|(rw [zw (by omega) (by omega)];omega))|(refine zb1 rfl ?_;exact byc)|exact zc2 rfl rfl|(refine zq1 (by rfl) (by rfl) ?_ ?_<;>exact byc)|(refine rw_rn' rfl rfl ?_;simp;done))))
 ·have hk':¬k<l.length:=by simpa using hk1
  rw [List.take_of_length_le (by rw [List.length_map];omega)] at hq ⊢
  repeat' (first|(apply f_wo;first|(apply f_mv;refine zv (v:=.c _) ?_)|(apply f_as;refine zq (v:=.c _) ?_)|(apply zd2;refine zl3 ?_))|(apply f_w;first|refine zj ?_|refine zb ?_)|refine za fun C=>?_|refine zd ?_|refine zu ?_)
  refine zh ?_;refine ret0 rfl zg1 ⟨?_,rfl⟩;rfl
theorem zl6:∀{l:List E} {k:Nat} {x:E},l[k]? = some x→subL (owL (l.map xStr)) (k*1) (Tryz.prog.cellsOf 9)=[.v (.string (txE x))]
 | [],k,t,h=>by simp at h
 | x :: l,0,t,h=>by
  have:x=t:=by simpa using h
  subst this
  rfl
 | x :: l,k+1,t,h=>by
  have h':l[k]? = some t:=by simpa using h
  rw [←zl6 h',show (k+1)*1=k*1+1 by omega]
  show subL ([.v (.string (txE x))]++owL (l.map xStr)) _ _=_
  unfold subL
  congr 1
theorem zm20 {e:E}(he:e.Ty Tryz.prog 45)(hsz:e.sz≤1048576)(hok:okX e=true):Ctr Tryz.prog 13 [.ag (acE e)] [] (.c (.v (.string (txE e)))) []:=zh20 (e.sz+1) e he (by omega) (by omega) hok
set_option maxHeartbeats 16000000 in
theorem l9Text_s {e:E}(he:e.Ty Tryz.prog 71)(hsz:e.sz≤1048576)(hok:stmtB e=true)(ih:∀x,x.Ty Tryz.prog 71→x.sz<e.sz→stmtB x=true→Ctr Tryz.prog 29 [.ag (acE x)] [] (.c (.v (.string (stE x)))) []):Ctr Tryz.prog 29 [.ag (acE e)] [] (.c (.v (.string (stE e)))) []:=by
 obtain⟨k,s,t,xA,xc,xs,aA,ac,la,bA,bc,lb,rfl,-,-,-,⟨hx,kx⟩,⟨ha,ka⟩,⟨hb,kb⟩,-⟩:=zt1 he
 simp only [E.sz,E.szL] at hsz ih
 have hhead:sheadB k s t xs la.length lb.length=true:=zy12 hok
 obtain⟨hxs,hkind⟩:=zz12 hhead
 clear hhead
 have hkA:∀x∈la,Ctr Tryz.prog 29 [.ag (acE x)] [] (.c (.v (.string (stE x)))) []:=fun x hx=>by
  have:=E.szL_mem hx
  have h0:0<la.length:=List.length_pos_of_mem hx
  exact ih x (ha x hx) (by omega) (zt6 hok (List.mem_append_left lb hx))
 have hkB:∀x∈lb,Ctr Tryz.prog 29 [.ag (acE x)] [] (.c (.v (.string (stE x)))) []:=fun x hx=>by
  have:=E.szL_mem hx
  have h0:0<lb.length:=List.length_pos_of_mem hx
  exact ih x (hb x hx) (by omega) (zt6 hok (List.mem_append_right la hx))
 have cA:=zq11 ha ka (by omega) hkA
 have cB:=zq11 hb kb (by omega) hkB
 have zA:=zi4 (la.map stE)
 have zA2:=zu5 ha
 have zB:=zi4 (lb.map stE)
 have zB2:=zu5 hb
 have zJ:=zh16 hx
 have hkX:∀x∈xs,Ctr Tryz.prog 13 [.ag (acE x)] [] (.c (.v (.string (txE x)))) []:=fun x hx'=>by
  have:=E.szL_mem hx'
  exact zm20 (hx x hx') (by omega) (hxs x hx')
 rw [zk14]
 clear hkA hkB hok he hxs ih
 generalize blT (la.map stE)=TA at cA zA ⊢
 generalize blT (lb.map stE)=TB at cB zB ⊢
 have hll:(xs.map xStr).length=xs.length:=List.length_map ..
 refine ze1 Tryz.func29 rfl rfl ?_
 repeat' (first|(apply f_wo;first|(apply f_as;refine zq (v:=.c _) ?_)|refine n_bo ?_|refine n_bs ?_)|(apply f_w;first|refine zj ?_|refine zb ?_)|refine za fun C=>?_|refine zd ?_|refine ze ?_)
 refine zv1 (fun i:Nat=>⟨tmsF [(1,.c (.pt 1 0)),(3,.c (.sl 7 i)),(4,.c (.v (.int .i64 i)))],hpsF [(1,1,⟨71,0,0,true,[.v (.int .i64 k),.v (.string s),.v (.string t),.ro xs.length 4 (acL xs),.ro la.length 6 (acL la),.ro lb.length 6 (acL lb)]⟩),(7,7,⟨9,1,i,false,owL ((xs.take i).map xStr)⟩)],0,[1,7],168⟩)
  (fun N i=>i+N=xs.length) xs.length 0 (by omega) ?_ ?_
 ·show Gh _ _
  (refine zl1 _ _ rfl rfl ?_ ?_<;>(repeat' (first|exact TmOk.nil|exact RwOk.nil|refine TmOk.cons ?_ ?_|refine RwOk.cons ?_ ?_|rfl|exact zb1 rfl (by assumption)|exact zb1 rfl (bytC_cloB _)|(refine rnV_id' rfl ?_;exact byc)|(refine zp1 ?_;first|rfl|omega|(rw [zw (by omega) (by omega)];omega))|(refine zb1 rfl ?_;exact byc)|exact zc2 rfl rfl|(refine zq1 (by rfl) (by rfl) ?_ ?_<;>exact byc)|(refine rw_rn' rfl rfl ?_;simp;done))))
 rintro N i hN
 try dsimp only
 repeat' (first|(apply f_wo;first|(apply f_mv;refine zv (v:=.c _) ?_)|(apply f_fa;refine n_fa ?_)|(apply f_ld;refine zn1 ?_)|(apply f_bi;refine zy1 ?_)|(apply zg3;refine zs1 ?_))|(apply f_w;first|refine zj ?_|refine zb ?_)|refine za fun C=>?_|refine zd ?_)
 refine zi (by rfl) (fun h1=>?_) fun h1=>?_
 ·have hi':i<xs.length:=by simpa using h1
  obtain⟨x,hxi⟩:∃x,xs[i]? = some x:=⟨_,List.getElem?_eq_getElem hi'⟩
  have hxm:=List.mem_of_getElem? hxi
  have hxt:=hx x hxm
  have c3:=hkX x hxm
  have e:(xs.take (i+1)).map xStr=(xs.take i).map xStr++[.str (txE x)]:=by rw [List.take_add_one,hxi,Option.toList_some,List.map_append];rfl
  generalize txE x=T at c3 e
  obtain⟨y0,y1,y2,yA,yc,yl,rfl,-⟩:=zh1 hxt
  repeat' (first|(apply f_wo;first|(apply f_mv;refine zv (v:=.c _) ?_)|(apply f_as;refine zq (v:=.c _) ?_)|(apply f_fa;refine n_fa ?_)|(apply f_ld;first|refine zn1 ?_|refine zq2 ?_)|(apply f_ca;refine zk1 c3 ?_)|(apply f_bi;refine zj17 ?_)|(apply f_ia;refine n_ix ?_)|(apply zd2;refine zj1 ?_)|refine n_bs ?_)|(apply f_w;first|refine zj ?_|refine zb ?_)|refine za fun C=>?_|refine zd ?_|refine ze ?_|refine zg ?_)
  refine⟨N-1,i+1,by omega,by omega,?_⟩
  rw [e]
  (refine zi6 (fun j=>if j=7 then 23 else j) _ _ rfl rfl ?_ ?_<;>(repeat' (first|exact TmOk.nil|exact RwOk.nil|refine TmOk.cons ?_ ?_|refine RwOk.cons ?_ ?_|rfl|exact zb1 rfl (by assumption)|exact zb1 rfl (bytC_cloB _)|(refine rnV_id' rfl ?_;exact byc)|(refine zp1 ?_;first|rfl|omega|(rw [zw (by omega) (by omega)];omega))|(refine zb1 rfl ?_;exact byc)|exact zc2 rfl rfl|(refine zq1 (by rfl) (by rfl) ?_ ?_<;>exact byc)|(refine rw_rn' rfl rfl ?_;simp;done))))
  exact zh17 (r:=⟨9,1,i+1,false,owL ((xs.take i).map xStr)++[.v (.string T)]⟩) rfl (by rw [zh6];rfl) (zo _)
 ·have hi':¬i<xs.length:=by simpa using h1
  obtain rfl:i=xs.length:=by omega
  rw [List.take_length]
  rcases hkind with rfl|⟨hk0,x,rfl⟩|⟨hk0,x,y,rfl⟩|⟨hk0,x,rfl⟩|rfl|rfl|⟨hk0,x,rfl⟩|⟨hk0,x,rfl⟩
  ·-- print
   repeat' (first|(apply f_wo;first|(apply f_as;refine zq (v:=.c _) ?_)|(apply f_fa;refine n_fa ?_)|(apply f_ld;refine zn1 ?_)|(apply zr1;refine zm ?_))|(apply f_w;first|refine zj ?_|refine zb ?_)|refine za fun C=>?_|refine zd ?_|refine ze ?_|refine zu ?_|refine za1 rfl ?_)
   refine zv1 (fun i:Nat=>⟨tmsF [(3,.c (.sl 7 xs.length)),(5,.c (.v (.string (⟨#[112,114,105,110,116,32]⟩++joinB ((xs.map xStr).take i) ⟨#[44,32]⟩)))),(6,.c (.v (.int .i64 i)))],hpsF [(7,7,⟨9,1,xs.length,false,owL (xs.map xStr)⟩)],0,[7],168⟩)
    (fun N i=>i+N=xs.length) xs.length 0 (by omega) ?_ ?_
   ·rw [List.take_zero,zt5,ByteArray.append_empty]
    show Gh _ _
    (refine zl1 _ _ rfl rfl ?_ ?_<;>(repeat' (first|exact TmOk.nil|exact RwOk.nil|refine TmOk.cons ?_ ?_|refine RwOk.cons ?_ ?_|rfl|exact zb1 rfl (by assumption)|exact zb1 rfl (bytC_cloB _)|(refine rnV_id' rfl ?_;exact byc)|(refine zp1 ?_;first|rfl|omega|(rw [zw (by omega) (by omega)];omega))|(refine zb1 rfl ?_;exact byc)|exact zc2 rfl rfl|(refine zq1 (by rfl) (by rfl) ?_ ?_<;>exact byc)|(refine rw_rn' rfl rfl ?_;simp;done))))
   rintro N i hN
   try dsimp only
   have hM:(⟨#[112,114,105,110,116,32]⟩:ByteArray).size=6:=rfl
   show AWp _ _ _ _
   have hj:=za10 hx i
   have hj2:=za10 hx (i+1)
   repeat' (first|(apply f_wo;first|(apply f_mv;refine zv (v:=.c _) ?_)|(apply f_bi;refine zj6 ?_)|(apply zg3;refine zs1 ?_))|(apply f_w;first|refine zj ?_|refine zb ?_)|refine za fun C=>?_|refine zd ?_)
   refine zi (by rfl) (fun h1=>?_) fun h1=>?_
   ·have hi':i<xs.length:=by simpa using h1
    obtain⟨x,hxi⟩:∃x,xs[i]? = some x:=⟨_,List.getElem?_eq_getElem hi'⟩
    have hxm:=List.mem_of_getElem? hxi
    have hxt:=hx x hxm
    have hxz:=E.szL_mem hxm
    have hts:=zl4 hxt
    have hsub:=zl6 hxi
    have hxs:(xs.map xStr)[i]? = some (xStr x):=by rw [List.getElem?_map,hxi];rfl
    have e:=zv8 hxs ⟨#[44,32]⟩
    have hst:strB (xStr x)=txE x:=rfl
    rw [hst] at e
    have h2:(⟨#[44,32]⟩:ByteArray).size=2:=rfl
    generalize txE x=T at hsub hts e
    by_cases hk0:i=0
    ·subst hk0
     rw [if_pos rfl] at e
     rw [List.take_zero,zt5,ByteArray.append_empty] at *
     repeat' (first|(apply f_wo;first|(apply f_mv;refine zv (v:=.c _) ?_)|(apply f_as;refine zq (v:=.c _) ?_)|(apply f_ld;refine n_ld ?_)|(apply f_ia;refine zk17 ?_)|(apply zn3;refine za2 ?_)|(apply zd2;first|refine zj1 ?_|refine zl3 ?_))|(apply f_w;first|refine zj ?_|refine zb ?_)|refine za fun C=>?_|refine zd ?_|refine ze ?_|refine zg ?_|(refine zi (by rfl) ?_ ?_<;>intro hC<;>(try cases hC)))
     all_goals first
      | (exfalso;simp at hC;done)
      | (refine⟨N-1,1,by omega,by omega,?_⟩
         rw [show (1:Nat)=0+1 from rfl,e,ByteArray.empty_append]
         show Gh _ _
         (refine zl1 _ _ rfl rfl ?_ ?_<;>(repeat' (first|exact TmOk.nil|exact RwOk.nil|refine TmOk.cons ?_ ?_|refine RwOk.cons ?_ ?_|rfl|exact zb1 rfl (by assumption)|exact zb1 rfl (bytC_cloB _)|(refine rnV_id' rfl ?_;exact byc)|(refine zp1 ?_;first|rfl|omega|(rw [zw (by omega) (by omega)];omega))|(refine zb1 rfl ?_;exact byc)|exact zc2 rfl rfl|(refine zq1 (by rfl) (by rfl) ?_ ?_<;>exact byc)|(refine rw_rn' rfl rfl ?_;simp;done)))))
    ·rw [if_neg hk0] at e
     generalize joinB ((xs.map xStr).take i) ⟨#[44,32]⟩=J at e hj ⊢
     generalize (⟨#[112,114,105,110,116,32]⟩:ByteArray)=M at hM ⊢
     have hMJ:(M++J).size=M.size+J.size:=ByteArray.size_append' _ _
     have e3:M++((J++⟨#[44,32]⟩)++T)=((M++J)++⟨#[44,32]⟩)++T:=by simp only [ByteArray.append_assoc]
     repeat' (first|(apply f_wo;first|(apply f_mv;refine zv (v:=.c _) ?_)|(apply f_as;refine zq (v:=.c _) ?_)|(apply f_ld;refine n_ld ?_)|(apply f_ia;refine zk17 ?_)|(apply zn3;refine za2 ?_)|(apply zd2;first|refine zj1 ?_|refine zl3 ?_))|(apply f_w;first|refine zj ?_|refine zb ?_)|refine za fun C=>?_|refine zd ?_|refine ze ?_|refine zg ?_|(refine zi (by rfl) ?_ ?_<;>intro hC<;>(try cases hC)))
     all_goals first
      | (exfalso;simp only [decide_eq_false_iff_not] at hC;omega)
      | (refine⟨N-1,i+1,by omega,by omega,?_⟩
         rw [e,e3]
         show Gh _ _
         (refine zl1 _ _ rfl rfl ?_ ?_<;>(repeat' (first|exact TmOk.nil|exact RwOk.nil|refine TmOk.cons ?_ ?_|refine RwOk.cons ?_ ?_|rfl|exact zb1 rfl (by assumption)|exact zb1 rfl (bytC_cloB _)|(refine rnV_id' rfl ?_;exact byc)|(refine zp1 ?_;first|rfl|omega|(rw [zw (by omega) (by omega)];omega))|(refine zb1 rfl ?_;exact byc)|exact zc2 rfl rfl|(refine zq1 (by rfl) (by rfl) ?_ ?_<;>exact byc)|(refine rw_rn' rfl rfl ?_;simp;done)))))
   ·have hi':¬i<xs.length:=by simpa using h1
    rw [List.take_of_length_le (by omega)] at hj ⊢
    have hMJ:(⟨#[112,114,105,110,116,32]⟩++joinB (xs.map xStr) ⟨#[44,32]⟩:ByteArray).size=(⟨#[112,114,105,110,116,32]⟩:ByteArray).size+(joinB (xs.map xStr) ⟨#[44,32]⟩).size:=ByteArray.size_append' _ _
    rw [zp11] at *
    repeat' (first|(apply f_wo;first|(apply f_mv;refine zv (v:=.c _) ?_)|(apply f_as;refine zq (v:=.c _) ?_)|(apply zd2;refine zl3 ?_))|(apply f_w;first|refine zj ?_|refine zb ?_)|refine za fun C=>?_|refine zd ?_|refine zu ?_)
    refine zh ?_;refine ret0 rfl zg1 ⟨?_,rfl⟩
    show _=AV.c (.v (.string ((⟨#[112,114,105,110,116,32]⟩++joC (xs.map txE))++⟨#[59]⟩)))
    rw [zp11]
  ·-- set,del
   have hsub:subL (owL ([x].map xStr)) (0*1) (Tryz.prog.cellsOf 9)=[.v (.string (txE x))]:=zl6 rfl
   have zx:=zl4 (hx x (by simp))
   simp only [E.szL,List.length_cons,List.length_nil] at hsz
   rcases hk0 with rfl|rfl
   all_goals
    repeat' (first|(apply f_wo;first|(apply f_as;refine zq (v:=.c _) ?_)|(apply f_fa;refine n_fa ?_)|(apply f_ld;refine zn1 ?_)|(apply zr1;refine zm ?_))|(apply f_w;first|refine zj ?_|refine zb ?_)|(apply d_wo;first|(apply d_mv;refine ze2 ?_)|(apply d_as;refine ze2 ?_)|(apply d_fa;refine o_fa ?_)|(apply d_ld;refine zp3 ?_)|(apply d_ia;refine ze2 ?_)|(apply d_bb;refine zx5 ?_))|(apply d_w;first|refine zj ?_|refine zb ?_)|refine za fun C=>?_|refine zn (by kernel_rfl) (by kernel_rfl) fun C=>?_|refine zd ?_|refine ze ?_|refine zu ?_|refine za1 rfl ?_|refine zf1 rfl ?_)
    refine zh ?_;refine ret0 rfl zg1 ⟨?_,rfl⟩;rfl
  ·-- put,field
   have hsub:subL (owL ([x,y].map xStr)) (0*1) (Tryz.prog.cellsOf 9)=[.v (.string (txE x))]:=zl6 rfl
   have hsub1:subL (owL ([x,y].map xStr)) (1*1) (Tryz.prog.cellsOf 9)=[.v (.string (txE y))]:=zl6 rfl
   have zx:=zl4 (hx x (by simp))
   have zy:=zl4 (hx y (by simp))
   simp only [E.szL,List.length_cons,List.length_nil] at hsz
   rcases hk0 with rfl|rfl
   all_goals
    repeat' (first|(apply f_wo;first|(apply f_as;refine zq (v:=.c _) ?_)|(apply f_fa;refine n_fa ?_)|(apply f_ld;refine zn1 ?_)|(apply zr1;refine zm ?_))|(apply f_w;first|refine zj ?_|refine zb ?_)|(apply d_wo;first|(apply d_mv;refine ze2 ?_)|(apply d_as;refine ze2 ?_)|(apply d_fa;refine o_fa ?_)|(apply d_ld;refine zp3 ?_)|(apply d_ia;refine ze2 ?_)|(apply d_bb;refine zx5 ?_))|(apply d_w;first|refine zj ?_|refine zb ?_)|refine za fun C=>?_|refine zn (by kernel_rfl) (by kernel_rfl) fun C=>?_|refine zd ?_|refine ze ?_|refine zu ?_|refine za1 rfl ?_|refine zf1 rfl ?_)
    refine zh ?_;refine ret0 rfl zg1 ⟨?_,rfl⟩;rfl
  ·-- if,while
   have hsub:subL (owL ([x].map xStr)) (0*1) (Tryz.prog.cellsOf 9)=[.v (.string (txE x))]:=zl6 rfl
   have zx:=zl4 (hx x (by simp))
   simp only [E.szL,List.length_cons,List.length_nil] at hsz
   rcases hk0 with rfl|rfl
   ·have e5:sNode 5 s t ([x].map txE) TA TB lb.length=if lb.length=0 then ((⟨#[105,102,32,40]⟩++txE x)++⟨#[41,32]⟩)++TA else (((⟨#[105,102,32,40]⟩++txE x)++⟨#[41,32]⟩)++TA)++(⟨#[32,101,108,115,101,32]⟩++TB):=rfl
    by_cases hl0:lb.length=0
    ·repeat' (first|(apply f_wo;first|(apply f_as;refine zq (v:=.c _) ?_)|(apply f_fa;refine n_fa ?_)|(apply f_ld;refine zn1 ?_)|(apply f_bi;refine zy1 ?_)|(apply zr1;refine zm ?_))|(apply f_w;first|refine zj ?_|refine zb ?_)|(apply d_wo;first|(apply d_mv;refine ze2 ?_)|(apply d_as;refine ze2 ?_)|(apply d_fa;refine o_fa ?_)|(apply d_ld;refine zp3 ?_)|(apply d_ca;first|refine zu3 cA ?_|refine zu3 cB ?_)|(apply d_ia;refine ze2 ?_)|(apply d_bb;refine zx5 ?_))|(apply d_w;first|refine zj ?_|refine zb ?_)|refine za fun C=>?_|refine zn (by kernel_rfl) (by kernel_rfl) fun C=>?_|refine zd ?_|refine ze ?_|refine zg ?_|refine zu ?_|(refine zi (by rfl) ?_ ?_<;>intro hC<;>(try cases hC)))
     all_goals first
      | (exfalso;simp only [beq_eq_false_iff_ne,ne_eq] at hC;omega)
      | (refine zh ?_;refine ret0 rfl zg1 ⟨?_,rfl⟩;rw [e5,if_pos hl0])
    ·repeat' (first|(apply f_wo;first|(apply f_as;refine zq (v:=.c _) ?_)|(apply f_fa;refine n_fa ?_)|(apply f_ld;refine zn1 ?_)|(apply f_bi;refine zy1 ?_)|(apply zr1;refine zm ?_))|(apply f_w;first|refine zj ?_|refine zb ?_)|(apply d_wo;first|(apply d_mv;refine ze2 ?_)|(apply d_as;refine ze2 ?_)|(apply d_fa;refine o_fa ?_)|(apply d_ld;refine zp3 ?_)|(apply d_ca;first|refine zu3 cA ?_|refine zu3 cB ?_)|(apply d_ia;refine ze2 ?_)|(apply d_bb;refine zx5 ?_))|(apply d_w;first|refine zj ?_|refine zb ?_)|refine za fun C=>?_|refine zn (by kernel_rfl) (by kernel_rfl) fun C=>?_|refine zd ?_|refine ze ?_|refine zg ?_|refine zu ?_|(refine zi (by rfl) ?_ ?_<;>intro hC<;>(try cases hC)))
     all_goals first
      | (exfalso;simp only [beq_iff_eq] at hC;omega)
      | (refine zh ?_;refine ret0 rfl zg1 ⟨?_,rfl⟩;rw [e5,if_neg hl0,←ByteArray.append_assoc])
   ·repeat' (first|(apply f_wo;first|(apply f_as;refine zq (v:=.c _) ?_)|(apply f_fa;refine n_fa ?_)|(apply f_ld;refine zn1 ?_)|(apply zr1;refine zm ?_))|(apply f_w;first|refine zj ?_|refine zb ?_)|(apply d_wo;first|(apply d_mv;refine ze2 ?_)|(apply d_as;refine ze2 ?_)|(apply d_fa;refine o_fa ?_)|(apply d_ld;refine zp3 ?_)|(apply d_ca;refine zu3 cA ?_)|(apply d_ia;refine ze2 ?_)|(apply d_bb;refine zx5 ?_))|(apply d_w;first|refine zj ?_|refine zb ?_)|refine za fun C=>?_|refine zn (by kernel_rfl) (by kernel_rfl) fun C=>?_|refine zd ?_|refine ze ?_|refine zu ?_|refine za1 rfl ?_|refine zf1 rfl ?_)
    refine zh ?_;refine ret0 rfl zg1 ⟨?_,rfl⟩;rfl
  ·-- for
   repeat' (first|(apply f_wo;first|(apply f_as;refine zq (v:=.c _) ?_)|(apply f_fa;refine n_fa ?_)|(apply f_ld;refine zn1 ?_)|(apply zr1;refine zm ?_))|(apply f_w;first|refine zj ?_|refine zb ?_)|(apply d_wo;first|(apply d_as;refine ze2 ?_)|(apply d_fa;refine o_fa ?_)|(apply d_ld;refine zp3 ?_)|(apply d_ca;refine zu3 cA ?_)|(apply d_bb;refine zx5 ?_))|(apply d_w;first|refine zj ?_|refine zb ?_)|refine za fun C=>?_|refine zn (by kernel_rfl) (by kernel_rfl) fun C=>?_|refine zd ?_|refine ze ?_|refine zu ?_|refine za1 rfl ?_|refine zf1 rfl ?_)
   refine zh ?_;refine ret0 rfl zg1 ⟨?_,rfl⟩;rfl
  ·-- next
   repeat' (first|(apply f_wo;first|(apply f_as;refine zq (v:=.c _) ?_)|(apply f_fa;refine n_fa ?_)|(apply f_ld;refine zn1 ?_)|(apply zr1;refine zm ?_))|(apply f_w;first|refine zj ?_|refine zb ?_)|refine za fun C=>?_|refine zd ?_|refine ze ?_|refine zu ?_|refine za1 rfl ?_|refine zf1 rfl ?_)
   refine zh ?_;refine ret0 rfl zg1 ⟨?_,rfl⟩;rfl
  ·-- exit,return
   have hsub:subL (owL ([x].map xStr)) (0*1) (Tryz.prog.cellsOf 9)=[.v (.string (txE x))]:=zl6 rfl
   have zx:=zl4 (hx x (by simp))
   simp only [E.szL,List.length_cons,List.length_nil] at hsz
   rcases hk0 with rfl|rfl
   all_goals
    repeat' (first|(apply f_wo;first|(apply f_mv;refine zv (v:=.c _) ?_)|(apply f_as;refine zq (v:=.c _) ?_)|(apply f_fa;refine n_fa ?_)|(apply f_ld;refine zn1 ?_)|(apply f_ia;refine zz1 ?_)|(apply zr1;refine zm ?_)|(apply zd2;refine zl3 ?_))|(apply f_w;first|refine zj ?_|refine zb ?_)|refine za fun C=>?_|refine zd ?_|refine ze ?_|refine zu ?_|refine za1 rfl ?_|refine zf1 rfl ?_)
    refine zh ?_;refine ret0 rfl zg1 ⟨?_,rfl⟩;rfl
  ·-- a call
   have hsub:subL (owL ([x].map xStr)) (0*1) (Tryz.prog.cellsOf 9)=[.v (.string (txE x))]:=zl6 rfl
   have zx:=zl4 (hx x (by simp))
   simp only [E.szL,List.length_cons,List.length_nil] at hsz
   subst hk0
   repeat' (first|(apply f_wo;first|(apply f_mv;refine zv (v:=.c _) ?_)|(apply f_as;refine zq (v:=.c _) ?_)|(apply f_fa;refine n_fa ?_)|(apply f_ld;refine zn1 ?_)|(apply f_ia;refine zz1 ?_)|(apply zr1;refine zm ?_)|(apply zd2;refine zl3 ?_))|(apply f_w;first|refine zj ?_|refine zb ?_)|refine za fun C=>?_|refine zd ?_|refine ze ?_|refine zg ?_|refine zu ?_|refine zf1 rfl ?_)
   refine zh ?_;refine ret0 rfl zg1 ⟨?_,rfl⟩;rfl
theorem zn20:∀(n:Nat) (e:E),e.Ty Tryz.prog 71→e.sz<n→n≤1048577→stmtB e=true→Ctr Tryz.prog 29 [.ag (acE e)] [] (.c (.v (.string (stE e)))) []
 | 0,_,_,h,_,_=>absurd h (Nat.not_lt_zero _)
 | n+1,e,he,hsz,hn,hok=>l9Text_s he (by omega) hok fun x hx hxs hb=>zn20 n x hx (by omega) (by omega) hb
end Go.Proofs.YtnjfnhoipnbpeaaGreatDoor
