/- spec.InsText, impl.InsText: what they call, by the abstract machine. -/
import Derived.Test.YtghljnfbbaklnaaGreatGetModuleAB
namespace Go.Proofs.YtghljnfbbaklnaaGreat
open Go.RowKit
set_option maxRecDepth 100000
def hasNum (x:Int):Bool:=[2,3,4,5,6,7,13,16,17,18,19,20,21,24,25,32,34,36].any fun y=>x==y
theorem za18 (x:Int):Ctr Tryz.prog 114 [.c (.v (.int .i64 x))] [] (.c (.v (.bool (hasNum x)))) []:=by
 refine zi1 Tryz.func114 rfl rfl ?_
 repeat' (first|refine zd ?_|refine zg ?_|refine zk ?_|refine za fun C=>?_|refine zc ?_|refine zm2 ?_|(refine zy2 (by rfl) ?_ ?_<;>intro hC<;>(try cases hC)))
 all_goals first
  | (exfalso;simp_all;done)
  | (refine zi ?_
     refine ret0 rfl zy ⟨?_,rfl⟩
     refine congrArg (fun s=>AV.c (AC.v (Value.bool s))) ?_
     simp at *
     simp [hasNum, *];done)
  | skip
theorem l17Has_c (x:Int):Ctr Tryz.prog 99 [.c (.v (.int .i64 x))] [] (.c (.v (.bool (hasNum x)))) []:=by
 refine zi1 Tryz.func99 rfl rfl ?_
 repeat' (first|refine zd ?_|refine zg ?_|refine zk ?_|refine za fun C=>?_|refine zc ?_|refine zm2 ?_|(refine zy2 (by rfl) ?_ ?_<;>intro hC<;>(try cases hC)))
 all_goals first
  | (exfalso;simp_all;done)
  | (refine zi ?_
     refine ret0 rfl zy ⟨?_,rfl⟩
     refine congrArg (fun s=>AV.c (AC.v (Value.bool s))) ?_
     simp at *
     simp [hasNum, *];done)
  | skip
def insOkS (x n:Int):Bool :=
 if inR x 1 41&&inR n 0 10000 then (if x==7 then decide (n≤11) else if x==13 then decide (n≤1) else if x==34 then inR n 1 5 else hasNum x||n==0) else false
def insOkJ (x n:Int):Bool :=
 if !inR x 1 41||!hasNum x then inR x 1 41&&n==0 else if x==7 then inR n 0 11 else if x==13 then inR n 0 1 else if x==34 then inR n 1 5 else inR n 0 10000
theorem zm21 (x n:Int):insOkJ x n=insOkS x n:=by
 have hb:hasNum 7=true∧hasNum 13=true∧hasNum 34=true:=by decide
 unfold insOkJ insOkS inR
 rw [Bool.eq_iff_iff]
 by_cases e1:x=7
 ·subst e1;simp [hb.1];omega
 by_cases e2:x=13
 ·subst e2;simp [hb.2.1];omega
 by_cases e3:x=34
 ·subst e3;simp [hb.2.2];omega
 cases hh:hasNum x
 ·simp [e1,e2,e3];omega
 ·simp [e1,e2,e3]
  split<;>omega
set_option maxHeartbeats 1000000 in
theorem zb18 (x n:Int):Ctr Tryz.prog 111 [.ag [.v (.int .i64 x),.v (.int .i64 n)]] [] (.c (.v (.bool (insOkS x n)))) []:=by
 rw [←zm21]
 refine zi1 Tryz.func111 rfl rfl ?_
 repeat' (first|refine zd ?_|refine zg ?_|refine zk ?_|refine za fun C=>?_|refine zc ?_|(refine x_gm ?_ ?_<;>intro hG<;>(try cases hG))|refine zm2 ?_|refine x_gr ?_|refine x_sk ?_|refine zd6 (za18 _) ?_|refine zd6 (zw4 _ _ _) ?_|(refine zy2 (by rfl) ?_ ?_<;>intro hC<;>(try cases hC)))
 all_goals first
  | (exfalso;simp_all;done)
  | (refine zi ?_
     refine ret0 rfl zy ⟨?_,rfl⟩
     refine congrArg (fun s=>AV.c (AC.v (Value.bool s))) ?_
     simp_all [insOkJ];done)
set_option maxHeartbeats 1000000 in
theorem zn11 (x n:Int):Ctr Tryz.prog 160 [.ag [.v (.int .i64 x),.v (.int .i64 n)]] [] (.c (.v (.bool (insOkS x n)))) []:=by
 refine zi1 Tryz.func160 rfl rfl ?_
 repeat' (first|refine zd ?_|refine zg ?_|refine zk ?_|refine za fun C=>?_|refine zc ?_|(refine x_gm ?_ ?_<;>intro hG<;>(try cases hG))|refine zm2 ?_|refine x_gr ?_|refine x_sk ?_|refine zd6 (l17Has_c _) ?_|refine zd6 (zx10 _ _ _) ?_|(refine zy2 (by rfl) ?_ ?_<;>intro hC<;>(try cases hC)))
 all_goals first
  | (exfalso;simp_all;done)
  | (refine zi ?_
     refine ret0 rfl zy ⟨?_,rfl⟩
     refine congrArg (fun s=>AV.c (AC.v (Value.bool s))) ?_
     simp_all [insOkS];done)
theorem idx0Val_c {l:List E}(hl:∀e∈l,e.Ty Tryz.prog 75)(hk:∀e∈l,e.enc.length=3)(hlen:l.length≤1073741824)(p:E→Bool)(f:FuncId)(hc:∀x∈l,Ctr Tryz.prog f (.ag (acE x) :: []) [] (.c (.v (.bool (p x)))) []):Ctr Tryz.prog 162 [.c (.ro l.length 3 (acL l)),.c (.fn f [])] [] (.c (.v (.int .i64 (idxF p l)))) []:=by
 refine zi1 Tryz.func162 rfl rfl ?_
 repeat (first|refine zd ?_|refine zg ?_|refine zk ?_|refine zw ?_|refine zi ?_|refine za fun C=>?_|refine zp (by kernel_rfl) (by kernel_rfl) fun C=>?_|refine zc ?_|refine zm2 ?_|refine x_bs ?_|refine x_gr ?_|refine x_st ?_|refine x_mv ?_|refine x_sk ?_|refine zf3 ?_|refine x_ix ?_|refine zd3 ?_|refine zg3 ?_|refine ze3 ?_|refine zo2 ?_|refine x_ld ?_)
 refine zt1 (fun k:Nat=>⟨tmsF [(0,.c (.ro l.length 3 (acL l))),(1,.c (.fn f [])),(7,.c (.v (.int .i64 l.length))),(8,.c (.v (.int .i64 k)))],hpsF [],0,[],19⟩)
  (fun N k=>k+N=l.length∧∀j y,j<k→l[j]? = some y→p y=false) l.length 0 ⟨by omega,by omega⟩ ?_ ?_
 ·(refine zk1 _ _ rfl rfl ?_ ?_<;>(repeat' (first|exact TmOk.nil|exact RwOk.nil|refine TmOk.cons ?_ ?_|refine RwOk.cons ?_ ?_|rfl|(refine rnV_id' rfl ?_;exact byc)|(refine zo1 ?_;first|rfl|omega|(rw [za1 (by omega) (by omega)];omega))|(refine zv rfl ?_;exact byc)|exact zg2 rfl rfl|(refine zp1 (by rfl) (by rfl) ?_ ?_<;>exact byc)|(refine rw_rn' rfl rfl ?_;simp;done))))
 rintro N k ⟨hN,hno⟩
 repeat (first|refine zd ?_|refine zg ?_|refine zk ?_|refine zw ?_|refine zi ?_|refine za fun C=>?_|refine zp (by kernel_rfl) (by kernel_rfl) fun C=>?_|refine zc ?_|refine zm2 ?_|refine x_bs ?_|refine x_gr ?_|refine x_st ?_|refine x_mv ?_|refine x_sk ?_|refine zf3 ?_|refine x_ix ?_|refine zd3 ?_|refine zg3 ?_|refine ze3 ?_|refine zo2 ?_|refine x_ld ?_)
 refine zy2 (by rfl) (fun h1=>?_) fun h1=>?_
 ·have hk':k<l.length:=by simpa using h1
  obtain⟨x,hx⟩:∃x,l[k]? = some x:=⟨_,List.getElem?_eq_getElem hk'⟩
  have hxt:=hl x (List.mem_of_getElem? hx)
  have hcc:=hc x (List.mem_of_getElem? hx)
  obtain⟨y0,y1,y2,rfl,gy0,gy1,gy2,-⟩:=zk2 hxt
  repeat (first|refine zd ?_|refine zg ?_|refine zk ?_|refine zw ?_|refine zi ?_|refine za fun C=>?_|refine zp (by kernel_rfl) (by kernel_rfl) fun C=>?_|refine zc ?_|refine zm2 ?_|refine x_bs ?_|refine x_gr ?_|refine x_st ?_|refine x_mv ?_|refine x_sk ?_|refine zf3 ?_|refine x_ix ?_|refine zd3 ?_|refine zg3 ?_|refine ze3 ?_|refine zo2 ?_|refine x_ld ?_)
  refine zd6 hcc ?_
  repeat (first|refine zd ?_|refine zg ?_|refine zk ?_|refine zw ?_|refine zi ?_|refine za fun C=>?_|refine zp (by kernel_rfl) (by kernel_rfl) fun C=>?_|refine zc ?_|refine zm2 ?_|refine x_bs ?_|refine x_gr ?_|refine x_st ?_|refine x_mv ?_|refine x_sk ?_|refine zf3 ?_|refine x_ix ?_|refine zd3 ?_|refine zg3 ?_|refine ze3 ?_|refine zo2 ?_|refine x_ld ?_)
  refine zy2 (by rfl) (fun h2=>?_) fun h2=>?_
  ·repeat (first|refine zd ?_|refine zg ?_|refine zk ?_|refine zw ?_|refine zi ?_|refine za fun C=>?_|refine zp (by kernel_rfl) (by kernel_rfl) fun C=>?_|refine zc ?_|refine zm2 ?_|refine x_bs ?_|refine x_gr ?_|refine x_st ?_|refine x_mv ?_|refine x_sk ?_|refine zf3 ?_|refine x_ix ?_|refine zd3 ?_|refine zg3 ?_|refine ze3 ?_|refine zo2 ?_|refine x_ld ?_)
   refine ret0 (x:=.c (.v (.int .i64 k))) rfl zy ⟨?_,rfl⟩
   rw [zr10 hno hx h2]
  ·repeat (first|refine zd ?_|refine zg ?_|refine zk ?_|refine zw ?_|refine zi ?_|refine za fun C=>?_|refine zp (by kernel_rfl) (by kernel_rfl) fun C=>?_|refine zc ?_|refine zm2 ?_|refine x_bs ?_|refine x_gr ?_|refine x_st ?_|refine x_mv ?_|refine x_sk ?_|refine zf3 ?_|refine x_ix ?_|refine zd3 ?_|refine zg3 ?_|refine ze3 ?_|refine zo2 ?_|refine x_ld ?_)
   refine⟨N-1,k+1,by omega,⟨by omega,fun j z hj hz=>?_⟩,?_⟩
   ·by_cases e:j=k
    ·rw [e,hx] at hz;injection hz with hz;subst hz;exact h2
    ·exact hno j z (by omega) hz
   ·(refine zk1 _ _ rfl rfl ?_ ?_<;>(repeat' (first|exact TmOk.nil|exact RwOk.nil|refine TmOk.cons ?_ ?_|refine RwOk.cons ?_ ?_|rfl|(refine rnV_id' rfl ?_;exact byc)|(refine zo1 ?_;first|rfl|omega|(rw [za1 (by omega) (by omega)];omega))|(refine zv rfl ?_;exact byc)|exact zg2 rfl rfl|(refine zp1 (by rfl) (by rfl) ?_ ?_<;>exact byc)|(refine rw_rn' rfl rfl ?_;simp;done))))
 ·have hk':¬k<l.length:=by simpa using h1
  repeat (first|refine zd ?_|refine zg ?_|refine zk ?_|refine zw ?_|refine zi ?_|refine za fun C=>?_|refine zp (by kernel_rfl) (by kernel_rfl) fun C=>?_|refine zc ?_|refine zm2 ?_|refine x_bs ?_|refine x_gr ?_|refine x_st ?_|refine x_mv ?_|refine x_sk ?_|refine zf3 ?_|refine x_ix ?_|refine zd3 ?_|refine zg3 ?_|refine ze3 ?_|refine zo2 ?_|refine x_ld ?_)
  refine ret0 (x:=.c (.v (.int .i64 (-1)))) rfl zy ⟨?_,rfl⟩
  rw [zt5 fun j y hj hy=>hno j y (by omega) hy]
theorem con0Val_c {l:List E}(hl:∀e∈l,e.Ty Tryz.prog 75)(hk:∀e∈l,e.enc.length=3)(hlen:l.length≤1073741824)(p:E→Bool)(f:FuncId)(hc:∀x∈l,Ctr Tryz.prog f (.ag (acE x) :: []) [] (.c (.v (.bool (p x)))) []):Ctr Tryz.prog 103 [.c (.ro l.length 3 (acL l)),.c (.fn f [])] [] (.c (.v (.bool (l.any p)))) []:=by
 refine zi1 Tryz.func103 rfl rfl ?_
 have hcc:=idx0Val_c hl hk hlen p f hc
 repeat (first|refine zd ?_|refine zg ?_|refine zk ?_|refine zw ?_|refine zi ?_|refine za fun C=>?_|refine zp (by kernel_rfl) (by kernel_rfl) fun C=>?_|refine zc ?_|refine zm2 ?_|refine x_bs ?_|refine x_gr ?_|refine x_st ?_|refine x_mv ?_|refine x_sk ?_|refine zf3 ?_|refine x_ix ?_|refine zd3 ?_|refine zg3 ?_|refine ze3 ?_|refine zo2 ?_|refine x_ld ?_)
 refine zd6 hcc ?_
 repeat (first|refine zd ?_|refine zg ?_|refine zk ?_|refine zw ?_|refine zi ?_|refine za fun C=>?_|refine zp (by kernel_rfl) (by kernel_rfl) fun C=>?_|refine zc ?_|refine zm2 ?_|refine x_bs ?_|refine x_gr ?_|refine x_st ?_|refine x_mv ?_|refine x_sk ?_|refine zf3 ?_|refine x_ix ?_|refine zd3 ?_|refine zg3 ?_|refine ze3 ?_|refine zo2 ?_|refine x_ld ?_)
 refine ret0 (x:=.c (.v (.bool (decide (idxF p l ≥ 0))))) rfl zy ⟨?_,rfl⟩
 rw [zx7]
theorem idx0Ins_c {l:List E}(hl:∀e∈l,e.Ty Tryz.prog 82)(hk:∀e∈l,e.enc.length=2)(hlen:l.length≤1073741824)(p:E→Bool)(f:FuncId)(hc:∀x∈l,Ctr Tryz.prog f (.ag (acE x) :: []) [] (.c (.v (.bool (p x)))) []):Ctr Tryz.prog 166 [.c (.ro l.length 2 (acL l)),.c (.fn f [])] [] (.c (.v (.int .i64 (idxF p l)))) []:=by
 refine zi1 Tryz.func166 rfl rfl ?_
 repeat (first|refine zd ?_|refine zg ?_|refine zk ?_|refine zw ?_|refine zi ?_|refine za fun C=>?_|refine zp (by kernel_rfl) (by kernel_rfl) fun C=>?_|refine zc ?_|refine zm2 ?_|refine x_bs ?_|refine x_gr ?_|refine x_st ?_|refine x_mv ?_|refine x_sk ?_|refine zf3 ?_|refine x_ix ?_|refine zd3 ?_|refine zg3 ?_|refine ze3 ?_|refine zo2 ?_|refine x_ld ?_)
 refine zt1 (fun k:Nat=>⟨tmsF [(0,.c (.ro l.length 2 (acL l))),(1,.c (.fn f [])),(7,.c (.v (.int .i64 l.length))),(8,.c (.v (.int .i64 k)))],hpsF [],0,[],19⟩)
  (fun N k=>k+N=l.length∧∀j y,j<k→l[j]? = some y→p y=false) l.length 0 ⟨by omega,by omega⟩ ?_ ?_
 ·(refine zk1 _ _ rfl rfl ?_ ?_<;>(repeat' (first|exact TmOk.nil|exact RwOk.nil|refine TmOk.cons ?_ ?_|refine RwOk.cons ?_ ?_|rfl|(refine rnV_id' rfl ?_;exact byc)|(refine zo1 ?_;first|rfl|omega|(rw [za1 (by omega) (by omega)];omega))|(refine zv rfl ?_;exact byc)|exact zg2 rfl rfl|(refine zp1 (by rfl) (by rfl) ?_ ?_<;>exact byc)|(refine rw_rn' rfl rfl ?_;simp;done))))
 rintro N k ⟨hN,hno⟩
 repeat (first|refine zd ?_|refine zg ?_|refine zk ?_|refine zw ?_|refine zi ?_|refine za fun C=>?_|refine zp (by kernel_rfl) (by kernel_rfl) fun C=>?_|refine zc ?_|refine zm2 ?_|refine x_bs ?_|refine x_gr ?_|refine x_st ?_|refine x_mv ?_|refine x_sk ?_|refine zf3 ?_|refine x_ix ?_|refine zd3 ?_|refine zg3 ?_|refine ze3 ?_|refine zo2 ?_|refine x_ld ?_)
 refine zy2 (by rfl) (fun h1=>?_) fun h1=>?_
 ·have hk':k<l.length:=by simpa using h1
  obtain⟨x,hx⟩:∃x,l[k]? = some x:=⟨_,List.getElem?_eq_getElem hk'⟩
  have hxt:=hl x (List.mem_of_getElem? hx)
  have hcc:=hc x (List.mem_of_getElem? hx)
  obtain⟨y0,y1,rfl,gy0,gy1,-⟩:=zz2 hxt
  repeat (first|refine zd ?_|refine zg ?_|refine zk ?_|refine zw ?_|refine zi ?_|refine za fun C=>?_|refine zp (by kernel_rfl) (by kernel_rfl) fun C=>?_|refine zc ?_|refine zm2 ?_|refine x_bs ?_|refine x_gr ?_|refine x_st ?_|refine x_mv ?_|refine x_sk ?_|refine zf3 ?_|refine x_ix ?_|refine zd3 ?_|refine zg3 ?_|refine ze3 ?_|refine zo2 ?_|refine x_ld ?_)
  refine zd6 hcc ?_
  repeat (first|refine zd ?_|refine zg ?_|refine zk ?_|refine zw ?_|refine zi ?_|refine za fun C=>?_|refine zp (by kernel_rfl) (by kernel_rfl) fun C=>?_|refine zc ?_|refine zm2 ?_|refine x_bs ?_|refine x_gr ?_|refine x_st ?_|refine x_mv ?_|refine x_sk ?_|refine zf3 ?_|refine x_ix ?_|refine zd3 ?_|refine zg3 ?_|refine ze3 ?_|refine zo2 ?_|refine x_ld ?_)
  refine zy2 (by rfl) (fun h2=>?_) fun h2=>?_
  ·repeat (first|refine zd ?_|refine zg ?_|refine zk ?_|refine zw ?_|refine zi ?_|refine za fun C=>?_|refine zp (by kernel_rfl) (by kernel_rfl) fun C=>?_|refine zc ?_|refine zm2 ?_|refine x_bs ?_|refine x_gr ?_|refine x_st ?_|refine x_mv ?_|refine x_sk ?_|refine zf3 ?_|refine x_ix ?_|refine zd3 ?_|refine zg3 ?_|refine ze3 ?_|refine zo2 ?_|refine x_ld ?_)
   refine ret0 (x:=.c (.v (.int .i64 k))) rfl zy ⟨?_,rfl⟩
   rw [zr10 hno hx h2]
  ·repeat (first|refine zd ?_|refine zg ?_|refine zk ?_|refine zw ?_|refine zi ?_|refine za fun C=>?_|refine zp (by kernel_rfl) (by kernel_rfl) fun C=>?_|refine zc ?_|refine zm2 ?_|refine x_bs ?_|refine x_gr ?_|refine x_st ?_|refine x_mv ?_|refine x_sk ?_|refine zf3 ?_|refine x_ix ?_|refine zd3 ?_|refine zg3 ?_|refine ze3 ?_|refine zo2 ?_|refine x_ld ?_)
   refine⟨N-1,k+1,by omega,⟨by omega,fun j z hj hz=>?_⟩,?_⟩
   ·by_cases e:j=k
    ·rw [e,hx] at hz;injection hz with hz;subst hz;exact h2
    ·exact hno j z (by omega) hz
   ·(refine zk1 _ _ rfl rfl ?_ ?_<;>(repeat' (first|exact TmOk.nil|exact RwOk.nil|refine TmOk.cons ?_ ?_|refine RwOk.cons ?_ ?_|rfl|(refine rnV_id' rfl ?_;exact byc)|(refine zo1 ?_;first|rfl|omega|(rw [za1 (by omega) (by omega)];omega))|(refine zv rfl ?_;exact byc)|exact zg2 rfl rfl|(refine zp1 (by rfl) (by rfl) ?_ ?_<;>exact byc)|(refine rw_rn' rfl rfl ?_;simp;done))))
 ·have hk':¬k<l.length:=by simpa using h1
  repeat (first|refine zd ?_|refine zg ?_|refine zk ?_|refine zw ?_|refine zi ?_|refine za fun C=>?_|refine zp (by kernel_rfl) (by kernel_rfl) fun C=>?_|refine zc ?_|refine zm2 ?_|refine x_bs ?_|refine x_gr ?_|refine x_st ?_|refine x_mv ?_|refine x_sk ?_|refine zf3 ?_|refine x_ix ?_|refine zd3 ?_|refine zg3 ?_|refine ze3 ?_|refine zo2 ?_|refine x_ld ?_)
  refine ret0 (x:=.c (.v (.int .i64 (-1)))) rfl zy ⟨?_,rfl⟩
  rw [zt5 fun j y hj hy=>hno j y (by omega) hy]
theorem con0Ins_c {l:List E}(hl:∀e∈l,e.Ty Tryz.prog 82)(hk:∀e∈l,e.enc.length=2)(hlen:l.length≤1073741824)(p:E→Bool)(f:FuncId)(hc:∀x∈l,Ctr Tryz.prog f (.ag (acE x) :: []) [] (.c (.v (.bool (p x)))) []):Ctr Tryz.prog 109 [.c (.ro l.length 2 (acL l)),.c (.fn f [])] [] (.c (.v (.bool (l.any p)))) []:=by
 refine zi1 Tryz.func109 rfl rfl ?_
 have hcc:=idx0Ins_c hl hk hlen p f hc
 repeat (first|refine zd ?_|refine zg ?_|refine zk ?_|refine zw ?_|refine zi ?_|refine za fun C=>?_|refine zp (by kernel_rfl) (by kernel_rfl) fun C=>?_|refine zc ?_|refine zm2 ?_|refine x_bs ?_|refine x_gr ?_|refine x_st ?_|refine x_mv ?_|refine x_sk ?_|refine zf3 ?_|refine x_ix ?_|refine zd3 ?_|refine zg3 ?_|refine ze3 ?_|refine zo2 ?_|refine x_ld ?_)
 refine zd6 hcc ?_
 repeat (first|refine zd ?_|refine zg ?_|refine zk ?_|refine zw ?_|refine zi ?_|refine za fun C=>?_|refine zp (by kernel_rfl) (by kernel_rfl) fun C=>?_|refine zc ?_|refine zm2 ?_|refine x_bs ?_|refine x_gr ?_|refine x_st ?_|refine x_mv ?_|refine x_sk ?_|refine zf3 ?_|refine x_ix ?_|refine zd3 ?_|refine zg3 ?_|refine ze3 ?_|refine zo2 ?_|refine x_ld ?_)
 refine ret0 (x:=.c (.v (.bool (decide (idxF p l ≥ 0))))) rfl zy ⟨?_,rfl⟩
 rw [zx7]
theorem zi16 {l:List E}(hl:∀e∈l,e.Ty Tryz.prog 9)(hk:∀e∈l,e.enc.length=1)(hlen:l.length≤1073741824)(p:E→Bool)(f:FuncId)(hc:∀x∈l,Ctr Tryz.prog f (.c (.v (.string (strB x))) :: []) [] (.c (.v (.bool (p x)))) []):Ctr Tryz.prog 164 [.c (.ro l.length 1 (acL l)),.c (.fn f [])] [] (.c (.v (.int .i64 (idxF p l)))) []:=by
 refine zi1 Tryz.func164 rfl rfl ?_
 repeat (first|refine zd ?_|refine zg ?_|refine zk ?_|refine zw ?_|refine zi ?_|refine za fun C=>?_|refine zp (by kernel_rfl) (by kernel_rfl) fun C=>?_|refine zc ?_|refine zm2 ?_|refine x_bs ?_|refine x_gr ?_|refine x_st ?_|refine x_mv ?_|refine x_sk ?_|refine zf3 ?_|refine x_ix ?_|refine zd3 ?_|refine zg3 ?_|refine ze3 ?_|refine zo2 ?_|refine x_ld ?_)
 refine zt1 (fun k:Nat=>⟨tmsF [(0,.c (.ro l.length 1 (acL l))),(1,.c (.fn f [])),(7,.c (.v (.int .i64 l.length))),(8,.c (.v (.int .i64 k)))],hpsF [],0,[],19⟩)
  (fun N k=>k+N=l.length∧∀j y,j<k→l[j]? = some y→p y=false) l.length 0 ⟨by omega,by omega⟩ ?_ ?_
 ·(refine zk1 _ _ rfl rfl ?_ ?_<;>(repeat' (first|exact TmOk.nil|exact RwOk.nil|refine TmOk.cons ?_ ?_|refine RwOk.cons ?_ ?_|rfl|(refine rnV_id' rfl ?_;exact byc)|(refine zo1 ?_;first|rfl|omega|(rw [za1 (by omega) (by omega)];omega))|(refine zv rfl ?_;exact byc)|exact zg2 rfl rfl|(refine zp1 (by rfl) (by rfl) ?_ ?_<;>exact byc)|(refine rw_rn' rfl rfl ?_;simp;done))))
 rintro N k ⟨hN,hno⟩
 repeat (first|refine zd ?_|refine zg ?_|refine zk ?_|refine zw ?_|refine zi ?_|refine za fun C=>?_|refine zp (by kernel_rfl) (by kernel_rfl) fun C=>?_|refine zc ?_|refine zm2 ?_|refine x_bs ?_|refine x_gr ?_|refine x_st ?_|refine x_mv ?_|refine x_sk ?_|refine zf3 ?_|refine x_ix ?_|refine zd3 ?_|refine zg3 ?_|refine ze3 ?_|refine zo2 ?_|refine x_ld ?_)
 refine zy2 (by rfl) (fun h1=>?_) fun h1=>?_
 ·have hk':k<l.length:=by simpa using h1
  obtain⟨x,hx⟩:∃x,l[k]? = some x:=⟨_,List.getElem?_eq_getElem hk'⟩
  have hxt:=hl x (List.mem_of_getElem? hx)
  have hcc:=hc x (List.mem_of_getElem? hx)
  obtain⟨y0,rfl,-⟩:=hxt.str_ Tryz.underlying9
  repeat (first|refine zd ?_|refine zg ?_|refine zk ?_|refine zw ?_|refine zi ?_|refine za fun C=>?_|refine zp (by kernel_rfl) (by kernel_rfl) fun C=>?_|refine zc ?_|refine zm2 ?_|refine x_bs ?_|refine x_gr ?_|refine x_st ?_|refine x_mv ?_|refine x_sk ?_|refine zf3 ?_|refine x_ix ?_|refine zd3 ?_|refine zg3 ?_|refine ze3 ?_|refine zo2 ?_|refine x_ld ?_)
  refine zd6 hcc ?_
  repeat (first|refine zd ?_|refine zg ?_|refine zk ?_|refine zw ?_|refine zi ?_|refine za fun C=>?_|refine zp (by kernel_rfl) (by kernel_rfl) fun C=>?_|refine zc ?_|refine zm2 ?_|refine x_bs ?_|refine x_gr ?_|refine x_st ?_|refine x_mv ?_|refine x_sk ?_|refine zf3 ?_|refine x_ix ?_|refine zd3 ?_|refine zg3 ?_|refine ze3 ?_|refine zo2 ?_|refine x_ld ?_)
  refine zy2 (by rfl) (fun h2=>?_) fun h2=>?_
  ·repeat (first|refine zd ?_|refine zg ?_|refine zk ?_|refine zw ?_|refine zi ?_|refine za fun C=>?_|refine zp (by kernel_rfl) (by kernel_rfl) fun C=>?_|refine zc ?_|refine zm2 ?_|refine x_bs ?_|refine x_gr ?_|refine x_st ?_|refine x_mv ?_|refine x_sk ?_|refine zf3 ?_|refine x_ix ?_|refine zd3 ?_|refine zg3 ?_|refine ze3 ?_|refine zo2 ?_|refine x_ld ?_)
   refine ret0 (x:=.c (.v (.int .i64 k))) rfl zy ⟨?_,rfl⟩
   rw [zr10 hno hx h2]
  ·repeat (first|refine zd ?_|refine zg ?_|refine zk ?_|refine zw ?_|refine zi ?_|refine za fun C=>?_|refine zp (by kernel_rfl) (by kernel_rfl) fun C=>?_|refine zc ?_|refine zm2 ?_|refine x_bs ?_|refine x_gr ?_|refine x_st ?_|refine x_mv ?_|refine x_sk ?_|refine zf3 ?_|refine x_ix ?_|refine zd3 ?_|refine zg3 ?_|refine ze3 ?_|refine zo2 ?_|refine x_ld ?_)
   refine⟨N-1,k+1,by omega,⟨by omega,fun j z hj hz=>?_⟩,?_⟩
   ·by_cases e:j=k
    ·rw [e,hx] at hz;injection hz with hz;subst hz;exact h2
    ·exact hno j z (by omega) hz
   ·(refine zk1 _ _ rfl rfl ?_ ?_<;>(repeat' (first|exact TmOk.nil|exact RwOk.nil|refine TmOk.cons ?_ ?_|refine RwOk.cons ?_ ?_|rfl|(refine rnV_id' rfl ?_;exact byc)|(refine zo1 ?_;first|rfl|omega|(rw [za1 (by omega) (by omega)];omega))|(refine zv rfl ?_;exact byc)|exact zg2 rfl rfl|(refine zp1 (by rfl) (by rfl) ?_ ?_<;>exact byc)|(refine rw_rn' rfl rfl ?_;simp;done))))
 ·have hk':¬k<l.length:=by simpa using h1
  repeat (first|refine zd ?_|refine zg ?_|refine zk ?_|refine zw ?_|refine zi ?_|refine za fun C=>?_|refine zp (by kernel_rfl) (by kernel_rfl) fun C=>?_|refine zc ?_|refine zm2 ?_|refine x_bs ?_|refine x_gr ?_|refine x_st ?_|refine x_mv ?_|refine x_sk ?_|refine zf3 ?_|refine x_ix ?_|refine zd3 ?_|refine zg3 ?_|refine ze3 ?_|refine zo2 ?_|refine x_ld ?_)
  refine ret0 (x:=.c (.v (.int .i64 (-1)))) rfl zy ⟨?_,rfl⟩
  rw [zt5 fun j y hj hy=>hno j y (by omega) hy]
theorem zj16 {l:List E}(hl:∀e∈l,e.Ty Tryz.prog 9)(hk:∀e∈l,e.enc.length=1)(hlen:l.length≤1073741824)(p:E→Bool)(f:FuncId)(hc:∀x∈l,Ctr Tryz.prog f (.c (.v (.string (strB x))) :: []) [] (.c (.v (.bool (p x)))) []):Ctr Tryz.prog 106 [.c (.ro l.length 1 (acL l)),.c (.fn f [])] [] (.c (.v (.bool (l.any p)))) []:=by
 refine zi1 Tryz.func106 rfl rfl ?_
 have hcc:=zi16 hl hk hlen p f hc
 repeat (first|refine zd ?_|refine zg ?_|refine zk ?_|refine zw ?_|refine zi ?_|refine za fun C=>?_|refine zp (by kernel_rfl) (by kernel_rfl) fun C=>?_|refine zc ?_|refine zm2 ?_|refine x_bs ?_|refine x_gr ?_|refine x_st ?_|refine x_mv ?_|refine x_sk ?_|refine zf3 ?_|refine x_ix ?_|refine zd3 ?_|refine zg3 ?_|refine ze3 ?_|refine zo2 ?_|refine x_ld ?_)
 refine zd6 hcc ?_
 repeat (first|refine zd ?_|refine zg ?_|refine zk ?_|refine zw ?_|refine zi ?_|refine za fun C=>?_|refine zp (by kernel_rfl) (by kernel_rfl) fun C=>?_|refine zc ?_|refine zm2 ?_|refine x_bs ?_|refine x_gr ?_|refine x_st ?_|refine x_mv ?_|refine x_sk ?_|refine zf3 ?_|refine x_ix ?_|refine zd3 ?_|refine zg3 ?_|refine ze3 ?_|refine zo2 ?_|refine x_ld ?_)
 refine ret0 (x:=.c (.v (.bool (decide (idxF p l ≥ 0))))) rfl zy ⟨?_,rfl⟩
 rw [zx7]
end Go.Proofs.YtghljnfbbaklnaaGreat
