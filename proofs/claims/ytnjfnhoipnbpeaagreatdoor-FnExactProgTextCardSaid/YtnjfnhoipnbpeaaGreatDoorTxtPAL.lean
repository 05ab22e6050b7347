/- Data that say the same. -/
import Derived.Test.YtnjfnhoipnbpeaaGreatDoorTxtPAK
namespace Go.Proofs.YtnjfnhoipnbpeaaGreatDoor
open Go.RowKit
open Classical in
noncomputable def eqD (x y:E):Bool:=decide (x.d=y.d)
open Classical in
noncomputable def eqDL (x y:List E):Bool:=decide (E.dL x=E.dL y)
theorem zj7 {x y:E}:eqD x y=true↔x.d=y.d:=by unfold eqD;exact @decide_eq_true_iff _ (Classical.propDecidable _)
open Classical in
theorem ze6 {x y:List E}:eqDL x y=true↔E.dL x=E.dL y:=by unfold eqDL;exact decide_eq_true_iff
theorem zu6 {a b:Bool}(h:a=true↔b=true):a=b:=by cases a<;>cases b<;>simp_all
theorem zu18 {k:IntKind}{a b:Int}:eqD (.int k a) (.int k b)=(a==b):=zu6 (by rw [zj7];simp [E.d])
theorem eqD_bool {a b:Bool}:eqD (.bool a) (.bool b)=(a==b):=zu6 (by rw [zj7];simp [E.d])
theorem eqD_str {a b:ByteArray}:eqD (.str a) (.str b)=(a.toList==b.toList):=zu6 (by
 rw [zj7]
 simp only [E.d,E.str.injEq,beq_iff_eq]
 exact⟨fun h=>by rw [h],fun h=>by
  have h1:a.data.toList=b.data.toList:=by simpa [ByteArray.toList_eq] using h
  cases a;cases b
  simp only at h1
  congr 1
  exact Array.toList_inj.1 h1⟩)
theorem eqD_agg {l m:List E}:eqD (.agg l) (.agg m)=eqDL l m:=zu6 (by rw [zj7,ze6];simp [E.d])
theorem eqD_lst {k k' c c':Nat}{T T':TypeId}{A A':Option Addr}{l m:List E}:eqD (.lst k T A c l) (.lst k' T' A' c' m)=eqDL l m:=zu6 (by rw [zj7,ze6];simp [E.d])
theorem zc10:eqDL [] []=true:=ze6.2 rfl
theorem zv5 {x y:E}{l m:List E}:eqDL (x :: l) (y :: m)=(eqD x y&&eqDL l m):=zu6 (by rw [ze6,Bool.and_eq_true,zj7,ze6];simp [E.dL])
theorem zp20:∀{a b:List E},a.length≠b.length→eqDL a b=false:=by
 intro a b h
 rw [Bool.eq_false_iff]
 intro h'
 rw [ze6,E.dL_eq,E.dL_eq] at h'
 exact h (by simpa using congrArg List.length h')
theorem eqDL_no:∀{a b:List E} {k:Nat} {x y:E},a[k]? = some x→b[k]? = some y→eqD x y=false→eqDL a b=false:=by
 intro a b k x y hx hy h
 rw [Bool.eq_false_iff]
 intro h'
 rw [ze6,E.dL_eq,E.dL_eq] at h'
 have:=congrArg (fun l=>l[k]?) h'
 simp only [List.getElem?_map,hx,hy,Option.map_some,Option.some.injEq] at this
 rw [zj7.2 this] at h
 cases h
theorem zq20:∀{a b:List E},a.length=b.length→(∀(j:Nat) x y,j<a.length→a[j]? = some x→b[j]? = some y→eqD x y=true)→eqDL a b=true
 | [],[],_,_=>zc10
 | [],_ :: _,h,_=>by simp at h
 | _ :: _,[],h,_=>by simp at h
 | x :: a,y :: b,h,hh=>by
  rw [zv5,Bool.and_eq_true]
  exact⟨hh 0 x y (by simp) rfl rfl,zq20 (by simpa using h) fun j p q hj hp hq=>hh (j+1) p q (by simpa using hj) (by simpa using hp) (by simpa using hq)⟩
set_option maxRecDepth 100000
set_option maxHeartbeats 600000 in
theorem zp16 {la lb:List E}(ha:∀e∈la,e.Ty Tryz.prog 45)(hka:∀e∈la,e.enc.length=4)(hb:∀e∈lb,e.Ty Tryz.prog 45)(hkb:∀e∈lb,e.enc.length=4)(hla:la.length≤1073741824)(hlb:lb.length≤1073741824)(hc:∀x∈la,∀y∈lb,Ctr Tryz.prog 63 [.ag (acE x),.ag (acE y)] [] (.c (.v (.bool (eqD x y)))) []):Ctr Tryz.prog 90 [.c (.ro la.length 4 (acL la)),.c (.ro lb.length 4 (acL lb)),.c (.fn 63 [])] [] (.c (.v (.bool (eqDL la lb)))) []:=by
 refine ze1 Tryz.func90 rfl rfl ?_
 repeat (first|refine zd ?_|refine ze ?_|refine zg ?_|refine zu ?_|refine zh ?_|refine za fun C=>?_|refine zn (by kernel_rfl) (by kernel_rfl) fun C=>?_|refine zb ?_|refine zm2 ?_|refine x_bs ?_|refine x_gr ?_|refine x_st ?_|refine x_mv ?_|refine x_sk ?_|refine zd3 ?_|refine x_ix ?_|refine za3 ?_|refine ze3 ?_|refine zb3 ?_|refine zk2 ?_|refine x_ld ?_)
 refine zy2 (by rfl) (fun h1=>?_) fun h1=>?_
 ·repeat (first|refine zd ?_|refine ze ?_|refine zg ?_|refine zu ?_|refine zh ?_|refine za fun C=>?_|refine zn (by kernel_rfl) (by kernel_rfl) fun C=>?_|refine zb ?_|refine zm2 ?_|refine x_bs ?_|refine x_gr ?_|refine x_st ?_|refine x_mv ?_|refine x_sk ?_|refine zd3 ?_|refine x_ix ?_|refine za3 ?_|refine ze3 ?_|refine zb3 ?_|refine zk2 ?_|refine x_ld ?_)
  refine ret0 (x:=.c (.v (.bool false))) rfl zg1 ⟨?_,rfl⟩
  rw [zp20 (by simp at h1;omega)]
 ·have hl:la.length=lb.length:=by simp at h1;omega
  repeat (first|refine zd ?_|refine ze ?_|refine zg ?_|refine zu ?_|refine zh ?_|refine za fun C=>?_|refine zn (by kernel_rfl) (by kernel_rfl) fun C=>?_|refine zb ?_|refine zm2 ?_|refine x_bs ?_|refine x_gr ?_|refine x_st ?_|refine x_mv ?_|refine x_sk ?_|refine zd3 ?_|refine x_ix ?_|refine za3 ?_|refine ze3 ?_|refine zb3 ?_|refine zk2 ?_|refine x_ld ?_)
  refine zv1 (fun k:Nat=>⟨tmsF [(1,.c (.ro lb.length 4 (acL lb))),(2,.c (.fn 63 [])),(15,.c (.ro la.length 4 (acL la))),(16,.c (.v (.int .i64 la.length))),(17,.c (.v (.int .i64 k)))],hpsF [],0,[],32⟩)
   (fun N k=>k+N=la.length∧∀j x y,j<k→la[j]? = some x→lb[j]? = some y→eqD x y=true) la.length 0 ⟨by omega,by omega⟩ ?_ ?_
  ·(refine zl1 _ _ rfl rfl ?_ ?_<;>(repeat' (first|exact TmOk.nil|exact RwOk.nil|refine TmOk.cons ?_ ?_|refine RwOk.cons ?_ ?_|rfl|(refine rnV_id' rfl ?_;exact byc)|(refine zp1 ?_;first|rfl|omega|(rw [zw (by omega) (by omega)];omega))|(refine zb1 rfl ?_;exact byc)|exact zc2 rfl rfl|(refine zq1 (by rfl) (by rfl) ?_ ?_<;>exact byc)|(refine rw_rn' rfl rfl ?_;simp;done))))
  rintro N k ⟨hN,hno⟩
  repeat (first|refine zd ?_|refine ze ?_|refine zg ?_|refine zu ?_|refine zh ?_|refine za fun C=>?_|refine zn (by kernel_rfl) (by kernel_rfl) fun C=>?_|refine zb ?_|refine zm2 ?_|refine x_bs ?_|refine x_gr ?_|refine x_st ?_|refine x_mv ?_|refine x_sk ?_|refine zd3 ?_|refine x_ix ?_|refine za3 ?_|refine ze3 ?_|refine zb3 ?_|refine zk2 ?_|refine x_ld ?_)
  refine zy2 (by rfl) (fun h2=>?_) fun h2=>?_
  ·have hk':k<la.length:=by simpa using h2
   obtain⟨x,hx⟩:∃x,la[k]? = some x:=⟨_,List.getElem?_eq_getElem hk'⟩
   obtain⟨y,hy⟩:∃y,lb[k]? = some y:=⟨_,List.getElem?_eq_getElem (by omega)⟩
   have hcc:=hc x (List.mem_of_getElem? hx) y (List.mem_of_getElem? hy)
   obtain⟨x0,x1,x2,x3A,x3c,x3l,rfl,gx0,gx1,gx2,gx3,-⟩:=zh1 (ha x (List.mem_of_getElem? hx))
   obtain⟨y0,y1,y2,y3A,y3c,y3l,rfl,gy0,gy1,gy2,gy3,-⟩:=zh1 (hb y (List.mem_of_getElem? hy))
   repeat (first|refine zd ?_|refine ze ?_|refine zg ?_|refine zu ?_|refine zh ?_|refine za fun C=>?_|refine zn (by kernel_rfl) (by kernel_rfl) fun C=>?_|refine zb ?_|refine zm2 ?_|refine x_bs ?_|refine x_gr ?_|refine x_st ?_|refine x_mv ?_|refine x_sk ?_|refine zd3 ?_|refine x_ix ?_|refine za3 ?_|refine ze3 ?_|refine zb3 ?_|refine zk2 ?_|refine x_ld ?_)
   refine x_call 100 hcc ?_
   repeat (first|refine zd ?_|refine ze ?_|refine zg ?_|refine zu ?_|refine zh ?_|refine za fun C=>?_|refine zn (by kernel_rfl) (by kernel_rfl) fun C=>?_|refine zb ?_|refine zm2 ?_|refine x_bs ?_|refine x_gr ?_|refine x_st ?_|refine x_mv ?_|refine x_sk ?_|refine zd3 ?_|refine x_ix ?_|refine za3 ?_|refine ze3 ?_|refine zb3 ?_|refine zk2 ?_|refine x_ld ?_)
   refine zy2 (by rfl) (fun h3=>?_) fun h3=>?_
   ·repeat (first|refine zd ?_|refine ze ?_|refine zg ?_|refine zu ?_|refine zh ?_|refine za fun C=>?_|refine zn (by kernel_rfl) (by kernel_rfl) fun C=>?_|refine zb ?_|refine zm2 ?_|refine x_bs ?_|refine x_gr ?_|refine x_st ?_|refine x_mv ?_|refine x_sk ?_|refine zd3 ?_|refine x_ix ?_|refine za3 ?_|refine ze3 ?_|refine zb3 ?_|refine zk2 ?_|refine x_ld ?_)
    refine ret0 (x:=.c (.v (.bool false))) rfl zg1 ⟨?_,rfl⟩
    rw [eqDL_no hx hy (by simpa using h3)]
   ·repeat (first|refine zd ?_|refine ze ?_|refine zg ?_|refine zu ?_|refine zh ?_|refine za fun C=>?_|refine zn (by kernel_rfl) (by kernel_rfl) fun C=>?_|refine zb ?_|refine zm2 ?_|refine x_bs ?_|refine x_gr ?_|refine x_st ?_|refine x_mv ?_|refine x_sk ?_|refine zd3 ?_|refine x_ix ?_|refine za3 ?_|refine ze3 ?_|refine zb3 ?_|refine zk2 ?_|refine x_ld ?_)
    refine⟨N-1,k+1,by omega,⟨by omega,fun j p q hj hp hq=>?_⟩,?_⟩
    ·by_cases e:j=k
     ·rw [e,hx] at hp;rw [e,hy] at hq;injection hp with hp;injection hq with hq;subst hp hq;simpa using h3
     ·exact hno j p q (by omega) hp hq
    ·(refine zl1 _ _ rfl rfl ?_ ?_<;>(repeat' (first|exact TmOk.nil|exact RwOk.nil|refine TmOk.cons ?_ ?_|refine RwOk.cons ?_ ?_|rfl|(refine rnV_id' rfl ?_;exact byc)|(refine zp1 ?_;first|rfl|omega|(rw [zw (by omega) (by omega)];omega))|(refine zb1 rfl ?_;exact byc)|exact zc2 rfl rfl|(refine zq1 (by rfl) (by rfl) ?_ ?_<;>exact byc)|(refine rw_rn' rfl rfl ?_;simp;done))))
  ·have hk':¬k<la.length:=by simpa using h2
   repeat (first|refine zd ?_|refine ze ?_|refine zg ?_|refine zu ?_|refine zh ?_|refine za fun C=>?_|refine zn (by kernel_rfl) (by kernel_rfl) fun C=>?_|refine zb ?_|refine zm2 ?_|refine x_bs ?_|refine x_gr ?_|refine x_st ?_|refine x_mv ?_|refine x_sk ?_|refine zd3 ?_|refine x_ix ?_|refine za3 ?_|refine ze3 ?_|refine zb3 ?_|refine zk2 ?_|refine x_ld ?_)
   refine ret0 (x:=.c (.v (.bool true))) rfl zg1 ⟨?_,rfl⟩
   rw [zq20 hl fun j x y hj hx hy=>hno j x y (by omega) hx hy]
theorem zo22 (n:Nat):∀(x y:E),x.Ty Tryz.prog 45→y.Ty Tryz.prog 45→x.sz≤n→y.sz≤1048576→n≤1048576→Ctr Tryz.prog 63 [.ag (acE x),.ag (acE y)] [] (.c (.v (.bool (eqD x y)))) []:=by
 induction n using Nat.strongRecOn with
 | _ n ih =>
 intro x y hx hy hsx hsy hn
 obtain⟨x0,x1,x2,x3A,x3c,x3l,rfl,gx0,gx1,gx2,gx3,-⟩:=zh1 hx
 obtain⟨y0,y1,y2,y3A,y3c,y3l,rfl,gy0,gy1,gy2,gy3,-⟩:=zh1 hy
 simp only [E.sz,E.szL] at hsx hsy
 have c1:=zp16 gx3.1 gx3.2 gy3.1 gy3.2 (by omega) (by omega) (fun p hp q hq=>ih p.sz (by have h1:=E.szL_mem hp;have h2:=List.length_pos_of_mem hp;omega) p q (gx3.1 p hp) (gy3.1 q hq) (Nat.le_refl _) (by have h1:=E.szL_mem hq;omega) (by have h1:=E.szL_mem hp;have h2:=List.length_pos_of_mem hp;omega))
 clear ih
 refine ze1 Tryz.func63 rfl rfl ?_
 repeat' (first|refine zd ?_|refine za fun C=>?_|refine zb ?_|(refine x_gm ?_ ?_<;>intro hG<;>(try cases hG))|refine zm2 ?_|refine x_gr ?_|refine x_sk ?_|refine x_cal ?_)
 all_goals
  refine zh ?_
  refine ret0 rfl zg1 ⟨?_,rfl⟩
  simp only [eqD_agg,eqD_lst,zu18,eqD_bool,eqD_str,zv5,zc10]
  first|(simp [*];done)|(simp_all;done)|skip
theorem ze12 {x y:E}(hx:x.Ty Tryz.prog 45)(hy:y.Ty Tryz.prog 45)(hsx:x.sz≤1048576)(hsy:y.sz≤1048576):Ctr Tryz.prog 63 [.ag (acE x),.ag (acE y)] [] (.c (.v (.bool (eqD x y)))) []:=zo22 _ x y hx hy hsx hsy (Nat.le_refl _)
theorem zp22 {l:List E}(hl:∀e∈l,e.Ty Tryz.prog 71)(hk:∀e∈l,e.enc.length=6)(hlen:l.length≤1073741824)(p:E→Bool)(f:FuncId)(hc:∀x∈l,Ctr Tryz.prog f (.ag (acE x) :: []) [] (.c (.v (.bool (p x)))) []):Ctr Tryz.prog 103 [.c (.ro l.length 6 (acL l)),.c (.fn f [])] [] (.c (.v (.int .i64 (idxF p l)))) []:=by
 refine ze1 Tryz.func103 rfl rfl ?_
 repeat (first|refine zd ?_|refine ze ?_|refine zg ?_|refine zu ?_|refine zh ?_|refine za fun C=>?_|refine zn (by kernel_rfl) (by kernel_rfl) fun C=>?_|refine zb ?_|refine zm2 ?_|refine x_bs ?_|refine x_gr ?_|refine x_st ?_|refine x_mv ?_|refine x_sk ?_|refine zd3 ?_|refine x_ix ?_|refine za3 ?_|refine ze3 ?_|refine zb3 ?_|refine zk2 ?_|refine x_ld ?_)
 refine zv1 (fun k:Nat=>⟨tmsF [(0,.c (.ro l.length 6 (acL l))),(1,.c (.fn f [])),(7,.c (.v (.int .i64 l.length))),(8,.c (.v (.int .i64 k)))],hpsF [],0,[],19⟩)
  (fun N k=>k+N=l.length∧∀j y,j<k→l[j]? = some y→p y=false) l.length 0 ⟨by omega,by omega⟩ ?_ ?_
 ·(refine zl1 _ _ rfl rfl ?_ ?_<;>(repeat' (first|exact TmOk.nil|exact RwOk.nil|refine TmOk.cons ?_ ?_|refine RwOk.cons ?_ ?_|rfl|(refine rnV_id' rfl ?_;exact byc)|(refine zp1 ?_;first|rfl|omega|(rw [zw (by omega) (by omega)];omega))|(refine zb1 rfl ?_;exact byc)|exact zc2 rfl rfl|(refine zq1 (by rfl) (by rfl) ?_ ?_<;>exact byc)|(refine rw_rn' rfl rfl ?_;simp;done))))
 rintro N k ⟨hN,hno⟩
 repeat (first|refine zd ?_|refine ze ?_|refine zg ?_|refine zu ?_|refine zh ?_|refine za fun C=>?_|refine zn (by kernel_rfl) (by kernel_rfl) fun C=>?_|refine zb ?_|refine zm2 ?_|refine x_bs ?_|refine x_gr ?_|refine x_st ?_|refine x_mv ?_|refine x_sk ?_|refine zd3 ?_|refine x_ix ?_|refine za3 ?_|refine ze3 ?_|refine zb3 ?_|refine zk2 ?_|refine x_ld ?_)
 refine zy2 (by rfl) (fun h1=>?_) fun h1=>?_
 ·have hk':k<l.length:=by simpa using h1
  obtain⟨x,hx⟩:∃x,l[k]? = some x:=⟨_,List.getElem?_eq_getElem hk'⟩
  have hxt:=hl x (List.mem_of_getElem? hx)
  have hcc:=hc x (List.mem_of_getElem? hx)
  obtain⟨y0,y1,y2,y3A,y3c,y3l,y4A,y4c,y4l,y5A,y5c,y5l,rfl,gy0,gy1,gy2,gy3,gy4,gy5,-⟩:=zt1 hxt
  repeat (first|refine zd ?_|refine ze ?_|refine zg ?_|refine zu ?_|refine zh ?_|refine za fun C=>?_|refine zn (by kernel_rfl) (by kernel_rfl) fun C=>?_|refine zb ?_|refine zm2 ?_|refine x_bs ?_|refine x_gr ?_|refine x_st ?_|refine x_mv ?_|refine x_sk ?_|refine zd3 ?_|refine x_ix ?_|refine za3 ?_|refine ze3 ?_|refine zb3 ?_|refine zk2 ?_|refine x_ld ?_)
  refine zn7 hcc ?_
  repeat (first|refine zd ?_|refine ze ?_|refine zg ?_|refine zu ?_|refine zh ?_|refine za fun C=>?_|refine zn (by kernel_rfl) (by kernel_rfl) fun C=>?_|refine zb ?_|refine zm2 ?_|refine x_bs ?_|refine x_gr ?_|refine x_st ?_|refine x_mv ?_|refine x_sk ?_|refine zd3 ?_|refine x_ix ?_|refine za3 ?_|refine ze3 ?_|refine zb3 ?_|refine zk2 ?_|refine x_ld ?_)
  refine zy2 (by rfl) (fun h2=>?_) fun h2=>?_
  ·repeat (first|refine zd ?_|refine ze ?_|refine zg ?_|refine zu ?_|refine zh ?_|refine za fun C=>?_|refine zn (by kernel_rfl) (by kernel_rfl) fun C=>?_|refine zb ?_|refine zm2 ?_|refine x_bs ?_|refine x_gr ?_|refine x_st ?_|refine x_mv ?_|refine x_sk ?_|refine zd3 ?_|refine x_ix ?_|refine za3 ?_|refine ze3 ?_|refine zb3 ?_|refine zk2 ?_|refine x_ld ?_)
   refine ret0 (x:=.c (.v (.int .i64 k))) rfl zg1 ⟨?_,rfl⟩
   rw [zb7 hno hx h2]
  ·repeat (first|refine zd ?_|refine ze ?_|refine zg ?_|refine zu ?_|refine zh ?_|refine za fun C=>?_|refine zn (by kernel_rfl) (by kernel_rfl) fun C=>?_|refine zb ?_|refine zm2 ?_|refine x_bs ?_|refine x_gr ?_|refine x_st ?_|refine x_mv ?_|refine x_sk ?_|refine zd3 ?_|refine x_ix ?_|refine za3 ?_|refine ze3 ?_|refine zb3 ?_|refine zk2 ?_|refine x_ld ?_)
   refine⟨N-1,k+1,by omega,⟨by omega,fun j z hj hz=>?_⟩,?_⟩
   ·by_cases e:j=k
    ·rw [e,hx] at hz;injection hz with hz;subst hz;exact h2
    ·exact hno j z (by omega) hz
   ·(refine zl1 _ _ rfl rfl ?_ ?_<;>(repeat' (first|exact TmOk.nil|exact RwOk.nil|refine TmOk.cons ?_ ?_|refine RwOk.cons ?_ ?_|rfl|(refine rnV_id' rfl ?_;exact byc)|(refine zp1 ?_;first|rfl|omega|(rw [zw (by omega) (by omega)];omega))|(refine zb1 rfl ?_;exact byc)|exact zc2 rfl rfl|(refine zq1 (by rfl) (by rfl) ?_ ?_<;>exact byc)|(refine rw_rn' rfl rfl ?_;simp;done))))
 ·have hk':¬k<l.length:=by simpa using h1
  repeat (first|refine zd ?_|refine ze ?_|refine zg ?_|refine zu ?_|refine zh ?_|refine za fun C=>?_|refine zn (by kernel_rfl) (by kernel_rfl) fun C=>?_|refine zb ?_|refine zm2 ?_|refine x_bs ?_|refine x_gr ?_|refine x_st ?_|refine x_mv ?_|refine x_sk ?_|refine zd3 ?_|refine x_ix ?_|refine za3 ?_|refine ze3 ?_|refine zb3 ?_|refine zk2 ?_|refine x_ld ?_)
  refine ret0 (x:=.c (.v (.int .i64 (-1)))) rfl zg1 ⟨?_,rfl⟩
  rw [zy4 fun j y hj hy=>hno j y (by omega) hy]
theorem zq22 {l:List E}(hl:∀e∈l,e.Ty Tryz.prog 71)(hk:∀e∈l,e.enc.length=6)(hlen:l.length≤1073741824)(p:E→Bool)(f:FuncId)(hc:∀x∈l,Ctr Tryz.prog f (.ag (acE x) :: []) [] (.c (.v (.bool (p x)))) []):Ctr Tryz.prog 87 [.c (.ro l.length 6 (acL l)),.c (.fn f [])] [] (.c (.v (.bool (l.any p)))) []:=by
 refine ze1 Tryz.func87 rfl rfl ?_
 have hcc:=zp22 hl hk hlen p f hc
 repeat (first|refine zd ?_|refine ze ?_|refine zg ?_|refine zu ?_|refine zh ?_|refine za fun C=>?_|refine zn (by kernel_rfl) (by kernel_rfl) fun C=>?_|refine zb ?_|refine zm2 ?_|refine x_bs ?_|refine x_gr ?_|refine x_st ?_|refine x_mv ?_|refine x_sk ?_|refine zd3 ?_|refine x_ix ?_|refine za3 ?_|refine ze3 ?_|refine zb3 ?_|refine zk2 ?_|refine x_ld ?_)
 refine zn7 hcc ?_
 repeat (first|refine zd ?_|refine ze ?_|refine zg ?_|refine zu ?_|refine zh ?_|refine za fun C=>?_|refine zn (by kernel_rfl) (by kernel_rfl) fun C=>?_|refine zb ?_|refine zm2 ?_|refine x_bs ?_|refine x_gr ?_|refine x_st ?_|refine x_mv ?_|refine x_sk ?_|refine zd3 ?_|refine x_ix ?_|refine za3 ?_|refine ze3 ?_|refine zb3 ?_|refine zk2 ?_|refine x_ld ?_)
 refine ret0 (x:=.c (.v (.bool (decide (idxF p l ≥ 0))))) rfl zg1 ⟨?_,rfl⟩
 rw [zp7]
theorem zr22 {l:List E}(hl:∀e∈l,e.Ty Tryz.prog 47)(hk:∀e∈l,e.enc.length=6)(hlen:l.length≤1073741824)(p:E→Bool)(f:FuncId)(hc:∀x∈l,Ctr Tryz.prog f (.ag (acE x) :: []) [] (.c (.v (.bool (p x)))) []):Ctr Tryz.prog 59 [.c (.ro l.length 6 (acL l)),.c (.fn f [])] [] (.c (.v (.int .i64 (idxF p l)))) []:=by
 refine ze1 Tryz.func59 rfl rfl ?_
 repeat (first|refine zd ?_|refine ze ?_|refine zg ?_|refine zu ?_|refine zh ?_|refine za fun C=>?_|refine zn (by kernel_rfl) (by kernel_rfl) fun C=>?_|refine zb ?_|refine zm2 ?_|refine x_bs ?_|refine x_gr ?_|refine x_st ?_|refine x_mv ?_|refine x_sk ?_|refine zd3 ?_|refine x_ix ?_|refine za3 ?_|refine ze3 ?_|refine zb3 ?_|refine zk2 ?_|refine x_ld ?_)
 refine zv1 (fun k:Nat=>⟨tmsF [(0,.c (.ro l.length 6 (acL l))),(1,.c (.fn f [])),(7,.c (.v (.int .i64 l.length))),(8,.c (.v (.int .i64 k)))],hpsF [],0,[],19⟩)
  (fun N k=>k+N=l.length∧∀j y,j<k→l[j]? = some y→p y=false) l.length 0 ⟨by omega,by omega⟩ ?_ ?_
 ·(refine zl1 _ _ rfl rfl ?_ ?_<;>(repeat' (first|exact TmOk.nil|exact RwOk.nil|refine TmOk.cons ?_ ?_|refine RwOk.cons ?_ ?_|rfl|(refine rnV_id' rfl ?_;exact byc)|(refine zp1 ?_;first|rfl|omega|(rw [zw (by omega) (by omega)];omega))|(refine zb1 rfl ?_;exact byc)|exact zc2 rfl rfl|(refine zq1 (by rfl) (by rfl) ?_ ?_<;>exact byc)|(refine rw_rn' rfl rfl ?_;simp;done))))
 rintro N k ⟨hN,hno⟩
 repeat (first|refine zd ?_|refine ze ?_|refine zg ?_|refine zu ?_|refine zh ?_|refine za fun C=>?_|refine zn (by kernel_rfl) (by kernel_rfl) fun C=>?_|refine zb ?_|refine zm2 ?_|refine x_bs ?_|refine x_gr ?_|refine x_st ?_|refine x_mv ?_|refine x_sk ?_|refine zd3 ?_|refine x_ix ?_|refine za3 ?_|refine ze3 ?_|refine zb3 ?_|refine zk2 ?_|refine x_ld ?_)
 refine zy2 (by rfl) (fun h1=>?_) fun h1=>?_
 ·have hk':k<l.length:=by simpa using h1
  obtain⟨x,hx⟩:∃x,l[k]? = some x:=⟨_,List.getElem?_eq_getElem hk'⟩
  have hxt:=hl x (List.mem_of_getElem? hx)
  have hcc:=hc x (List.mem_of_getElem? hx)
  obtain⟨y0,y1,y2,y3,y4A,y4c,y4l,y5A,y5c,y5l,rfl,gy0,gy1,gy2,gy3,gy4,gy5,-⟩:=zw2 hxt
  repeat (first|refine zd ?_|refine ze ?_|refine zg ?_|refine zu ?_|refine zh ?_|refine za fun C=>?_|refine zn (by kernel_rfl) (by kernel_rfl) fun C=>?_|refine zb ?_|refine zm2 ?_|refine x_bs ?_|refine x_gr ?_|refine x_st ?_|refine x_mv ?_|refine x_sk ?_|refine zd3 ?_|refine x_ix ?_|refine za3 ?_|refine ze3 ?_|refine zb3 ?_|refine zk2 ?_|refine x_ld ?_)
  refine zn7 hcc ?_
  repeat (first|refine zd ?_|refine ze ?_|refine zg ?_|refine zu ?_|refine zh ?_|refine za fun C=>?_|refine zn (by kernel_rfl) (by kernel_rfl) fun C=>?_|refine zb ?_|refine zm2 ?_|refine x_bs ?_|refine x_gr ?_|refine x_st ?_|refine x_mv ?_|refine x_sk ?_|refine zd3 ?_|refine x_ix ?_|refine za3 ?_|refine ze3 ?_|refine zb3 ?_|refine zk2 ?_|refine x_ld ?_)
  refine zy2 (by rfl) (fun h2=>?_) fun h2=>?_
  ·repeat (first|refine zd ?_|refine ze ?_|refine zg ?_|refine zu ?_|refine zh ?_|refine za fun C=>?_|refine zn (by kernel_rfl) (by kernel_rfl) fun C=>?_|refine zb ?_|refine zm2 ?_|refine x_bs ?_|refine x_gr ?_|refine x_st ?_|refine x_mv ?_|refine x_sk ?_|refine zd3 ?_|refine x_ix ?_|refine za3 ?_|refine ze3 ?_|refine zb3 ?_|refine zk2 ?_|refine x_ld ?_)
   refine ret0 (x:=.c (.v (.int .i64 k))) rfl zg1 ⟨?_,rfl⟩
   rw [zb7 hno hx h2]
  ·repeat (first|refine zd ?_|refine ze ?_|refine zg ?_|refine zu ?_|refine zh ?_|refine za fun C=>?_|refine zn (by kernel_rfl) (by kernel_rfl) fun C=>?_|refine zb ?_|refine zm2 ?_|refine x_bs ?_|refine x_gr ?_|refine x_st ?_|refine x_mv ?_|refine x_sk ?_|refine zd3 ?_|refine x_ix ?_|refine za3 ?_|refine ze3 ?_|refine zb3 ?_|refine zk2 ?_|refine x_ld ?_)
   refine⟨N-1,k+1,by omega,⟨by omega,fun j z hj hz=>?_⟩,?_⟩
   ·by_cases e:j=k
    ·rw [e,hx] at hz;injection hz with hz;subst hz;exact h2
    ·exact hno j z (by omega) hz
   ·(refine zl1 _ _ rfl rfl ?_ ?_<;>(repeat' (first|exact TmOk.nil|exact RwOk.nil|refine TmOk.cons ?_ ?_|refine RwOk.cons ?_ ?_|rfl|(refine rnV_id' rfl ?_;exact byc)|(refine zp1 ?_;first|rfl|omega|(rw [zw (by omega) (by omega)];omega))|(refine zb1 rfl ?_;exact byc)|exact zc2 rfl rfl|(refine zq1 (by rfl) (by rfl) ?_ ?_<;>exact byc)|(refine rw_rn' rfl rfl ?_;simp;done))))
 ·have hk':¬k<l.length:=by simpa using h1
  repeat (first|refine zd ?_|refine ze ?_|refine zg ?_|refine zu ?_|refine zh ?_|refine za fun C=>?_|refine zn (by kernel_rfl) (by kernel_rfl) fun C=>?_|refine zb ?_|refine zm2 ?_|refine x_bs ?_|refine x_gr ?_|refine x_st ?_|refine x_mv ?_|refine x_sk ?_|refine zd3 ?_|refine x_ix ?_|refine za3 ?_|refine ze3 ?_|refine zb3 ?_|refine zk2 ?_|refine x_ld ?_)
  refine ret0 (x:=.c (.v (.int .i64 (-1)))) rfl zg1 ⟨?_,rfl⟩
  rw [zy4 fun j y hj hy=>hno j y (by omega) hy]
theorem zs22 {l:List E}(hl:∀e∈l,e.Ty Tryz.prog 47)(hk:∀e∈l,e.enc.length=6)(hlen:l.length≤1073741824)(p:E→Bool)(f:FuncId)(hc:∀x∈l,Ctr Tryz.prog f (.ag (acE x) :: []) [] (.c (.v (.bool (p x)))) []):Ctr Tryz.prog 34 [.c (.ro l.length 6 (acL l)),.c (.fn f [])] [] (.c (.v (.bool (l.any p)))) []:=by
 refine ze1 Tryz.func34 rfl rfl ?_
 have hcc:=zr22 hl hk hlen p f hc
 repeat (first|refine zd ?_|refine ze ?_|refine zg ?_|refine zu ?_|refine zh ?_|refine za fun C=>?_|refine zn (by kernel_rfl) (by kernel_rfl) fun C=>?_|refine zb ?_|refine zm2 ?_|refine x_bs ?_|refine x_gr ?_|refine x_st ?_|refine x_mv ?_|refine x_sk ?_|refine zd3 ?_|refine x_ix ?_|refine za3 ?_|refine ze3 ?_|refine zb3 ?_|refine zk2 ?_|refine x_ld ?_)
 refine zn7 hcc ?_
 repeat (first|refine zd ?_|refine ze ?_|refine zg ?_|refine zu ?_|refine zh ?_|refine za fun C=>?_|refine zn (by kernel_rfl) (by kernel_rfl) fun C=>?_|refine zb ?_|refine zm2 ?_|refine x_bs ?_|refine x_gr ?_|refine x_st ?_|refine x_mv ?_|refine x_sk ?_|refine zd3 ?_|refine x_ix ?_|refine za3 ?_|refine ze3 ?_|refine zb3 ?_|refine zk2 ?_|refine x_ld ?_)
 refine ret0 (x:=.c (.v (.bool (decide (idxF p l ≥ 0))))) rfl zg1 ⟨?_,rfl⟩
 rw [zp7]
theorem idx1Fn_c {l:List E}(hl:∀e∈l,e.Ty Tryz.prog 41)(hk:∀e∈l,e.enc.length=3)(hlen:l.length≤1073741824){b:List AC}(hb:cloL b=true)(p:E→Bool)(f:FuncId)(hc:∀x∈l,Ctr Tryz.prog f (.ag (acE x) :: [.c (.pt 0 0)]) [b] (.c (.v (.bool (p x)))) [b]):Ctr Tryz.prog 66 [.c (.ro l.length 3 (acL l)),.c (.fn f [.pt 0 0])] [b] (.c (.v (.int .i64 (idxF p l)))) [b]:=by
 refine ze1 Tryz.func66 rfl rfl ?_
 repeat (first|refine zd ?_|refine ze ?_|refine zg ?_|refine zu ?_|refine zh ?_|refine za fun C=>?_|refine zn (by kernel_rfl) (by kernel_rfl) fun C=>?_|refine zb ?_|refine zm2 ?_|refine x_bs ?_|refine x_gr ?_|refine x_st ?_|refine x_mv ?_|refine x_sk ?_|refine zd3 ?_|refine x_ix ?_|refine za3 ?_|refine ze3 ?_|refine zb3 ?_|refine zk2 ?_|refine x_ld ?_)
 refine zv1 (fun k:Nat=>⟨tmsF [(0,.c (.ro l.length 3 (acL l))),(1,.c (.fn f [.pt 0 0])),(7,.c (.v (.int .i64 l.length))),(8,.c (.v (.int .i64 k)))],hpsF [(0,0,⟨0,0,0,true,b⟩)],1,[0],19⟩)
  (fun N k=>k+N=l.length∧∀j y,j<k→l[j]? = some y→p y=false) l.length 0 ⟨by omega,by omega⟩ ?_ ?_
 ·refine zl1 _ _ rfl rfl ?_ ?_;(repeat' (first|exact TmOk.nil|exact RwOk.nil|refine TmOk.cons ?_ ?_|refine RwOk.cons ?_ ?_|rfl|(refine rnV_id' rfl ?_;exact byc)|(refine zp1 ?_;first|rfl|omega|(rw [zw (by omega) (by omega)];omega))|(refine zb1 rfl ?_;exact byc)|exact zc2 rfl rfl|(refine zq1 (by rfl) (by rfl) ?_ ?_<;>exact byc)|(refine rw_rn' rfl rfl ?_;simp;done)));refine zb1 rfl hb
 rintro N k ⟨hN,hno⟩
 repeat (first|refine zd ?_|refine ze ?_|refine zg ?_|refine zu ?_|refine zh ?_|refine za fun C=>?_|refine zn (by kernel_rfl) (by kernel_rfl) fun C=>?_|refine zb ?_|refine zm2 ?_|refine x_bs ?_|refine x_gr ?_|refine x_st ?_|refine x_mv ?_|refine x_sk ?_|refine zd3 ?_|refine x_ix ?_|refine za3 ?_|refine ze3 ?_|refine zb3 ?_|refine zk2 ?_|refine x_ld ?_)
 refine zy2 (by rfl) (fun h1=>?_) fun h1=>?_
 ·have hk':k<l.length:=by simpa using h1
  obtain⟨x,hx⟩:∃x,l[k]? = some x:=⟨_,List.getElem?_eq_getElem hk'⟩
  have hxt:=hl x (List.mem_of_getElem? hx)
  have hcc:=hc x (List.mem_of_getElem? hx)
  obtain⟨y0,y1A,y1c,y1l,y2A,y2c,y2l,rfl,gy0,gy1,gy2,-⟩:=zx2 hxt
  repeat (first|refine zd ?_|refine ze ?_|refine zg ?_|refine zu ?_|refine zh ?_|refine za fun C=>?_|refine zn (by kernel_rfl) (by kernel_rfl) fun C=>?_|refine zb ?_|refine zm2 ?_|refine x_bs ?_|refine x_gr ?_|refine x_st ?_|refine x_mv ?_|refine x_sk ?_|refine zd3 ?_|refine x_ix ?_|refine za3 ?_|refine ze3 ?_|refine zb3 ?_|refine zk2 ?_|refine x_ld ?_)
  refine x_cad 0 hcc ?_ (hl:=zz4 (by rfl) hb)
  repeat (first|refine zd ?_|refine ze ?_|refine zg ?_|refine zu ?_|refine zh ?_|refine za fun C=>?_|refine zn (by kernel_rfl) (by kernel_rfl) fun C=>?_|refine zb ?_|refine zm2 ?_|refine x_bs ?_|refine x_gr ?_|refine x_st ?_|refine x_mv ?_|refine x_sk ?_|refine zd3 ?_|refine x_ix ?_|refine za3 ?_|refine ze3 ?_|refine zb3 ?_|refine zk2 ?_|refine x_ld ?_)
  refine zy2 (by rfl) (fun h2=>?_) fun h2=>?_
  ·repeat (first|refine zd ?_|refine ze ?_|refine zg ?_|refine zu ?_|refine zh ?_|refine za fun C=>?_|refine zn (by kernel_rfl) (by kernel_rfl) fun C=>?_|refine zb ?_|refine zm2 ?_|refine x_bs ?_|refine x_gr ?_|refine x_st ?_|refine x_mv ?_|refine x_sk ?_|refine zd3 ?_|refine x_ix ?_|refine za3 ?_|refine ze3 ?_|refine zb3 ?_|refine zk2 ?_|refine x_ld ?_)
   refine ret1 (x:=.c (.v (.int .i64 k))) (rw:=⟨0,0,0,true,b⟩) rfl rfl rfl hb rfl ⟨?_,rfl⟩
   rw [zb7 hno hx h2]
  ·repeat (first|refine zd ?_|refine ze ?_|refine zg ?_|refine zu ?_|refine zh ?_|refine za fun C=>?_|refine zn (by kernel_rfl) (by kernel_rfl) fun C=>?_|refine zb ?_|refine zm2 ?_|refine x_bs ?_|refine x_gr ?_|refine x_st ?_|refine x_mv ?_|refine x_sk ?_|refine zd3 ?_|refine x_ix ?_|refine za3 ?_|refine ze3 ?_|refine zb3 ?_|refine zk2 ?_|refine x_ld ?_)
   refine⟨N-1,k+1,by omega,⟨by omega,fun j z hj hz=>?_⟩,?_⟩
   ·by_cases e:j=k
    ·rw [e,hx] at hz;injection hz with hz;subst hz;exact h2
    ·exact hno j z (by omega) hz
   ·refine zl1 _ _ rfl rfl ?_ ?_;(repeat' (first|exact TmOk.nil|exact RwOk.nil|refine TmOk.cons ?_ ?_|refine RwOk.cons ?_ ?_|rfl|(refine rnV_id' rfl ?_;exact byc)|(refine zp1 ?_;first|rfl|omega|(rw [zw (by omega) (by omega)];omega))|(refine zb1 rfl ?_;exact byc)|exact zc2 rfl rfl|(refine zq1 (by rfl) (by rfl) ?_ ?_<;>exact byc)|(refine rw_rn' rfl rfl ?_;simp;done)));refine zb1 rfl hb
 ·have hk':¬k<l.length:=by simpa using h1
  repeat (first|refine zd ?_|refine ze ?_|refine zg ?_|refine zu ?_|refine zh ?_|refine za fun C=>?_|refine zn (by kernel_rfl) (by kernel_rfl) fun C=>?_|refine zb ?_|refine zm2 ?_|refine x_bs ?_|refine x_gr ?_|refine x_st ?_|refine x_mv ?_|refine x_sk ?_|refine zd3 ?_|refine x_ix ?_|refine za3 ?_|refine ze3 ?_|refine zb3 ?_|refine zk2 ?_|refine x_ld ?_)
  refine ret1 (x:=.c (.v (.int .i64 (-1)))) (rw:=⟨0,0,0,true,b⟩) rfl rfl rfl hb rfl ⟨?_,rfl⟩
  rw [zy4 fun j y hj hy=>hno j y (by omega) hy]
end Go.Proofs.YtnjfnhoipnbpeaaGreatDoor
