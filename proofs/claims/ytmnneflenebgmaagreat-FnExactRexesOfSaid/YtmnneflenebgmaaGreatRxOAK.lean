/- T -/
import Derived.Test.YtmnneflenebgmaaGreatRxOAJ
set_option maxHeartbeats 0
set_option maxRecDepth 100000
namespace Go.Proofs.YtmnneflenebgmaaGreat
open Go.RowKit Go.Proofs.Tryz
theorem oB {la lb:List E}(ha:∀e∈la,e.Ty prog 70)(hka:∀e∈la,e.enc.length=4)(hb:∀e∈lb,e.Ty prog 70)(hkb:∀e∈lb,e.enc.length=4)(hla:la.length≤1073741824)(hlb:lb.length≤1073741824)(hc:∀x∈la,∀y∈lb,Ctr prog 141 [.ag (acE x),.ag (acE y)] [] (.c (.v (.bool (eqD x y)))) []):Ctr prog 193 [.c (.ro la.length 4 (acL la)),.c (.ro lb.length 4 (acL lb)),.c (.fn 141 [])] [] (.c (.v (.bool (sK la lb)))) []:=by
 refine av func193 rfl rfl ?_
 repeat (first|refine ae ?_|refine ah ?_|refine ai ?_|refine au ?_|refine am ?_|refine aa fun C=>?_|refine ar (by kernel_rfl) (by kernel_rfl) fun C=>?_|refine ab ?_|refine bC ?_|refine dN ?_|refine dK ?_|refine dO ?_|refine x_mv ?_|refine dz ?_|refine x_sk0 ?_|refine dP ?_|refine ce ?_|refine x_sto ?_|refine cf ?_|refine x_app0 ?_|refine x_ld ?_)
 refine cu (by rfl) (fun h1=>?_) fun h1=>?_
 ·repeat (first|refine ae ?_|refine ah ?_|refine ai ?_|refine au ?_|refine am ?_|refine aa fun C=>?_|refine ar (by kernel_rfl) (by kernel_rfl) fun C=>?_|refine ab ?_|refine bC ?_|refine dN ?_|refine dK ?_|refine dO ?_|refine x_mv ?_|refine dz ?_|refine x_sk0 ?_|refine dP ?_|refine ce ?_|refine x_sto ?_|refine cf ?_|refine x_app0 ?_|refine x_ld ?_)
  refine bi (x:=.c (.v (.bool false))) rfl aM ⟨?_,rfl⟩
  rw [q7 (by simp at h1;omega)]
 ·have hl:la.length=lb.length:=by simp at h1;omega
  repeat (first|refine ae ?_|refine ah ?_|refine ai ?_|refine au ?_|refine am ?_|refine aa fun C=>?_|refine ar (by kernel_rfl) (by kernel_rfl) fun C=>?_|refine ab ?_|refine bC ?_|refine dN ?_|refine dK ?_|refine dO ?_|refine x_mv ?_|refine dz ?_|refine x_sk0 ?_|refine dP ?_|refine ce ?_|refine x_sto ?_|refine cf ?_|refine x_app0 ?_|refine x_ld ?_)
  refine aP (fun k:Nat=>⟨dy [(1,.c (.ro lb.length 4 (acL lb))),(2,.c (.fn 141 [])),(15,.c (.ro la.length 4 (acL la))),(16,.c (.v (.int .i64 la.length))),(17,.c (.v (.int .i64 k)))],dn [],0,[],32⟩)
   (fun N k=>k+N=la.length∧∀j x y,j<k→la[j]? = some x→lb[j]? = some y→eqD x y=true) la.length 0 ⟨omq,omq⟩ ?_ ?_
  ·(refine aD _ _ rfl rfl ?_ ?_<;>exact tdy0)
  rintro N k ⟨hN,hno⟩
  repeat (first|refine ae ?_|refine ah ?_|refine ai ?_|refine au ?_|refine am ?_|refine aa fun C=>?_|refine ar (by kernel_rfl) (by kernel_rfl) fun C=>?_|refine ab ?_|refine bC ?_|refine dN ?_|refine dK ?_|refine dO ?_|refine x_mv ?_|refine dz ?_|refine x_sk0 ?_|refine dP ?_|refine ce ?_|refine x_sto ?_|refine cf ?_|refine x_app0 ?_|refine x_ld ?_)
  refine cu (by rfl) (fun h2=>?_) fun h2=>?_
  ·have hk':k<la.length:=by simpa using h2
   obtain⟨x,hx⟩:∃x,la[k]? = some x:=⟨_,List.getElem?_eq_getElem hk'⟩
   obtain⟨y,hy⟩:∃y,lb[k]? = some y:=⟨_,List.getElem?_eq_getElem omq⟩
   have hcc:=hc x (List.mem_of_getElem? hx) y (List.mem_of_getElem? hy)
   obtain⟨x0,x1,x2,x3A,x3c,x3l,rfl,gx0,gx1,gx2,gx3,-⟩:=aB (ha x (List.mem_of_getElem? hx))
   obtain⟨y0,y1,y2,y3A,y3c,y3l,rfl,gy0,gy1,gy2,gy3,-⟩:=aB (hb y (List.mem_of_getElem? hy))
   repeat (first|refine ae ?_|refine ah ?_|refine ai ?_|refine au ?_|refine am ?_|refine aa fun C=>?_|refine ar (by kernel_rfl) (by kernel_rfl) fun C=>?_|refine ab ?_|refine bC ?_|refine dN ?_|refine dK ?_|refine dO ?_|refine x_mv ?_|refine dz ?_|refine x_sk0 ?_|refine dP ?_|refine ce ?_|refine x_sto ?_|refine cf ?_|refine x_app0 ?_|refine x_ld ?_)
   refine zg3 100 hcc ?_
   repeat (first|refine ae ?_|refine ah ?_|refine ai ?_|refine au ?_|refine am ?_|refine aa fun C=>?_|refine ar (by kernel_rfl) (by kernel_rfl) fun C=>?_|refine ab ?_|refine bC ?_|refine dN ?_|refine dK ?_|refine dO ?_|refine x_mv ?_|refine dz ?_|refine x_sk0 ?_|refine dP ?_|refine ce ?_|refine x_sto ?_|refine cf ?_|refine x_app0 ?_|refine x_ld ?_)
   refine cu (by rfl) (fun h3=>?_) fun h3=>?_
   ·repeat (first|refine ae ?_|refine ah ?_|refine ai ?_|refine au ?_|refine am ?_|refine aa fun C=>?_|refine ar (by kernel_rfl) (by kernel_rfl) fun C=>?_|refine ab ?_|refine bC ?_|refine dN ?_|refine dK ?_|refine dO ?_|refine x_mv ?_|refine dz ?_|refine x_sk0 ?_|refine dP ?_|refine ce ?_|refine x_sto ?_|refine cf ?_|refine x_app0 ?_|refine x_ld ?_)
    refine bi (x:=.c (.v (.bool false))) rfl aM ⟨?_,rfl⟩
    rw [zf2 hx hy (by simpa using h3)]
   ·repeat (first|refine ae ?_|refine ah ?_|refine ai ?_|refine au ?_|refine am ?_|refine aa fun C=>?_|refine ar (by kernel_rfl) (by kernel_rfl) fun C=>?_|refine ab ?_|refine bC ?_|refine dN ?_|refine dK ?_|refine dO ?_|refine x_mv ?_|refine dz ?_|refine x_sk0 ?_|refine dP ?_|refine ce ?_|refine x_sto ?_|refine cf ?_|refine x_app0 ?_|refine x_ld ?_)
    refine⟨N-1,k+1,omq,⟨omq,fun j p q hj hp hq=>?_⟩,?_⟩
    ·by_cases e:j=k
     ·rw [e,hx] at hp;rw [e,hy] at hq;injection hp with hp;injection hq with hq;subst hp hq;simpa using h3
     ·exact hno j p q omq hp hq
    ·(refine aD _ _ rfl rfl ?_ ?_<;>exact tdy0)
  ·have hk':¬k<la.length:=by simpa using h2
   repeat (first|refine ae ?_|refine ah ?_|refine ai ?_|refine au ?_|refine am ?_|refine aa fun C=>?_|refine ar (by kernel_rfl) (by kernel_rfl) fun C=>?_|refine ab ?_|refine bC ?_|refine dN ?_|refine dK ?_|refine dO ?_|refine x_mv ?_|refine dz ?_|refine x_sk0 ?_|refine dP ?_|refine ce ?_|refine x_sto ?_|refine cf ?_|refine x_app0 ?_|refine x_ld ?_)
   refine bi (x:=.c (.v (.bool true))) rfl aM ⟨?_,rfl⟩
   rw [q8 hl fun j x y hj hx hy=>hno j x y omq hx hy]
theorem sv (n:Nat):∀(x y:E),x.Ty prog 70→y.Ty prog 70→x.sz≤n→y.sz≤1048576→n≤1048576→Ctr prog 141 [.ag (acE x),.ag (acE y)] [] (.c (.v (.bool (eqD x y)))) []:=by
 induction n using Nat.strongRecOn with
 | _ n ih =>
 intro x y hx hy hsx hsy hn
 obtain⟨x0,x1,x2,x3A,x3c,x3l,rfl,gx0,gx1,gx2,gx3,-⟩:=aB hx
 obtain⟨y0,y1,y2,y3A,y3c,y3l,rfl,gy0,gy1,gy2,gy3,-⟩:=aB hy
 simp only [E.sz,E.szL] at hsx hsy
 have c1:=oB gx3.1 gx3.2 gy3.1 gy3.2 omq omq (fun p hp q hq=>ih p.sz (by have h1:=E.szL_mem hp;have h2:=List.length_pos_of_mem hp;omega) p q (gx3.1 p hp) (gy3.1 q hq) (Nat.le_refl _) (by have h1:=E.szL_mem hq;omega) (by have h1:=E.szL_mem hp;have h2:=List.length_pos_of_mem hp;omega))
 clear ih
 refine av func141 rfl rfl ?_
 repeat' (first|refine ae ?_|refine aa fun C=>?_|refine ab ?_|(refine wY ?_ ?_<;>intro hG<;>(try cases hG))|refine bC ?_|refine dK ?_|refine dz ?_|refine x_cal ?_)
 all_goals
  refine am ?_
  refine bi rfl aM ⟨?_,rfl⟩
  simp only [vV,vW,pZ,yt,vU,fw,jT]
  first|(simp [*];done)|(simp_all;done)|skip
theorem lm {x y:E}(hx:x.Ty prog 70)(hy:y.Ty prog 70)(hsx:x.sz≤1048576)(hsy:y.sz≤1048576):Ctr prog 141 [.ag (acE x),.ag (acE y)] [] (.c (.v (.bool (eqD x y)))) []:=sv _ x y hx hy hsx hsy (Nat.le_refl _)
theorem sw {l:List E}(hl:∀e∈l,e.Ty prog 106)(hk:∀e∈l,e.enc.length=6)(hlen:l.length≤1073741824)(p:E→Bool)(f:FuncId)(hc:∀x∈l,Ctr prog f (.ag (acE x) :: []) [] (.c (.v (.bool (p x)))) []):Ctr prog 228 [.c (.ro l.length 6 (acL l)),.c (.fn f [])] [] (.c (.v (.int .i64 (gF p l)))) []:=by
 refine av func228 rfl rfl ?_
 repeat (first|refine ae ?_|refine ah ?_|refine ai ?_|refine au ?_|refine am ?_|refine aa fun C=>?_|refine ar (by kernel_rfl) (by kernel_rfl) fun C=>?_|refine ab ?_|refine bC ?_|refine dN ?_|refine dK ?_|refine dO ?_|refine x_mv ?_|refine dz ?_|refine x_sk0 ?_|refine dP ?_|refine ce ?_|refine x_sto ?_|refine cf ?_|refine x_app0 ?_|refine x_ld ?_)
 refine aP (fun k:Nat=>⟨dy [(0,.c (.ro l.length 6 (acL l))),(1,.c (.fn f [])),(7,.c (.v (.int .i64 l.length))),(8,.c (.v (.int .i64 k)))],dn [],0,[],19⟩)
  (fun N k=>k+N=l.length∧∀j y,j<k→l[j]? = some y→p y=false) l.length 0 ⟨omq,omq⟩ ?_ ?_
 ·(refine aD _ _ rfl rfl ?_ ?_<;>exact tdy0)
 rintro N k ⟨hN,hno⟩
 repeat (first|refine ae ?_|refine ah ?_|refine ai ?_|refine au ?_|refine am ?_|refine aa fun C=>?_|refine ar (by kernel_rfl) (by kernel_rfl) fun C=>?_|refine ab ?_|refine bC ?_|refine dN ?_|refine dK ?_|refine dO ?_|refine x_mv ?_|refine dz ?_|refine x_sk0 ?_|refine dP ?_|refine ce ?_|refine x_sto ?_|refine cf ?_|refine x_app0 ?_|refine x_ld ?_)
 refine cu (by rfl) (fun h1=>?_) fun h1=>?_
 ·have hk':k<l.length:=by simpa using h1
  obtain⟨x,hx⟩:∃x,l[k]? = some x:=⟨_,List.getElem?_eq_getElem hk'⟩
  have hxt:=hl x (List.mem_of_getElem? hx)
  have hcc:=hc x (List.mem_of_getElem? hx)
  obtain⟨y0,y1,y2,y3A,y3c,y3l,y4A,y4c,y4l,y5A,y5c,y5l,rfl,gy0,gy1,gy2,gy3,gy4,gy5,-⟩:=aQ hxt
  repeat (first|refine ae ?_|refine ah ?_|refine ai ?_|refine au ?_|refine am ?_|refine aa fun C=>?_|refine ar (by kernel_rfl) (by kernel_rfl) fun C=>?_|refine ab ?_|refine bC ?_|refine dN ?_|refine dK ?_|refine dO ?_|refine x_mv ?_|refine dz ?_|refine x_sk0 ?_|refine dP ?_|refine ce ?_|refine x_sto ?_|refine cf ?_|refine x_app0 ?_|refine x_ld ?_)
  refine ik hcc ?_
  repeat (first|refine ae ?_|refine ah ?_|refine ai ?_|refine au ?_|refine am ?_|refine aa fun C=>?_|refine ar (by kernel_rfl) (by kernel_rfl) fun C=>?_|refine ab ?_|refine bC ?_|refine dN ?_|refine dK ?_|refine dO ?_|refine x_mv ?_|refine dz ?_|refine x_sk0 ?_|refine dP ?_|refine ce ?_|refine x_sto ?_|refine cf ?_|refine x_app0 ?_|refine x_ld ?_)
  refine cu (by rfl) (fun h2=>?_) fun h2=>?_
  ·repeat (first|refine ae ?_|refine ah ?_|refine ai ?_|refine au ?_|refine am ?_|refine aa fun C=>?_|refine ar (by kernel_rfl) (by kernel_rfl) fun C=>?_|refine ab ?_|refine bC ?_|refine dN ?_|refine dK ?_|refine dO ?_|refine x_mv ?_|refine dz ?_|refine x_sk0 ?_|refine dP ?_|refine ce ?_|refine x_sto ?_|refine cf ?_|refine x_app0 ?_|refine x_ld ?_)
   refine bi (x:=.c (.v (.int .i64 k))) rfl aM ⟨?_,rfl⟩
   rw [fH hno hx h2]
  ·repeat (first|refine ae ?_|refine ah ?_|refine ai ?_|refine au ?_|refine am ?_|refine aa fun C=>?_|refine ar (by kernel_rfl) (by kernel_rfl) fun C=>?_|refine ab ?_|refine bC ?_|refine dN ?_|refine dK ?_|refine dO ?_|refine x_mv ?_|refine dz ?_|refine x_sk0 ?_|refine dP ?_|refine ce ?_|refine x_sto ?_|refine cf ?_|refine x_app0 ?_|refine x_ld ?_)
   refine⟨N-1,k+1,omq,⟨omq,fun j z hj hz=>?_⟩,?_⟩
   ·by_cases e:j=k
    ·rw [e,hx] at hz;injection hz with hz;subst hz;exact h2
    ·exact hno j z omq hz
   ·(refine aD _ _ rfl rfl ?_ ?_<;>exact tdy0)
 ·have hk':¬k<l.length:=by simpa using h1
  repeat (first|refine ae ?_|refine ah ?_|refine ai ?_|refine au ?_|refine am ?_|refine aa fun C=>?_|refine ar (by kernel_rfl) (by kernel_rfl) fun C=>?_|refine ab ?_|refine bC ?_|refine dN ?_|refine dK ?_|refine dO ?_|refine x_mv ?_|refine dz ?_|refine x_sk0 ?_|refine dP ?_|refine ce ?_|refine x_sto ?_|refine cf ?_|refine x_app0 ?_|refine x_ld ?_)
  refine bi (x:=.c (.v (.int .i64 (-1)))) rfl aM ⟨?_,rfl⟩
  rw [dC fun j y hj hy=>hno j y omq hy]
theorem sx {l:List E}(hl:∀e∈l,e.Ty prog 106)(hk:∀e∈l,e.enc.length=6)(hlen:l.length≤1073741824)(p:E→Bool)(f:FuncId)(hc:∀x∈l,Ctr prog f (.ag (acE x) :: []) [] (.c (.v (.bool (p x)))) []):Ctr prog 189 [.c (.ro l.length 6 (acL l)),.c (.fn f [])] [] (.c (.v (.bool (l.any p)))) []:=by
 refine av func189 rfl rfl ?_
 have hcc:=sw hl hk hlen p f hc
 repeat (first|refine ae ?_|refine ah ?_|refine ai ?_|refine au ?_|refine am ?_|refine aa fun C=>?_|refine ar (by kernel_rfl) (by kernel_rfl) fun C=>?_|refine ab ?_|refine bC ?_|refine dN ?_|refine dK ?_|refine dO ?_|refine x_mv ?_|refine dz ?_|refine x_sk0 ?_|refine dP ?_|refine ce ?_|refine x_sto ?_|refine cf ?_|refine x_app0 ?_|refine x_ld ?_)
 refine ik hcc ?_
 repeat (first|refine ae ?_|refine ah ?_|refine ai ?_|refine au ?_|refine am ?_|refine aa fun C=>?_|refine ar (by kernel_rfl) (by kernel_rfl) fun C=>?_|refine ab ?_|refine bC ?_|refine dN ?_|refine dK ?_|refine dO ?_|refine x_mv ?_|refine dz ?_|refine x_sk0 ?_|refine dP ?_|refine ce ?_|refine x_sto ?_|refine cf ?_|refine x_app0 ?_|refine x_ld ?_)
 refine bi (x:=.c (.v (.bool (decide (gF p l ≥ 0))))) rfl aM ⟨?_,rfl⟩
 rw [fM]
theorem sA {l:List E}(hl:∀e∈l,e.Ty prog 87)(hk:∀e∈l,e.enc.length=6)(hlen:l.length≤1073741824)(p:E→Bool)(f:FuncId)(hc:∀x∈l,Ctr prog f (.ag (acE x) :: []) [] (.c (.v (.bool (p x)))) []):Ctr prog 137 [.c (.ro l.length 6 (acL l)),.c (.fn f [])] [] (.c (.v (.int .i64 (gF p l)))) []:=by
 refine av func137 rfl rfl ?_
 repeat (first|refine ae ?_|refine ah ?_|refine ai ?_|refine au ?_|refine am ?_|refine aa fun C=>?_|refine ar (by kernel_rfl) (by kernel_rfl) fun C=>?_|refine ab ?_|refine bC ?_|refine dN ?_|refine dK ?_|refine dO ?_|refine x_mv ?_|refine dz ?_|refine x_sk0 ?_|refine dP ?_|refine ce ?_|refine x_sto ?_|refine cf ?_|refine x_app0 ?_|refine x_ld ?_)
 refine aP (fun k:Nat=>⟨dy [(0,.c (.ro l.length 6 (acL l))),(1,.c (.fn f [])),(7,.c (.v (.int .i64 l.length))),(8,.c (.v (.int .i64 k)))],dn [],0,[],19⟩)
  (fun N k=>k+N=l.length∧∀j y,j<k→l[j]? = some y→p y=false) l.length 0 ⟨omq,omq⟩ ?_ ?_
 ·(refine aD _ _ rfl rfl ?_ ?_<;>exact tdy0)
 rintro N k ⟨hN,hno⟩
 repeat (first|refine ae ?_|refine ah ?_|refine ai ?_|refine au ?_|refine am ?_|refine aa fun C=>?_|refine ar (by kernel_rfl) (by kernel_rfl) fun C=>?_|refine ab ?_|refine bC ?_|refine dN ?_|refine dK ?_|refine dO ?_|refine x_mv ?_|refine dz ?_|refine x_sk0 ?_|refine dP ?_|refine ce ?_|refine x_sto ?_|refine cf ?_|refine x_app0 ?_|refine x_ld ?_)
 refine cu (by rfl) (fun h1=>?_) fun h1=>?_
 ·have hk':k<l.length:=by simpa using h1
  obtain⟨x,hx⟩:∃x,l[k]? = some x:=⟨_,List.getElem?_eq_getElem hk'⟩
  have hxt:=hl x (List.mem_of_getElem? hx)
  have hcc:=hc x (List.mem_of_getElem? hx)
  obtain⟨y0,y1,y2,y3,y4A,y4c,y4l,y5A,y5c,y5l,rfl,gy0,gy1,gy2,gy3,gy4,gy5,-⟩:=bH hxt
  repeat (first|refine ae ?_|refine ah ?_|refine ai ?_|refine au ?_|refine am ?_|refine aa fun C=>?_|refine ar (by kernel_rfl) (by kernel_rfl) fun C=>?_|refine ab ?_|refine bC ?_|refine dN ?_|refine dK ?_|refine dO ?_|refine x_mv ?_|refine dz ?_|refine x_sk0 ?_|refine dP ?_|refine ce ?_|refine x_sto ?_|refine cf ?_|refine x_app0 ?_|refine x_ld ?_)
  refine ik hcc ?_
  repeat (first|refine ae ?_|refine ah ?_|refine ai ?_|refine au ?_|refine am ?_|refine aa fun C=>?_|refine ar (by kernel_rfl) (by kernel_rfl) fun C=>?_|refine ab ?_|refine bC ?_|refine dN ?_|refine dK ?_|refine dO ?_|refine x_mv ?_|refine dz ?_|refine x_sk0 ?_|refine dP ?_|refine ce ?_|refine x_sto ?_|refine cf ?_|refine x_app0 ?_|refine x_ld ?_)
  refine cu (by rfl) (fun h2=>?_) fun h2=>?_
  ·repeat (first|refine ae ?_|refine ah ?_|refine ai ?_|refine au ?_|refine am ?_|refine aa fun C=>?_|refine ar (by kernel_rfl) (by kernel_rfl) fun C=>?_|refine ab ?_|refine bC ?_|refine dN ?_|refine dK ?_|refine dO ?_|refine x_mv ?_|refine dz ?_|refine x_sk0 ?_|refine dP ?_|refine ce ?_|refine x_sto ?_|refine cf ?_|refine x_app0 ?_|refine x_ld ?_)
   refine bi (x:=.c (.v (.int .i64 k))) rfl aM ⟨?_,rfl⟩
   rw [fH hno hx h2]
  ·repeat (first|refine ae ?_|refine ah ?_|refine ai ?_|refine au ?_|refine am ?_|refine aa fun C=>?_|refine ar (by kernel_rfl) (by kernel_rfl) fun C=>?_|refine ab ?_|refine bC ?_|refine dN ?_|refine dK ?_|refine dO ?_|refine x_mv ?_|refine dz ?_|refine x_sk0 ?_|refine dP ?_|refine ce ?_|refine x_sto ?_|refine cf ?_|refine x_app0 ?_|refine x_ld ?_)
   refine⟨N-1,k+1,omq,⟨omq,fun j z hj hz=>?_⟩,?_⟩
   ·by_cases e:j=k
    ·rw [e,hx] at hz;injection hz with hz;subst hz;exact h2
    ·exact hno j z omq hz
   ·(refine aD _ _ rfl rfl ?_ ?_<;>exact tdy0)
 ·have hk':¬k<l.length:=by simpa using h1
  repeat (first|refine ae ?_|refine ah ?_|refine ai ?_|refine au ?_|refine am ?_|refine aa fun C=>?_|refine ar (by kernel_rfl) (by kernel_rfl) fun C=>?_|refine ab ?_|refine bC ?_|refine dN ?_|refine dK ?_|refine dO ?_|refine x_mv ?_|refine dz ?_|refine x_sk0 ?_|refine dP ?_|refine ce ?_|refine x_sto ?_|refine cf ?_|refine x_app0 ?_|refine x_ld ?_)
  refine bi (x:=.c (.v (.int .i64 (-1)))) rfl aM ⟨?_,rfl⟩
  rw [dC fun j y hj hy=>hno j y omq hy]
theorem sB {l:List E}(hl:∀e∈l,e.Ty prog 87)(hk:∀e∈l,e.enc.length=6)(hlen:l.length≤1073741824)(p:E→Bool)(f:FuncId)(hc:∀x∈l,Ctr prog f (.ag (acE x) :: []) [] (.c (.v (.bool (p x)))) []):Ctr prog 91 [.c (.ro l.length 6 (acL l)),.c (.fn f [])] [] (.c (.v (.bool (l.any p)))) []:=by
 refine av func91 rfl rfl ?_
 have hcc:=sA hl hk hlen p f hc
 repeat (first|refine ae ?_|refine ah ?_|refine ai ?_|refine au ?_|refine am ?_|refine aa fun C=>?_|refine ar (by kernel_rfl) (by kernel_rfl) fun C=>?_|refine ab ?_|refine bC ?_|refine dN ?_|refine dK ?_|refine dO ?_|refine x_mv ?_|refine dz ?_|refine x_sk0 ?_|refine dP ?_|refine ce ?_|refine x_sto ?_|refine cf ?_|refine x_app0 ?_|refine x_ld ?_)
 refine ik hcc ?_
 repeat (first|refine ae ?_|refine ah ?_|refine ai ?_|refine au ?_|refine am ?_|refine aa fun C=>?_|refine ar (by kernel_rfl) (by kernel_rfl) fun C=>?_|refine ab ?_|refine bC ?_|refine dN ?_|refine dK ?_|refine dO ?_|refine x_mv ?_|refine dz ?_|refine x_sk0 ?_|refine dP ?_|refine ce ?_|refine x_sto ?_|refine cf ?_|refine x_app0 ?_|refine x_ld ?_)
 refine bi (x:=.c (.v (.bool (decide (gF p l ≥ 0))))) rfl aM ⟨?_,rfl⟩
 rw [fM]
theorem yu {l:List E}(hl:∀e∈l,e.Ty prog 89)(hk:∀e∈l,e.enc.length=3)(hlen:l.length≤1073741824){b:List AC}(hb:ba b=true)(p:E→Bool)(f:FuncId)(hc:∀x∈l,Ctr prog f (.ag (acE x) :: [.c (.pt 0 0)]) [b] (.c (.v (.bool (p x)))) [b]):Ctr prog 143 [.c (.ro l.length 3 (acL l)),.c (.fn f [.pt 0 0])] [b] (.c (.v (.int .i64 (gF p l)))) [b]:=by
 refine av func143 rfl rfl ?_
 repeat (first|refine ae ?_|refine ah ?_|refine ai ?_|refine au ?_|refine am ?_|refine aa fun C=>?_|refine ar (by kernel_rfl) (by kernel_rfl) fun C=>?_|refine ab ?_|refine bC ?_|refine dN ?_|refine dK ?_|refine dO ?_|refine x_mv ?_|refine dz ?_|refine x_sk0 ?_|refine dP ?_|refine ce ?_|refine x_sto ?_|refine cf ?_|refine x_app0 ?_|refine x_ld ?_)
 refine aP (fun k:Nat=>⟨dy [(0,.c (.ro l.length 3 (acL l))),(1,.c (.fn f [.pt 0 0])),(7,.c (.v (.int .i64 l.length))),(8,.c (.v (.int .i64 k)))],dn [(0,0,⟨0,0,0,true,b⟩)],1,[0],19⟩)
  (fun N k=>k+N=l.length∧∀j y,j<k→l[j]? = some y→p y=false) l.length 0 ⟨omq,omq⟩ ?_ ?_
 ·refine aD _ _ rfl rfl ?_ ?_;(repeat' (first|exact TmOk.nil|exact RwOk.nil|refine TmOk.cons ?_ ?_|refine RwOk.cons ?_ ?_|rfl|(refine rnV_id' rfl ?_;exact byc)|(refine bu ?_;first|rfl|omega|(rw [aW omq omq];omega))|(refine aJ rfl ?_;exact byc)|exact cb rfl rfl|(refine rw_mid (by rfl) (by rfl) ?_ ?_<;>exact byc)|(refine rw_rn' rfl rfl ?_;simp;done)));refine aJ rfl hb
 rintro N k ⟨hN,hno⟩
 repeat (first|refine ae ?_|refine ah ?_|refine ai ?_|refine au ?_|refine am ?_|refine aa fun C=>?_|refine ar (by kernel_rfl) (by kernel_rfl) fun C=>?_|refine ab ?_|refine bC ?_|refine dN ?_|refine dK ?_|refine dO ?_|refine x_mv ?_|refine dz ?_|refine x_sk0 ?_|refine dP ?_|refine ce ?_|refine x_sto ?_|refine cf ?_|refine x_app0 ?_|refine x_ld ?_)
 refine cu (by rfl) (fun h1=>?_) fun h1=>?_
 ·have hk':k<l.length:=by simpa using h1
  obtain⟨x,hx⟩:∃x,l[k]? = some x:=⟨_,List.getElem?_eq_getElem hk'⟩
  have hxt:=hl x (List.mem_of_getElem? hx)
  have hcc:=hc x (List.mem_of_getElem? hx)
  obtain⟨y0,y1A,y1c,y1l,y2A,y2c,y2l,rfl,gy0,gy1,gy2,-⟩:=bM hxt
  repeat (first|refine ae ?_|refine ah ?_|refine ai ?_|refine au ?_|refine am ?_|refine aa fun C=>?_|refine ar (by kernel_rfl) (by kernel_rfl) fun C=>?_|refine ab ?_|refine bC ?_|refine dN ?_|refine dK ?_|refine dO ?_|refine x_mv ?_|refine dz ?_|refine x_sk0 ?_|refine dP ?_|refine ce ?_|refine x_sto ?_|refine cf ?_|refine x_app0 ?_|refine x_ld ?_)
  refine xa 0 hcc ?_ (hl:=cV (by rfl) hb)
  repeat (first|refine ae ?_|refine ah ?_|refine ai ?_|refine au ?_|refine am ?_|refine aa fun C=>?_|refine ar (by kernel_rfl) (by kernel_rfl) fun C=>?_|refine ab ?_|refine bC ?_|refine dN ?_|refine dK ?_|refine dO ?_|refine x_mv ?_|refine dz ?_|refine x_sk0 ?_|refine dP ?_|refine ce ?_|refine x_sto ?_|refine cf ?_|refine x_app0 ?_|refine x_ld ?_)
  refine cu (by rfl) (fun h2=>?_) fun h2=>?_
  ·repeat (first|refine ae ?_|refine ah ?_|refine ai ?_|refine au ?_|refine am ?_|refine aa fun C=>?_|refine ar (by kernel_rfl) (by kernel_rfl) fun C=>?_|refine ab ?_|refine bC ?_|refine dN ?_|refine dK ?_|refine dO ?_|refine x_mv ?_|refine dz ?_|refine x_sk0 ?_|refine dP ?_|refine ce ?_|refine x_sto ?_|refine cf ?_|refine x_app0 ?_|refine x_ld ?_)
   refine em (x:=.c (.v (.int .i64 k))) (rw:=⟨0,0,0,true,b⟩) rfl rfl rfl hb rfl ⟨?_,rfl⟩
   rw [fH hno hx h2]
  ·repeat (first|refine ae ?_|refine ah ?_|refine ai ?_|refine au ?_|refine am ?_|refine aa fun C=>?_|refine ar (by kernel_rfl) (by kernel_rfl) fun C=>?_|refine ab ?_|refine bC ?_|refine dN ?_|refine dK ?_|refine dO ?_|refine x_mv ?_|refine dz ?_|refine x_sk0 ?_|refine dP ?_|refine ce ?_|refine x_sto ?_|refine cf ?_|refine x_app0 ?_|refine x_ld ?_)
   refine⟨N-1,k+1,omq,⟨omq,fun j z hj hz=>?_⟩,?_⟩
   ·by_cases e:j=k
    ·rw [e,hx] at hz;injection hz with hz;subst hz;exact h2
    ·exact hno j z omq hz
   ·refine aD _ _ rfl rfl ?_ ?_;(repeat' (first|exact TmOk.nil|exact RwOk.nil|refine TmOk.cons ?_ ?_|refine RwOk.cons ?_ ?_|rfl|(refine rnV_id' rfl ?_;exact byc)|(refine bu ?_;first|rfl|omega|(rw [aW omq omq];omega))|(refine aJ rfl ?_;exact byc)|exact cb rfl rfl|(refine rw_mid (by rfl) (by rfl) ?_ ?_<;>exact byc)|(refine rw_rn' rfl rfl ?_;simp;done)));refine aJ rfl hb
 ·have hk':¬k<l.length:=by simpa using h1
  repeat (first|refine ae ?_|refine ah ?_|refine ai ?_|refine au ?_|refine am ?_|refine aa fun C=>?_|refine ar (by kernel_rfl) (by kernel_rfl) fun C=>?_|refine ab ?_|refine bC ?_|refine dN ?_|refine dK ?_|refine dO ?_|refine x_mv ?_|refine dz ?_|refine x_sk0 ?_|refine dP ?_|refine ce ?_|refine x_sto ?_|refine cf ?_|refine x_app0 ?_|refine x_ld ?_)
  refine em (x:=.c (.v (.int .i64 (-1)))) (rw:=⟨0,0,0,true,b⟩) rfl rfl rfl hb rfl ⟨?_,rfl⟩
  rw [dC fun j y hj hy=>hno j y omq hy]
end Go.Proofs.YtmnneflenebgmaaGreat
