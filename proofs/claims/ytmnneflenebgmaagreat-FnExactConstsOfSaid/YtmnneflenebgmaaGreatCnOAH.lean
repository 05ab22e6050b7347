/- T -/
import Derived.Lib.SlicesCompact
import Derived.Lib.RowBridge
import Derived.Test.YtmnneflenebgmaaGreatCnOAG
set_option maxHeartbeats 0
set_option maxRecDepth 100000
namespace Go.Proofs.YtmnneflenebgmaaGreat
open Go.RowKit Go.Proofs.Tryz
def preF (kd:E→List E):Nat→E→List E
 | 0,_=>[]
 | n+1,e=>e :: (kd e).flatMap (preF kd n)
def zwQ (kd:E→List E)(e:E):List E:=preF kd (e.sz+1) e
theorem fD {f g:E→List E}:∀{l:List E},(∀x∈l,f x=g x)→l.flatMap f=l.flatMap g
 | [],_=>rfl
 | x :: r,h=>by rw [List.flatMap_cons,List.flatMap_cons,h x List.mem_cons_self,fD fun y hy=>h y (List.mem_cons_of_mem _ hy)]
theorem oA {kd:E→List E}(hk:∀e x,x∈kd e→x.sz<e.sz):∀(n m:Nat) (e:E),e.sz<n→e.sz<m→preF kd n e=preF kd m e
 | 0,_,_,h,_=>absurd h (Nat.not_lt_zero _)
 | n+1,0,_,_,h=>absurd h (Nat.not_lt_zero _)
 | n+1,m+1,e,h1,h2=>by
  show e :: (kd e).flatMap (preF kd n)=e :: (kd e).flatMap (preF kd m)
  rw [fD fun x hx=>oA hk n m x (by have:=hk e x hx;omega) (by have:=hk e x hx;omega)]
theorem gz {kd:E→List E}(hk:∀e x,x∈kd e→x.sz<e.sz)(e:E):zwQ kd e=e :: (kd e).flatMap (zwQ kd):=by
 show e :: (kd e).flatMap (preF kd e.sz)=_
 rw [fD fun x hx=>oA hk e.sz (x.sz+1) x (hk e x hx) omq]
 rfl
theorem eU {f:E→List E}{b:E→Nat}:∀{l:List E},(∀x∈l,(f x).length≤b x)→(l.flatMap f).length≤(l.map b).sum
 | [],_=>Nat.le_refl _
 | x :: r,h=>by
  rw [List.flatMap_cons,List.length_append,List.map_cons,List.sum_cons]
  exact Nat.add_le_add (h x List.mem_cons_self) (eU fun y hy=>h y (List.mem_cons_of_mem _ hy))
theorem mW:∀l:List E,(l.map fun x=>x.sz+1).sum=l.length+E.szL l
 | []=>rfl
 | x :: r=>by rw [List.map_cons,List.sum_cons,mW r,E.szL,List.length_cons];omega
theorem mX:∀l:List E,(l.map fun x=>x.sz).sum=E.szL l
 | []=>rfl
 | x :: r=>by rw [List.map_cons,List.sum_cons,mX r,E.szL]
theorem q8 {kd:E→List E}(hk:∀e x,x∈kd e→x.sz<e.sz)(hz:∀e,(kd e).length+E.szL (kd e)≤e.sz):∀(n:Nat) (e:E),e.sz<n→(zwQ kd e).length≤e.sz+1
 | 0,_,h=>absurd h (Nat.not_lt_zero _)
 | n+1,e,h=>by
  rw [gz hk,List.length_cons]
  have:=eU (f:=zwQ kd) (b:=fun x=>x.sz+1) (l:=kd e) fun x hx=>q8 hk hz n x (by have:=hk e x hx;omega)
  rw [mW] at this
  have:=hz e
  omega
theorem zb2 (e:E):(iI e).length+E.szL (iI e)≤e.sz:=by
 unfold iI
 split
 ·simp only [E.sz,E.szL];omega
 ·exact Nat.zero_le _
theorem zyQ (e:E):(nj e).length+E.szL (nj e)≤e.sz:=by
 unfold nj
 split
 ·simp only [E.sz,E.szL,E.szL_app,List.length_append];omega
 ·exact Nat.zero_le _
def eC (e:E):List E:=zwQ iI e
def mY (e:E):List E:=zwQ nj e
theorem oB (e:E):eC e=e :: (iI e).flatMap eC:=gz fU e
theorem oC (e:E):mY e=e :: (nj e).flatMap mY:=gz hO e
theorem q9 (e:E):(eC e).length≤e.sz+1:=q8 fU zb2 (e.sz+1) e omq
def stX (y:E):List E:=match y with | .agg [_,_,_,.lst _ _ _ _ xs,_,_]=>xs|_=>[]
theorem stX_z (e:E):(stX e).length+E.szL (stX e)+E.szL (nj e)≤e.sz:=by
 unfold stX
 split
 ·rename_i a b c _ _ _ _ xs d f
  have h2:=zyQ (.agg [a,b,c,.lst ‹_› ‹_› ‹_› ‹_› xs,d,f])
  unfold nj
  split
  ·rename_i h
   cases h
   simp only [E.sz,E.szL,E.szL_app];omega
  ·simp only [E.sz,E.szL];omega
 ·have:=zyQ e
  simp only [List.length_nil,E.szL];omega
def oT (y:E):List E:=(stX y).flatMap eC
def oU (y:E):List E:=(mY y).flatMap oT
theorem oD (y:E):oU y=oT y++(nj y).flatMap oU:=by
 unfold oU
 rw [oC,List.flatMap_cons,List.flatMap_assoc]
theorem yu (y:E):(oT y).length≤(stX y).length+E.szL (stX y):=by
 have:=eU (f:=eC) (b:=fun x=>x.sz+1) (l:=stX y) fun x _=>q9 x
 rwa [mW] at this
theorem rf:∀(n:Nat) (e:E),e.sz<n→(oU e).length≤e.sz
 | 0,_,h=>absurd h (Nat.not_lt_zero _)
 | n+1,e,h=>by
  rw [oD,List.length_append]
  have h1:=eU (f:=oU) (b:=fun x=>x.sz) (l:=nj e) fun x hx=>rf n x (by have:=hO e x hx;omega)
  rw [mX] at h1
  have h2:=yu e
  have h3:=stX_z e
  omega
def lc (l:List E):List E:=l.flatMap oU
theorem pZ (l:List E):lc l=(l.flatMap mY).flatMap oT:=by
 unfold lc
 rw [List.flatMap_assoc]
 rfl
theorem rg (l:List E):(lc l).length≤E.szL l:=by
 have:=eU (f:=oU) (b:=fun x=>x.sz) (l:=l) fun x _=>rf (x.sz+1) x omq
 rwa [mX] at this
def fnX (e:E):List E:=match e with | .agg [_,_,.lst _ _ _ _ l]=>lc l|_=>[]
def ruX (e:E):List E:=match e with | .agg [.int _ k,p,.lst _ _ _ _ l]=>(if k=4 then eC p else [])++lc l|_=>[]
theorem zc2 (e:E):(fnX e).length≤e.sz:=by
 unfold fnX
 split
 ·have:=rg ‹List E›
  simp only [E.sz,E.szL];omega
 ·exact Nat.zero_le _
theorem zd2 (e:E):(ruX e).length≤e.sz+1:=by
 unfold ruX
 split
 ·rename_i p _ _ _ _ l
  have:=rg l
  have:=q9 p
  simp only [E.sz,E.szL,List.length_append]
  split
  ·omega
  ·simp only [List.length_nil];omega
 ·exact Nat.zero_le _
def l0 (rs fs:List E):List E:=fs.flatMap fnX++rs.flatMap ruX
theorem mZ (rs fs:List E):(l0 rs fs).length≤E.szL fs+(rs.length+E.szL rs):=by
 have h1:=eU (f:=fnX) (b:=fun x=>x.sz) (l:=fs) fun x _=>zc2 x
 have h2:=eU (f:=ruX) (b:=fun x=>x.sz+1) (l:=rs) fun x _=>zd2 x
 rw [mX] at h1
 rw [mW] at h2
 unfold l0
 rw [List.length_append]
 omega
def upto {S:Type}(step:S→E→S)(f:E→List E)(l:List E)(s:S)(k:Nat):S:=((l.take k).flatMap f).foldl step s
section
variable {S:Type}{step:S→E→S}{f:E→List E}{l:List E}{s:S}
theorem dG {k:Nat}{x:E}(h:l[k]? = some x):upto step f l s (k+1)=(f x).foldl step (upto step f l s k):=by
 obtain⟨hk,hx⟩:=List.getElem?_eq_some_iff.1 h
 unfold upto
 rw [List.take_succ_eq_append_getElem hk,List.flatMap_append,List.foldl_append,hx]
 simp
theorem ej:upto step f l s l.length=(l.flatMap f).foldl step s:=by
 unfold upto
 rw [List.take_length]
theorem m0 (k:Nat):((l.take k).flatMap f).length≤(l.flatMap f).length:=by
 have h:l.flatMap f=(l.take k).flatMap f++(l.drop k).flatMap f:=by rw [←List.flatMap_append,List.take_append_drop]
 rw [h,List.length_append]
 omega
theorem sB {k:Nat}{x:E}(h:l[k]? = some x):((l.take k).flatMap f).length+(f x).length≤(l.flatMap f).length:=by
 obtain⟨hk,hx⟩:=List.getElem?_eq_some_iff.1 h
 have h1:=m0 (l:=l) (f:=f) (k+1)
 rw [List.take_succ_eq_append_getElem hk,List.flatMap_append,List.length_append,hx] at h1
 simpa using h1
end
def zB (e:E):ByteArray:=match e with | .agg [_,_,.str s,_]=>s|_=>ByteArray.empty
def numX (e:E):Int:=match e with | .agg [_,.int _ n,_,_]=>n|_=>0
def yv (k n:Int)(s:ByteArray):E:=.agg [.int .i64 k,.int .i64 n,.str s]
def isV (k n:Int)(s:ByteArray)(e:E):Bool:=match e with | .agg [.int _ k',.int _ n',.str s']=>(k'==k)&&((n'==n)&&(s'.toList==s.toList))|_=>false
def l4 (l:List E)(k n:Int)(s:ByteArray):List E:=if l.any (isV k n s)=true then l else l++[yv k n s]
def iK (l:List E)(e:E):List E:=if eQ e=1 then l4 l 1 (numX e) ⟨#[]⟩ else if eQ e=2 then l4 l 2 0 (zB e) else l
def m4 (l:List E)(e:E):List E:=if eQ e=10∨eQ e=18 then (if jE l (zB e)=true then l else l++[.str (zB e)]) else l
theorem jT (l:List E)(k n:Int)(s:ByteArray):(l4 l k n s).length≤l.length+1:=by
 unfold l4
 split
 ·omega
 ·simp
theorem vL (l:List E)(e:E):(iK l e).length≤l.length+1:=by
 unfold iK
 split
 ·exact jT ..
 ·split
  ·exact jT ..
  ·omega
theorem vM (l:List E)(e:E):(m4 l e).length≤l.length+1:=by
 unfold m4
 split
 ·split
  ·omega
  ·simp
 ·omega
def kU:List E:=[yv 0 0 ⟨#[]⟩,yv 1 0 ⟨#[]⟩,yv 1 1 ⟨#[]⟩]
def wF (rs fs:List E):List E:=(l0 rs fs).foldl iK kU
def rexL (rs fs:List E):List E:=(l0 rs fs).foldl m4 []
theorem m5 {hd:E→Bool}{kd:E→List E}(hk:∀e x,x∈kd e→x.sz<e.sz):∀(n:Nat) (e:E),e.sz<n→okE hd kd e=true→∀x∈zwQ kd e,hd x=true
 | 0,_,h,_=>absurd h (Nat.not_lt_zero _)
 | n+1,e,h,ho=>by
  rw [jN hk,Bool.and_eq_true,List.all_eq_true] at ho
  intro x hx
  rw [gz hk] at hx
  rcases List.mem_cons.1 hx with rfl|hx
  ·exact ho.2
  ·obtain⟨y,hy,hxy⟩:=List.mem_flatMap.1 hx
   exact m5 hk n y (by have:=hk e y hy;omega) (ho.1 y hy) x hxy
theorem l6 {e:E}(h:fZ e=true):∀x∈eC e,jF x=true:=by
 simp only [fZ,Bool.and_eq_true] at h
 exact m5 fU (e.sz+1) e omq h.2
theorem yw {e:E}(h:lZ e=true):∀x∈oT e,jF x=true:=by
 intro x hx
 obtain⟨y,hy,hxy⟩:=List.mem_flatMap.1 hx
 unfold stX at hy
 unfold lZ at h
 split at h
 ·rw [fd,Bool.and_eq_true,List.all_eq_true] at h
  exact l6 (h.1 y hy) x hxy
 ·cases h
theorem vN {l:List E}(h:fh l=true):∀x∈lc l,jF x=true:=by
 intro x hx
 simp only [fh,Bool.and_eq_true,List.all_eq_true] at h
 rw [pZ] at hx
 obtain⟨y,hy,hxy⟩:=List.mem_flatMap.1 hx
 obtain⟨z,hz,hyz⟩:=List.mem_flatMap.1 hy
 have h1:=h.2 z hz
 simp only [ja,Bool.and_eq_true] at h1
 exact yw (m5 hO (z.sz+1) z omq h1.2 y hyz) x hxy
theorem ze2 {n:Nat}{p:Nat→Bool}(h:qZ n p=true){j:Nat}(hj:j<n):p j=true:=List.all_eq_true.1 h j (List.mem_range.2 hj)
theorem vO {rs fs:List E}(h:eX rs fs=true):∀x∈l0 rs fs,jF x=true:=by
 simp only [eX,Bool.and_eq_true] at h
 obtain⟨-,h1,h2⟩:=h
 intro x hx
 rcases List.mem_append.1 hx with hx|hx
 ·obtain⟨y,hy,hxy⟩:=List.mem_flatMap.1 hx
  obtain⟨j,hj,rfl⟩:=List.getElem_of_mem hy
  have h3:=ze2 h2 hj
  simp only [gy,Bool.and_eq_true,List.getElem?_eq_getElem hj,Option.getD_some] at h3
  have h4:=h3.1
  unfold fnX at hxy
  unfold fnOkF at h4
  split at h4
  ·rename_i he
   rw [he] at hxy
   simp only [Bool.and_eq_true] at h4
   exact vN h4.2.2.1 x hxy
  ·cases h4
 ·obtain⟨y,hy,hxy⟩:=List.mem_flatMap.1 hx
  have h3:=List.all_eq_true.1 h1 y hy
  unfold ruX at hxy
  unfold kT at h3
  split at h3
  ·rename_i k p _ _ _ _ l
   simp only [mV,Bool.and_eq_true] at h3
   rcases List.mem_append.1 hxy with hxy|hxy
   ·split at hxy
    ·rename_i hk
     rw [if_pos hk] at h3
     exact l6 h3.2.2 x hxy
    ·cases hxy
   ·exact vN h3.2.1 x hxy
  ·cases h3
def m6 (l:List E)(e:E):List E:=if eQ e=1 then l4 l 1 (gc (numX e)) ⟨#[]⟩ else if eQ e=2 then l4 l 2 0 (zB e) else l
theorem vP (l:List E)(e:E):(m6 l e).length≤l.length+1:=by
 unfold m6
 split
 ·exact jT ..
 ·split
  ·exact jT ..
  ·omega
theorem vQ {S:Type}{f g:S→E→S}:∀{l:List E} {s:S},(∀s,∀x∈l,f s x=g s x)→l.foldl f s=l.foldl g s
 | [],_,_=>rfl
 | x :: r,s,h=>by rw [List.foldl_cons,List.foldl_cons,h s x List.mem_cons_self,vQ fun s y hy=>h s y (List.mem_cons_of_mem _ hy)]
theorem vR {e:E}(h:jF e=true)(hk:eQ e=1):0≤numX e∧numX e≤2147483647:=by
 unfold jF at h
 split at h
 ·rename_i k _ n s _ _ _ _ l
  have hk:k=1:=hk
  rw [fY,if_pos hk] at h
  simp only [Bool.and_eq_true,inR,decide_eq_true_iff] at h
  exact h.1
 ·cases h
theorem ze4 {rs fs:List E}(h:eX rs fs=true):(l0 rs fs).foldl m6 kU=wF rs fs:=by
 refine vQ fun s x hx=>?_
 unfold m6 iK
 by_cases hk:eQ x=1
 ·have h1:=vR (vO h x hx) hk
  rw [if_pos hk,if_pos hk,show gc (numX x)=numX x by unfold gc;omega]
 ·rw [if_neg hk,if_neg hk]
def jG (wt:E→Nat)(l:List E):Nat:=(l.map wt).sum
theorem iL (wt:E→Nat)(a b:List E):jG wt (a++b)=jG wt a+jG wt b:=by unfold jG;rw [List.map_append,List.sum_append]
theorem gA (wt:E→Nat)(x:E)(l:List E):jG wt (x :: l)=wt x+jG wt l:=by unfold jG;rw [List.map_cons,List.sum_cons]
theorem oE (wt:E→Nat)(f:E→List E):∀l:List E,jG wt (l.flatMap f)=jG (fun y=>jG wt (f y)) l
 | []=>rfl
 | x :: r=>by rw [List.flatMap_cons,iL,oE wt f r,gA]
theorem yx (l:List E):jG (fun _=>1) l=l.length:=by
 induction l with
 | nil=>rfl
 | cons x r ih=>rw [gA,ih,List.length_cons];omega
theorem sC {wt:E→Nat}{f:E→List E}{l:List E}{k:Nat}{x:E}(h:l[k]? = some x):jG wt ((l.take k).flatMap f)+jG wt (f x)≤jG wt (l.flatMap f):=by
 obtain⟨hk,hx⟩:=List.getElem?_eq_some_iff.1 h
 have e:l=l.take k++x :: l.drop (k+1):=by rw [←hx,←List.drop_eq_getElem_cons hk,List.take_append_drop]
 conv=>rhs;rw [e]
 rw [List.flatMap_append,List.flatMap_cons,iL,iL]
 omega
structure Tell {S:Type}(f:FuncId)(caps:List AC)(R:S→List AC)(step:S→E→S)(cost:S→Nat)(wt:E→Nat)(B:Nat)(ok:E→Prop):Prop where
 cap:Cap caps
 cl:∀s,bf (R s)=true
 len:∀s t,(R s).length=(R t).length
 st:∀s e,ok e→cost (step s e)≤cost s+wt e
 ct:∀s e,ok e→cost s+wt e≤B→Ctr prog f (.ag (acE e) :: caps.map .c) [R s] (.tu []) [R (step s e)]
section
variable {hp:Nat→Option Row}{D:List Nat}
theorem vS:∀a b:List AC,cvL hp D (a++b)=cvL hp D a++cvL hp D b
 | [],_=>rfl
 | c :: r,b=>by simp only [List.cons_append,cvL,vS r b]
mutual
theorem zC:∀e:E,cvL hp D (acE e)=acE e
 | .int k n=>by simp only [acE,cvL,cvC]
 | .bool b=>by simp only [acE,cvL,cvC]
 | .str s=>by simp only [acE,cvL,cvC]
 | .agg fs=>by simp only [acE];exact zD fs
 | .lst k T A c l=>by simp only [acE,cvL,cvC,aH,if_true]
theorem zD:∀l:List E,cvL hp D (acL l)=acL l
 | []=>by simp only [acL,cvL]
 | e :: r=>by simp only [acL,vS,zC e,zD r]
end
theorem l7 (e:E):cvV hp D (.ag (acE e))=.ag (acE e):=zZ (zC e)
theorem vT (n k:Nat)(l:List E):cvV hp D (.c (.ro n k (acL l)))=.c (.ro n k (acL l)):=by simp only [cvV,cvC,aH,if_true]
end
section
variable {S:Type}{f:FuncId}{caps:List AC}{R:S→List AC}{step:S→E→S}{cost:S→Nat}{wt:E→Nat}{B:Nat}{ok:E→Prop}
theorem Tell.fold (h:Tell f caps R step cost wt B ok):∀(l:List E) (s:S),(∀x∈l,ok x)→cost (l.foldl step s)≤cost s+jG wt l
 | [],s,_=>Nat.le_add_right _ _
 | x :: r,s,hl=>by
  have h1:=h.fold r (step s x) fun y hy=>hl y (List.mem_cons_of_mem _ hy)
  have h2:=h.st s x (hl x List.mem_cons_self)
  rw [List.foldl_cons,gA]
  omega
theorem Tell.upto (h:Tell f caps R step cost wt B ok){g:E→List E}{l:List E}{s:S}{k:Nat}{x:E}(hok:∀z∈l.flatMap g,ok z)(hx:l[k]? = some x)(hB:cost s+jG wt (l.flatMap g)≤B):cost (upto step g l s k)+jG wt (g x)≤B:=by
 have h1:=h.fold ((l.take k).flatMap g) s fun z hz=>by
  obtain⟨y,hy,hzy⟩:=List.mem_flatMap.1 hz
  exact hok z (List.mem_flatMap.2 ⟨y,List.mem_of_mem_take hy,hzy⟩)
 have h2:=sC (wt:=wt) (f:=g) hx
 unfold Go.Proofs.YtmnneflenebgmaaGreat.upto
 omega
theorem jc (h:Tell f caps R step cost wt B ok):∀(n:Nat) (e:E),e.Ty prog 70→e.sz<n→n≤1048577→(∀x∈eC e,ok x)→∀s,cost s+jG wt (eC e)≤B→Ctr prog 129 [.ag (acE e),.c (.fn f caps)] [R s] (.tu []) [R ((eC e).foldl step s)]
 | 0,_,_,hz,_,_,_,_=>absurd hz (Nat.not_lt_zero _)
 | n+1,e,he,hsz,hn,hok,s,hc=>by
  have hpre:=oB e
  have hm:e∈eC e:=by rw [hpre];exact List.mem_cons_self
  rw [hpre,gA] at hc
  have ct:=h.ct s e (hok _ hm) omq
  have hst:=h.st s e (hok _ hm)
  have hok2:∀x∈iI e,∀z∈eC x,ok z:=fun x hx z hz=>hok z (by rw [hpre];exact List.mem_cons_of_mem _ (List.mem_flatMap.2 ⟨x,hx,hz⟩))
  rw [hpre,List.foldl_cons]
  clear hok hm hpre
  generalize step s e=s1 at *
  obtain⟨k0,n0,s0,xA,xc,l,rfl,-,-,-,⟨hl,hk⟩,-⟩:=aB he
  simp only [E.sz,E.szL] at hsz
  have hB:cost s1+jG wt (l.flatMap eC)≤B:=Nat.le_trans (Nat.add_le_add_right hst _) (by rw [Nat.add_assoc];exact hc)
  replace hok2:∀x∈l,∀z∈eC x,ok z:=hok2
  show Ctr _ _ _ _ _ [R ((l.flatMap eC).foldl step s1)]
  clear hc hst
  rw [←ej]
  have hx0:∀hp,cvV hp [0] (.ag [.v (.int .i64 k0),.v (.int .i64 n0),.v (.string s0),.ro l.length 4 (acL l)])=.ag [.v (.int .i64 k0),.v (.int .i64 n0),.v (.string s0),.ro l.length 4 (acL l)]:=fun hp=>l7 (.agg [.int .i64 k0,.int .i64 n0,.str s0,.lst 4 70 xA xc l])
  refine av func129 rfl rfl ?_
  repeat' (first|(apply ay;refine be 0 ct ?_ (hl:=cW (by rfl) (h.cl _)) (hcv:=qJ h.cap (hx0 _)) (hRD:=mC h.cap rfl) (hmm:=.inr (mC h.cap rfl)))|(apply ay;first|refine ao ?_|refine bd ?_|refine bu ?_|refine aY ?_|refine bL ?_|refine aS ?_)|refine al ?_|refine ab ?_|refine aa fun C=>?_|refine ae ?_|refine ah ?_)
  refine aP (fun k:Nat=>⟨dA [(1,.c (.fn f caps)),(10,.c (.ro l.length 4 (acL l))),(11,.c (.v (.int .i64 l.length))),(12,.c (.v (.int .i64 k)))],dq [(0,0,⟨0,0,0,true,R (upto step eC l s1 k)⟩)],1,[0],20⟩)
   (fun N k=>k+N=l.length) l.length 0 omq ?_ ?_
  ·refine aC _ _ rfl rfl (TmOk.cons (lM h.cap (by rfl) (by rfl)) ?_) (RwOk.cons (aK rfl (h.cl _)) RwOk.nil)
   (repeat' (first|exact TmOk.nil|exact RwOk.nil|refine TmOk.cons ?_ ?_|refine RwOk.cons ?_ ?_|rfl|(refine rnV_id' rfl ?_;exact byc)|(refine bv ?_;first|rfl|omega|(rw [aW omq omq];omega))|(refine aK rfl ?_;exact byc)|exact cb rfl rfl|(refine rw_mid (by rfl) (by rfl) ?_ ?_<;>exact byc)|(refine rw_rn' rfl rfl ?_;simp;done)))
  rintro N k hN
  try dsimp only
  repeat' (first|(apply ay;refine aO ?_)|refine al ?_|refine ab ?_|refine aa fun C=>?_|refine ae ?_)
  refine aj (by rfl) (fun hk1=>?_) fun hk1=>?_
  ·have hk':k<l.length:=by simpa using hk1
   obtain⟨x,hx⟩:∃x,l[k]? = some x:=⟨_,List.getElem?_eq_getElem hk'⟩
   have hxm:=List.mem_of_getElem? hx
   have hxt:=hl x hxm
   have hxz:=E.szL_mem hxm
   have cx:=jc h n x hxt omq omq (hok2 x hxm) (upto step eC l s1 k) (h.upto (fun z hz=>by obtain⟨y,hy,hzy⟩:=List.mem_flatMap.1 hz;exact hok2 y hy z hzy) hx hB)
   rw [←dG hx] at cx
   clear hok2
   obtain⟨y0,y1,y2,yA,yc,yl,rfl,-⟩:=aB hxt
   have hx1:∀hp,cvV hp [0] (.ag [.v (.int .i64 y0),.v (.int .i64 y1),.v (.string y2),.ro yl.length 4 (acL yl)])=.ag [.v (.int .i64 y0),.v (.int .i64 y1),.v (.string y2),.ro yl.length 4 (acL yl)]:=fun hp=>l7 (.agg [.int .i64 y0,.int .i64 y1,.str y2,.lst 4 70 yA yc yl])
   repeat' (first|(apply ay;refine be 0 cx ?_ (hl:=cW (by rfl) (h.cl _)) (hcv:=fP h.cap (hx1 _)) (hRD:=dU h.cap rfl) (hmm:=.inr (dU h.cap rfl)))|(apply ay;first|refine ao ?_|refine bI ?_|refine bu ?_|refine cG ?_|refine dE ?_|refine aD ?_|refine dn ?_)|refine al ?_|refine ab ?_|refine aa fun C=>?_|refine ae ?_|refine ah ?_|refine ai ?_)
   refine⟨N-1,k+1,omq,omq,?_⟩
   refine aC _ _ rfl rfl (TmOk.cons (lM h.cap (by rfl) (by rfl)) ?_) (RwOk.cons (aK rfl (h.cl _)) RwOk.nil)
   (repeat' (first|exact TmOk.nil|exact RwOk.nil|refine TmOk.cons ?_ ?_|refine RwOk.cons ?_ ?_|rfl|(refine rnV_id' rfl ?_;exact byc)|(refine bv ?_;first|rfl|omega|(rw [aW omq omq];omega))|(refine aK rfl ?_;exact byc)|exact cb rfl rfl|(refine rw_mid (by rfl) (by rfl) ?_ ?_<;>exact byc)|(refine rw_rn' rfl rfl ?_;simp;done)))
  ·have hk':¬k<l.length:=by simpa using hk1
   obtain rfl:k=l.length:=by omega
   repeat' (refine au ?_)
   exact eo (x:=.tu []) rfl rfl rfl (h.cl _) (h.len _ _) ⟨rfl,rfl⟩
end
section
variable {S:Type}{f:FuncId}{caps:List AC}{R:S→List AC}{step:S→E→S}{cost:S→Nat}{wt:E→Nat}{B:Nat}{ok:E→Prop}
theorem jd (h:Tell f caps R step cost wt B ok):∀(n:Nat) (l:List E),(∀y∈l,y.Ty prog 106)→(∀y∈l,y.enc.length=6)→l.length+E.szL l<n→n≤1048578→(∀y∈l.flatMap mY,ok y)→∀s,cost s+jG wt (l.flatMap mY)≤B→Ctr prog 80 [.c (.ro l.length 6 (acL l)),.c (.fn f caps)] [R s] (.tu []) [R ((l.flatMap mY).foldl step s)]
 | 0,_,_,_,hz,_,_,_,_=>absurd hz (Nat.not_lt_zero _)
 | n+1,l,hl,hk,hsz,hn,hok,s,hB=>by
  rw [←ej]
  refine av func80 rfl rfl ?_
  repeat' (first|(apply ay;first|refine ao ?_|refine aY ?_)|refine al ?_|refine ab ?_|refine aa fun C=>?_|refine ae ?_|refine ah ?_)
  refine aP (fun k:Nat=>⟨dA [(1,.c (.fn f caps)),(6,.c (.ro l.length 6 (acL l))),(7,.c (.v (.int .i64 l.length))),(8,.c (.v (.int .i64 k)))],dq [(0,0,⟨0,0,0,true,R (upto step mY l s k)⟩)],1,[0],24⟩)
   (fun N k=>k+N=l.length) l.length 0 omq ?_ ?_
  ·refine aC _ _ rfl rfl (TmOk.cons (lM h.cap (by rfl) (by rfl)) ?_) (RwOk.cons (aK rfl (h.cl _)) RwOk.nil)
   (repeat' (first|exact TmOk.nil|exact RwOk.nil|refine TmOk.cons ?_ ?_|refine RwOk.cons ?_ ?_|rfl|(refine rnV_id' rfl ?_;exact byc)|(refine bv ?_;first|rfl|omega|(rw [aW omq omq];omega))|(refine aK rfl ?_;exact byc)|exact cb rfl rfl|(refine rw_mid (by rfl) (by rfl) ?_ ?_<;>exact byc)|(refine rw_rn' rfl rfl ?_;simp;done)))
  rintro N k hN
  try dsimp only
  repeat' (first|(apply ay;refine aO ?_)|refine al ?_|refine ab ?_|refine aa fun C=>?_|refine ae ?_)
  refine aj (by rfl) (fun hk1=>?_) fun hk1=>?_
  ·have hk':k<l.length:=by simpa using hk1
   obtain⟨x,hx⟩:∃x,l[k]? = some x:=⟨_,List.getElem?_eq_getElem hk'⟩
   have hxm:=List.mem_of_getElem? hx
   have hxt:=hl x hxm
   have hxz:=E.szL_mem hxm
   have hup:=h.upto hok hx hB
   have hsu:upto step mY l s (k+1)=(mY x).foldl step (upto step mY l s k):=dG hx
   obtain⟨s2,e2⟩:∃s2,upto step mY l s k=s2:=⟨_,rfl⟩
   rw [e2] at hup hsu
   have hpre:=oC x
   have hokx:∀y∈mY x,ok y:=fun y hy=>hok y (List.mem_flatMap.2 ⟨x,hxm,hy⟩)
   rw [hpre] at hokx hup hsu
   obtain⟨z0,z1,z2,zA,zc,zx,yA,yc,ya,wA,wc,yb,rfl,-,-,-,-,⟨ha,hka⟩,⟨hb,hkb⟩,-⟩:=aQ hxt
   have hkd:nj (.agg [.int .i64 z0,.str z1,.str z2,.lst 4 70 zA zc zx,.lst 6 106 yA yc ya,.lst 6 106 wA wc yb])=ya++yb:=rfl
   rw [hkd,List.flatMap_append] at hokx hup hsu
   simp only [E.sz,E.szL] at hxz
   rw [gA,iL] at hup
   rw [List.foldl_cons,List.foldl_append] at hsu
   have ct:=h.ct s2 _ (hokx _ List.mem_cons_self) omq
   have h3:=h.st s2 (.agg [.int .i64 z0,.str z1,.str z2,.lst 4 70 zA zc zx,.lst 6 106 yA yc ya,.lst 6 106 wA wc yb]) (hokx _ List.mem_cons_self)
   obtain⟨s3,e3⟩:∃s3,step s2 (.agg [.int .i64 z0,.str z1,.str z2,.lst 4 70 zA zc zx,.lst 6 106 yA yc ya,.lst 6 106 wA wc yb])=s3:=⟨_,rfl⟩
   rw [e3] at hsu ct h3
   have h4:=h.fold (ya.flatMap mY) s3 fun y hy=>hokx y (List.mem_cons_of_mem _ (List.mem_append_left _ hy))
   have cA:=jd h n ya ha hka omq omq (fun y hy=>hokx y (List.mem_cons_of_mem _ (List.mem_append_left _ hy))) s3 omq
   obtain⟨s4,e4⟩:∃s4,(ya.flatMap mY).foldl step s3=s4:=⟨_,rfl⟩
   rw [e4] at hsu cA h4
   have cB:=jd h n yb hb hkb omq omq (fun y hy=>hokx y (List.mem_cons_of_mem _ (List.mem_append_right _ hy))) s4 omq
   rw [←hsu] at cB
   have hx1:∀hp,cvV hp [0] (.ag [.v (.int .i64 z0),.v (.string z1),.v (.string z2),.ro zx.length 4 (acL zx),.ro ya.length 6 (acL ya),.ro yb.length 6 (acL yb)])=.ag [.v (.int .i64 z0),.v (.string z1),.v (.string z2),.ro zx.length 4 (acL zx),.ro ya.length 6 (acL ya),.ro yb.length 6 (acL yb)]:=fun hp=>l7 (.agg [.int .i64 z0,.str z1,.str z2,.lst 4 70 zA zc zx,.lst 6 106 yA yc ya,.lst 6 106 wA wc yb])
   rw [e2]
   clear hokx hpre hkd hok hup h3 h4 hsu e3 e4
   repeat' (first|(apply ay;refine be 0 ct ?_ (hl:=cW (by rfl) (h.cl _)) (hcv:=qJ h.cap (hx1 _)) (hRD:=mC h.cap rfl) (hmm:=.inr (mC h.cap rfl)))|(apply ay;refine be 0 cA ?_ (hl:=cW (by rfl) (h.cl _)) (hcv:=fP h.cap (vT _ _ _)) (hRD:=dU h.cap rfl) (hmm:=.inr (dU h.cap rfl)))|(apply ay;refine be 0 cB ?_ (hl:=cW (by rfl) (h.cl _)) (hcv:=fP h.cap (vT _ _ _)) (hRD:=dU h.cap rfl) (hmm:=.inr (dU h.cap rfl)))|(apply ay;first|refine ao ?_|refine bd ?_|refine bI ?_|refine bu ?_|refine cG ?_|refine dE ?_|refine aD ?_|refine dn ?_|refine aS ?_)|refine al ?_|refine ab ?_|refine aa fun C=>?_|refine ae ?_|refine ah ?_|refine ai ?_)
   refine⟨N-1,k+1,omq,omq,?_⟩
   refine aC _ _ rfl rfl (TmOk.cons (lM h.cap (by rfl) (by rfl)) ?_) (RwOk.cons (aK rfl (h.cl _)) RwOk.nil)
   (repeat' (first|exact TmOk.nil|exact RwOk.nil|refine TmOk.cons ?_ ?_|refine RwOk.cons ?_ ?_|rfl|(refine rnV_id' rfl ?_;exact byc)|(refine bv ?_;first|rfl|omega|(rw [aW omq omq];omega))|(refine aK rfl ?_;exact byc)|exact cb rfl rfl|(refine rw_mid (by rfl) (by rfl) ?_ ?_<;>exact byc)|(refine rw_rn' rfl rfl ?_;simp;done)))
  ·have hk':¬k<l.length:=by simpa using hk1
   obtain rfl:k=l.length:=by omega
   repeat' (refine au ?_)
   exact eo (x:=.tu []) rfl rfl rfl (h.cl _) (h.len _ _) ⟨rfl,rfl⟩
def p6 (step:S→E→S)(s:S)(y:E):S:=(oT y).foldl step s
theorem vU (step:S→E→S):∀(l:List E) (s:S),l.foldl (p6 step) s=(l.flatMap oT).foldl step s
 | [],_=>rfl
 | x :: r,s=>by rw [List.foldl_cons,vU step r,List.flatMap_cons,List.foldl_append];rfl
theorem yy (h:Tell f caps R step cost wt B ok){y:E}(hy:y.Ty prog 106)(hsz:y.sz≤1048576)(hok:∀x∈oT y,ok x)(s:S)(hB:cost s+jG wt (oT y)≤B):Ctr prog 130 [.ag (acE y),.c (.rp [.fn f caps] 0)] [R s] (.tu []) [R (p6 step s y)]:=by
 obtain⟨z0,z1,z2,zA,zc,l,yA,yc,ya,wA,wc,yb,rfl,-,-,-,⟨hl,hk⟩,-⟩:=aQ hy
 simp only [E.sz,E.szL] at hsz
 replace hB:cost s+jG wt (l.flatMap eC)≤B:=hB
 replace hok:∀x∈l.flatMap eC,ok x:=hok
 show Ctr _ _ _ _ _ [R ((l.flatMap eC).foldl step s)]
 rw [←ej]
 refine av func130 rfl rfl ?_
 repeat' (first|(apply ay;first|refine ao ?_|refine bd ?_|refine aL ?_|refine aY ?_|refine bL ?_)|refine al ?_|refine ab ?_|refine aa fun C=>?_|refine ae ?_|refine ah ?_)
 refine aP (fun k:Nat=>⟨dA [(1,.c (.rp [.fn f caps] 0)),(6,.c (.ro l.length 4 (acL l))),(7,.c (.v (.int .i64 l.length))),(8,.c (.v (.int .i64 k)))],dq [(0,0,⟨0,0,0,true,R (upto step eC l s k)⟩)],1,[0],16⟩)
  (fun N k=>k+N=l.length) l.length 0 omq ?_ ?_
 ·refine aC _ _ rfl rfl (TmOk.cons (mB h.cap (by rfl) (by rfl)) ?_) (RwOk.cons (aK rfl (h.cl _)) RwOk.nil)
  (repeat' (first|exact TmOk.nil|exact RwOk.nil|refine TmOk.cons ?_ ?_|refine RwOk.cons ?_ ?_|rfl|(refine rnV_id' rfl ?_;exact byc)|(refine bv ?_;first|rfl|omega|(rw [aW omq omq];omega))|(refine aK rfl ?_;exact byc)|exact cb rfl rfl|(refine rw_mid (by rfl) (by rfl) ?_ ?_<;>exact byc)|(refine rw_rn' rfl rfl ?_;simp;done)))
 rintro N k hN
 try dsimp only
 repeat' (first|(apply ay;refine aO ?_)|refine al ?_|refine ab ?_|refine aa fun C=>?_|refine ae ?_)
 refine aj (by rfl) (fun hk1=>?_) fun hk1=>?_
 ·have hk':k<l.length:=by simpa using hk1
  obtain⟨x,hx⟩:∃x,l[k]? = some x:=⟨_,List.getElem?_eq_getElem hk'⟩
  have hxm:=List.mem_of_getElem? hx
  have hxt:=hl x hxm
  have hxz:=E.szL_mem hxm
  have cx:=jc h (x.sz+1) x hxt omq omq (fun z hz=>hok z (List.mem_flatMap.2 ⟨x,hxm,hz⟩)) (upto step eC l s k) (h.upto hok hx hB)
  rw [←dG hx] at cx
  obtain⟨y0,y1,y2,yA,yc,yl,rfl,-⟩:=aB hxt
  have hx1:∀hp,cvV hp [0] (.ag [.v (.int .i64 y0),.v (.int .i64 y1),.v (.string y2),.ro yl.length 4 (acL yl)])=.ag [.v (.int .i64 y0),.v (.int .i64 y1),.v (.string y2),.ro yl.length 4 (acL yl)]:=fun hp=>l7 (.agg [.int .i64 y0,.int .i64 y1,.str y2,.lst 4 70 yA yc yl])
  repeat' (first|(apply ay;refine be 0 cx ?_ (hl:=cW (by rfl) (h.cl _)) (hcv:=fP h.cap (hx1 _)) (hRD:=dU h.cap rfl) (hmm:=.inr (dU h.cap rfl)))|(apply ay;first|refine ao ?_|refine bI ?_|refine bu ?_|refine cG ?_|refine dE ?_|refine aD ?_|refine dn ?_|refine aS ?_)|refine al ?_|refine ab ?_|refine aa fun C=>?_|refine ae ?_|refine ah ?_|refine ai ?_)
  refine⟨N-1,k+1,omq,omq,?_⟩
  refine aC _ _ rfl rfl (TmOk.cons (mB h.cap (by rfl) (by rfl)) ?_) (RwOk.cons (aK rfl (h.cl _)) RwOk.nil)
  (repeat' (first|exact TmOk.nil|exact RwOk.nil|refine TmOk.cons ?_ ?_|refine RwOk.cons ?_ ?_|rfl|(refine rnV_id' rfl ?_;exact byc)|(refine bv ?_;first|rfl|omega|(rw [aW omq omq];omega))|(refine aK rfl ?_;exact byc)|exact cb rfl rfl|(refine rw_mid (by rfl) (by rfl) ?_ ?_<;>exact byc)|(refine rw_rn' rfl rfl ?_;simp;done)))
 ·have hk':¬k<l.length:=by simpa using hk1
  obtain rfl:k=l.length:=by omega
  repeat' (refine au ?_)
  exact eo (x:=.tu []) rfl rfl rfl (h.cl _) (h.len _ _) ⟨rfl,rfl⟩
theorem Tell.own (h:Tell f caps R step cost wt B ok):Tell 130 [.rp [.fn f caps] 0] R (p6 step) cost (fun y=>jG wt (oT y)) B (fun y=>y.Ty prog 106∧y.sz≤1048576∧∀x∈oT y,ok x) :=
 ⟨nP h.cap,h.cl,h.len,fun s e ho=>h.fold (oT e) s ho.2.2,fun s e ho hB=>yy h ho.1 ho.2.1 ho.2.2 s hB⟩
end
abbrev Nm:=List UInt8
def nmB (b:ByteArray):Nm:=b.data.toList
def strY (y:E):ByteArray:=match y with | .agg (_ :: .str s :: _)=>s|_=>ByteArray.empty
def strZ (y:E):ByteArray:=match y with | .agg (_ :: _ :: .str s :: _)=>s|_=>ByteArray.empty
def vV (ps:List E)(s:ByteArray):List Nm:=if jE ps s=true then [] else [nmB s]
def varT (ps:List E)(e:E):List Nm:=if eQ e=3 then vV ps (zB e) else []
def tabT (e:E):List Nm:=if eQ e=4∨eQ e=9 then [nmB (zB e)] else []
def varS (ps:List E)(y:E):List Nm:=if eQ y=2∨eQ y=7 then vV ps (strY y) else []
def tabS (y:E):List Nm:=if eQ y=3∨eQ y=11 then [nmB (strY y)] else if eQ y=7 then [nmB (strZ y)] else []
structure Prt where
 ps:List E
 wh:List E
 l:List E
 k:Int
def lstO (e:E):List E:=match e with | .lst _ _ _ _ l=>l|_=>[]
def fnP (e:E):Prt:=match e with | .agg [_,p,.lst _ _ _ _ l]=>⟨lstO p,[],l,0⟩|_=>⟨[],[],[],0⟩
def ruP (e:E):Prt:=match e with | .agg [.int _ k,p,.lst _ _ _ _ l]=>⟨[],if k=4 then [p] else [],l,k⟩|_=>⟨[],[],[],0⟩
def jx (rs fs:List E):List Prt:=fs.map fnP++rs.map ruP
def Prt.T (x:Prt):List E:=x.wh.flatMap eC++lc x.l
def Prt.S (x:Prt):List E:=x.l.flatMap mY
theorem fnP_T (e:E):(fnP e).T=fnX e:=by
 unfold fnP fnX Prt.T
 split
 ·rfl
 ·rename_i hno
  first
   |rfl
   |(split
     ·exact (hno _ _ _ _ _ _ _ rfl).elim
     ·rfl)
theorem ruP_T (e:E):(ruP e).T=ruX e:=by
 unfold ruP ruX Prt.T
 split
 ·dsimp only
  split
  ·simp
  ·rfl
 ·rename_i hno
  first
   |rfl
   |(split
     ·exact (hno _ _ _ _ _ _ _ _ rfl).elim
     ·rfl)
theorem l8 (rs fs:List E):l0 rs fs=(jx rs fs).flatMap Prt.T:=by
 unfold l0 jx
 rw [List.flatMap_append,List.flatMap_map,List.flatMap_map,fD fun x _=>(fnP_T x).symm,fD (l:=rs) fun x _=>(ruP_T x).symm]
def Prt.vars (x:Prt):List Nm:=x.T.flatMap (varT x.ps)++x.S.flatMap (varS x.ps)
def Prt.tabs (x:Prt):List Nm:=x.T.flatMap tabT++x.S.flatMap tabS
structure Us where
 vars:List Nm
 tabs:List Nm
 calls:List E
 ps:List E
 fn:Bool
 line:Bool
 bad:Bool
def Prt.fn (x:Prt):Bool:=decide (x.k=0)
def Prt.line (x:Prt):Bool:=decide (x.k=3)||decide (x.k=4)
theorem fnP_0 (e:E):(fnP e).k=0∧(fnP e).wh=[]:=by
 unfold fnP
 split<;>exact⟨rfl,rfl⟩
theorem ruP_0 (e:E):(ruP e).ps=[]:=by
 unfold ruP
 split<;>rfl
structure ExtM (M:Nat→Prop)(w w':World)(St:Nat→Prop)(φ:Nat→Lc)(F:Nat→List Nat)(pars:List (List AC))(res:AV)(u:Value)(rows:List (List AC))(St':Nat→Prop)(F':Nat→List Nat)(G:List Nat):Prop where
 frm:Fc M (o5 φ pars) w w'
 res:VRF w' St' φ0 K0 res u G
 nodG:G.Nodup
 len:rows.length=pars.length
 row:∀i cs,rows[i]? = some cs→∃b lo vs,φ i=.box b lo∧CRL w' St' φ0 K0 cs vs (F' i)∧BoxAt w' b lo vs∧∃cs0,pars[i]? = some cs0∧cs.length=cs0.length
 nod:∀i,i<pars.length→(F' i).Nodup
 disG:∀i,i<pars.length→∀b∈F' i,b∉G
 dis:∀i j,i<pars.length→j<pars.length→i≠j→∀b∈F' i,b∉F' j
 bxF:∀i b lo,i<pars.length→φ i=.box b lo→b∉G∧∀j,j<pars.length→b∉F' j
 own:∀b,(b∈G∨∃i,i<pars.length∧b∈F' i)→(M b∨w.heap.size≤b)
 sta:∀b,St' b→(b<w.heap.size→St b∨M b)∧b∉G∧∀i,i<pars.length→b∉F' i∧∀lo,φ i≠.box b lo
structure EntU (w:World)(St:Nat→Prop)(φ:Nat→Lc)(F:Nat→List Nat)(ins:List AV)(us:List Value)(pars:List (List AC))(p:Nat)(T:TypeId)(k n:Nat)(cs:List AC)(A:List Nat):Prop where
 ent:Ent w St φ F ins us pars
 row:∃u vs fs,us[p]? = some u∧CRL w St φ0 K0 cs vs fs∧w.ownsRow 0 T k u n vs∧A=obl u++fs
 nod:A.Nodup
 st:∀b∈A,¬St b
 ap:∀b∈A,∀i,i<pars.length→b∉F i∧∀lo,φ i≠.box b lo
 gl:∀b,isG b→b∉A
section
variable {P:Program}{C:Ctx}{φ:Nat→Lc}{F:Nat→List Nat}{St:Nat→Prop}{σ:AS}{a:Act}{w w':World}{D:List Nat}{pars:List (List AC)}
end
section
variable {P:Program}{ops:Array Oper}{Q:Exit→Act→World→Prop}{C:Ctx}{σ:AS}{o:Oper}{i:Nat}
end
section
variable {ops:Array Oper}{Q:Exit→Act→World→Prop}{C:Ctx}{i:Nat}{r:List Nat}
variable {tm:Nat→AV}{hp:Nat→Option Row}{gn L:Nat}{us:List Nat}
class BitB (b:BinOp):Prop where
 h:b=.and∨b=.or∨b=.xor
instance:BitB .and:=⟨.inl rfl⟩
instance:BitB .or:=⟨.inr (.inl rfl)⟩
instance:BitB .xor:=⟨.inr (.inr rfl)⟩
end
theorem r3 {a b a' b':Int}{c:Bool}(h1:a=a')(h2:b=b'):Ending.returned (.tuple #[.int .i64 a,.int .i64 b,.bool c])=.returned (.tuple #[.int .i64 a',.int .i64 b',.bool c]):=by rw [h1,h2]
structure GIns where
 o:Nat
 n:Nat
 p:Nat
 ok:Bool
end Go.Proofs.YtmnneflenebgmaaGreat
-- BIT
namespace Go.Proofs.YtmnneflenebgmaaGreat
open Go.RowKit Go.Proofs.Tryz
end Go.Proofs.YtmnneflenebgmaaGreat
