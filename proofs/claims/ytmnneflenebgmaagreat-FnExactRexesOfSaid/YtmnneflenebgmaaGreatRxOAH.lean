/- T -/
import Derived.Lib.SlicesCompact
import Derived.Lib.RowBridge
import Derived.Test.YtmnneflenebgmaaGreatRxOAG
set_option maxHeartbeats 0
set_option maxRecDepth 100000
namespace Go.Proofs.YtmnneflenebgmaaGreat
open Go.RowKit Go.Proofs.Tryz
def preF (kd:E→List E):Nat→E→List E
 | 0,_=>[]
 | n+1,e=>e :: (kd e).flatMap (preF kd n)
def znQ (kd:E→List E)(e:E):List E:=preF kd (e.sz+1) e
theorem fu {f g:E→List E}:∀{l:List E},(∀x∈l,f x=g x)→l.flatMap f=l.flatMap g
 | [],_=>rfl
 | x :: r,h=>by rw [List.flatMap_cons,List.flatMap_cons,h x List.mem_cons_self,fu fun y hy=>h y (List.mem_cons_of_mem _ hy)]
theorem ou {kd:E→List E}(hk:∀e x,x∈kd e→x.sz<e.sz):∀(n m:Nat) (e:E),e.sz<n→e.sz<m→preF kd n e=preF kd m e
 | 0,_,_,h,_=>absurd h (Nat.not_lt_zero _)
 | n+1,0,_,_,h=>absurd h (Nat.not_lt_zero _)
 | n+1,m+1,e,h1,h2=>by
  show e :: (kd e).flatMap (preF kd n)=e :: (kd e).flatMap (preF kd m)
  rw [fu fun x hx=>ou hk n m x (by have:=hk e x hx;omega) (by have:=hk e x hx;omega)]
theorem gx {kd:E→List E}(hk:∀e x,x∈kd e→x.sz<e.sz)(e:E):znQ kd e=e :: (kd e).flatMap (znQ kd):=by
 show e :: (kd e).flatMap (preF kd e.sz)=_
 rw [fu fun x hx=>ou hk e.sz (x.sz+1) x (hk e x hx) omq]
 rfl
theorem eQ {f:E→List E}{b:E→Nat}:∀{l:List E},(∀x∈l,(f x).length≤b x)→(l.flatMap f).length≤(l.map b).sum
 | [],_=>Nat.le_refl _
 | x :: r,h=>by
  rw [List.flatMap_cons,List.length_append,List.map_cons,List.sum_cons]
  exact Nat.add_le_add (h x List.mem_cons_self) (eQ fun y hy=>h y (List.mem_cons_of_mem _ hy))
theorem mP:∀l:List E,(l.map fun x=>x.sz+1).sum=l.length+E.szL l
 | []=>rfl
 | x :: r=>by rw [List.map_cons,List.sum_cons,mP r,E.szL,List.length_cons];omega
theorem mQ:∀l:List E,(l.map fun x=>x.sz).sum=E.szL l
 | []=>rfl
 | x :: r=>by rw [List.map_cons,List.sum_cons,mQ r,E.szL]
theorem qU {kd:E→List E}(hk:∀e x,x∈kd e→x.sz<e.sz)(hz:∀e,(kd e).length+E.szL (kd e)≤e.sz):∀(n:Nat) (e:E),e.sz<n→(znQ kd e).length≤e.sz+1
 | 0,_,h=>absurd h (Nat.not_lt_zero _)
 | n+1,e,h=>by
  rw [gx hk,List.length_cons]
  have:=eQ (f:=znQ kd) (b:=fun x=>x.sz+1) (l:=kd e) fun x hx=>qU hk hz n x (by have:=hk e x hx;omega)
  rw [mP] at this
  have:=hz e
  omega
theorem zw1 (e:E):(iI e).length+E.szL (iI e)≤e.sz:=by
 unfold iI
 split
 ·simp only [E.sz,E.szL];omega
 ·exact Nat.zero_le _
theorem zoQ (e:E):(m9 e).length+E.szL (m9 e)≤e.sz:=by
 unfold m9
 split
 ·simp only [E.sz,E.szL,E.szL_app,List.length_append];omega
 ·exact Nat.zero_le _
def ew (e:E):List E:=znQ iI e
def mR (e:E):List E:=znQ m9 e
theorem ov (e:E):ew e=e :: (iI e).flatMap ew:=gx fR e
theorem ox (e:E):mR e=e :: (m9 e).flatMap mR:=gx g8 e
theorem qV (e:E):(ew e).length≤e.sz+1:=qU fR zw1 (e.sz+1) e omq
def stX (y:E):List E:=match y with | .agg [_,_,_,.lst _ _ _ _ xs,_,_]=>xs|_=>[]
theorem stX_z (e:E):(stX e).length+E.szL (stX e)+E.szL (m9 e)≤e.sz:=by
 unfold stX
 split
 ·rename_i a b c _ _ _ _ xs d f
  have h2:=zoQ (.agg [a,b,c,.lst ‹_› ‹_› ‹_› ‹_› xs,d,f])
  unfold m9
  split
  ·rename_i h
   cases h
   simp only [E.sz,E.szL,E.szL_app];omega
  ·simp only [E.sz,E.szL];omega
 ·have:=zoQ e
  simp only [List.length_nil,E.szL];omega
def oM (y:E):List E:=(stX y).flatMap ew
def oN (y:E):List E:=(mR y).flatMap oM
theorem oy (y:E):oN y=oM y++(m9 y).flatMap oN:=by
 unfold oN
 rw [ox,List.flatMap_cons,List.flatMap_assoc]
theorem yk (y:E):(oM y).length≤(stX y).length+E.szL (stX y):=by
 have:=eQ (f:=ew) (b:=fun x=>x.sz+1) (l:=stX y) fun x _=>qV x
 rwa [mP] at this
theorem qW:∀(n:Nat) (e:E),e.sz<n→(oN e).length≤e.sz
 | 0,_,h=>absurd h (Nat.not_lt_zero _)
 | n+1,e,h=>by
  rw [oy,List.length_append]
  have h1:=eQ (f:=oN) (b:=fun x=>x.sz) (l:=m9 e) fun x hx=>qW n x (by have:=g8 e x hx;omega)
  rw [mQ] at h1
  have h2:=yk e
  have h3:=stX_z e
  omega
def kU (l:List E):List E:=l.flatMap oN
theorem pS (l:List E):kU l=(l.flatMap mR).flatMap oM:=by
 unfold kU
 rw [List.flatMap_assoc]
 rfl
theorem qX (l:List E):(kU l).length≤E.szL l:=by
 have:=eQ (f:=oN) (b:=fun x=>x.sz) (l:=l) fun x _=>qW (x.sz+1) x omq
 rwa [mQ] at this
def fnX (e:E):List E:=match e with | .agg [_,_,.lst _ _ _ _ l]=>kU l|_=>[]
def ruX (e:E):List E:=match e with | .agg [.int _ k,p,.lst _ _ _ _ l]=>(if k=4 then ew p else [])++kU l|_=>[]
theorem zx1 (e:E):(fnX e).length≤e.sz:=by
 unfold fnX
 split
 ·have:=qX ‹List E›
  simp only [E.sz,E.szL];omega
 ·exact Nat.zero_le _
theorem zy1 (e:E):(ruX e).length≤e.sz+1:=by
 unfold ruX
 split
 ·rename_i p _ _ _ _ l
  have:=qX l
  have:=qV p
  simp only [E.sz,E.szL,List.length_append]
  split
  ·omega
  ·simp only [List.length_nil];omega
 ·exact Nat.zero_le _
def lT (rs fs:List E):List E:=fs.flatMap fnX++rs.flatMap ruX
theorem mS (rs fs:List E):(lT rs fs).length≤E.szL fs+(rs.length+E.szL rs):=by
 have h1:=eQ (f:=fnX) (b:=fun x=>x.sz) (l:=fs) fun x _=>zx1 x
 have h2:=eQ (f:=ruX) (b:=fun x=>x.sz+1) (l:=rs) fun x _=>zy1 x
 rw [mQ] at h1
 rw [mP] at h2
 unfold lT
 rw [List.length_append]
 omega
def upto {S:Type}(step:S→E→S)(f:E→List E)(l:List E)(s:S)(k:Nat):S:=((l.take k).flatMap f).foldl step s
section
variable {S:Type}{step:S→E→S}{f:E→List E}{l:List E}{s:S}
theorem dF {k:Nat}{x:E}(h:l[k]? = some x):upto step f l s (k+1)=(f x).foldl step (upto step f l s k):=by
 obtain⟨hk,hx⟩:=List.getElem?_eq_some_iff.1 h
 unfold upto
 rw [List.take_succ_eq_append_getElem hk,List.flatMap_append,List.foldl_append,hx]
 simp
theorem eh:upto step f l s l.length=(l.flatMap f).foldl step s:=by
 unfold upto
 rw [List.take_length]
theorem mT (k:Nat):((l.take k).flatMap f).length≤(l.flatMap f).length:=by
 have h:l.flatMap f=(l.take k).flatMap f++(l.drop k).flatMap f:=by rw [←List.flatMap_append,List.take_append_drop]
 rw [h,List.length_append]
 omega
theorem sk {k:Nat}{x:E}(h:l[k]? = some x):((l.take k).flatMap f).length+(f x).length≤(l.flatMap f).length:=by
 obtain⟨hk,hx⟩:=List.getElem?_eq_some_iff.1 h
 have h1:=mT (l:=l) (f:=f) (k+1)
 rw [List.take_succ_eq_append_getElem hk,List.flatMap_append,List.length_append,hx] at h1
 simpa using h1
end
def zqQ (e:E):ByteArray:=match e with | .agg [_,_,.str s,_]=>s|_=>ByteArray.empty
def numX (e:E):Int:=match e with | .agg [_,.int _ n,_,_]=>n|_=>0
def valE (k n:Int)(s:ByteArray):E:=.agg [.int .i64 k,.int .i64 n,.str s]
def isV (k n:Int)(s:ByteArray)(e:E):Bool:=match e with | .agg [.int _ k',.int _ n',.str s']=>(k'==k)&&((n'==n)&&(s'.toList==s.toList))|_=>false
def sJ (l:List E)(k n:Int)(s:ByteArray):List E:=if l.any (isV k n s)=true then l else l++[valE k n s]
def stepC (l:List E)(e:E):List E:=if eP e=1 then sJ l 1 (numX e) ⟨#[]⟩ else if eP e=2 then sJ l 2 0 (zqQ e) else l
def gQ (l:List E)(e:E):List E:=if eP e=10∨eP e=18 then (if iO l (zqQ e)=true then l else l++[.str (zqQ e)]) else l
theorem qY (l:List E)(k n:Int)(s:ByteArray):(sJ l k n s).length≤l.length+1:=by
 unfold sJ
 split
 ·omega
 ·simp
theorem vE (l:List E)(e:E):(gQ l e).length≤l.length+1:=by
 unfold gQ
 split
 ·split
  ·omega
  ·simp
 ·omega
def lU:List E:=[valE 0 0 ⟨#[]⟩,valE 1 0 ⟨#[]⟩,valE 1 1 ⟨#[]⟩]
def conL (rs fs:List E):List E:=(lT rs fs).foldl stepC lU
def ym (rs fs:List E):List E:=(lT rs fs).foldl gQ []
theorem mU {hd:E→Bool}{kd:E→List E}(hk:∀e x,x∈kd e→x.sz<e.sz):∀(n:Nat) (e:E),e.sz<n→okE hd kd e=true→∀x∈znQ kd e,hd x=true
 | 0,_,h,_=>absurd h (Nat.not_lt_zero _)
 | n+1,e,h,ho=>by
  rw [jN hk,Bool.and_eq_true,List.all_eq_true] at ho
  intro x hx
  rw [gx hk] at hx
  rcases List.mem_cons.1 hx with rfl|hx
  ·exact ho.2
  ·obtain⟨y,hy,hxy⟩:=List.mem_flatMap.1 hx
   exact mU hk n y (by have:=hk e y hy;omega) (ho.1 y hy) x hxy
theorem lV {e:E}(h:fX e=true):∀x∈ew e,jF x=true:=by
 simp only [fX,Bool.and_eq_true] at h
 exact mU fR (e.sz+1) e omq h.2
theorem yn {e:E}(h:lS e=true):∀x∈oM e,jF x=true:=by
 intro x hx
 obtain⟨y,hy,hxy⟩:=List.mem_flatMap.1 hx
 unfold stX at hy
 unfold lS at h
 split at h
 ·rw [fa,Bool.and_eq_true,List.all_eq_true] at h
  exact lV (h.1 y hy) x hxy
 ·cases h
theorem vF {l:List E}(h:fe l=true):∀x∈kU l,jF x=true:=by
 intro x hx
 simp only [fe,Bool.and_eq_true,List.all_eq_true] at h
 rw [pS] at hx
 obtain⟨y,hy,hxy⟩:=List.mem_flatMap.1 hx
 obtain⟨z,hz,hyz⟩:=List.mem_flatMap.1 hy
 have h1:=h.2 z hz
 simp only [jd,Bool.and_eq_true] at h1
 exact yn (mU g8 (z.sz+1) z omq h1.2 y hyz) x hxy
theorem zz1 {n:Nat}{p:Nat→Bool}(h:qS n p=true){j:Nat}(hj:j<n):p j=true:=List.all_eq_true.1 h j (List.mem_range.2 hj)
theorem vG {rs fs:List E}(h:eW rs fs=true):∀x∈lT rs fs,jF x=true:=by
 simp only [eW,Bool.and_eq_true] at h
 obtain⟨-,h1,h2⟩:=h
 intro x hx
 rcases List.mem_append.1 hx with hx|hx
 ·obtain⟨y,hy,hxy⟩:=List.mem_flatMap.1 hx
  obtain⟨j,hj,rfl⟩:=List.getElem_of_mem hy
  have h3:=zz1 h2 hj
  simp only [gv,Bool.and_eq_true,List.getElem?_eq_getElem hj,Option.getD_some] at h3
  have h4:=h3.1
  unfold fnX at hxy
  unfold fnOkF at h4
  split at h4
  ·rename_i he
   rw [he] at hxy
   simp only [Bool.and_eq_true] at h4
   exact vF h4.2.2.1 x hxy
  ·cases h4
 ·obtain⟨y,hy,hxy⟩:=List.mem_flatMap.1 hx
  have h3:=List.all_eq_true.1 h1 y hy
  unfold ruX at hxy
  unfold kP at h3
  split at h3
  ·rename_i k p _ _ _ _ l
   simp only [mO,Bool.and_eq_true] at h3
   rcases List.mem_append.1 hxy with hxy|hxy
   ·split at hxy
    ·rename_i hk
     rw [if_pos hk] at h3
     exact lV h3.2.2 x hxy
    ·cases hxy
   ·exact vF h3.2.1 x hxy
  ·cases h3
def mV (l:List E)(e:E):List E:=if eP e=1 then sJ l 1 (fY (numX e)) ⟨#[]⟩ else if eP e=2 then sJ l 2 0 (zqQ e) else l
theorem vH (l:List E)(e:E):(mV l e).length≤l.length+1:=by
 unfold mV
 split
 ·exact qY ..
 ·split
  ·exact qY ..
  ·omega
theorem vI {S:Type}{f g:S→E→S}:∀{l:List E} {s:S},(∀s,∀x∈l,f s x=g s x)→l.foldl f s=l.foldl g s
 | [],_,_=>rfl
 | x :: r,s,h=>by rw [List.foldl_cons,List.foldl_cons,h s x List.mem_cons_self,vI fun s y hy=>h s y (List.mem_cons_of_mem _ hy)]
theorem vJ {e:E}(h:jF e=true)(hk:eP e=1):0≤numX e∧numX e≤2147483647:=by
 unfold jF at h
 split at h
 ·rename_i k _ n s _ _ _ _ l
  have hk:k=1:=hk
  rw [fW,if_pos hk] at h
  simp only [Bool.and_eq_true,inR,decide_eq_true_iff] at h
  exact h.1
 ·cases h
theorem zb4 {rs fs:List E}(h:eW rs fs=true):(lT rs fs).foldl mV lU=conL rs fs:=by
 refine vI fun s x hx=>?_
 unfold mV stepC
 by_cases hk:eP x=1
 ·have h1:=vJ (vG h x hx) hk
  rw [if_pos hk,if_pos hk,show fY (numX x)=numX x by unfold fY;omega]
 ·rw [if_neg hk,if_neg hk]
def jG (wt:E→Nat)(l:List E):Nat:=(l.map wt).sum
theorem iK (wt:E→Nat)(a b:List E):jG wt (a++b)=jG wt a+jG wt b:=by unfold jG;rw [List.map_append,List.sum_append]
theorem gy (wt:E→Nat)(x:E)(l:List E):jG wt (x :: l)=wt x+jG wt l:=by unfold jG;rw [List.map_cons,List.sum_cons]
theorem oz (wt:E→Nat)(f:E→List E):∀l:List E,jG wt (l.flatMap f)=jG (fun y=>jG wt (f y)) l
 | []=>rfl
 | x :: r=>by rw [List.flatMap_cons,iK,oz wt f r,gy]
theorem yp (l:List E):jG (fun _=>1) l=l.length:=by
 induction l with
 | nil=>rfl
 | cons x r ih=>rw [gy,ih,List.length_cons];omega
theorem sm {wt:E→Nat}{f:E→List E}{l:List E}{k:Nat}{x:E}(h:l[k]? = some x):jG wt ((l.take k).flatMap f)+jG wt (f x)≤jG wt (l.flatMap f):=by
 obtain⟨hk,hx⟩:=List.getElem?_eq_some_iff.1 h
 have e:l=l.take k++x :: l.drop (k+1):=by rw [←hx,←List.drop_eq_getElem_cons hk,List.take_append_drop]
 conv=>rhs;rw [e]
 rw [List.flatMap_append,List.flatMap_cons,iK,iK]
 omega
structure Tell {S:Type}(f:FuncId)(caps:List AC)(R:S→List AC)(step:S→E→S)(cost:S→Nat)(wt:E→Nat)(B:Nat)(ok:E→Prop):Prop where
 cap:Cap caps
 cl:∀s,ba (R s)=true
 len:∀s t,(R s).length=(R t).length
 st:∀s e,ok e→cost (step s e)≤cost s+wt e
 ct:∀s e,ok e→cost s+wt e≤B→Ctr prog f (.ag (acE e) :: caps.map .c) [R s] (.tu []) [R (step s e)]
section
variable {hp:Nat→Option Row}{D:List Nat}
theorem vK:∀a b:List AC,cvL hp D (a++b)=cvL hp D a++cvL hp D b
 | [],_=>rfl
 | c :: r,b=>by simp only [List.cons_append,cvL,vK r b]
mutual
theorem zrQ:∀e:E,cvL hp D (acE e)=acE e
 | .int k n=>by simp only [acE,cvL,cvC]
 | .bool b=>by simp only [acE,cvL,cvC]
 | .str s=>by simp only [acE,cvL,cvC]
 | .agg fs=>by simp only [acE];exact ztQ fs
 | .lst k T A c l=>by simp only [acE,cvL,cvC,aG,if_true]
theorem ztQ:∀l:List E,cvL hp D (acL l)=acL l
 | []=>by simp only [acL,cvL]
 | e :: r=>by simp only [acL,vK,zrQ e,ztQ r]
end
theorem lW (e:E):cvV hp D (.ag (acE e))=.ag (acE e):=zQ (zrQ e)
theorem vL (n k:Nat)(l:List E):cvV hp D (.c (.ro n k (acL l)))=.c (.ro n k (acL l)):=by simp only [cvV,cvC,aG,if_true]
end
section
variable {S:Type}{f:FuncId}{caps:List AC}{R:S→List AC}{step:S→E→S}{cost:S→Nat}{wt:E→Nat}{B:Nat}{ok:E→Prop}
theorem Tell.fold (h:Tell f caps R step cost wt B ok):∀(l:List E) (s:S),(∀x∈l,ok x)→cost (l.foldl step s)≤cost s+jG wt l
 | [],s,_=>Nat.le_add_right _ _
 | x :: r,s,hl=>by
  have h1:=h.fold r (step s x) fun y hy=>hl y (List.mem_cons_of_mem _ hy)
  have h2:=h.st s x (hl x List.mem_cons_self)
  rw [List.foldl_cons,gy]
  omega
theorem Tell.upto (h:Tell f caps R step cost wt B ok){g:E→List E}{l:List E}{s:S}{k:Nat}{x:E}(hok:∀z∈l.flatMap g,ok z)(hx:l[k]? = some x)(hB:cost s+jG wt (l.flatMap g)≤B):cost (upto step g l s k)+jG wt (g x)≤B:=by
 have h1:=h.fold ((l.take k).flatMap g) s fun z hz=>by
  obtain⟨y,hy,hzy⟩:=List.mem_flatMap.1 hz
  exact hok z (List.mem_flatMap.2 ⟨y,List.mem_of_mem_take hy,hzy⟩)
 have h2:=sm (wt:=wt) (f:=g) hx
 unfold Go.Proofs.YtmnneflenebgmaaGreat.upto
 omega
theorem jf (h:Tell f caps R step cost wt B ok):∀(n:Nat) (e:E),e.Ty prog 70→e.sz<n→n≤1048577→(∀x∈ew e,ok x)→∀s,cost s+jG wt (ew e)≤B→Ctr prog 129 [.ag (acE e),.c (.fn f caps)] [R s] (.tu []) [R ((ew e).foldl step s)]
 | 0,_,_,hz,_,_,_,_=>absurd hz (Nat.not_lt_zero _)
 | n+1,e,he,hsz,hn,hok,s,hc=>by
  have hpre:=ov e
  have hm:e∈ew e:=by rw [hpre];exact List.mem_cons_self
  rw [hpre,gy] at hc
  have ct:=h.ct s e (hok _ hm) omq
  have hst:=h.st s e (hok _ hm)
  have hok2:∀x∈iI e,∀z∈ew x,ok z:=fun x hx z hz=>hok z (by rw [hpre];exact List.mem_cons_of_mem _ (List.mem_flatMap.2 ⟨x,hx,hz⟩))
  rw [hpre,List.foldl_cons]
  clear hok hm hpre
  generalize step s e=s1 at *
  obtain⟨k0,n0,s0,xA,xc,l,rfl,-,-,-,⟨hl,hk⟩,-⟩:=aB he
  simp only [E.sz,E.szL] at hsz
  have hB:cost s1+jG wt (l.flatMap ew)≤B:=Nat.le_trans (Nat.add_le_add_right hst _) (by rw [Nat.add_assoc];exact hc)
  replace hok2:∀x∈l,∀z∈ew x,ok z:=hok2
  show Ctr _ _ _ _ _ [R ((l.flatMap ew).foldl step s1)]
  clear hc hst
  rw [←eh]
  have hx0:∀hp,cvV hp [0] (.ag [.v (.int .i64 k0),.v (.int .i64 n0),.v (.string s0),.ro l.length 4 (acL l)])=.ag [.v (.int .i64 k0),.v (.int .i64 n0),.v (.string s0),.ro l.length 4 (acL l)]:=fun hp=>lW (.agg [.int .i64 k0,.int .i64 n0,.str s0,.lst 4 70 xA xc l])
  refine av func129 rfl rfl ?_
  repeat' (first|(apply ay;refine bd 0 ct ?_ (hl:=cV (by rfl) (h.cl _)) (hcv:=qC h.cap (hx0 _)) (hRD:=mt h.cap rfl) (hmm:=.inr (mt h.cap rfl)))|(apply ay;first|refine ao ?_|refine be ?_|refine bz ?_|refine aY ?_|refine bN ?_|refine aU ?_)|refine al ?_|refine ab ?_|refine aa fun C=>?_|refine ae ?_|refine ah ?_)
  refine aP (fun k:Nat=>⟨dy [(1,.c (.fn f caps)),(10,.c (.ro l.length 4 (acL l))),(11,.c (.v (.int .i64 l.length))),(12,.c (.v (.int .i64 k)))],dn [(0,0,⟨0,0,0,true,R (upto step ew l s1 k)⟩)],1,[0],20⟩)
   (fun N k=>k+N=l.length) l.length 0 omq ?_ ?_
  ·refine aD _ _ rfl rfl (TmOk.cons (lF h.cap (by rfl) (by rfl)) ?_) (RwOk.cons (aJ rfl (h.cl _)) RwOk.nil)
   (repeat' (first|exact TmOk.nil|exact RwOk.nil|refine TmOk.cons ?_ ?_|refine RwOk.cons ?_ ?_|rfl|(refine rnV_id' rfl ?_;exact byc)|(refine bu ?_;first|rfl|omega|(rw [aW omq omq];omega))|(refine aJ rfl ?_;exact byc)|exact cb rfl rfl|(refine rw_mid (by rfl) (by rfl) ?_ ?_<;>exact byc)|(refine rw_rn' rfl rfl ?_;simp;done)))
  rintro N k hN
  try dsimp only
  repeat' (first|(apply ay;refine aN ?_)|refine al ?_|refine ab ?_|refine aa fun C=>?_|refine ae ?_)
  refine aj (by rfl) (fun hk1=>?_) fun hk1=>?_
  ·have hk':k<l.length:=by simpa using hk1
   obtain⟨x,hx⟩:∃x,l[k]? = some x:=⟨_,List.getElem?_eq_getElem hk'⟩
   have hxm:=List.mem_of_getElem? hx
   have hxt:=hl x hxm
   have hxz:=E.szL_mem hxm
   have cx:=jf h n x hxt omq omq (hok2 x hxm) (upto step ew l s1 k) (h.upto (fun z hz=>by obtain⟨y,hy,hzy⟩:=List.mem_flatMap.1 hz;exact hok2 y hy z hzy) hx hB)
   rw [←dF hx] at cx
   clear hok2
   obtain⟨y0,y1,y2,yA,yc,yl,rfl,-⟩:=aB hxt
   have hx1:∀hp,cvV hp [0] (.ag [.v (.int .i64 y0),.v (.int .i64 y1),.v (.string y2),.ro yl.length 4 (acL yl)])=.ag [.v (.int .i64 y0),.v (.int .i64 y1),.v (.string y2),.ro yl.length 4 (acL yl)]:=fun hp=>lW (.agg [.int .i64 y0,.int .i64 y1,.str y2,.lst 4 70 yA yc yl])
   repeat' (first|(apply ay;refine bd 0 cx ?_ (hl:=cV (by rfl) (h.cl _)) (hcv:=fJ h.cap (hx1 _)) (hRD:=dT h.cap rfl) (hmm:=.inr (dT h.cap rfl)))|(apply ay;first|refine ao ?_|refine bG ?_|refine bz ?_|refine cJ ?_|refine dD ?_|refine aC ?_|refine dB ?_)|refine al ?_|refine ab ?_|refine aa fun C=>?_|refine ae ?_|refine ah ?_|refine ai ?_)
   refine⟨N-1,k+1,omq,omq,?_⟩
   refine aD _ _ rfl rfl (TmOk.cons (lF h.cap (by rfl) (by rfl)) ?_) (RwOk.cons (aJ rfl (h.cl _)) RwOk.nil)
   (repeat' (first|exact TmOk.nil|exact RwOk.nil|refine TmOk.cons ?_ ?_|refine RwOk.cons ?_ ?_|rfl|(refine rnV_id' rfl ?_;exact byc)|(refine bu ?_;first|rfl|omega|(rw [aW omq omq];omega))|(refine aJ rfl ?_;exact byc)|exact cb rfl rfl|(refine rw_mid (by rfl) (by rfl) ?_ ?_<;>exact byc)|(refine rw_rn' rfl rfl ?_;simp;done)))
  ·have hk':¬k<l.length:=by simpa using hk1
   obtain rfl:k=l.length:=by omega
   repeat' (refine au ?_)
   exact em (x:=.tu []) rfl rfl rfl (h.cl _) (h.len _ _) ⟨rfl,rfl⟩
end
section
variable {S:Type}{f:FuncId}{caps:List AC}{R:S→List AC}{step:S→E→S}{cost:S→Nat}{wt:E→Nat}{B:Nat}{ok:E→Prop}
theorem jg (h:Tell f caps R step cost wt B ok):∀(n:Nat) (l:List E),(∀y∈l,y.Ty prog 106)→(∀y∈l,y.enc.length=6)→l.length+E.szL l<n→n≤1048578→(∀y∈l.flatMap mR,ok y)→∀s,cost s+jG wt (l.flatMap mR)≤B→Ctr prog 80 [.c (.ro l.length 6 (acL l)),.c (.fn f caps)] [R s] (.tu []) [R ((l.flatMap mR).foldl step s)]
 | 0,_,_,_,hz,_,_,_,_=>absurd hz (Nat.not_lt_zero _)
 | n+1,l,hl,hk,hsz,hn,hok,s,hB=>by
  rw [←eh]
  refine av func80 rfl rfl ?_
  repeat' (first|(apply ay;first|refine ao ?_|refine aY ?_)|refine al ?_|refine ab ?_|refine aa fun C=>?_|refine ae ?_|refine ah ?_)
  refine aP (fun k:Nat=>⟨dy [(1,.c (.fn f caps)),(6,.c (.ro l.length 6 (acL l))),(7,.c (.v (.int .i64 l.length))),(8,.c (.v (.int .i64 k)))],dn [(0,0,⟨0,0,0,true,R (upto step mR l s k)⟩)],1,[0],24⟩)
   (fun N k=>k+N=l.length) l.length 0 omq ?_ ?_
  ·refine aD _ _ rfl rfl (TmOk.cons (lF h.cap (by rfl) (by rfl)) ?_) (RwOk.cons (aJ rfl (h.cl _)) RwOk.nil)
   (repeat' (first|exact TmOk.nil|exact RwOk.nil|refine TmOk.cons ?_ ?_|refine RwOk.cons ?_ ?_|rfl|(refine rnV_id' rfl ?_;exact byc)|(refine bu ?_;first|rfl|omega|(rw [aW omq omq];omega))|(refine aJ rfl ?_;exact byc)|exact cb rfl rfl|(refine rw_mid (by rfl) (by rfl) ?_ ?_<;>exact byc)|(refine rw_rn' rfl rfl ?_;simp;done)))
  rintro N k hN
  try dsimp only
  repeat' (first|(apply ay;refine aN ?_)|refine al ?_|refine ab ?_|refine aa fun C=>?_|refine ae ?_)
  refine aj (by rfl) (fun hk1=>?_) fun hk1=>?_
  ·have hk':k<l.length:=by simpa using hk1
   obtain⟨x,hx⟩:∃x,l[k]? = some x:=⟨_,List.getElem?_eq_getElem hk'⟩
   have hxm:=List.mem_of_getElem? hx
   have hxt:=hl x hxm
   have hxz:=E.szL_mem hxm
   have hup:=h.upto hok hx hB
   have hsu:upto step mR l s (k+1)=(mR x).foldl step (upto step mR l s k):=dF hx
   obtain⟨s2,e2⟩:∃s2,upto step mR l s k=s2:=⟨_,rfl⟩
   rw [e2] at hup hsu
   have hpre:=ox x
   have hokx:∀y∈mR x,ok y:=fun y hy=>hok y (List.mem_flatMap.2 ⟨x,hxm,hy⟩)
   rw [hpre] at hokx hup hsu
   obtain⟨z0,z1,z2,zA,zc,zx,yA,yc,ya,wA,wc,yb,rfl,-,-,-,-,⟨ha,hka⟩,⟨hb,hkb⟩,-⟩:=aQ hxt
   have hkd:m9 (.agg [.int .i64 z0,.str z1,.str z2,.lst 4 70 zA zc zx,.lst 6 106 yA yc ya,.lst 6 106 wA wc yb])=ya++yb:=rfl
   rw [hkd,List.flatMap_append] at hokx hup hsu
   simp only [E.sz,E.szL] at hxz
   rw [gy,iK] at hup
   rw [List.foldl_cons,List.foldl_append] at hsu
   have ct:=h.ct s2 _ (hokx _ List.mem_cons_self) omq
   have h3:=h.st s2 (.agg [.int .i64 z0,.str z1,.str z2,.lst 4 70 zA zc zx,.lst 6 106 yA yc ya,.lst 6 106 wA wc yb]) (hokx _ List.mem_cons_self)
   obtain⟨s3,e3⟩:∃s3,step s2 (.agg [.int .i64 z0,.str z1,.str z2,.lst 4 70 zA zc zx,.lst 6 106 yA yc ya,.lst 6 106 wA wc yb])=s3:=⟨_,rfl⟩
   rw [e3] at hsu ct h3
   have h4:=h.fold (ya.flatMap mR) s3 fun y hy=>hokx y (List.mem_cons_of_mem _ (List.mem_append_left _ hy))
   have cA:=jg h n ya ha hka omq omq (fun y hy=>hokx y (List.mem_cons_of_mem _ (List.mem_append_left _ hy))) s3 omq
   obtain⟨s4,e4⟩:∃s4,(ya.flatMap mR).foldl step s3=s4:=⟨_,rfl⟩
   rw [e4] at hsu cA h4
   have cB:=jg h n yb hb hkb omq omq (fun y hy=>hokx y (List.mem_cons_of_mem _ (List.mem_append_right _ hy))) s4 omq
   rw [←hsu] at cB
   have hx1:∀hp,cvV hp [0] (.ag [.v (.int .i64 z0),.v (.string z1),.v (.string z2),.ro zx.length 4 (acL zx),.ro ya.length 6 (acL ya),.ro yb.length 6 (acL yb)])=.ag [.v (.int .i64 z0),.v (.string z1),.v (.string z2),.ro zx.length 4 (acL zx),.ro ya.length 6 (acL ya),.ro yb.length 6 (acL yb)]:=fun hp=>lW (.agg [.int .i64 z0,.str z1,.str z2,.lst 4 70 zA zc zx,.lst 6 106 yA yc ya,.lst 6 106 wA wc yb])
   rw [e2]
   clear hokx hpre hkd hok hup h3 h4 hsu e3 e4
   repeat' (first|(apply ay;refine bd 0 ct ?_ (hl:=cV (by rfl) (h.cl _)) (hcv:=qC h.cap (hx1 _)) (hRD:=mt h.cap rfl) (hmm:=.inr (mt h.cap rfl)))|(apply ay;refine bd 0 cA ?_ (hl:=cV (by rfl) (h.cl _)) (hcv:=fJ h.cap (vL _ _ _)) (hRD:=dT h.cap rfl) (hmm:=.inr (dT h.cap rfl)))|(apply ay;refine bd 0 cB ?_ (hl:=cV (by rfl) (h.cl _)) (hcv:=fJ h.cap (vL _ _ _)) (hRD:=dT h.cap rfl) (hmm:=.inr (dT h.cap rfl)))|(apply ay;first|refine ao ?_|refine be ?_|refine bG ?_|refine bz ?_|refine cJ ?_|refine dD ?_|refine aC ?_|refine dB ?_|refine aU ?_)|refine al ?_|refine ab ?_|refine aa fun C=>?_|refine ae ?_|refine ah ?_|refine ai ?_)
   refine⟨N-1,k+1,omq,omq,?_⟩
   refine aD _ _ rfl rfl (TmOk.cons (lF h.cap (by rfl) (by rfl)) ?_) (RwOk.cons (aJ rfl (h.cl _)) RwOk.nil)
   (repeat' (first|exact TmOk.nil|exact RwOk.nil|refine TmOk.cons ?_ ?_|refine RwOk.cons ?_ ?_|rfl|(refine rnV_id' rfl ?_;exact byc)|(refine bu ?_;first|rfl|omega|(rw [aW omq omq];omega))|(refine aJ rfl ?_;exact byc)|exact cb rfl rfl|(refine rw_mid (by rfl) (by rfl) ?_ ?_<;>exact byc)|(refine rw_rn' rfl rfl ?_;simp;done)))
  ·have hk':¬k<l.length:=by simpa using hk1
   obtain rfl:k=l.length:=by omega
   repeat' (refine au ?_)
   exact em (x:=.tu []) rfl rfl rfl (h.cl _) (h.len _ _) ⟨rfl,rfl⟩
def pT (step:S→E→S)(s:S)(y:E):S:=(oM y).foldl step s
theorem vM (step:S→E→S):∀(l:List E) (s:S),l.foldl (pT step) s=(l.flatMap oM).foldl step s
 | [],_=>rfl
 | x :: r,s=>by rw [List.foldl_cons,vM step r,List.flatMap_cons,List.foldl_append];rfl
theorem yq (h:Tell f caps R step cost wt B ok){y:E}(hy:y.Ty prog 106)(hsz:y.sz≤1048576)(hok:∀x∈oM y,ok x)(s:S)(hB:cost s+jG wt (oM y)≤B):Ctr prog 130 [.ag (acE y),.c (.rp [.fn f caps] 0)] [R s] (.tu []) [R (pT step s y)]:=by
 obtain⟨z0,z1,z2,zA,zc,l,yA,yc,ya,wA,wc,yb,rfl,-,-,-,⟨hl,hk⟩,-⟩:=aQ hy
 simp only [E.sz,E.szL] at hsz
 replace hB:cost s+jG wt (l.flatMap ew)≤B:=hB
 replace hok:∀x∈l.flatMap ew,ok x:=hok
 show Ctr _ _ _ _ _ [R ((l.flatMap ew).foldl step s)]
 rw [←eh]
 refine av func130 rfl rfl ?_
 repeat' (first|(apply ay;first|refine ao ?_|refine be ?_|refine aL ?_|refine aY ?_|refine bN ?_)|refine al ?_|refine ab ?_|refine aa fun C=>?_|refine ae ?_|refine ah ?_)
 refine aP (fun k:Nat=>⟨dy [(1,.c (.rp [.fn f caps] 0)),(6,.c (.ro l.length 4 (acL l))),(7,.c (.v (.int .i64 l.length))),(8,.c (.v (.int .i64 k)))],dn [(0,0,⟨0,0,0,true,R (upto step ew l s k)⟩)],1,[0],16⟩)
  (fun N k=>k+N=l.length) l.length 0 omq ?_ ?_
 ·refine aD _ _ rfl rfl (TmOk.cons (mr h.cap (by rfl) (by rfl)) ?_) (RwOk.cons (aJ rfl (h.cl _)) RwOk.nil)
  (repeat' (first|exact TmOk.nil|exact RwOk.nil|refine TmOk.cons ?_ ?_|refine RwOk.cons ?_ ?_|rfl|(refine rnV_id' rfl ?_;exact byc)|(refine bu ?_;first|rfl|omega|(rw [aW omq omq];omega))|(refine aJ rfl ?_;exact byc)|exact cb rfl rfl|(refine rw_mid (by rfl) (by rfl) ?_ ?_<;>exact byc)|(refine rw_rn' rfl rfl ?_;simp;done)))
 rintro N k hN
 try dsimp only
 repeat' (first|(apply ay;refine aN ?_)|refine al ?_|refine ab ?_|refine aa fun C=>?_|refine ae ?_)
 refine aj (by rfl) (fun hk1=>?_) fun hk1=>?_
 ·have hk':k<l.length:=by simpa using hk1
  obtain⟨x,hx⟩:∃x,l[k]? = some x:=⟨_,List.getElem?_eq_getElem hk'⟩
  have hxm:=List.mem_of_getElem? hx
  have hxt:=hl x hxm
  have hxz:=E.szL_mem hxm
  have cx:=jf h (x.sz+1) x hxt omq omq (fun z hz=>hok z (List.mem_flatMap.2 ⟨x,hxm,hz⟩)) (upto step ew l s k) (h.upto hok hx hB)
  rw [←dF hx] at cx
  obtain⟨y0,y1,y2,yA,yc,yl,rfl,-⟩:=aB hxt
  have hx1:∀hp,cvV hp [0] (.ag [.v (.int .i64 y0),.v (.int .i64 y1),.v (.string y2),.ro yl.length 4 (acL yl)])=.ag [.v (.int .i64 y0),.v (.int .i64 y1),.v (.string y2),.ro yl.length 4 (acL yl)]:=fun hp=>lW (.agg [.int .i64 y0,.int .i64 y1,.str y2,.lst 4 70 yA yc yl])
  repeat' (first|(apply ay;refine bd 0 cx ?_ (hl:=cV (by rfl) (h.cl _)) (hcv:=fJ h.cap (hx1 _)) (hRD:=dT h.cap rfl) (hmm:=.inr (dT h.cap rfl)))|(apply ay;first|refine ao ?_|refine bG ?_|refine bz ?_|refine cJ ?_|refine dD ?_|refine aC ?_|refine dB ?_|refine aU ?_)|refine al ?_|refine ab ?_|refine aa fun C=>?_|refine ae ?_|refine ah ?_|refine ai ?_)
  refine⟨N-1,k+1,omq,omq,?_⟩
  refine aD _ _ rfl rfl (TmOk.cons (mr h.cap (by rfl) (by rfl)) ?_) (RwOk.cons (aJ rfl (h.cl _)) RwOk.nil)
  (repeat' (first|exact TmOk.nil|exact RwOk.nil|refine TmOk.cons ?_ ?_|refine RwOk.cons ?_ ?_|rfl|(refine rnV_id' rfl ?_;exact byc)|(refine bu ?_;first|rfl|omega|(rw [aW omq omq];omega))|(refine aJ rfl ?_;exact byc)|exact cb rfl rfl|(refine rw_mid (by rfl) (by rfl) ?_ ?_<;>exact byc)|(refine rw_rn' rfl rfl ?_;simp;done)))
 ·have hk':¬k<l.length:=by simpa using hk1
  obtain rfl:k=l.length:=by omega
  repeat' (refine au ?_)
  exact em (x:=.tu []) rfl rfl rfl (h.cl _) (h.len _ _) ⟨rfl,rfl⟩
theorem Tell.own (h:Tell f caps R step cost wt B ok):Tell 130 [.rp [.fn f caps] 0] R (pT step) cost (fun y=>jG wt (oM y)) B (fun y=>y.Ty prog 106∧y.sz≤1048576∧∀x∈oM y,ok x) :=
 ⟨nK h.cap,h.cl,h.len,fun s e ho=>h.fold (oM e) s ho.2.2,fun s e ho hB=>yq h ho.1 ho.2.1 ho.2.2 s hB⟩
end
abbrev Nm:=List UInt8
def nmB (b:ByteArray):Nm:=b.data.toList
def strY (y:E):ByteArray:=match y with | .agg (_ :: .str s :: _)=>s|_=>ByteArray.empty
def strZ (y:E):ByteArray:=match y with | .agg (_ :: _ :: .str s :: _)=>s|_=>ByteArray.empty
def vN (ps:List E)(s:ByteArray):List Nm:=if iO ps s=true then [] else [nmB s]
def varT (ps:List E)(e:E):List Nm:=if eP e=3 then vN ps (zqQ e) else []
def tabT (e:E):List Nm:=if eP e=4∨eP e=9 then [nmB (zqQ e)] else []
def varS (ps:List E)(y:E):List Nm:=if eP y=2∨eP y=7 then vN ps (strY y) else []
def tabS (y:E):List Nm:=if eP y=3∨eP y=11 then [nmB (strY y)] else if eP y=7 then [nmB (strZ y)] else []
structure Prt where
 ps:List E
 wh:List E
 l:List E
 k:Int
def lstO (e:E):List E:=match e with | .lst _ _ _ _ l=>l|_=>[]
def fnP (e:E):Prt:=match e with | .agg [_,p,.lst _ _ _ _ l]=>⟨lstO p,[],l,0⟩|_=>⟨[],[],[],0⟩
def ruP (e:E):Prt:=match e with | .agg [.int _ k,p,.lst _ _ _ _ l]=>⟨[],if k=4 then [p] else [],l,k⟩|_=>⟨[],[],[],0⟩
def jy (rs fs:List E):List Prt:=fs.map fnP++rs.map ruP
def Prt.T (x:Prt):List E:=x.wh.flatMap ew++kU x.l
def Prt.S (x:Prt):List E:=x.l.flatMap mR
theorem fnP_T (e:E):(fnP e).T=fnX e:=by
 unfold fnP fnX Prt.T
 split
 ·rfl
 ·rename_i hno
  first
   |rfl
   |(split
     ·exact (hno _ _ _ _ _ _ _ rfl).elim
     ·rfl)
theorem ruP_T (e:E):(ruP e).T=ruX e:=by
 unfold ruP ruX Prt.T
 split
 ·dsimp only
  split
  ·simp
  ·rfl
 ·rename_i hno
  first
   |rfl
   |(split
     ·exact (hno _ _ _ _ _ _ _ _ rfl).elim
     ·rfl)
theorem lX (rs fs:List E):lT rs fs=(jy rs fs).flatMap Prt.T:=by
 unfold lT jy
 rw [List.flatMap_append,List.flatMap_map,List.flatMap_map,fu fun x _=>(fnP_T x).symm,fu (l:=rs) fun x _=>(ruP_T x).symm]
def Prt.vars (x:Prt):List Nm:=x.T.flatMap (varT x.ps)++x.S.flatMap (varS x.ps)
def Prt.tabs (x:Prt):List Nm:=x.T.flatMap tabT++x.S.flatMap tabS
structure Us where
 vars:List Nm
 tabs:List Nm
 calls:List E
 ps:List E
 fn:Bool
 line:Bool
 bad:Bool
def Prt.fn (x:Prt):Bool:=decide (x.k=0)
def Prt.line (x:Prt):Bool:=decide (x.k=3)||decide (x.k=4)
theorem fnP_0 (e:E):(fnP e).k=0∧(fnP e).wh=[]:=by
 unfold fnP
 split<;>exact⟨rfl,rfl⟩
theorem ruP_0 (e:E):(ruP e).ps=[]:=by
 unfold ruP
 split<;>rfl
structure ExtM (M:Nat→Prop)(w w':World)(St:Nat→Prop)(φ:Nat→Lc)(F:Nat→List Nat)(pars:List (List AC))(res:AV)(u:Value)(rows:List (List AC))(St':Nat→Prop)(F':Nat→List Nat)(G:List Nat):Prop where
 frm:Fc M (oV φ pars) w w'
 res:VRF w' St' φ0 K0 res u G
 nodG:G.Nodup
 len:rows.length=pars.length
 row:∀i cs,rows[i]? = some cs→∃b lo vs,φ i=.box b lo∧CRL w' St' φ0 K0 cs vs (F' i)∧BoxAt w' b lo vs∧∃cs0,pars[i]? = some cs0∧cs.length=cs0.length
 nod:∀i,i<pars.length→(F' i).Nodup
 disG:∀i,i<pars.length→∀b∈F' i,b∉G
 dis:∀i j,i<pars.length→j<pars.length→i≠j→∀b∈F' i,b∉F' j
 bxF:∀i b lo,i<pars.length→φ i=.box b lo→b∉G∧∀j,j<pars.length→b∉F' j
 own:∀b,(b∈G∨∃i,i<pars.length∧b∈F' i)→(M b∨w.heap.size≤b)
 sta:∀b,St' b→(b<w.heap.size→St b∨M b)∧b∉G∧∀i,i<pars.length→b∉F' i∧∀lo,φ i≠.box b lo
structure EntU (w:World)(St:Nat→Prop)(φ:Nat→Lc)(F:Nat→List Nat)(ins:List AV)(us:List Value)(pars:List (List AC))(p:Nat)(T:TypeId)(k n:Nat)(cs:List AC)(A:List Nat):Prop where
 ent:Ent w St φ F ins us pars
 row:∃u vs fs,us[p]? = some u∧CRL w St φ0 K0 cs vs fs∧w.ownsRow 0 T k u n vs∧A=obl u++fs
 nod:A.Nodup
 st:∀b∈A,¬St b
 ap:∀b∈A,∀i,i<pars.length→b∉F i∧∀lo,φ i≠.box b lo
 gl:∀b,isG b→b∉A
section
variable {P:Program}{C:Ctx}{φ:Nat→Lc}{F:Nat→List Nat}{St:Nat→Prop}{σ:AS}{a:Act}{w w':World}{D:List Nat}{pars:List (List AC)}
end
section
variable {P:Program}{ops:Array Oper}{Q:Exit→Act→World→Prop}{C:Ctx}{σ:AS}{o:Oper}{i:Nat}
end
section
variable {ops:Array Oper}{Q:Exit→Act→World→Prop}{C:Ctx}{i:Nat}{r:List Nat}
variable {tm:Nat→AV}{hp:Nat→Option Row}{gn L:Nat}{us:List Nat}
class BitB (b:BinOp):Prop where
 h:b=.and∨b=.or∨b=.xor
instance:BitB .and:=⟨.inl rfl⟩
instance:BitB .or:=⟨.inr (.inl rfl)⟩
instance:BitB .xor:=⟨.inr (.inr rfl)⟩
end
theorem r3 {a b a' b':Int}{c:Bool}(h1:a=a')(h2:b=b'):Ending.returned (.tuple #[.int .i64 a,.int .i64 b,.bool c])=.returned (.tuple #[.int .i64 a',.int .i64 b',.bool c]):=by rw [h1,h2]
structure GIns where
 o:Nat
 n:Nat
 p:Nat
 ok:Bool
end Go.Proofs.YtmnneflenebgmaaGreat
-- BIT
namespace Go.Proofs.YtmnneflenebgmaaGreat
open Go.RowKit Go.Proofs.Tryz
end Go.Proofs.YtmnneflenebgmaaGreat
