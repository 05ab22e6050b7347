/- T -/
import Derived.Test.YtomolhbkdhjofaaGreatDoorExAZ
set_option maxHeartbeats 0
set_option maxRecDepth 100000
namespace Go.Proofs.YtomolhbkdhjofaaGreatDoor
open Go.RowKit Go.Proofs.Tryz
def mkP (m:ByteArray):Option T3:=some (5,0,m)
def nmP (w:ByteArray):Option T3:=some (2,0,w)
def rxP (s:ByteArray):Option T3:=some (4,0,s)
def jnP:List Pc→Pc
 | []=>[]
 | [x]=>x
 | x :: y :: r=>x++(mkP ⟨#[44]⟩ :: none :: jnP (y :: r))
def atP (ps:List Pc)(k:Nat):Pc:=ps.getD k []
def eZ (k n:Int)(s:ByteArray)(ps:List Pc):Pc :=
 if k=1 then [some (1,n,ByteArray.empty)]
 else if k=2 then [some (3,0,s)]
 else if k=3 then [nmP s]
 else if k=4 then nmP s :: mkP ⟨#[91]⟩ :: (jnP ps++[mkP ⟨#[93]⟩])
 else if k=5 then mkP ⟨#[36]⟩ :: jnP ps
 else if k=6 then mkP ⟨#[40]⟩ :: (atP ps 0++(none :: mkP s :: none :: (atP ps 1++[mkP ⟨#[41]⟩])))
 else if k=7 then mkP ⟨#[33]⟩ :: jnP ps
 else if k=8 then mkP ⟨#[45]⟩ :: jnP ps
 else if k=9 then mkP ⟨#[40]⟩ :: (jnP ps++[none,nmP ⟨#[105,110]⟩,none,nmP s,mkP ⟨#[41]⟩])
 else if k=10 then mkP ⟨#[40]⟩ :: (jnP ps++[none,mkP ⟨#[126]⟩,none,rxP s,mkP ⟨#[41]⟩])
 else if k=11 then nmP s :: mkP ⟨#[40]⟩ :: (jnP ps++[mkP ⟨#[41]⟩])
 else if k=12 then nmP ⟨#[108,101,110,103,116,104]⟩ :: mkP ⟨#[40]⟩ :: (jnP ps++[mkP ⟨#[41]⟩])
 else if k=13 then nmP ⟨#[115,117,98,115,116,114]⟩ :: mkP ⟨#[40]⟩ :: (jnP ps++[mkP ⟨#[41]⟩])
 else if k=14 then [nmP ⟨#[110,114]⟩]
 else if k=15 then [nmP ⟨#[110,102]⟩]
 else if k=16 then nmP ⟨#[105,110,100,101,120]⟩ :: mkP ⟨#[40]⟩ :: (jnP ps++[mkP ⟨#[41]⟩])
 else if k=17 then nmP ⟨#[117,112,112,101,114]⟩ :: mkP ⟨#[40]⟩ :: (jnP ps++[mkP ⟨#[41]⟩])
 else nmP ⟨#[103,115,117,98]⟩ :: mkP ⟨#[40]⟩ :: (atP ps 0++(none :: mkP ⟨#[126]⟩ :: none :: rxP s :: mkP ⟨#[44]⟩ :: none :: (atP ps 1++[mkP ⟨#[41]⟩])))
def pcF:Nat→E→Pc
 | 0,_=>[]
 | f+1,e=>match e with
  | .agg [.int _ k,.int _ n,.str s,.lst _ _ _ _ l]=>eZ k n s (l.map (pcF f))
  | _=>[]
def pcE (e:E):Pc:=pcF (e.sz+1) e
theorem wa:∀(n f:Nat) (e:E),e.sz<n→e.sz<f→pcF f e=pcE e
 | 0,_,_,h,_=>absurd h (Nat.not_lt_zero _)
 | n+1,0,_,_,h=>absurd h (Nat.not_lt_zero _)
 | n+1,f+1,e,h1,h2=>by
  have key:∀x∈dh e,pcF f x=pcF e.sz x:=fun x hx=>by
   have hs:=dR e x hx
   rw [wa n f x omq omq,wa n e.sz x omq hs]
  unfold pcE
  unfold pcF
  split
  ·rename_i k n' s T A c m l
   congr 1
   exact List.map_congr_left key
  ·rfl
theorem gZ (i j:IntKind)(k n:Int)(s:ByteArray)(w:Nat)(T:TypeId)(A:Option Addr)(c:Nat)(l:List E):pcE (.agg [.int i k,.int j n,.str s,.lst w T A c l])=eZ k n s (l.map pcE):=by
 show eZ k n s (l.map (pcF (E.sz (.agg [.int i k,.int j n,.str s,.lst w T A c l]))))=_
 congr 1
 refine List.map_congr_left fun x hx=>?_
 exact wa (x.sz+1) _ x omq (dR _ x hx)
def clD (d:Option Nat):Prop:=∀x,d=some x→ldB x=false
def Wp (p:Pc):Prop:=(∃x l,p=x :: l∧bAt (pcT x) 0≠61)∧∀d,clD d→okP false p d false
theorem gC {x:Nat}(h:ldB x=false):clD (some x):=fun y hy=>by injection hy with hy;subst hy;exact h
theorem wb {p:Pc}(h:Wp p)(d:Option Nat):∃x,xH p d=some x∧x≠61:=by
 obtain⟨⟨x,l,rfl,h2⟩,-⟩:=h
 exact⟨_,rfl,h2⟩
theorem jn {c:Nat}{m:ByteArray}(hm:m.size=1)(hc:bAt m 0=c)(h:¬(c=60∨c=61∨c=33∨c=62∨c=38∨c=124))(d:Option Nat):va (5,0,m) d=true:=by
 cases d with
 | none=>rfl
 | some x =>
  show hX (5,0,m) x=true
  unfold hX
  rw [if_neg (show ¬(5:Int)=1 by decide),if_neg (show ¬(5:Int)=2 by decide),if_pos ⟨rfl,hm⟩]
  dsimp only
  rw [hc]
  have:nu c x=false:=by
   simp only [nu]
   simp
   omega
  rw [this];rfl
theorem oE {w:ByteArray}{d:Option Nat}(h:clD d):va (2,0,w) d=true:=by
 cases d with
 | none=>rfl
 | some x =>
  show hX (2,0,w) x=true
  unfold hX
  rw [if_neg (show ¬(2:Int)=1 by decide),if_pos rfl,h x rfl];rfl
theorem stopI {n:Int}{d:Option Nat}(h:clD d):va (1,n,ByteArray.empty) d=true:=by
 cases d with
 | none=>rfl
 | some x =>
  show hX (1,n,ByteArray.empty) x=true
  unfold hX
  rw [if_pos rfl]
  have:=h x rfl
  simp only [ldB,Bool.or_eq_false_iff] at this
  rw [this.2];rfl
theorem gM {r:Bool}{m:ByteArray}(h:cq 5 0 m=true)(h2:r=false):sU r (5,0,m):=⟨h,fun h=>by dsimp only at h;omega,fun _ _=>h2⟩
theorem gN {r:Bool}{w:ByteArray}(h:dD w=true):sU r (2,0,w):=⟨by simp [cq,h],fun h=>by dsimp only at h;omega,fun h=>by dsimp only at h;omega⟩
theorem oF:∀{ps:List Pc},(∀p∈ps,Wp p)→∀d,clD d→okP false (jnP ps) d false
 | [],_,d,_=>rfl
 | [x],h,d,hd=>(h x (List.mem_cons_self ..)).2 d hd
 | x :: y :: r,h,d,hd=>eS ((h x (List.mem_cons_self ..)).2 _ (gC (x:=44) rfl)) ⟨gM (by decide) rfl,jn (c:=44) rfl rfl omq _,oF (ps:=y :: r) (fun p hp=>h p (List.mem_cons_of_mem _ hp)) d hd⟩
theorem zp4 {ps:List Pc}(h:∀p∈ps,Wp p)(hne:ps≠[])(d:Option Nat):∃x,xH (jnP ps) d=some x∧x≠61:=by
 match ps,hne with
 | [x],_=>exact wb (h x (List.mem_cons_self ..)) d
 | x :: y :: r,_ =>
  show ∃z,xH (x++_) d=some z∧z≠61
  rw [qQ]
  exact wb (h x (List.mem_cons_self ..)) _
theorem zq4:∀o∈kT,∃s,o=.str s∧cq 5 0 s=true∧qJ 5 s=false:=by
 intro o ho
 unfold kT su at ho
 obtain⟨s,hs,rfl⟩:=List.mem_map.1 ho
 refine⟨s,rfl,?_⟩
 clear ho
 revert s
 decide
theorem pT {s:ByteArray}(h:kU kT s=true):cq 5 0 s=true∧qJ 5 s=false:=by
 unfold kU at h
 rw [List.any_eq_true] at h
 obtain⟨o,ho,he⟩:=h
 obtain⟨t,rfl,h1,h2⟩:=zq4 o ho
 rw [bytes_beq,decide_eq_true_iff] at he
 have he':s=t:=he
 subst he'
 exact⟨h1,h2⟩
theorem dS {x:Option T3}{l:Pc}(h0:bAt (pcT x) 0≠61)(h:∀d,clD d→okP false (x :: l) d false):Wp (x :: l):=⟨⟨x,l,rfl,h0⟩,h⟩
theorem me {w:ByteArray}(h:dD w=true):bAt (pcT (nmP w)) 0≠61:=by
 have hT:pcT (nmP w)=w:=by
  show tkT 2 0 w=w
  unfold tkT
  rw [if_pos (by simp [cq,h]),if_neg (by decide),if_neg (by decide),if_neg (by decide)]
 rw [hT]
 simp only [dD,gy,Bool.and_eq_true,decide_eq_true_iff] at h
 omega
theorem kW {w:ByteArray}{ps:List Pc}(hw:dD w=true)(h:∀p∈ps,Wp p):Wp (nmP w :: mkP ⟨#[40]⟩ :: (jnP ps++[mkP ⟨#[41]⟩])) :=
 dS (me hw) fun d hd=>⟨gN hw,oE (gC (x:=40) rfl),gM (by decide) rfl,jn (c:=40) rfl rfl omq _,eS (oF h _ (gC (x:=41) rfl)) ⟨gM (by decide) rfl,jn (c:=41) rfl rfl omq _,rfl⟩⟩
theorem jo {s:ByteArray}(h:dK s=true):dD s=true:=by
 unfold dK at h
 rw [Bool.and_eq_true] at h
 exact h.1
theorem yy {k n:Int}{s:ByteArray}{ps:List Pc}(h:∀p∈ps,Wp p)(hh:eu k n s ps.length=true):Wp (eZ k n s ps):=by
 unfold eu at hh
 by_cases k1:k=1
 ·subst k1
  rw [if_pos rfl] at hh
  simp only [inR,Bool.and_eq_true,decide_eq_true_iff] at hh
  have hn:0≤n∧n≤2147483647:=by omega
  have ho:cq 1 n ByteArray.empty=true:=by
   have:ByteArray.empty.size=0:=rfl
   simp [cq,hn,this]
  refine dS ?_ fun d hd=>⟨⟨ho,fun h=>by dsimp only at h;omega,fun h=>by dsimp only at h;omega⟩,stopI hd,rfl⟩
  have hT:pcT (some (1,n,ByteArray.empty))=iE n:=by
   show tkT 1 n ByteArray.empty=_
   unfold tkT
   rw [if_pos ho,if_pos rfl]
  rw [hT]
  have h2:=pD hn.1
  have h3:=pE hn.1
  simp only [lF,decide_eq_true_iff] at h2
  have:=h2 0 omq
  simp only [cR,Bool.and_eq_true,decide_eq_true_iff] at this
  omega
 rw [if_neg k1,Bool.and_eq_true] at hh
 replace hh:=hh.2
 have c41:clD (some 41):=gC rfl
 have c93:clD (some 93):=gC rfl
 have c32:clD (some 32):=gC rfl
 have g41:∀d r',r'=false→okP false [mkP ⟨#[41]⟩] d r':=fun d r' h=>⟨gM (by decide) rfl,jn (c:=41) rfl rfl omq _,by rw [h];rfl⟩
 by_cases k2:k=2
 ·subst k2
  rw [if_pos rfl,Bool.and_eq_true] at hh
  have ho:cq 3 0 s=true:=by simp [cq,hh.1]
  refine dS ?_ fun d hd=>⟨⟨ho,fun h=>by dsimp only at h;omega,fun h=>by dsimp only at h;omega⟩,?_,rfl⟩
  ·have hT:pcT (some (3,0,s))=(⟨#[39]⟩++s)++⟨#[39]⟩:=by
    show tkT 3 0 s=_
    unfold tkT
    rw [if_pos ho,if_neg (by decide),if_pos rfl]
   rw [hT,eH (by rw [ByteArray.size_append'];show 0<1+_;omega),eH (by show 0<1;omega)]
   decide
  ·cases d with
   | none=>rfl
   | some x=>rfl
 rw [if_neg k2] at hh
 by_cases k3:k=3
 ·subst k3
  rw [if_pos rfl,Bool.and_eq_true] at hh
  have hw:=jo hh.1
  exact dS (me hw) fun d hd=>⟨gN hw,oE hd,rfl⟩
 rw [if_neg k3] at hh
 by_cases k4:k=4∨k=9
 ·rw [if_pos k4,Bool.and_eq_true] at hh
  have hw:=jo hh.1
  rcases k4 with rfl|rfl
  ·exact dS (me hw) fun d hd=>⟨gN hw,oE (gC (x:=91) rfl),gM (by decide) rfl,jn (c:=91) rfl rfl omq _,eS (oF h _ c93) ⟨gM (by decide) rfl,jn (c:=93) rfl rfl omq _,rfl⟩⟩
  ·refine dS (by decide) fun d hd=>⟨gM (by decide) rfl,jn (c:=40) rfl rfl omq _,eS (oF h _ c32) ?_⟩
   exact⟨gN (by decide),oE c32,gN hw,oE c41,g41 d false rfl⟩
 rw [if_neg k4] at hh
 by_cases k5:k=5∨k=7∨k=8∨k=12∨k=17
 ·rw [if_pos k5,Bool.and_eq_true] at hh
  have hne:ps≠[]:=fun h0=>by subst h0;exact absurd hh.2 (by decide)
  rcases k5 with rfl|rfl|rfl|rfl|rfl
  ·exact dS (by decide) fun d hd=>⟨gM (by decide) rfl,jn (c:=36) rfl rfl omq _,oF h d hd⟩
  ·refine dS (by decide) fun d hd=>⟨gM (by decide) rfl,?_,oF h d hd⟩
   obtain⟨x,hx,hx61⟩:=zp4 h hne d
   rw [hx]
   show hX (5,0,⟨#[33]⟩) x=true
   unfold hX
   rw [if_neg (by decide),if_neg (by decide),if_pos ⟨rfl,rfl⟩]
   have:nu (bAt (⟨#[33]⟩:ByteArray) 0) x=false:=by
    show nu 33 x=false
    simp [nu,hx61]
   rw [this];rfl
  ·exact dS (by decide) fun d hd=>⟨gM (by decide) rfl,jn (c:=45) rfl rfl omq _,oF h d hd⟩
  ·exact kW (by decide) h
  ·exact kW (by decide) h
 rw [if_neg k5] at hh
 have at0:1≤ps.length→Wp (atP ps 0):=fun hl=>by
  unfold atP
  rw [List.getD_eq_getElem?_getD,List.getElem?_eq_getElem omq,Option.getD_some]
  exact h _ (List.getElem_mem _)
 have at1:2≤ps.length→Wp (atP ps 1):=fun hl=>by
  unfold atP
  rw [List.getD_eq_getElem?_getD,List.getElem?_eq_getElem omq,Option.getD_some]
  exact h _ (List.getElem_mem _)
 by_cases k6:k=6
 ·subst k6
  rw [if_pos rfl,Bool.and_eq_true,beq_iff_eq] at hh
  obtain⟨ho,ht⟩:=pT hh.1
  have w0:=at0 omq
  have w1:=at1 omq
  refine dS (by decide) fun d hd=>⟨gM (by decide) rfl,jn (c:=40) rfl rfl omq _,eS (w0.2 _ c32) ?_⟩
  refine⟨gM ho rfl,vb ho,?_⟩
  rw [ht]
  exact eS (w1.2 _ c41) (g41 d false rfl)
 rw [if_neg k6] at hh
 by_cases k10:k=10
 ·subst k10
  rw [if_pos rfl,Bool.and_eq_true] at hh
  have hr:=m6 hh.2
  refine dS (by decide) fun d hd=>⟨gM (by decide) rfl,jn (c:=40) rfl rfl omq _,eS (oF h _ c32) ?_⟩
  exact⟨gM (by decide) rfl,vb (t:=(5,0,⟨#[126]⟩)) (by decide),⟨hr,fun _=>by decide,fun h=>by dsimp only at h;omega⟩,by rfl,g41 d false rfl⟩
 rw [if_neg k10] at hh
 by_cases k18:k=18
 ·subst k18
  rw [if_pos rfl,Bool.and_eq_true,beq_iff_eq] at hh
  have hr:=m6 hh.2
  have w0:=at0 omq
  have w1:=at1 omq
  refine dS (me (by decide)) fun d hd=>⟨gN (by decide),oE (gC (x:=40) rfl),gM (by decide) rfl,jn (c:=40) rfl rfl omq _,eS (w0.2 _ c32) ?_⟩
  refine⟨gM (by decide) rfl,vb (t:=(5,0,⟨#[126]⟩)) (by decide),⟨hr,fun _=>by decide,fun h=>by dsimp only at h;omega⟩,by rfl,?_⟩
  exact⟨gM (by decide) rfl,jn (c:=44) rfl rfl omq _,eS (w1.2 _ c41) (g41 d false rfl)⟩
 rw [if_neg k18] at hh
 by_cases k11:k=11
 ·subst k11
  rw [if_pos rfl,Bool.and_eq_true] at hh
  exact kW (jo hh.1) h
 rw [if_neg k11] at hh
 by_cases k13:k=13
 ·subst k13
  exact kW (by decide) h
 rw [if_neg k13] at hh
 by_cases k14:k=14∨k=15
 ·rcases k14 with rfl|rfl
  ·exact dS (me (by decide)) fun d hd=>⟨gN (by decide),oE hd,rfl⟩
  ·exact dS (me (by decide)) fun d hd=>⟨gN (by decide),oE hd,rfl⟩
 rw [if_neg k14] at hh
 by_cases k16:k=16
 ·subst k16
  exact kW (by decide) h
 rw [if_neg k16] at hh
 cases hh
theorem gj {m:ByteArray}(h:cq 5 0 m=true):pcT (mkP m)=m:=by
 show tkT 5 0 m=m
 unfold tkT
 rw [if_pos h,if_neg (by decide),if_neg (by decide),if_neg (by decide)]
theorem oG {w:ByteArray}(h:dD w=true):pcT (nmP w)=w:=by
 show tkT 2 0 w=w
 unfold tkT
 rw [if_pos (by simp [cq,h]),if_neg (by decide),if_neg (by decide),if_neg (by decide)]
theorem pc_rx {s:ByteArray}(h:cq 4 0 s=true):pcT (rxP s)=(⟨#[47]⟩++s)++⟨#[47]⟩:=by
 show tkT 4 0 s=_
 unfold tkT
 rw [if_pos h,if_neg (by decide),if_neg (by decide),if_pos rfl]
theorem bJ (x:Option T3)(l:Pc):bS (x :: l)=pcT x++bS l:=rfl
theorem mf:bS []=ByteArray.empty:=rfl
theorem kX:pcT none=⟨#[32]⟩:=rfl
theorem oH (a b:List UInt8):(⟨(a++b).toArray⟩:ByteArray)=⟨a.toArray⟩++⟨b.toArray⟩:=(ByteArray.mk_append_mk a b).symm
theorem jp:∀ps:List Pc,bS (jnP ps)=joC (ps.map bS)
 | []=>rfl
 | [x]=>by rw [List.map_cons,List.map_nil,vM];rfl
 | x :: y :: r=>by
  have ih:=jp (y :: r)
  rw [List.map_cons] at ih
  rw [List.map_cons,List.map_cons,oy,←ih]
  show bS (x++(mkP ⟨#[44]⟩ :: none :: jnP (y :: r)))=_
  rw [dF,bJ,bJ,gj (by decide),kX,show (⟨#[44,32]⟩:ByteArray)=⟨#[44]⟩++⟨#[32]⟩ from oH [44] [32]]
  simp only [ByteArray.append_assoc]
theorem m7 (ps:List Pc)(k:Nat):bS (atP ps k)=atB (ps.map bS) k:=by
 unfold atP atB
 rw [List.getD_eq_getElem?_getD,List.getD_eq_getElem?_getD,List.getElem?_map]
 cases ps[k]? with
 | none=>rfl
 | some x=>rfl
theorem kY {w:ByteArray}{ps:List Pc}(hw:dD w=true):bS (nmP w :: mkP ⟨#[40]⟩ :: (jnP ps++[mkP ⟨#[41]⟩]))=((w++⟨#[40]⟩)++joC (ps.map bS))++⟨#[41]⟩:=by
 rw [bJ,bJ,dF,bJ,mf,oG hw,gj (by decide),gj (by decide),jp,ByteArray.append_empty]
 simp only [ByteArray.append_assoc]
theorem wc {m:ByteArray}{ps:List Pc}(h:cq 5 0 m=true):bS (mkP m :: jnP ps)=m++joC (ps.map bS):=by
 rw [bJ,gj h,jp]
theorem sI {k n:Int}{s:ByteArray}{ps:List Pc}(hh:eu k n s ps.length=true):bS (eZ k n s ps)=pS k n s (ps.map bS):=by
 unfold eu at hh
 by_cases k1:k=1
 ·subst k1
  rw [if_pos rfl] at hh
  simp only [inR,Bool.and_eq_true,decide_eq_true_iff] at hh
  have hn:0≤n∧n≤2147483647:=by omega
  have ho:cq 1 n ByteArray.empty=true:=by
   have:ByteArray.empty.size=0:=rfl
   simp [cq,hn,this]
  show tkT 1 n ByteArray.empty++ByteArray.empty=iE n
  unfold tkT
  rw [if_pos ho,if_pos rfl,ByteArray.append_empty]
 rw [if_neg k1,Bool.and_eq_true] at hh
 replace hh:=hh.2
 by_cases k2:k=2
 ·subst k2
  rw [if_pos rfl,Bool.and_eq_true] at hh
  have ho:cq 3 0 s=true:=by simp [cq,hh.1]
  show tkT 3 0 s++ByteArray.empty=(⟨#[39]⟩++s)++⟨#[39]⟩
  unfold tkT
  rw [if_pos ho,if_neg (by decide),if_pos rfl,ByteArray.append_empty]
 rw [if_neg k2] at hh
 by_cases k3:k=3
 ·subst k3
  rw [if_pos rfl,Bool.and_eq_true] at hh
  show pcT (nmP s)++ByteArray.empty=s
  rw [oG (jo hh.1),ByteArray.append_empty]
 rw [if_neg k3] at hh
 by_cases k4:k=4∨k=9
 ·rw [if_pos k4,Bool.and_eq_true] at hh
  have hw:=jo hh.1
  rcases k4 with rfl|rfl
  ·show bS (nmP s :: mkP ⟨#[91]⟩ :: (jnP ps++[mkP ⟨#[93]⟩]))=((s++⟨#[91]⟩)++joC (ps.map bS))++⟨#[93]⟩
   rw [bJ,bJ,dF,bJ,mf,oG hw,gj (by decide),gj (by decide),jp,ByteArray.append_empty]
   simp only [ByteArray.append_assoc]
  ·show bS (mkP ⟨#[40]⟩ :: (jnP ps++[none,nmP ⟨#[105,110]⟩,none,nmP s,mkP ⟨#[41]⟩]))=(((⟨#[40]⟩++joC (ps.map bS))++⟨#[32,105,110,32]⟩)++s)++⟨#[41]⟩
   rw [bJ,dF,bJ,bJ,bJ,bJ,bJ,mf,oG hw,oG (by decide),gj (by decide),gj (by decide),kX,jp,ByteArray.append_empty,show (⟨#[32,105,110,32]⟩:ByteArray)=⟨#[32]⟩++⟨#[105,110,32]⟩ from oH [32] [105,110,32],show (⟨#[105,110,32]⟩:ByteArray)=⟨#[105,110]⟩++⟨#[32]⟩ from oH [105,110] [32]]
   simp only [ByteArray.append_assoc]
 rw [if_neg k4] at hh
 by_cases k5:k=5∨k=7∨k=8∨k=12∨k=17
 ·rcases k5 with rfl|rfl|rfl|rfl|rfl
  ·exact wc (by decide)
  ·exact wc (by decide)
  ·exact wc (by decide)
  ·show bS _=(⟨#[108,101,110,103,116,104,40]⟩++joC (ps.map bS))++⟨#[41]⟩
   rw [show (⟨#[108,101,110,103,116,104,40]⟩:ByteArray)=⟨#[108,101,110,103,116,104]⟩++⟨#[40]⟩ from oH [108,101,110,103,116,104] [40]]
   exact kY (by decide)
  ·show bS _=(⟨#[117,112,112,101,114,40]⟩++joC (ps.map bS))++⟨#[41]⟩
   rw [show (⟨#[117,112,112,101,114,40]⟩:ByteArray)=⟨#[117,112,112,101,114]⟩++⟨#[40]⟩ from oH [117,112,112,101,114] [40]]
   exact kY (by decide)
 rw [if_neg k5] at hh
 by_cases k6:k=6
 ·subst k6
  rw [if_pos rfl,Bool.and_eq_true,beq_iff_eq] at hh
  obtain⟨ho,ht⟩:=pT hh.1
  show bS (mkP ⟨#[40]⟩ :: (atP ps 0++(none :: mkP s :: none :: (atP ps 1++[mkP ⟨#[41]⟩]))))=(((((⟨#[40]⟩++atB (ps.map bS) 0)++⟨#[32]⟩)++s)++⟨#[32]⟩)++atB (ps.map bS) 1)++⟨#[41]⟩
  rw [bJ,dF,bJ,bJ,bJ,dF,bJ,mf,gj ho,gj (by decide),gj (by decide),kX,m7,m7,ByteArray.append_empty]
  simp only [ByteArray.append_assoc]
 rw [if_neg k6] at hh
 by_cases k10:k=10
 ·subst k10
  rw [if_pos rfl,Bool.and_eq_true] at hh
  have hr:=m6 hh.2
  show bS (mkP ⟨#[40]⟩ :: (jnP ps++[none,mkP ⟨#[126]⟩,none,rxP s,mkP ⟨#[41]⟩]))=(((⟨#[40]⟩++joC (ps.map bS))++⟨#[32,126,32,47]⟩)++s)++⟨#[47,41]⟩
  rw [bJ,dF,bJ,bJ,bJ,bJ,bJ,mf,pc_rx hr,gj (by decide),gj (by decide),gj (by decide),kX,jp,ByteArray.append_empty,show (⟨#[32,126,32,47]⟩:ByteArray)=⟨#[32]⟩++⟨#[126,32,47]⟩ from oH [32] [126,32,47],show (⟨#[126,32,47]⟩:ByteArray)=⟨#[126]⟩++⟨#[32,47]⟩ from oH [126] [32,47],show (⟨#[32,47]⟩:ByteArray)=⟨#[32]⟩++⟨#[47]⟩ from oH [32] [47],show (⟨#[47,41]⟩:ByteArray)=⟨#[47]⟩++⟨#[41]⟩ from oH [47] [41]]
  simp only [ByteArray.append_assoc]
 rw [if_neg k10] at hh
 by_cases k18:k=18
 ·subst k18
  rw [if_pos rfl,Bool.and_eq_true] at hh
  have hr:=m6 hh.2
  show bS (nmP ⟨#[103,115,117,98]⟩ :: mkP ⟨#[40]⟩ :: (atP ps 0++(none :: mkP ⟨#[126]⟩ :: none :: rxP s :: mkP ⟨#[44]⟩ :: none :: (atP ps 1++[mkP ⟨#[41]⟩]))))=(((((⟨#[103,115,117,98,40]⟩++atB (ps.map bS) 0)++⟨#[32,126,32,47]⟩)++s)++⟨#[47,44,32]⟩)++atB (ps.map bS) 1)++⟨#[41]⟩
  rw [bJ,bJ,dF,bJ,bJ,bJ,bJ,bJ,bJ,dF,bJ,mf,pc_rx hr,oG (by decide),gj (by decide),gj (by decide),gj (by decide),gj (by decide),kX,m7,m7,ByteArray.append_empty,show (⟨#[32,126,32,47]⟩:ByteArray)=⟨#[32]⟩++⟨#[126,32,47]⟩ from oH [32] [126,32,47],show (⟨#[126,32,47]⟩:ByteArray)=⟨#[126]⟩++⟨#[32,47]⟩ from oH [126] [32,47],show (⟨#[32,47]⟩:ByteArray)=⟨#[32]⟩++⟨#[47]⟩ from oH [32] [47],show (⟨#[47,44,32]⟩:ByteArray)=⟨#[47]⟩++⟨#[44,32]⟩ from oH [47] [44,32],show (⟨#[44,32]⟩:ByteArray)=⟨#[44]⟩++⟨#[32]⟩ from oH [44] [32],show (⟨#[103,115,117,98,40]⟩:ByteArray)=⟨#[103,115,117,98]⟩++⟨#[40]⟩ from oH [103,115,117,98] [40]]
  simp only [ByteArray.append_assoc]
 rw [if_neg k18] at hh
 by_cases k11:k=11
 ·subst k11
  rw [if_pos rfl,Bool.and_eq_true] at hh
  exact kY (jo hh.1)
 rw [if_neg k11] at hh
 by_cases k13:k=13
 ·subst k13
  show bS _=(⟨#[115,117,98,115,116,114,40]⟩++joC (ps.map bS))++⟨#[41]⟩
  rw [show (⟨#[115,117,98,115,116,114,40]⟩:ByteArray)=⟨#[115,117,98,115,116,114]⟩++⟨#[40]⟩ from oH [115,117,98,115,116,114] [40]]
  exact kY (by decide)
 rw [if_neg k13] at hh
 by_cases k14:k=14∨k=15
 ·rcases k14 with rfl|rfl
  ·show pcT (nmP ⟨#[110,114]⟩)++ByteArray.empty=⟨#[110,114]⟩
   rw [oG (by decide),ByteArray.append_empty]
  ·show pcT (nmP ⟨#[110,102]⟩)++ByteArray.empty=⟨#[110,102]⟩
   rw [oG (by decide),ByteArray.append_empty]
 rw [if_neg k14] at hh
 by_cases k16:k=16
 ·subst k16
  show bS _=(⟨#[105,110,100,101,120,40]⟩++joC (ps.map bS))++⟨#[41]⟩
  rw [show (⟨#[105,110,100,101,120,40]⟩:ByteArray)=⟨#[105,110,100,101,120]⟩++⟨#[40]⟩ from oH [105,110,100,101,120] [40]]
  exact kY (by decide)
 rw [if_neg k16] at hh
 cases hh
theorem j8 {e:E}(h:okX e=true):(∀x∈dh e,okX x=true)∧mY e=true:=by
 unfold okX at h
 rw [j4 dR,Bool.and_eq_true,List.all_eq_true] at h
 exact h
theorem zL:∀(n:Nat) (e:E),e.sz<n→okX e=true→Wp (pcE e)∧bS (pcE e)=txE e
 | 0,_,h,_=>absurd h (Nat.not_lt_zero _)
 | n+1,e,h,hok=>by
  obtain⟨h1,h2⟩:=j8 hok
  unfold mY at h2
  split at h2
  ·rename_i i k j m s w T A c l
   rw [gZ,mZ]
   have hk:∀x∈l,Wp (pcE x)∧bS (pcE x)=txE x:=fun x hx=>zL n x (by have:=dR (.agg [.int i k,.int j m,.str s,.lst w T A c l]) x hx;omega) (h1 x hx)
   have hl:eu k m s (l.map pcE).length=true:=by rw [List.length_map];exact h2
   refine⟨yy (fun p hp=>?_) hl,?_⟩
   ·obtain⟨x,hx,rfl⟩:=List.mem_map.1 hp
    exact (hk x hx).1
   ·rw [sI hl,List.map_map]
    congr 1
    exact List.map_congr_left fun x hx=>(hk x hx).2
  ·cases h2
def sNode (k:Int)(s t:ByteArray)(ts:List ByteArray)(a b:ByteArray)(nb:Nat):ByteArray :=
 if k=1 then ((⟨#[112,114,105,110,116,32]⟩:ByteArray)++joC ts)++(⟨#[59]⟩:ByteArray)
 else if k=2 then ((s++(⟨#[32,61,32]⟩:ByteArray))++atB ts 0)++(⟨#[59]⟩:ByteArray)
 else if k=3 then ((((s++(⟨#[91]⟩:ByteArray))++atB ts 0)++(⟨#[93,32,61,32]⟩:ByteArray))++atB ts 1)++(⟨#[59]⟩:ByteArray)
 else if k=4 then ((((⟨#[36]⟩:ByteArray)++atB ts 0)++(⟨#[32,61,32]⟩:ByteArray))++atB ts 1)++(⟨#[59]⟩:ByteArray)
 else if k=5 then if nb=0 then (((⟨#[105,102,32,40]⟩:ByteArray)++atB ts 0)++(⟨#[41,32]⟩:ByteArray))++a else ((((⟨#[105,102,32,40]⟩:ByteArray)++atB ts 0)++(⟨#[41,32]⟩:ByteArray))++a)++((⟨#[32,101,108,115,101,32]⟩:ByteArray)++b)
 else if k=6 then (((⟨#[119,104,105,108,101,32,40]⟩:ByteArray)++atB ts 0)++(⟨#[41,32]⟩:ByteArray))++a
 else if k=7 then (((((⟨#[102,111,114,32,40]⟩:ByteArray)++s)++(⟨#[32,105,110,32]⟩:ByteArray))++t)++(⟨#[41,32]⟩:ByteArray))++a
 else if k=8 then (⟨#[110,101,120,116,59]⟩:ByteArray)
 else if k=9 then ((⟨#[101,120,105,116,32]⟩:ByteArray)++atB ts 0)++(⟨#[59]⟩:ByteArray)
 else if k=10 then ((⟨#[114,101,116,117,114,110,32]⟩:ByteArray)++atB ts 0)++(⟨#[59]⟩:ByteArray)
 else if k=11 then ((((⟨#[100,101,108,101,116,101,32]⟩:ByteArray)++s)++(⟨#[91]⟩:ByteArray))++atB ts 0)++(⟨#[93,59]⟩:ByteArray)
 else atB ts 0++(⟨#[59]⟩:ByteArray)
def blA (ts:List ByteArray):ByteArray:=ts.foldl (fun a t=>a++(t++⟨#[32]⟩)) (⟨#[123,32]⟩:ByteArray)
def blT (ts:List ByteArray):ByteArray:=blA ts++⟨#[125]⟩
def stF:Nat→E→ByteArray
 | 0,_=>ByteArray.empty
 | f+1,e=>match e with
  | .agg [.int _ k,.str s,.str t,.lst _ _ _ _ xs,.lst _ _ _ _ la,.lst _ _ _ _ lb]=>sNode k s t (xs.map txE) (blT (la.map (stF f))) (blT (lb.map (stF f))) lb.length
  | _=>ByteArray.empty
theorem kZ {b:Nat}{c:E→Nat}:∀(l:List E) (n:Nat),gpS b c l n≤b→∀x∈l,c x≤b
 | [],_,_,x,hx=>by cases hx
 | y :: r,n,h,x,hx=>by
  unfold gpS at h
  split at h
  ·have h1:=qS (b:=b) (c:=c) r (n+c y)
   rcases List.mem_cons.1 hx with rfl|hx
   ·omega
   ·exact kZ r _ h x hx
  ·omega
theorem m8 {e:E}(h:fq e=true):okX e=true:=by
 unfold fq at h
 rw [Bool.and_eq_true] at h
 exact h.2
def tkE (e:E):List T3:=bH (pcE e)
def lnP:List Pc→Nat
 | []=>0
 | p :: r=>(bH p).length+1+lnP r
theorem zM:∀ps:List Pc,(bH (jnP ps)).length≤lnP ps
 | []=>Nat.zero_le _
 | [x]=>by show (bH x).length≤(bH x).length+1+0;omega
 | x :: y :: r=>by
  have ih:=zM (y :: r)
  show (bH (x++(mkP ⟨#[44]⟩ :: none :: jnP (y :: r)))).length≤_
  rw [cK,List.length_append]
  show _+((bH (jnP (y :: r))).length+1)≤(bH x).length+1+lnP (y :: r)
  omega
theorem zr4:∀ps:List Pc,(bH (atP ps 0)).length+(bH (atP ps 1)).length≤lnP ps
 | []=>Nat.zero_le _
 | [x]=>by show (bH x).length+0≤(bH x).length+1+0;omega
 | x :: y :: r=>by show (bH x).length+(bH y).length≤(bH x).length+1+((bH y).length+1+lnP r);omega
theorem zl2 {c:Prop}[Decidable c]{a b:Pc}{n:Nat}(ha:(bH a).length≤n)(hb:(bH b).length≤n):(bH (if c then a else b)).length≤n:=by split<;>assumption
theorem zm2 (t:T3)(l:Pc):(bH (some t :: l)).length=(bH l).length+1:=rfl
theorem zn2 (l:Pc):(bH (none :: l)).length=(bH l).length:=rfl
theorem zs4:(bH []).length=0:=rfl
theorem wd (k n:Int)(s:ByteArray)(ps:List Pc):(bH (eZ k n s ps)).length≤8+lnP ps:=by
 have h1:=zM ps
 have h2:=zr4 ps
 have ha:∀a b:Pc,(bH (a++b)).length=(bH a).length+(bH b).length:=fun a b=>by rw [cK,List.length_append]
 unfold eZ mkP nmP rxP
 repeat' refine zl2 ?_ ?_
 all_goals
  simp only [zm2,zn2,zs4,ha]
  omega
def sumC (c:E→Nat):List E→Nat
 | []=>0
 | x :: r=>c x+sumC c r
theorem pU {b:Nat}{c:E→Nat}:∀(l:List E) (n:Nat),gpS b c l n≤b→gpS b c l n=n+sumC c l
 | [],n,_=>rfl
 | x :: r,n,h=>by
  unfold gpS at h ⊢
  split at h
  ·rename_i hn
   rw [if_pos hn,pU r _ h]
   simp only [sumC];omega
  ·omega
theorem zN:∀(f:Nat) (e:E),j3 100 dh f e≤100→(tkE e).length+1≤9*j3 100 dh f e
 | 0,e,h=>absurd h (by show ¬100+1≤100;omega)
 | f+1,e,h=>by
  have h1:gpS 100 (j3 100 dh f) (dh e) 1≤100:=h
  have h2:=pU _ _ h1
  show (tkE e).length+1≤9*gpS 100 (j3 100 dh f) (dh e) 1
  rw [h2]
  have hm:=kZ _ _ h1
  have key:∀r:List E,(∀x∈r,x∈dh e)→lnP (r.map pcE)≤9*sumC (j3 100 dh f) r:=fun r=>by
   induction r with
   | nil=>intro _;exact Nat.zero_le _
   | cons x r ih =>
    intro hr
    have i1:=ih fun y hy=>hr y (List.mem_cons_of_mem _ hy)
    have i2:=zN f x (hm x (hr x (List.mem_cons_self ..)))
    unfold tkE at i2
    simp only [List.map_cons,lnP,sumC]
    omega
  have hz:∀l:Pc,l=[]→(bH l).length=0:=fun l hl=>by subst hl;rfl
  unfold tkE
  by_cases hs:∃i k j m s w T A c l,e=.agg [.int i k,.int j m,.str s,.lst w T A c l]
  ·obtain⟨i,k,j,m,s,w,T,A,c,l,rfl⟩:=hs
   rw [gZ]
   have h3:=wd k m s (l.map pcE)
   have h4:=key l fun _ h=>h
   have h5:dh (.agg [.int i k,.int j m,.str s,.lst w T A c l])=l:=rfl
   rw [h5]
   omega
  ·have h0:pcE e=[]:=by
    unfold pcE pcF
    split
    ·rename_i i k j m s w T A c l
     exact absurd ⟨i,k,j,m,s,w,T,A,c,l,rfl⟩ hs
    ·rfl
   rw [h0]
   show 0+1≤_
   omega
theorem zt4 {e:E}(h:fq e=true):nx (txE e)=((tkE e).map T3.E,-1)∧(tkE e).length≤900:=by
 have hok:=m8 h
 unfold fq at h
 rw [Bool.and_eq_true,decide_eq_true_iff] at h
 have h1:=zN 10 e h.1
 obtain⟨h2,h3⟩:=zL (e.sz+1) e omq hok
 have h4:j3 100 dh 10 e≤100:=h.1
 have h5:=h2.2 none fun x hx=>by cases hx
 refine⟨?_,omq⟩
 rw [←h3]
 exact zk1 h5 (by unfold tkE at h1;omega)
structure RS where
 a:Nat
 b:Bool
 d:Nat
def RS.bd (r:RS):RS:=⟨r.a,true,r.d⟩
def RS.up (r:RS):RS:=⟨r.a+1,r.b,r.d⟩
def RS.or (r:RS)(c:Bool):RS:=⟨r.a,r.b||c,r.d⟩
def tAt (L:List T3)(a:Nat):T3:=L.getD a (0,0,ByteArray.empty)
def xE (k n:Int)(s:ByteArray)(l:List E):E:=.agg [.int .i64 k,.int .i64 n,.str s,.lst 4 26 none 0 l]
def zE:E:=xE 0 0 ByteArray.empty []
section
variable (L:List T3)
def m9 (r:RS)(k:Int)(s:ByteArray):Bool:=!r.b&&(decide (r.a<L.length)&&(decide ((tAt L r.a).1=k)&&decide ((tAt L r.a).2.2=s)))
def isS (r:RS)(k:Int)(s:ByteArray):Bool×RS:=if m9 L r k s=true then (true,r.up) else (false,r)
def mkS (r:RS)(s:ByteArray):RS:=if m9 L r 5 s=true then r.up else r.bd
def fF (r:RS)(k:Int):T3×RS:=if r.b=true∨¬r.a<L.length∨(tAt L r.a).1≠k then ((0,0,ByteArray.empty),r.bd) else (tAt L r.a,r.up)
def nameS (r:RS):ByteArray×RS:=((fF L r 2).1.2.2,if dK (fF L r 2).1.2.2=true then (fF L r 2).2 else (fF L r 2).2.bd)
variable (g:RS→E×RS)
def lstS:Nat→List E→RS→List E×RS
 | 0,l,r=>(l,r.bd)
 | n+1,l,r=>if r.b=true then (l,r) else if (isS L (g r).2 5 ⟨#[44]⟩).1=true then lstS n (l++[(g r).1]) (isS L (g r).2 5 ⟨#[44]⟩).2 else (l++[(g r).1],(g r).2)
def iT (m:Int)(r:RS):List E×RS :=
 if (isS L (mkS L r ⟨#[40]⟩) 5 ⟨#[41]⟩).1=true then ([],(isS L (mkS L r ⟨#[40]⟩) 5 ⟨#[41]⟩).2.or (decide (0<m)))
 else ((lstS L g (L.length+1) [] (mkS L r ⟨#[40]⟩)).1,(mkS L (lstS L g (L.length+1) [] (mkS L r ⟨#[40]⟩)).2 ⟨#[41]⟩).or (decide (0≤m)&&decide (((lstS L g (L.length+1) [] (mkS L r ⟨#[40]⟩)).1.length:Int)≠m)))
def inS (r:RS):E×RS :=
 if (isS L (g r).2 2 ⟨#[105,110]⟩).1=true then (xE 9 0 (nameS L (g r).2.up).1 [(g r).1],mkS L (nameS L (g r).2.up).2 ⟨#[41]⟩)
 else if (isS L (g r).2 5 ⟨#[126]⟩).1=true then (xE 10 0 (fF L (g r).2.up 4).1.2.2 [(g r).1],mkS L (fF L (g r).2.up 4).2 ⟨#[41]⟩)
 else (xE 6 0 (fF L (g r).2 5).1.2.2 [(g r).1,(g (fF L (g r).2 5).2).1],mkS L (g (fF L (g r).2 5).2).2 ⟨#[41]⟩)
def gsubS (r:RS):E×RS :=
 (xE 18 0 (fF L (mkS L (g (mkS L r ⟨#[40]⟩)).2 ⟨#[126]⟩) 4).1.2.2 [(g (mkS L r ⟨#[40]⟩)).1,(g (mkS L (fF L (mkS L (g (mkS L r ⟨#[40]⟩)).2 ⟨#[126]⟩) 4).2 ⟨#[44]⟩)).1],mkS L (g (mkS L (fF L (mkS L (g (mkS L r ⟨#[40]⟩)).2 ⟨#[126]⟩) 4).2 ⟨#[44]⟩)).2 ⟨#[41]⟩)
def jq (s:ByteArray)(r:RS):E×RS :=
 if s=⟨#[110,114]⟩ then (xE 14 0 ByteArray.empty [],r)
 else if s=⟨#[110,102]⟩ then (xE 15 0 ByteArray.empty [],r)
 else if s=⟨#[108,101,110,103,116,104]⟩ then (xE 12 0 ByteArray.empty (iT L g 1 r).1,(iT L g 1 r).2)
 else if s=⟨#[115,117,98,115,116,114]⟩ then (xE 13 0 ByteArray.empty (iT L g 3 r).1,(iT L g 3 r).2)
 else if s=⟨#[105,110,100,101,120]⟩ then (xE 16 0 ByteArray.empty (iT L g 2 r).1,(iT L g 2 r).2)
 else if s=⟨#[117,112,112,101,114]⟩ then (xE 17 0 ByteArray.empty (iT L g 1 r).1,(iT L g 1 r).2)
 else if s=⟨#[103,115,117,98]⟩ then gsubS L g r
 else if m9 L r 5 ⟨#[40]⟩=true then (xE 11 0 s (iT L g (-1) r).1,(iT L g (-1) r).2)
 else if m9 L r 5 ⟨#[91]⟩=true then (xE 4 0 s [(g r.up).1],mkS L (g r.up).2 ⟨#[93]⟩)
 else (xE 3 0 s [],r)
def fG (r:RS):E×RS :=
 if m9 L r 5 ⟨#[40]⟩=true then inS L g r.up
 else if m9 L r 5 ⟨#[36]⟩=true then (xE 5 0 ByteArray.empty [(g r.up).1],(g r.up).2)
 else if m9 L r 5 ⟨#[33]⟩=true then (xE 7 0 ByteArray.empty [(g r.up).1],(g r.up).2)
 else if m9 L r 5 ⟨#[45]⟩=true then (xE 8 0 ByteArray.empty [(g r.up).1],(g r.up).2)
 else if (tAt L r.a).1=1 then (xE 1 (fF L r 1).1.2.1 ByteArray.empty [],(fF L r 1).2)
 else if (tAt L r.a).1=3 then (xE 2 0 (fF L r 3).1.2.2 [],(fF L r 3).2)
 else jq L g (fF L r 2).1.2.2 (fF L r 2).2
end
def exS (L:List T3):Nat→RS→E×RS
 | 0,r=>(zE,r.bd)
 | f+1,r=>if 20<r.d+1∨r.b=true∨¬r.a<L.length then (zE,⟨r.a,true,r.d+1⟩) else ((fG L (exS L f) ⟨r.a,r.b,r.d+1⟩).1,⟨(fG L (exS L f) ⟨r.a,r.b,r.d+1⟩).2.a,(fG L (exS L f) ⟨r.a,r.b,r.d+1⟩).2.b,(fG L (exS L f) ⟨r.a,r.b,r.d+1⟩).2.d-1⟩)
def Con (L:List T3)(a:Nat)(l:List T3)(b:Nat):Prop:=L.drop a=l++L.drop b
theorem Con.trans {L:List T3}{a b c:Nat}{l m:List T3}(h:Con L a l b)(k:Con L b m c):Con L a (l++m) c:=by
 unfold Con at *
 rw [h,k,List.append_assoc]
def okL (L:List T3):Prop:=∀t∈L,cq t.1 t.2.1 t.2.2=true
theorem zO {L:List T3}(hL:okL L){a:Nat}(h:a<L.length):cq (tAt L a).1 (tAt L a).2.1 (tAt L a).2.2=true:=by
 unfold tAt
 rw [List.getD_eq_getElem?_getD,List.getElem?_eq_getElem h,Option.getD_some]
 exact hL _ (List.getElem_mem h)
def jtk (l:List E):List T3:=bH (jnP (l.map pcE))
theorem g8 (x:E){l:List E}(h:l≠[]):jtk (x :: l)=tkE x++(5,0,⟨#[44]⟩) :: jtk l:=by
 match l,h with
 | y :: r,_ =>
  show bH (pcE x++(mkP ⟨#[44]⟩ :: none :: jnP (pcE y :: r.map pcE)))=_
  rw [cK]
  rfl
theorem sX (k n:Int)(s:ByteArray)(l:List E):tkE (xE k n s l)=bH (eZ k n s (l.map pcE)):=by
 unfold tkE xE
 rw [gZ]
theorem tk_9 (s:ByteArray)(x:E):tkE (xE 9 0 s [x])=(5,0,⟨#[40]⟩) :: (tkE x++[(2,0,⟨#[105,110]⟩),(2,0,s),(5,0,⟨#[41]⟩)]):=by
 rw [sX]
 show (5,0,⟨#[40]⟩) :: bH (pcE x++[none,nmP ⟨#[105,110]⟩,none,nmP s,mkP ⟨#[41]⟩])=_
 rw [cK];rfl
theorem tk_10 (s:ByteArray)(x:E):tkE (xE 10 0 s [x])=(5,0,⟨#[40]⟩) :: (tkE x++[(5,0,⟨#[126]⟩),(4,0,s),(5,0,⟨#[41]⟩)]):=by
 rw [sX]
 show (5,0,⟨#[40]⟩) :: bH (pcE x++[none,mkP ⟨#[126]⟩,none,rxP s,mkP ⟨#[41]⟩])=_
 rw [cK];rfl
theorem tk_6 (s:ByteArray)(x y:E):tkE (xE 6 0 s [x,y])=(5,0,⟨#[40]⟩) :: (tkE x++((5,0,s) :: (tkE y++[(5,0,⟨#[41]⟩)]))):=by
 rw [sX]
 show (5,0,⟨#[40]⟩) :: bH (pcE x++(none :: mkP s :: none :: (pcE y++[mkP ⟨#[41]⟩])))=_
 rw [cK]
 show (5,0,⟨#[40]⟩) :: (tkE x++((5,0,s) :: bH (pcE y++[mkP ⟨#[41]⟩])))=_
 rw [cK];rfl
theorem tk_18 (s:ByteArray)(x y:E):tkE (xE 18 0 s [x,y])=(2,0,⟨#[103,115,117,98]⟩) :: (5,0,⟨#[40]⟩) :: (tkE x++((5,0,⟨#[126]⟩) :: (4,0,s) :: (5,0,⟨#[44]⟩) :: (tkE y++[(5,0,⟨#[41]⟩)]))):=by
 rw [sX]
 show (2,0,⟨#[103,115,117,98]⟩) :: (5,0,⟨#[40]⟩) :: bH (pcE x++(none :: mkP ⟨#[126]⟩ :: none :: rxP s :: mkP ⟨#[44]⟩ :: none :: (pcE y++[mkP ⟨#[41]⟩])))=_
 rw [cK]
 show (2,0,⟨#[103,115,117,98]⟩) :: (5,0,⟨#[40]⟩) :: (tkE x++((5,0,⟨#[126]⟩) :: (4,0,s) :: (5,0,⟨#[44]⟩) :: bH (pcE y++[mkP ⟨#[41]⟩])))=_
 rw [cK];rfl
theorem ft (w:ByteArray)(l:List E):bH (nmP w :: mkP ⟨#[40]⟩ :: (jnP (l.map pcE)++[mkP ⟨#[41]⟩]))=(2,0,w) :: (5,0,⟨#[40]⟩) :: (jtk l++[(5,0,⟨#[41]⟩)]):=by
 show (2,0,w) :: (5,0,⟨#[40]⟩) :: bH (jnP (l.map pcE)++[mkP ⟨#[41]⟩])=_
 rw [cK];rfl
end Go.Proofs.YtomolhbkdhjofaaGreatDoor
