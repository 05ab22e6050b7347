/- T -/
import Derived.Test.YtomolhbkdhjofaaGreatDoorParXAD
set_option maxHeartbeats 0
set_option maxRecDepth 100000
namespace Go.Proofs.YtomolhbkdhjofaaGreatDoor
open Go.RowKit Go.Proofs.Tryz
def mkP (m:ByteArray):Option T3:=some (5,0,m)
def nmP (w:ByteArray):Option T3:=some (2,0,w)
def rxP (s:ByteArray):Option T3:=some (4,0,s)
def jnP:List Pc→Pc
 | []=>[]
 | [x]=>x
 | x :: y :: r=>x++(mkP ⟨#[44]⟩ :: none :: jnP (y :: r))
def atP (ps:List Pc)(k:Nat):Pc:=ps.getD k []
def fG (k n:Int)(s:ByteArray)(ps:List Pc):Pc :=
 if k=1 then [some (1,n,ByteArray.empty)]
 else if k=2 then [some (3,0,s)]
 else if k=3 then [nmP s]
 else if k=4 then nmP s :: mkP ⟨#[91]⟩ :: (jnP ps++[mkP ⟨#[93]⟩])
 else if k=5 then mkP ⟨#[36]⟩ :: jnP ps
 else if k=6 then mkP ⟨#[40]⟩ :: (atP ps 0++(none :: mkP s :: none :: (atP ps 1++[mkP ⟨#[41]⟩])))
 else if k=7 then mkP ⟨#[33]⟩ :: jnP ps
 else if k=8 then mkP ⟨#[45]⟩ :: jnP ps
 else if k=9 then mkP ⟨#[40]⟩ :: (jnP ps++[none,nmP ⟨#[105,110]⟩,none,nmP s,mkP ⟨#[41]⟩])
 else if k=10 then mkP ⟨#[40]⟩ :: (jnP ps++[none,mkP ⟨#[126]⟩,none,rxP s,mkP ⟨#[41]⟩])
 else if k=11 then nmP s :: mkP ⟨#[40]⟩ :: (jnP ps++[mkP ⟨#[41]⟩])
 else if k=12 then nmP ⟨#[108,101,110,103,116,104]⟩ :: mkP ⟨#[40]⟩ :: (jnP ps++[mkP ⟨#[41]⟩])
 else if k=13 then nmP ⟨#[115,117,98,115,116,114]⟩ :: mkP ⟨#[40]⟩ :: (jnP ps++[mkP ⟨#[41]⟩])
 else if k=14 then [nmP ⟨#[110,114]⟩]
 else if k=15 then [nmP ⟨#[110,102]⟩]
 else if k=16 then nmP ⟨#[105,110,100,101,120]⟩ :: mkP ⟨#[40]⟩ :: (jnP ps++[mkP ⟨#[41]⟩])
 else if k=17 then nmP ⟨#[117,112,112,101,114]⟩ :: mkP ⟨#[40]⟩ :: (jnP ps++[mkP ⟨#[41]⟩])
 else nmP ⟨#[103,115,117,98]⟩ :: mkP ⟨#[40]⟩ :: (atP ps 0++(none :: mkP ⟨#[126]⟩ :: none :: rxP s :: mkP ⟨#[44]⟩ :: none :: (atP ps 1++[mkP ⟨#[41]⟩])))
def pcF:Nat→E→Pc
 | 0,_=>[]
 | f+1,e=>match e with
  | .agg [.int _ k,.int _ n,.str s,.lst _ _ _ _ l]=>fG k n s (l.map (pcF f))
  | _=>[]
def pcE (e:E):Pc:=pcF (e.sz+1) e
theorem xj:∀(n f:Nat) (e:E),e.sz<n→e.sz<f→pcF f e=pcE e
 | 0,_,_,h,_=>absurd h (Nat.not_lt_zero _)
 | n+1,0,_,_,h=>absurd h (Nat.not_lt_zero _)
 | n+1,f+1,e,h1,h2=>by
  have key:∀x∈dv e,pcF f x=pcF e.sz x:=fun x hx=>by
   have hs:=ei e x hx
   rw [xj n f x omq omq,xj n e.sz x omq hs]
  unfold pcE
  unfold pcF
  split
  ·rename_i k n' s T A c m l
   congr 1
   exact List.map_congr_left key
  ·rfl
theorem ii (i j:IntKind)(k n:Int)(s:ByteArray)(w:Nat)(T:TypeId)(A:Option Addr)(c:Nat)(l:List E):pcE (.agg [.int i k,.int j n,.str s,.lst w T A c l])=fG k n s (l.map pcE):=by
 show fG k n s (l.map (pcF (E.sz (.agg [.int i k,.int j n,.str s,.lst w T A c l]))))=_
 congr 1
 refine List.map_congr_left fun x hx=>?_
 exact xj (x.sz+1) _ x omq (ei _ x hx)
def clD (d:Option Nat):Prop:=∀x,d=some x→ldB x=false
def Wp (p:Pc):Prop:=(∃x l,p=x :: l∧bAt (pcT x) 0≠61)∧∀d,clD d→okP false p d false
theorem gV {x:Nat}(h:ldB x=false):clD (some x):=fun y hy=>by injection hy with hy;subst hy;exact h
theorem xk {p:Pc}(h:Wp p)(d:Option Nat):∃x,y7 p d=some x∧x≠61:=by
 obtain⟨⟨x,l,rfl,h2⟩,-⟩:=h
 exact⟨_,rfl,h2⟩
theorem jM {c:Nat}{m:ByteArray}(hm:m.size=1)(hc:bAt m 0=c)(h:¬(c=60∨c=61∨c=33∨c=62∨c=38∨c=124))(d:Option Nat):wa (5,0,m) d=true:=by
 cases d with
 | none=>rfl
 | some x =>
  show ir (5,0,m) x=true
  unfold ir
  rw [if_neg (show ¬(5:Int)=1 by decide),if_neg (show ¬(5:Int)=2 by decide),if_pos ⟨rfl,hm⟩]
  dsimp only
  rw [hc]
  have:nE c x=false:=by
   simp only [nE]
   simp
   omega
  rw [this];rfl
theorem pr {w:ByteArray}{d:Option Nat}(h:clD d):wa (2,0,w) d=true:=by
 cases d with
 | none=>rfl
 | some x =>
  show ir (2,0,w) x=true
  unfold ir
  rw [if_neg (show ¬(2:Int)=1 by decide),if_pos rfl,h x rfl];rfl
theorem stopI {n:Int}{d:Option Nat}(h:clD d):wa (1,n,ByteArray.empty) d=true:=by
 cases d with
 | none=>rfl
 | some x =>
  show ir (1,n,ByteArray.empty) x=true
  unfold ir
  rw [if_pos rfl]
  have:=h x rfl
  simp only [ldB,Bool.or_eq_false_iff] at this
  rw [this.2];rfl
theorem gM {r:Bool}{m:ByteArray}(h:bP 5 0 m=true)(h2:r=false):good r (5,0,m):=⟨h,fun h=>by dsimp only at h;omega,fun _ _=>h2⟩
theorem gN {r:Bool}{w:ByteArray}(h:dD w=true):good r (2,0,w):=⟨by simp [bP,h],fun h=>by dsimp only at h;omega,fun h=>by dsimp only at h;omega⟩
theorem pu:∀{ps:List Pc},(∀p∈ps,Wp p)→∀d,clD d→okP false (jnP ps) d false
 | [],_,d,_=>rfl
 | [x],h,d,hd=>(h x (List.mem_cons_self ..)).2 d hd
 | x :: y :: r,h,d,hd=>ft ((h x (List.mem_cons_self ..)).2 _ (gV (x:=44) rfl)) ⟨gM (by decide) rfl,jM (c:=44) rfl rfl omq _,pu (ps:=y :: r) (fun p hp=>h p (List.mem_cons_of_mem _ hp)) d hd⟩
theorem zo7 {ps:List Pc}(h:∀p∈ps,Wp p)(hne:ps≠[])(d:Option Nat):∃x,y7 (jnP ps) d=some x∧x≠61:=by
 match ps,hne with
 | [x],_=>exact xk (h x (List.mem_cons_self ..)) d
 | x :: y :: r,_ =>
  show ∃z,y7 (x++_) d=some z∧z≠61
  rw [r7]
  exact xk (h x (List.mem_cons_self ..)) _
theorem zp7:∀o∈mV,∃s,o=.str s∧bP 5 0 s=true∧ou 5 s=false:=by
 intro o ho
 unfold mV tE at ho
 obtain⟨s,hs,rfl⟩:=List.mem_map.1 ho
 refine⟨s,rfl,?_⟩
 clear ho
 revert s
 decide
theorem qP {s:ByteArray}(h:lL mV s=true):bP 5 0 s=true∧ou 5 s=false:=by
 unfold lL at h
 rw [List.any_eq_true] at h
 obtain⟨o,ho,he⟩:=h
 obtain⟨t,rfl,h1,h2⟩:=zp7 o ho
 rw [bytes_beq,decide_eq_true_iff] at he
 have he':s=t:=he
 subst he'
 exact⟨h1,h2⟩
theorem em {x:Option T3}{l:Pc}(h0:bAt (pcT x) 0≠61)(h:∀d,clD d→okP false (x :: l) d false):Wp (x :: l):=⟨⟨x,l,rfl,h0⟩,h⟩
theorem mY {w:ByteArray}(h:dD w=true):bAt (pcT (nmP w)) 0≠61:=by
 have hT:pcT (nmP w)=w:=by
  show tkT 2 0 w=w
  unfold tkT
  rw [if_pos (by simp [bP,h]),if_neg (by decide),if_neg (by decide),if_neg (by decide)]
 rw [hT]
 simp only [dD,gC,Bool.and_eq_true,decide_eq_true_iff] at h
 omega
theorem lN {w:ByteArray}{ps:List Pc}(hw:dD w=true)(h:∀p∈ps,Wp p):Wp (nmP w :: mkP ⟨#[40]⟩ :: (jnP ps++[mkP ⟨#[41]⟩])) :=
 em (mY hw) fun d hd=>⟨gN hw,pr (gV (x:=40) rfl),gM (by decide) rfl,jM (c:=40) rfl rfl omq _,ft (pu h _ (gV (x:=41) rfl)) ⟨gM (by decide) rfl,jM (c:=41) rfl rfl omq _,rfl⟩⟩
theorem jN {s:ByteArray}(h:dT s=true):dD s=true:=by
 unfold dT at h
 rw [Bool.and_eq_true] at h
 exact h.1
theorem zS {k n:Int}{s:ByteArray}{ps:List Pc}(h:∀p∈ps,Wp p)(hh:eP k n s ps.length=true):Wp (fG k n s ps):=by
 unfold eP at hh
 by_cases k1:k=1
 ·subst k1
  rw [if_pos rfl] at hh
  simp only [inR,Bool.and_eq_true,decide_eq_true_iff] at hh
  have hn:0≤n∧n≤2147483647:=by omega
  have ho:bP 1 n ByteArray.empty=true:=by
   have:ByteArray.empty.size=0:=rfl
   simp [bP,hn,this]
  refine em ?_ fun d hd=>⟨⟨ho,fun h=>by dsimp only at h;omega,fun h=>by dsimp only at h;omega⟩,stopI hd,rfl⟩
  have hT:pcT (some (1,n,ByteArray.empty))=i6 n:=by
   show tkT 1 n ByteArray.empty=_
   unfold tkT
   rw [if_pos ho,if_pos rfl]
  rw [hT]
  have h2:=qz hn.1
  have h3:=qA hn.1
  simp only [jW,decide_eq_true_iff] at h2
  have:=h2 0 omq
  simp only [cF,Bool.and_eq_true,decide_eq_true_iff] at this
  omega
 rw [if_neg k1,Bool.and_eq_true] at hh
 replace hh:=hh.2
 have c41:clD (some 41):=gV rfl
 have c93:clD (some 93):=gV rfl
 have c32:clD (some 32):=gV rfl
 have g41:∀d r',r'=false→okP false [mkP ⟨#[41]⟩] d r':=fun d r' h=>⟨gM (by decide) rfl,jM (c:=41) rfl rfl omq _,by rw [h];rfl⟩
 by_cases k2:k=2
 ·subst k2
  rw [if_pos rfl,Bool.and_eq_true] at hh
  have ho:bP 3 0 s=true:=by simp [bP,hh.1]
  refine em ?_ fun d hd=>⟨⟨ho,fun h=>by dsimp only at h;omega,fun h=>by dsimp only at h;omega⟩,?_,rfl⟩
  ·have hT:pcT (some (3,0,s))=(⟨#[39]⟩++s)++⟨#[39]⟩:=by
    show tkT 3 0 s=_
    unfold tkT
    rw [if_pos ho,if_neg (by decide),if_pos rfl]
   rw [hT,fd (by rw [ByteArray.size_append'];show 0<1+_;omega),fd (by show 0<1;omega)]
   decide
  ·cases d with
   | none=>rfl
   | some x=>rfl
 rw [if_neg k2] at hh
 by_cases k3:k=3
 ·subst k3
  rw [if_pos rfl,Bool.and_eq_true] at hh
  have hw:=jN hh.1
  exact em (mY hw) fun d hd=>⟨gN hw,pr hd,rfl⟩
 rw [if_neg k3] at hh
 by_cases k4:k=4∨k=9
 ·rw [if_pos k4,Bool.and_eq_true] at hh
  have hw:=jN hh.1
  rcases k4 with rfl|rfl
  ·exact em (mY hw) fun d hd=>⟨gN hw,pr (gV (x:=91) rfl),gM (by decide) rfl,jM (c:=91) rfl rfl omq _,ft (pu h _ c93) ⟨gM (by decide) rfl,jM (c:=93) rfl rfl omq _,rfl⟩⟩
  ·refine em (by decide) fun d hd=>⟨gM (by decide) rfl,jM (c:=40) rfl rfl omq _,ft (pu h _ c32) ?_⟩
   exact⟨gN (by decide),pr c32,gN hw,pr c41,g41 d false rfl⟩
 rw [if_neg k4] at hh
 by_cases k5:k=5∨k=7∨k=8∨k=12∨k=17
 ·rw [if_pos k5,Bool.and_eq_true] at hh
  have hne:ps≠[]:=fun h0=>by subst h0;exact absurd hh.2 (by decide)
  rcases k5 with rfl|rfl|rfl|rfl|rfl
  ·exact em (by decide) fun d hd=>⟨gM (by decide) rfl,jM (c:=36) rfl rfl omq _,pu h d hd⟩
  ·refine em (by decide) fun d hd=>⟨gM (by decide) rfl,?_,pu h d hd⟩
   obtain⟨x,hx,hx61⟩:=zo7 h hne d
   rw [hx]
   show ir (5,0,⟨#[33]⟩) x=true
   unfold ir
   rw [if_neg (by decide),if_neg (by decide),if_pos ⟨rfl,rfl⟩]
   have:nE (bAt (⟨#[33]⟩:ByteArray) 0) x=false:=by
    show nE 33 x=false
    simp [nE,hx61]
   rw [this];rfl
  ·exact em (by decide) fun d hd=>⟨gM (by decide) rfl,jM (c:=45) rfl rfl omq _,pu h d hd⟩
  ·exact lN (by decide) h
  ·exact lN (by decide) h
 rw [if_neg k5] at hh
 have at0:1≤ps.length→Wp (atP ps 0):=fun hl=>by
  unfold atP
  rw [List.getD_eq_getElem?_getD,List.getElem?_eq_getElem omq,Option.getD_some]
  exact h _ (List.getElem_mem _)
 have at1:2≤ps.length→Wp (atP ps 1):=fun hl=>by
  unfold atP
  rw [List.getD_eq_getElem?_getD,List.getElem?_eq_getElem omq,Option.getD_some]
  exact h _ (List.getElem_mem _)
 by_cases k6:k=6
 ·subst k6
  rw [if_pos rfl,Bool.and_eq_true,beq_iff_eq] at hh
  obtain⟨ho,ht⟩:=qP hh.1
  have w0:=at0 omq
  have w1:=at1 omq
  refine em (by decide) fun d hd=>⟨gM (by decide) rfl,jM (c:=40) rfl rfl omq _,ft (w0.2 _ c32) ?_⟩
  refine⟨gM ho rfl,wb ho,?_⟩
  rw [ht]
  exact ft (w1.2 _ c41) (g41 d false rfl)
 rw [if_neg k6] at hh
 by_cases k10:k=10
 ·subst k10
  rw [if_pos rfl,Bool.and_eq_true] at hh
  have hr:=n6 hh.2
  refine em (by decide) fun d hd=>⟨gM (by decide) rfl,jM (c:=40) rfl rfl omq _,ft (pu h _ c32) ?_⟩
  exact⟨gM (by decide) rfl,wb (t:=(5,0,⟨#[126]⟩)) (by decide),⟨hr,fun _=>by decide,fun h=>by dsimp only at h;omega⟩,by rfl,g41 d false rfl⟩
 rw [if_neg k10] at hh
 by_cases k18:k=18
 ·subst k18
  rw [if_pos rfl,Bool.and_eq_true,beq_iff_eq] at hh
  have hr:=n6 hh.2
  have w0:=at0 omq
  have w1:=at1 omq
  refine em (mY (by decide)) fun d hd=>⟨gN (by decide),pr (gV (x:=40) rfl),gM (by decide) rfl,jM (c:=40) rfl rfl omq _,ft (w0.2 _ c32) ?_⟩
  refine⟨gM (by decide) rfl,wb (t:=(5,0,⟨#[126]⟩)) (by decide),⟨hr,fun _=>by decide,fun h=>by dsimp only at h;omega⟩,by rfl,?_⟩
  exact⟨gM (by decide) rfl,jM (c:=44) rfl rfl omq _,ft (w1.2 _ c41) (g41 d false rfl)⟩
 rw [if_neg k18] at hh
 by_cases k11:k=11
 ·subst k11
  rw [if_pos rfl,Bool.and_eq_true] at hh
  exact lN (jN hh.1) h
 rw [if_neg k11] at hh
 by_cases k13:k=13
 ·subst k13
  exact lN (by decide) h
 rw [if_neg k13] at hh
 by_cases k14:k=14∨k=15
 ·rcases k14 with rfl|rfl
  ·exact em (mY (by decide)) fun d hd=>⟨gN (by decide),pr hd,rfl⟩
  ·exact em (mY (by decide)) fun d hd=>⟨gN (by decide),pr hd,rfl⟩
 rw [if_neg k14] at hh
 by_cases k16:k=16
 ·subst k16
  exact lN (by decide) h
 rw [if_neg k16] at hh
 cases hh
theorem gI {m:ByteArray}(h:bP 5 0 m=true):pcT (mkP m)=m:=by
 show tkT 5 0 m=m
 unfold tkT
 rw [if_pos h,if_neg (by decide),if_neg (by decide),if_neg (by decide)]
theorem pv {w:ByteArray}(h:dD w=true):pcT (nmP w)=w:=by
 show tkT 2 0 w=w
 unfold tkT
 rw [if_pos (by simp [bP,h]),if_neg (by decide),if_neg (by decide),if_neg (by decide)]
theorem pc_rx {s:ByteArray}(h:bP 4 0 s=true):pcT (rxP s)=(⟨#[47]⟩++s)++⟨#[47]⟩:=by
 show tkT 4 0 s=_
 unfold tkT
 rw [if_pos h,if_neg (by decide),if_neg (by decide),if_pos rfl]
theorem bQ (x:Option T3)(l:Pc):bY (x :: l)=pcT x++bY l:=rfl
theorem mZ:bY []=ByteArray.empty:=rfl
theorem lO:pcT none=⟨#[32]⟩:=rfl
theorem pw (a b:List UInt8):(⟨(a++b).toArray⟩:ByteArray)=⟨a.toArray⟩++⟨b.toArray⟩:=(ByteArray.mk_append_mk a b).symm
theorem jO:∀ps:List Pc,bY (jnP ps)=joC (ps.map bY)
 | []=>rfl
 | [x]=>by rw [List.map_cons,List.map_nil,wR];rfl
 | x :: y :: r=>by
  have ih:=jO (y :: r)
  rw [List.map_cons] at ih
  rw [List.map_cons,List.map_cons,pm,←ih]
  show bY (x++(mkP ⟨#[44]⟩ :: none :: jnP (y :: r)))=_
  rw [dS,bQ,bQ,gI (by decide),lO,show (⟨#[44,32]⟩:ByteArray)=⟨#[44]⟩++⟨#[32]⟩ from pw [44] [32]]
  simp only [ByteArray.append_assoc]
theorem n7 (ps:List Pc)(k:Nat):bY (atP ps k)=atB (ps.map bY) k:=by
 unfold atP atB
 rw [List.getD_eq_getElem?_getD,List.getD_eq_getElem?_getD,List.getElem?_map]
 cases ps[k]? with
 | none=>rfl
 | some x=>rfl
theorem lP {w:ByteArray}{ps:List Pc}(hw:dD w=true):bY (nmP w :: mkP ⟨#[40]⟩ :: (jnP ps++[mkP ⟨#[41]⟩]))=((w++⟨#[40]⟩)++joC (ps.map bY))++⟨#[41]⟩:=by
 rw [bQ,bQ,dS,bQ,mZ,pv hw,gI (by decide),gI (by decide),jO,ByteArray.append_empty]
 simp only [ByteArray.append_assoc]
theorem xm {m:ByteArray}{ps:List Pc}(h:bP 5 0 m=true):bY (mkP m :: jnP ps)=m++joC (ps.map bY):=by
 rw [bQ,gI h,jO]
theorem tQ {k n:Int}{s:ByteArray}{ps:List Pc}(hh:eP k n s ps.length=true):bY (fG k n s ps)=qO k n s (ps.map bY):=by
 unfold eP at hh
 by_cases k1:k=1
 ·subst k1
  rw [if_pos rfl] at hh
  simp only [inR,Bool.and_eq_true,decide_eq_true_iff] at hh
  have hn:0≤n∧n≤2147483647:=by omega
  have ho:bP 1 n ByteArray.empty=true:=by
   have:ByteArray.empty.size=0:=rfl
   simp [bP,hn,this]
  show tkT 1 n ByteArray.empty++ByteArray.empty=i6 n
  unfold tkT
  rw [if_pos ho,if_pos rfl,ByteArray.append_empty]
 rw [if_neg k1,Bool.and_eq_true] at hh
 replace hh:=hh.2
 by_cases k2:k=2
 ·subst k2
  rw [if_pos rfl,Bool.and_eq_true] at hh
  have ho:bP 3 0 s=true:=by simp [bP,hh.1]
  show tkT 3 0 s++ByteArray.empty=(⟨#[39]⟩++s)++⟨#[39]⟩
  unfold tkT
  rw [if_pos ho,if_neg (by decide),if_pos rfl,ByteArray.append_empty]
 rw [if_neg k2] at hh
 by_cases k3:k=3
 ·subst k3
  rw [if_pos rfl,Bool.and_eq_true] at hh
  show pcT (nmP s)++ByteArray.empty=s
  rw [pv (jN hh.1),ByteArray.append_empty]
 rw [if_neg k3] at hh
 by_cases k4:k=4∨k=9
 ·rw [if_pos k4,Bool.and_eq_true] at hh
  have hw:=jN hh.1
  rcases k4 with rfl|rfl
  ·show bY (nmP s :: mkP ⟨#[91]⟩ :: (jnP ps++[mkP ⟨#[93]⟩]))=((s++⟨#[91]⟩)++joC (ps.map bY))++⟨#[93]⟩
   rw [bQ,bQ,dS,bQ,mZ,pv hw,gI (by decide),gI (by decide),jO,ByteArray.append_empty]
   simp only [ByteArray.append_assoc]
  ·show bY (mkP ⟨#[40]⟩ :: (jnP ps++[none,nmP ⟨#[105,110]⟩,none,nmP s,mkP ⟨#[41]⟩]))=(((⟨#[40]⟩++joC (ps.map bY))++⟨#[32,105,110,32]⟩)++s)++⟨#[41]⟩
   rw [bQ,dS,bQ,bQ,bQ,bQ,bQ,mZ,pv hw,pv (by decide),gI (by decide),gI (by decide),lO,jO,ByteArray.append_empty,show (⟨#[32,105,110,32]⟩:ByteArray)=⟨#[32]⟩++⟨#[105,110,32]⟩ from pw [32] [105,110,32],show (⟨#[105,110,32]⟩:ByteArray)=⟨#[105,110]⟩++⟨#[32]⟩ from pw [105,110] [32]]
   simp only [ByteArray.append_assoc]
 rw [if_neg k4] at hh
 by_cases k5:k=5∨k=7∨k=8∨k=12∨k=17
 ·rcases k5 with rfl|rfl|rfl|rfl|rfl
  ·exact xm (by decide)
  ·exact xm (by decide)
  ·exact xm (by decide)
  ·show bY _=(⟨#[108,101,110,103,116,104,40]⟩++joC (ps.map bY))++⟨#[41]⟩
   rw [show (⟨#[108,101,110,103,116,104,40]⟩:ByteArray)=⟨#[108,101,110,103,116,104]⟩++⟨#[40]⟩ from pw [108,101,110,103,116,104] [40]]
   exact lP (by decide)
  ·show bY _=(⟨#[117,112,112,101,114,40]⟩++joC (ps.map bY))++⟨#[41]⟩
   rw [show (⟨#[117,112,112,101,114,40]⟩:ByteArray)=⟨#[117,112,112,101,114]⟩++⟨#[40]⟩ from pw [117,112,112,101,114] [40]]
   exact lP (by decide)
 rw [if_neg k5] at hh
 by_cases k6:k=6
 ·subst k6
  rw [if_pos rfl,Bool.and_eq_true,beq_iff_eq] at hh
  obtain⟨ho,ht⟩:=qP hh.1
  show bY (mkP ⟨#[40]⟩ :: (atP ps 0++(none :: mkP s :: none :: (atP ps 1++[mkP ⟨#[41]⟩]))))=(((((⟨#[40]⟩++atB (ps.map bY) 0)++⟨#[32]⟩)++s)++⟨#[32]⟩)++atB (ps.map bY) 1)++⟨#[41]⟩
  rw [bQ,dS,bQ,bQ,bQ,dS,bQ,mZ,gI ho,gI (by decide),gI (by decide),lO,n7,n7,ByteArray.append_empty]
  simp only [ByteArray.append_assoc]
 rw [if_neg k6] at hh
 by_cases k10:k=10
 ·subst k10
  rw [if_pos rfl,Bool.and_eq_true] at hh
  have hr:=n6 hh.2
  show bY (mkP ⟨#[40]⟩ :: (jnP ps++[none,mkP ⟨#[126]⟩,none,rxP s,mkP ⟨#[41]⟩]))=(((⟨#[40]⟩++joC (ps.map bY))++⟨#[32,126,32,47]⟩)++s)++⟨#[47,41]⟩
  rw [bQ,dS,bQ,bQ,bQ,bQ,bQ,mZ,pc_rx hr,gI (by decide),gI (by decide),gI (by decide),lO,jO,ByteArray.append_empty,show (⟨#[32,126,32,47]⟩:ByteArray)=⟨#[32]⟩++⟨#[126,32,47]⟩ from pw [32] [126,32,47],show (⟨#[126,32,47]⟩:ByteArray)=⟨#[126]⟩++⟨#[32,47]⟩ from pw [126] [32,47],show (⟨#[32,47]⟩:ByteArray)=⟨#[32]⟩++⟨#[47]⟩ from pw [32] [47],show (⟨#[47,41]⟩:ByteArray)=⟨#[47]⟩++⟨#[41]⟩ from pw [47] [41]]
  simp only [ByteArray.append_assoc]
 rw [if_neg k10] at hh
 by_cases k18:k=18
 ·subst k18
  rw [if_pos rfl,Bool.and_eq_true] at hh
  have hr:=n6 hh.2
  show bY (nmP ⟨#[103,115,117,98]⟩ :: mkP ⟨#[40]⟩ :: (atP ps 0++(none :: mkP ⟨#[126]⟩ :: none :: rxP s :: mkP ⟨#[44]⟩ :: none :: (atP ps 1++[mkP ⟨#[41]⟩]))))=(((((⟨#[103,115,117,98,40]⟩++atB (ps.map bY) 0)++⟨#[32,126,32,47]⟩)++s)++⟨#[47,44,32]⟩)++atB (ps.map bY) 1)++⟨#[41]⟩
  rw [bQ,bQ,dS,bQ,bQ,bQ,bQ,bQ,bQ,dS,bQ,mZ,pc_rx hr,pv (by decide),gI (by decide),gI (by decide),gI (by decide),gI (by decide),lO,n7,n7,ByteArray.append_empty,show (⟨#[32,126,32,47]⟩:ByteArray)=⟨#[32]⟩++⟨#[126,32,47]⟩ from pw [32] [126,32,47],show (⟨#[126,32,47]⟩:ByteArray)=⟨#[126]⟩++⟨#[32,47]⟩ from pw [126] [32,47],show (⟨#[32,47]⟩:ByteArray)=⟨#[32]⟩++⟨#[47]⟩ from pw [32] [47],show (⟨#[47,44,32]⟩:ByteArray)=⟨#[47]⟩++⟨#[44,32]⟩ from pw [47] [44,32],show (⟨#[44,32]⟩:ByteArray)=⟨#[44]⟩++⟨#[32]⟩ from pw [44] [32],show (⟨#[103,115,117,98,40]⟩:ByteArray)=⟨#[103,115,117,98]⟩++⟨#[40]⟩ from pw [103,115,117,98] [40]]
  simp only [ByteArray.append_assoc]
 rw [if_neg k18] at hh
 by_cases k11:k=11
 ·subst k11
  rw [if_pos rfl,Bool.and_eq_true] at hh
  exact lP (jN hh.1)
 rw [if_neg k11] at hh
 by_cases k13:k=13
 ·subst k13
  show bY _=(⟨#[115,117,98,115,116,114,40]⟩++joC (ps.map bY))++⟨#[41]⟩
  rw [show (⟨#[115,117,98,115,116,114,40]⟩:ByteArray)=⟨#[115,117,98,115,116,114]⟩++⟨#[40]⟩ from pw [115,117,98,115,116,114] [40]]
  exact lP (by decide)
 rw [if_neg k13] at hh
 by_cases k14:k=14∨k=15
 ·rcases k14 with rfl|rfl
  ·show pcT (nmP ⟨#[110,114]⟩)++ByteArray.empty=⟨#[110,114]⟩
   rw [pv (by decide),ByteArray.append_empty]
  ·show pcT (nmP ⟨#[110,102]⟩)++ByteArray.empty=⟨#[110,102]⟩
   rw [pv (by decide),ByteArray.append_empty]
 rw [if_neg k14] at hh
 by_cases k16:k=16
 ·subst k16
  show bY _=(⟨#[105,110,100,101,120,40]⟩++joC (ps.map bY))++⟨#[41]⟩
  rw [show (⟨#[105,110,100,101,120,40]⟩:ByteArray)=⟨#[105,110,100,101,120]⟩++⟨#[40]⟩ from pw [105,110,100,101,120] [40]]
  exact lP (by decide)
 rw [if_neg k16] at hh
 cases hh
theorem kH {e:E}(h:okX e=true):(∀x∈dv e,okX x=true)∧nW e=true:=by
 unfold okX at h
 rw [kD ei,Bool.and_eq_true,List.all_eq_true] at h
 exact h
theorem zb2:∀(n:Nat) (e:E),e.sz<n→okX e=true→Wp (pcE e)∧bY (pcE e)=txE e
 | 0,_,h,_=>absurd h (Nat.not_lt_zero _)
 | n+1,e,h,hok=>by
  obtain⟨h1,h2⟩:=kH hok
  unfold nW at h2
  split at h2
  ·rename_i i k j m s w T A c l
   rw [ii,nX]
   have hk:∀x∈l,Wp (pcE x)∧bY (pcE x)=txE x:=fun x hx=>zb2 n x (by have:=ei (.agg [.int i k,.int j m,.str s,.lst w T A c l]) x hx;omega) (h1 x hx)
   have hl:eP k m s (l.map pcE).length=true:=by rw [List.length_map];exact h2
   refine⟨zS (fun p hp=>?_) hl,?_⟩
   ·obtain⟨x,hx,rfl⟩:=List.mem_map.1 hp
    exact (hk x hx).1
   ·rw [tQ hl,List.map_map]
    congr 1
    exact List.map_congr_left fun x hx=>(hk x hx).2
  ·cases h2
theorem lQ {b:Nat}{c:E→Nat}:∀(l:List E) (n:Nat),gpS b c l n≤b→∀x∈l,c x≤b
 | [],_,_,x,hx=>by cases hx
 | y :: r,n,h,x,hx=>by
  unfold gpS at h
  split at h
  ·have h1:=r9 (b:=b) (c:=c) r (n+c y)
   rcases List.mem_cons.1 hx with rfl|hx
   ·omega
   ·exact lQ r _ h x hx
  ·omega
theorem n8 {e:E}(h:fx e=true):okX e=true:=by
 unfold fx at h
 rw [Bool.and_eq_true] at h
 exact h.2
def tkE (e:E):List T3:=bK (pcE e)
def lnP:List Pc→Nat
 | []=>0
 | p :: r=>(bK p).length+1+lnP r
theorem zc2:∀ps:List Pc,(bK (jnP ps)).length≤lnP ps
 | []=>Nat.zero_le _
 | [x]=>by show (bK x).length≤(bK x).length+1+0;omega
 | x :: y :: r=>by
  have ih:=zc2 (y :: r)
  show (bK (x++(mkP ⟨#[44]⟩ :: none :: jnP (y :: r)))).length≤_
  rw [cQ,List.length_append]
  show _+((bK (jnP (y :: r))).length+1)≤(bK x).length+1+lnP (y :: r)
  omega
theorem zq7:∀ps:List Pc,(bK (atP ps 0)).length+(bK (atP ps 1)).length≤lnP ps
 | []=>Nat.zero_le _
 | [x]=>by show (bK x).length+0≤(bK x).length+1+0;omega
 | x :: y :: r=>by show (bK x).length+(bK y).length≤(bK x).length+1+((bK y).length+1+lnP r);omega
theorem zi5 {c:Prop}[Decidable c]{a b:Pc}{n:Nat}(ha:(bK a).length≤n)(hb:(bK b).length≤n):(bK (if c then a else b)).length≤n:=by split<;>assumption
theorem zj5 (t:T3)(l:Pc):(bK (some t :: l)).length=(bK l).length+1:=rfl
theorem zk5 (l:Pc):(bK (none :: l)).length=(bK l).length:=rfl
theorem zr7:(bK []).length=0:=rfl
theorem xn (k n:Int)(s:ByteArray)(ps:List Pc):(bK (fG k n s ps)).length≤8+lnP ps:=by
 have h1:=zc2 ps
 have h2:=zq7 ps
 have ha:∀a b:Pc,(bK (a++b)).length=(bK a).length+(bK b).length:=fun a b=>by rw [cQ,List.length_append]
 unfold fG mkP nmP rxP
 repeat' refine zi5 ?_ ?_
 all_goals
  simp only [zj5,zk5,zr7,ha]
  omega
def sumC (c:E→Nat):List E→Nat
 | []=>0
 | x :: r=>c x+sumC c r
theorem qQ {b:Nat}{c:E→Nat}:∀(l:List E) (n:Nat),gpS b c l n≤b→gpS b c l n=n+sumC c l
 | [],n,_=>rfl
 | x :: r,n,h=>by
  unfold gpS at h ⊢
  split at h
  ·rename_i hn
   rw [if_pos hn,qQ r _ h]
   simp only [sumC];omega
  ·omega
theorem zd2:∀(f:Nat) (e:E),kC 100 dv f e≤100→(tkE e).length+1≤9*kC 100 dv f e
 | 0,e,h=>absurd h (by show ¬100+1≤100;omega)
 | f+1,e,h=>by
  have h1:gpS 100 (kC 100 dv f) (dv e) 1≤100:=h
  have h2:=qQ _ _ h1
  show (tkE e).length+1≤9*gpS 100 (kC 100 dv f) (dv e) 1
  rw [h2]
  have hm:=lQ _ _ h1
  have key:∀r:List E,(∀x∈r,x∈dv e)→lnP (r.map pcE)≤9*sumC (kC 100 dv f) r:=fun r=>by
   induction r with
   | nil=>intro _;exact Nat.zero_le _
   | cons x r ih =>
    intro hr
    have i1:=ih fun y hy=>hr y (List.mem_cons_of_mem _ hy)
    have i2:=zd2 f x (hm x (hr x (List.mem_cons_self ..)))
    unfold tkE at i2
    simp only [List.map_cons,lnP,sumC]
    omega
  have hz:∀l:Pc,l=[]→(bK l).length=0:=fun l hl=>by subst hl;rfl
  unfold tkE
  by_cases hs:∃i k j m s w T A c l,e=.agg [.int i k,.int j m,.str s,.lst w T A c l]
  ·obtain⟨i,k,j,m,s,w,T,A,c,l,rfl⟩:=hs
   rw [ii]
   have h3:=xn k m s (l.map pcE)
   have h4:=key l fun _ h=>h
   have h5:dv (.agg [.int i k,.int j m,.str s,.lst w T A c l])=l:=rfl
   rw [h5]
   omega
  ·have h0:pcE e=[]:=by
    unfold pcE pcF
    split
    ·rename_i i k j m s w T A c l
     exact absurd ⟨i,k,j,m,s,w,T,A,c,l,rfl⟩ hs
    ·rfl
   rw [h0]
   show 0+1≤_
   omega
theorem ze2 {e:E}(h:fx e=true):iq (txE e)=((tkE e).map T3.E,-1)∧(tkE e).length≤900:=by
 have hok:=n8 h
 unfold fx at h
 rw [Bool.and_eq_true,decide_eq_true_iff] at h
 have h1:=zd2 10 e h.1
 obtain⟨h2,h3⟩:=zb2 (e.sz+1) e omq hok
 have h4:kC 100 dv 10 e≤100:=h.1
 have h5:=h2.2 none fun x hx=>by cases hx
 refine⟨?_,omq⟩
 rw [←h3]
 exact zg4 h5 (by unfold tkE at h1;omega)
end Go.Proofs.YtomolhbkdhjofaaGreatDoor
