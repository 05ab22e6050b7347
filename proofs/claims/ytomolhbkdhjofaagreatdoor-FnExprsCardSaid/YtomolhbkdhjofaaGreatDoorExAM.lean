/- T -/
import Derived.Test.YtomolhbkdhjofaaGreatDoorExAL
set_option maxHeartbeats 0
set_option maxRecDepth 100000
namespace Go.Proofs.YtomolhbkdhjofaaGreatDoor
open Go.RowKit Go.Proofs.Tryz
def fZ (s:ByteArray)(rex:Bool):Tk :=
 if (dU s 0 rex).ok=true then dU s 0 rex
 else if cR (bAt s 0)=true∨gy (bAt s 0)=true∨bAt s 0=39∨(bAt s 0=47∧rex=true) then ⟨0,0,ByteArray.empty,0⟩
 else ⟨5,0,ByteArray.empty,0⟩
theorem pC {c:Nat}(h:gy c=true):cR c=false:=by
 simp only [gy,Bool.and_eq_true,decide_eq_true_iff] at h
 simp [cR];omega
theorem uX {s:ByteArray}{k:Int}{b:Nat}(hb:bAt s 0=b)(hk:(k=3∧b=39)∨(k=4∧b=47)){rex:Bool}(h1:dU s 0 rex=nY s 0 k)(h2:bAt s 0=39∨(bAt s 0=47∧rex=true)) :
 fZ s rex=if bI (neB b) s s.size 1=s.size then ⟨0,0,ByteArray.empty,0⟩ else if df b (bu s 1 (bI (neB b) s s.size 1))=true∧(k=4→1≤(bu s 1 (bI (neB b) s s.size 1)).size) then ⟨k,0,bu s 1 (bI (neB b) s s.size 1),bI (neB b) s s.size 1+1⟩ else ⟨0,0,ByteArray.empty,0⟩:=by
 have h3:cR (bAt s 0)=true∨gy (bAt s 0)=true∨bAt s 0=39∨(bAt s 0=47∧rex=true):=.inr (.inr h2)
 unfold fZ
 rw [if_pos h3,h1]
 unfold nY
 rw [hb]
 by_cases hr:bI (neB b) s s.size 1=s.size
 ·rw [if_pos hr,if_pos hr,if_neg (by simp [Tk.ok,cq])]
 ·rw [if_neg hr,if_neg hr]
  have hok:(Tk.mk k 0 (bu s 1 (bI (neB b) s s.size 1)) (bI (neB b) s s.size 1+1)).ok=true↔(df b (bu s 1 (bI (neB b) s s.size 1))=true∧(k=4→1≤(bu s 1 (bI (neB b) s s.size 1)).size)):=by
   rcases hk with ⟨rfl,rfl⟩|⟨rfl,rfl⟩
   ·simp [Tk.ok,cq]
   ·simp [Tk.ok,cq]
  by_cases ho:df b (bu s 1 (bI (neB b) s s.size 1))=true∧(k=4→1≤(bu s 1 (bI (neB b) s s.size 1)).size)
  ·rw [if_pos ho,if_pos (hok.2 ho)]
  ·rw [if_neg ho,if_neg fun h=>ho (hok.1 h)]
theorem tok_R {s:ByteArray}(h:bAt s 0=47):fZ s true=if bI (neB 47) s s.size 1=s.size then ⟨0,0,ByteArray.empty,0⟩ else if (decide (1≤(bu s 1 (bI (neB 47) s s.size 1)).size)&&df 47 (bu s 1 (bI (neB 47) s s.size 1)))=true then ⟨4,0,bu s 1 (bI (neB 47) s s.size 1),bI (neB 47) s s.size 1+1⟩ else ⟨0,0,ByteArray.empty,0⟩:=by
 rw [uX (k:=4) (b:=47) h (.inr ⟨rfl,rfl⟩) (by unfold dU;rw [if_neg (by simp [cR,h]),if_neg (by simp [gy,h]),if_neg omq,if_pos ⟨h,rfl⟩]) (.inr ⟨h,rfl⟩)]
 congr 1
 by_cases h1:df 47 (bu s 1 (bI (neB 47) s s.size 1))=true<;>by_cases h2:1≤(bu s 1 (bI (neB 47) s s.size 1)).size<;>simp [h1,h2]
theorem tok_Q {s:ByteArray}{rex:Bool}(h:bAt s 0=39):fZ s rex=if bI (neB 39) s s.size 1=s.size then ⟨0,0,ByteArray.empty,0⟩ else if df 39 (bu s 1 (bI (neB 39) s s.size 1))=true then ⟨3,0,bu s 1 (bI (neB 39) s s.size 1),bI (neB 39) s s.size 1+1⟩ else ⟨0,0,ByteArray.empty,0⟩:=by
 rw [uX (k:=3) (b:=39) h (.inl ⟨rfl,rfl⟩) (by unfold dU;rw [if_neg (by simp [cR,h]),if_neg (by simp [gy,h]),if_pos h]) (.inl h)]
 simp
theorem tok_L {s:ByteArray}{rex:Bool}(h0:0<s.size)(h:gy (bAt s 0)=true):fZ s rex=if bI ldB s s.size 0≤8 then ⟨2,0,bu s 0 (bI ldB s s.size 0),bI ldB s s.size 0⟩ else ⟨0,0,ByteArray.empty,0⟩:=by
 have h1:dU s 0 rex=⟨2,0,bu s 0 (bI ldB s s.size 0),bI ldB s s.size 0⟩:=by
  unfold dU
  rw [if_neg (by rw [pC h];simp),if_pos h]
 have h2:=(fa (p:=ldB) h0 (by simp [ldB,h])).2
 have h3:=bO (p:=ldB) (s:=s) s.size 0 omq omq
 have hz:=bR (s:=s) (a:=0) (b:=bI ldB s s.size 0) omq h3.2.1
 have hall:lF ldB (bu s 0 (bI ldB s s.size 0))=true:=fR fun j hj=>by
  rw [dJ h3.2.1 omq,Nat.zero_add]
  exact h3.2.2.1 j omq omq
 have hfst:gy (bAt (bu s 0 (bI ldB s s.size 0)) 0)=true:=by rw [dJ h3.2.1 omq];exact h
 have hok:(Tk.mk 2 0 (bu s 0 (bI ldB s s.size 0)) (bI ldB s s.size 0)).ok=true↔bI ldB s s.size 0≤8:=by
  have e2:cq 2 0 (bu s 0 (bI ldB s s.size 0))=dD (bu s 0 (bI ldB s s.size 0)):=by simp [cq]
  show cq 2 0 (bu s 0 (bI ldB s s.size 0))=true↔_
  rw [e2]
  simp only [dD,hall,hfst,hz,Bool.and_true,Bool.and_eq_true,decide_eq_true_iff]
  omega
 unfold fZ
 rw [if_pos (show cR (bAt s 0)=true∨gy (bAt s 0)=true∨bAt s 0=39∨(bAt s 0=47∧rex=true) from .inr (.inl h)),h1]
 by_cases h8:bI ldB s s.size 0≤8
 ·rw [if_pos h8,if_pos (hok.2 h8)]
 ·rw [if_neg h8,if_neg fun h=>h8 (hok.1 h)]
theorem uY {s:ByteArray}:lF cR (bu s 0 (bI cR s s.size 0))=true:=by
 have h3:=bO (p:=cR) (s:=s) s.size 0 omq omq
 have hz:=bR (s:=s) (a:=0) (b:=bI cR s s.size 0) omq h3.2.1
 exact fR fun j hj=>by
  rw [dJ h3.2.1 omq,Nat.zero_add]
  exact h3.2.2.1 j omq omq
theorem tok_D {s:ByteArray}{rex:Bool}(h0:0<s.size)(h:cR (bAt s 0)=true):fZ s rex=if lw (bu s 0 (bI cR s s.size 0))≤2147483647∧iE (lw (bu s 0 (bI cR s s.size 0)):Int)=bu s 0 (bI cR s s.size 0) then ⟨1,(lw (bu s 0 (bI cR s s.size 0)):Int),ByteArray.empty,bI cR s s.size 0⟩ else ⟨0,0,ByteArray.empty,0⟩:=by
 have h1:dU s 0 rex=⟨1,wL (bu s 0 (bI cR s s.size 0)),ByteArray.empty,bI cR s s.size 0⟩:=by
  unfold dU
  rw [if_pos h]
 have h2:=(fa (p:=cR) h0 h).2
 have h3:=bO (p:=cR) (s:=s) s.size 0 omq omq
 have hz:=bR (s:=s) (a:=0) (b:=bI cR s s.size 0) omq h3.2.1
 have hn:=znQ (s:=bu s 0 (bI cR s s.size 0)) uY omq
 unfold fZ
 rw [if_pos (show cR (bAt s 0)=true∨gy (bAt s 0)=true∨bAt s 0=39∨(bAt s 0=47∧rex=true) from .inl h),h1]
 unfold Tk.ok
 dsimp only
 by_cases hq:lw (bu s 0 (bI cR s s.size 0))≤2147483647∧iE (lw (bu s 0 (bI cR s s.size 0)):Int)=bu s 0 (bI cR s s.size 0)
 ·have hq2:=hn.1 hq
  rw [if_pos hq,if_pos hq2]
  have:wL (bu s 0 (bI cR s s.size 0))=(lw (bu s 0 (bI cR s s.size 0)):Int):=by
   by_cases hb:1≤(bu s 0 (bI cR s s.size 0)).size∧(bu s 0 (bI cR s s.size 0)).size≤10∧¬(1<(bu s 0 (bI cR s s.size 0)).size∧bAt (bu s 0 (bI cR s s.size 0)) 0=48)
   ·exact j0 hb
   ·rw [pw hb] at hq2
    exact absurd hq2 (by decide)
  rw [this]
 ·rw [if_neg hq,if_neg fun h=>hq (hn.2 h)]
theorem zi1 {s:ByteArray}(h:1≤s.size):il (bu s 0 1)=mI (bAt s 0):=by
 have hz:=bR (s:=s) (a:=0) (b:=1) omq h
 have e:bAt (bu s 0 1) 0=bAt s 0:=dJ h omq
 simp [il,hz,e]
theorem qO {s:ByteArray}(h:2≤s.size):il (bu s 0 2)=nu (bAt s 0) (bAt s 1):=by
 have hz:=bR (s:=s) (a:=0) (b:=2) omq h
 have e:bAt (bu s 0 2) 0=bAt s 0:=dJ h omq
 have e1:bAt (bu s 0 2) 1=bAt s 1:=dJ h omq
 simp [il,hz,e,e1]
theorem tok_M {s:ByteArray}{rex:Bool}(h0:0<s.size)(h1:cR (bAt s 0)=false)(h2:gy (bAt s 0)=false)(h3:bAt s 0≠39)(h4:¬(bAt s 0=47∧rex=true)):fZ s rex=⟨5,0,pr s,(pr s).size⟩:=by
 unfold fZ dU
 simp only [h1,h2,h3,h4,if_false,Bool.false_eq_true,or_self,Nat.zero_add]
 unfold pr
 by_cases hs:1<s.size∧il (bu s 0 2)=true
 ·have h6:=qO (s:=s) omq
  have hz:=bR (s:=s) (a:=0) (b:=2) omq omq
  have hm:=hs.2
  rw [h6] at hm
  rw [if_pos hs,if_pos (show 2≤s.size∧nu (bAt s 0) (bAt s 1)=true from ⟨omq,hm⟩),if_pos (show (Tk.mk 5 0 (bu s 0 2) 2).ok=true by simp [Tk.ok,cq,hs.2]),hz]
 ·rw [if_neg hs]
  have h6:¬(2≤s.size∧nu (bAt s 0) (bAt s 1)=true):=fun ⟨a,b⟩=>hs ⟨omq,by rw [qO a];exact b⟩
  rw [if_neg h6]
  have h7:=zi1 (s:=s) omq
  have hz:=bR (s:=s) (a:=0) (b:=1) omq omq
  cases h8:mI (bAt s 0) with
  | true =>
   rw [h8] at h7
   rw [if_pos (show 1≤s.size∧true=true from ⟨omq,rfl⟩),if_pos (show (Tk.mk 5 0 (bu s 0 1) 1).ok=true by simp [Tk.ok,cq,h7]),hz]
  | false =>
   rw [h8] at h7
   rw [if_neg (show ¬(1≤s.size∧false=true) by simp),if_neg (show ¬(Tk.mk 5 0 (bu s 0 1) 1).ok=true by simp [Tk.ok,cq,h7])]
   rfl
theorem xF {s:ByteArray}{rex:Bool}(h:(dU s 0 rex).ok=true):fZ s rex=dU s 0 rex:=if_pos h
theorem zj1 {s:ByteArray}{rex:Bool}(h:¬(dU s 0 rex).ok=true):(fZ s rex).e=0:=by
 unfold fZ
 rw [if_neg h]
 split<;>rfl
theorem uZ (a:List (List UInt8))(x sep:List UInt8):Lib.join (a++[x]) sep=(if a=[] then [] else Lib.join a sep++sep)++x:=by
 cases a with
 | nil=>simp [Lib.join_one]
 | cons y r =>
  rw [List.cons_append,Lib.join_cons,Lib.join_cons,if_neg (by simp)]
  simp [Lib.joinTail,List.append_assoc]
theorem gV (a b:List UInt8):(ByteArray.mk (a++b).toArray)=⟨a.toArray⟩++⟨b.toArray⟩:=by rw [ByteArray.mk_append_mk]
theorem qP (s:ByteArray):(ByteArray.mk s.data.toList.toArray)=s:=by cases s;rfl
theorem sf {a:List E}(x:E)(sep:ByteArray):jb (a++[x]) sep=(if a=[] then ByteArray.empty else jb a sep++sep)++lx x:=by
 unfold jb
 rw [List.map_append,List.map_cons,List.map_nil,uZ,gV,qP]
 congr 1
 by_cases h:a=[]
 ·subst h;rfl
 ·rw [if_neg h,if_neg (by simpa using h),gV,qP]
abbrev T3:=Int×Int×ByteArray
def T3.E (t:T3):E:=tokE t.1 t.2.1 t.2.2
def tkT (k n:Int)(s:ByteArray):ByteArray :=
 if cq k n s=true then if k=1 then iE n else if k=3 then (⟨#[39]⟩++s)++⟨#[39]⟩ else if k=4 then (⟨#[47]⟩++s)++⟨#[47]⟩ else s else ⟨#[]⟩
def T3.T (t:T3):ByteArray:=tkT t.1 t.2.1 t.2.2
def sU (r:Bool)(t:T3):Prop:=cq t.1 t.2.1 t.2.2=true∧(t.1=4→r=true)∧(t.1=5→t.2.2=⟨#[47]⟩→r=false)
def ch:Bool→List T3→Bool→Prop
 | r,[],r'=>r=r'
 | r,t :: l,r'=>sU r t∧ch (qJ t.1 t.2.2) l r'
theorem u5:∀{l:List T3} {r r':Bool} {t:T3},ch r l r'→sU r' t→ch r (l++[t]) (qJ t.1 t.2.2)
 | [],r,r',t,h,g=>by
  have:r=r':=h
  subst this
  exact⟨g,rfl⟩
 | x :: l,r,r',t,h,g=>⟨h.1,u5 (l:=l) h.2 g⟩
theorem u6:∀{l:List T3} {r r':Bool},ch r l r'→∀t∈l,cq t.1 t.2.1 t.2.2=true
 | [],_,_,_,t,ht=>by cases ht
 | x :: l,r,r',h,t,ht=>by
  rcases List.mem_cons.1 ht with rfl|ht
  ·exact h.1.1
  ·exact u6 h.2 t ht
def AtS (S:ByteArray)(a:Nat)(x:ByteArray):Prop:=a+x.size≤S.size∧∀j,j<x.size→bAt S (a+j)=bAt x j
theorem ob {S x:ByteArray}{a:Nat}(h:AtS S a x):bu S a (a+x.size)=x:=by
 have hz:=bR (s:=S) (a:=a) (b:=a+x.size) omq h.1
 refine ja omq fun j hj=>?_
 rw [dJ h.1 omq]
 exact h.2 j omq
theorem u7 {p:Nat→Bool}{S:ByteArray}{a e:Nat}(h1:a≤e)(h2:e≤S.size)(h3:∀j,a≤j→j<e→p (bAt S j)=true)(h4:e<S.size→p (bAt S e)=false):bI p S S.size a=e:=by
 obtain⟨g1,g2,g3,g4⟩:=bO (p:=p) (s:=S) S.size a omq omq
 rcases Nat.lt_trichotomy (bI p S S.size a) e with h|h|h
 ·have:=h3 _ g1 h
  rw [g4 omq] at this;cases this
 ·exact h
 ·have:=g3 e h1 h
  rw [h4 omq] at this;cases this
theorem zpQ (n:Nat):Lib.decDigits n=if n<10 then [UInt8.ofNat (48+n)] else Lib.decDigits (n / 10)++[UInt8.ofNat (48+n % 10)]:=by
 rw [Lib.decDigits]
 split<;>rfl
theorem ofN {k:Nat}(h:k<256):(UInt8.ofNat k).toNat=k:=by rw [UInt8.toNat_ofNat',Nat.mod_eq_of_lt h]
theorem mN:∀(m n:Nat),n≤m→jO 0 (Lib.decDigits n)=n∧digL (Lib.decDigits n)
 | 0,n,h=>by
  obtain rfl:n=0:=by omega
  rw [zpQ,if_pos omq]
  refine⟨rfl,fun c hc=>?_⟩
  rw [List.mem_singleton.1 hc];decide
 | m+1,n,h=>by
  rw [zpQ]
  split
  ·rename_i h10
   refine⟨?_,fun c hc=>?_⟩
   ·show 0*10+((UInt8.ofNat (48+n)).toNat-48)=n
    rw [ofN omq];omega
   ·rw [List.mem_singleton.1 hc,ofN omq];omega
  ·rename_i h10
   obtain⟨i1,i2⟩:=mN m (n / 10) omq
   refine⟨?_,fun c hc=>?_⟩
   ·rw [mJ,qK,i1,ofN omq];omega
   ·rcases List.mem_append.1 hc with hc|hc
    ·exact i2 c hc
    ·rw [List.mem_singleton.1 hc,ofN omq];omega
theorem mO {n:Int}(h:0≤n):(iE n).data.toList=Lib.decDigits n.toNat:=by
 obtain⟨k,rfl⟩:∃k:Nat,n=(k:Int):=⟨n.toNat,omq⟩
 rw [qI,Int.toNat_natCast]
theorem pD {n:Int}(h:0≤n):lF cR (iE n)=true:=by
 have h2:=(mN _ n.toNat (Nat.le_refl _)).2
 rw [←mO h] at h2
 refine fR fun j hj=>?_
 have h3:=mK hj
 have h4:=h2 _ (List.mem_of_getElem? h3)
 rw [ofN (dm _ _)] at h4
 simpa [cR] using h4
theorem pE {n:Int}(h:0≤n):1≤(iE n).size:=by
 have h2:=zmQ _ n.toNat (Nat.le_refl _)
 rw [←mO h] at h2
 have:(iE n).data.toList.length=(iE n).size:=Array.length_toList
 cases hl:(iE n).data.toList with
 | nil=>exact absurd hl h2
 | cons c r=>rw [hl,List.length_cons] at this;omega
theorem xG {n:Int}(h:0≤n)(h2:n≤2147483647):wL (iE n)=n:=by
 have hv:lw (iE n)=n.toNat:=by
  unfold lw
  rw [mO h];exact (mN _ n.toNat (Nat.le_refl _)).1
 have hn:=(znQ (pD h) (pE h)).1 ⟨by rw [hv];omega,by rw [hv,Int.toNat_of_nonneg h]⟩
 by_cases hb:1≤(iE n).size∧(iE n).size≤10∧¬(1<(iE n).size∧bAt (iE n) 0=48)
 ·rw [j0 hb,hv];omega
 ·rw [pw hb] at hn
  exact absurd hn (by decide)
theorem eH {x y:ByteArray}{j:Nat}(h:j<x.size):bAt (x++y) j=bAt x j:=by
 unfold bAt
 rw [ByteArray.data_append,Array.getElem?_append,if_pos (show j<x.data.size from h)]
theorem iH {x y:ByteArray}{j:Nat}(h:x.size≤j):bAt (x++y) j=bAt y (j-x.size):=by
 unfold bAt
 rw [ByteArray.data_append,Array.getElem?_append,if_neg (show ¬j<x.data.size from by show ¬j<x.size;omega)]
 rfl
theorem zqQ {S s:ByteArray}{a b:Nat}{b8:UInt8}(hb8:b8.toNat=b){k:Int}(h:AtS S a ((⟨#[b8]⟩++s)++⟨#[b8]⟩))(hs:df b s=true):bAt S a=b∧nY S a k=⟨k,0,s,a+((⟨#[b8]⟩++s)++⟨#[b8]⟩:ByteArray).size⟩:=by
 have hz:((⟨#[b8]⟩++s)++⟨#[b8]⟩:ByteArray).size=s.size+2:=by
  rw [ByteArray.size_append',ByteArray.size_append']
  show 1+s.size+1=_;omega
 have h1:(⟨#[b8]⟩:ByteArray).size=1:=rfl
 have h1s:((⟨#[b8]⟩:ByteArray)++s).size=1+s.size:=by rw [ByteArray.size_append',h1]
 have hsz:=h.1
 rw [hz] at hsz
 have e0:bAt S a=b:=by
  have:=h.2 0 omq
  rw [Nat.add_zero,eH omq,eH omq] at this
  rw [this];exact hb8
 have ej:∀j,j<s.size→bAt S (a+1+j)=bAt s j:=fun j hj=>by
  have:=h.2 (1+j) omq
  rw [eH omq,iH omq,h1,Nat.add_sub_cancel_left] at this
  rw [Nat.add_assoc,this]
 have ee:bAt S (a+1+s.size)=b:=by
  have:=h.2 (1+s.size) omq
  rw [iH omq,h1s,Nat.sub_self] at this
  rw [Nat.add_assoc,this];exact hb8
 have hall:∀j,j<s.size→bAt s j≠b:=fun j hj=>by
  simp only [df,Bool.and_eq_true,lF,decide_eq_true_iff] at hs
  have:=hs.2 j hj
  simp only [plB,Bool.and_eq_true,decide_eq_true_iff] at this
  exact this.2.2
 have hr:bI (neB b) S S.size (a+1)=a+1+s.size:=u7 omq omq (fun j h1 h2=>by
  have:=ej (j-(a+1)) omq
  rw [show a+1+(j-(a+1))=j by omega] at this
  rw [this]
  simp only [neB,decide_eq_true_iff]
  exact hall _ omq) fun _=>by rw [ee];simp [neB]
 refine⟨e0,?_⟩
 unfold nY
 rw [e0,hr,if_neg omq,hz]
 have hc:bu S (a+1) (a+1+s.size)=s:=ob ⟨omq,ej⟩
 rw [hc]
 simp only [Tk.mk.injEq,true_and];omega
def hX (t:T3)(d:Nat):Bool:=if t.1=1 then !cR d else if t.1=2 then !ldB d else if t.1=5∧t.2.2.size=1 then !nu (bAt t.2.2 0) d else true
theorem u9 {S:ByteArray}{a:Nat}{r:Bool}{t:T3}(hg:sU r t)(h:AtS S a t.T)(he:a+t.T.size=S.size∨hX t (bAt S (a+t.T.size))=true):dU S a r=⟨t.1,t.2.1,t.2.2,a+t.T.size⟩∧1≤t.T.size∧blB (bAt t.T 0)=false∧bAt t.T 0≠35:=by
 obtain⟨k,n,s⟩:=t
 obtain⟨g1,g2,g3⟩:=hg
 unfold T3.T at h he ⊢
 unfold hX at he
 dsimp only at g1 g2 g3 h he ⊢
 unfold tkT at h he ⊢
 rw [if_pos g1] at h he ⊢
 by_cases k1:k=1
 ·subst k1
  rw [if_pos rfl] at h he ⊢
  rw [if_pos rfl] at he
  unfold cq at g1
  rw [if_pos rfl] at g1
  simp only [Bool.and_eq_true,decide_eq_true_iff] at g1
  obtain⟨n0,n1,s0⟩:=g1
  obtain rfl:s=ByteArray.empty:=ja s0 fun j hj=>absurd hj omq
  have hd:=pD n0
  have hp:=pE n0
  simp only [lF,decide_eq_true_iff] at hd
  have e0:bAt S a=bAt (iE n) 0:=h.2 0 omq
  have h0:=hd 0 omq
  have hr:bI cR S S.size a=a+(iE n).size:=u7 omq h.1 (fun j h1 h2=>by
   have:=h.2 (j-a) omq
   rw [show a+(j-a)=j by omega] at this
   rw [this];exact hd _ omq) fun hlt=>by
    rcases he with he|he
    ·omega
    ·simpa using he
  refine⟨?_,hp,?_,?_⟩
  ·unfold dU
   rw [e0,if_pos h0,hr,ob h,xG n0 n1]
  ·simp only [cR,Bool.and_eq_true,decide_eq_true_iff] at h0
   simp [blB];omega
  ·simp only [cR,Bool.and_eq_true,decide_eq_true_iff] at h0
   omega
 rw [if_neg k1] at h he ⊢
 rw [if_neg k1] at he
 by_cases k3:k=3
 ·subst k3
  rw [if_pos rfl] at h he ⊢
  have g4:df 39 s=true∧n=0:=by simpa [cq] using g1
  obtain⟨g4,rfl⟩:=g4
  obtain⟨q0,q1⟩:=zqQ (b:=39) (k:=3) rfl h g4
  have hz:((⟨#[39]⟩++s)++⟨#[39]⟩:ByteArray).size=s.size+2:=by
   rw [ByteArray.size_append',ByteArray.size_append']
   show 1+s.size+1=_;omega
  have e0:=h.2 0 omq
  rw [Nat.add_zero,q0] at e0
  refine⟨?_,omq,by rw [←e0];rfl,omq⟩
  unfold dU
  rw [q0,if_neg (by decide),if_neg (by decide),if_pos rfl,q1]
 rw [if_neg k3] at h he ⊢
 by_cases k4:k=4
 ·subst k4
  rw [if_pos rfl] at h he ⊢
  have g4:df 47 s=true∧1≤s.size∧n=0:=by simpa [cq] using g1
  obtain⟨g4,-,rfl⟩:=g4
  obtain⟨q0,q1⟩:=zqQ (b:=47) (k:=4) rfl h g4
  have hz:((⟨#[47]⟩++s)++⟨#[47]⟩:ByteArray).size=s.size+2:=by
   rw [ByteArray.size_append',ByteArray.size_append']
   show 1+s.size+1=_;omega
  have e0:=h.2 0 omq
  rw [Nat.add_zero,q0] at e0
  refine⟨?_,omq,by rw [←e0];rfl,omq⟩
  unfold dU
  rw [q0,if_neg (by decide),if_neg (by decide),if_neg (by decide),if_pos ⟨rfl,g2 rfl⟩,q1]
 rw [if_neg k4] at h he ⊢
 by_cases k2:k=2
 ·subst k2
  rw [if_pos rfl] at he
  have g4:dD s=true∧n=0:=by simpa [cq] using g1
  obtain⟨g4,rfl⟩:=g4
  simp only [dD,Bool.and_eq_true,decide_eq_true_iff,lF] at g4
  obtain⟨s1,s8,l0,la⟩:=g4
  have e0:bAt S a=bAt s 0:=h.2 0 omq
  have hr:bI ldB S S.size a=a+s.size:=u7 omq h.1 (fun j h1 h2=>by
   have:=h.2 (j-a) omq
   rw [show a+(j-a)=j by omega] at this
   rw [this];exact la _ omq) fun hlt=>by
    rcases he with he|he
    ·omega
    ·simpa using he
  refine⟨?_,s1,?_,?_⟩
  ·unfold dU
   rw [e0,if_neg (by rw [pC l0];simp),if_pos l0,hr,ob h]
  ·simp only [gy,Bool.and_eq_true,decide_eq_true_iff] at l0
   simp [blB];omega
  ·simp only [gy,Bool.and_eq_true,decide_eq_true_iff] at l0
   omega
 rw [if_neg k2] at he
 have k5:k=5:=by
  simp only [cq,if_neg k1,if_neg k2,if_neg k3,if_neg k4] at g1
  split at g1
  ·assumption
  ·cases g1
 subst k5
 have g4:il s=true∧n=0:=by simpa [cq] using g1
 obtain⟨g4,rfl⟩:=g4
 by_cases hz:s.size=2
 ·have h6:nu (bAt s 0) (bAt s 1)=true:=by simpa [il,hz] using g4
  have e0:bAt S a=bAt s 0:=h.2 0 omq
  have hc:bu S a (a+2)=s:=by have:=ob h;rwa [hz] at this
  have hlt:=h.1
  have hh:bAt s 0=60∨bAt s 0=61∨bAt s 0=33∨bAt s 0=62∨bAt s 0=38∨bAt s 0=124:=by
   simp only [nu,Bool.or_eq_true,Bool.and_eq_true,decide_eq_true_iff] at h6
   omega
  refine⟨?_,omq,?_,omq⟩
  ·unfold dU
   have hd:cR (bAt s 0)=false:=by simp [cR];omega
   have hl:gy (bAt s 0)=false:=by simp [gy];omega
   rw [e0,hd,hl,if_neg (by simp),if_neg (by simp),if_neg omq,if_neg omq,hc,if_pos ⟨omq,g4⟩,hz]
  ·simp [blB];omega
 ·have hz1:s.size=1∧mI (bAt s 0)=true:=by simpa [il,hz] using g4
  obtain⟨hz1,h1⟩:=hz1
  rw [if_pos ⟨rfl,hz1⟩] at he
  have e0:bAt S a=bAt s 0:=h.2 0 omq
  have hc:bu S a (a+1)=s:=by have:=ob h;rwa [hz1] at this
  have hlt:=h.1
  have h1b:=h1
  simp only [mI,List.contains_eq_mem,decide_eq_true_iff,List.mem_cons,List.not_mem_nil,or_false] at h1
  have hn47:¬(bAt s 0=47∧r=true):=fun ⟨h47,hr⟩=>by
   have:=g3 rfl (ja hz1 fun j hj=>by
    obtain rfl:j=0:=by omega
    rw [h47];rfl)
   rw [hr] at this;cases this
  refine⟨?_,omq,?_,omq⟩
  ·unfold dU
   have hd:cR (bAt s 0)=false:=by simp [cR];omega
   have hl:gy (bAt s 0)=false:=by simp [gy];omega
   have hm:¬(a+1<S.size∧il (bu S a (a+2))=true):=fun ⟨q1,q2⟩=>by
    have hz2:=bR (s:=S) (a:=a) (b:=a+2) omq omq
    have q3:nu (bAt s 0) (bAt S (a+1))=false:=by
     rcases he with he|he
     ·omega
     ·rw [hz1] at he;simpa using he
    have b0:bAt (bu S a (a+2)) 0=bAt S a:=by rw [dJ omq omq];rfl
    have b1:bAt (bu S a (a+2)) 1=bAt S (a+1):=by rw [dJ omq omq]
    have b2:(bu S a (a+2)).size=2:=by omega
    simp [il,b2,b1,b0,e0,q3] at q2
   rw [e0,hd,hl,if_neg (by simp),if_neg (by simp),if_neg omq,if_neg hn47,if_neg hm,hc,hz1]
  ·simp [blB];omega
abbrev Pc:=List (Option T3)
def pcT:Option T3→ByteArray
 | none=>⟨#[32]⟩
 | some t=>t.T
def bS:Pc→ByteArray
 | []=>ByteArray.empty
 | x :: l=>pcT x++bS l
def bH:Pc→List T3
 | []=>[]
 | none :: l=>bH l
 | some t :: l=>t :: bH l
theorem dF:∀(a b:Pc),bS (a++b)=bS a++bS b
 | [],b=>by show bS b=ByteArray.empty++bS b;rw [ByteArray.empty_append]
 | x :: a,b=>by show pcT x++bS (a++b)=(pcT x++bS a)++bS b;rw [dF a b,ByteArray.append_assoc]
theorem cK:∀(a b:Pc),bH (a++b)=bH a++bH b
 | [],b=>rfl
 | none :: a,b=>cK a b
 | some t :: a,b=>by show t :: bH (a++b)=t :: (bH a++bH b);rw [cK a b]
def xH:Pc→Option Nat→Option Nat
 | [],d=>d
 | x :: _,_=>some (bAt (pcT x) 0)
def va (t:T3):Option Nat→Bool
 | none=>true
 | some d=>hX t d
def okP:Bool→Pc→Option Nat→Bool→Prop
 | r,[],_,r'=>r=r'
 | r,none :: l,d,r'=>okP r l d r'
 | r,some t :: l,d,r'=>sU r t∧va t (xH l d)=true∧okP (qJ t.1 t.2.2) l d r'
theorem qQ (a b:Pc)(d:Option Nat):xH (a++b) d=xH a (xH b d):=by
 cases a with
 | nil=>rfl
 | cons x a=>rfl
theorem eS:∀{a b:Pc} {d:Option Nat} {r r1 r':Bool},okP r a (xH b d) r1→okP r1 b d r'→okP r (a++b) d r'
 | [],b,d,r,r1,r',h,g=>by have:r=r1:=h;subst this;exact g
 | none :: a,b,d,r,r1,r',h,g=>eS (a:=a) h g
 | some t :: a,b,d,r,r1,r',h,g=>⟨h.1,by show va t (xH (a++b) d)=true;rw [qQ];exact h.2.1,eS (a:=a) h.2.2 g⟩
theorem vb {t:T3}(h:cq t.1 t.2.1 t.2.2=true):hX t 32=true:=by
 unfold hX
 split
 ·rfl
 ·split
  ·rfl
  ·split
   ·simp [nu]
   ·rfl
theorem za4 {x:Option T3}{r:Bool}(h:∀t,x=some t→sU r t):1≤(pcT x).size:=by
 cases x with
 | none=>exact Nat.le_refl _
 | some t =>
  have hg:=h t rfl
  have:=(u9 (S:=t.T) (a:=0) hg ⟨omq,fun j hj=>by rw [Nat.zero_add]⟩ (.inl omq)).2.1
  exact this
theorem vc {S:ByteArray}:∀(l:Pc) (a:Nat) (r r':Bool) (out:List E),okP r l none r'→out.length+(bH l).length≤2000→AtS S a (bS l)→a+(bS l).size=S.size→uM S (hQ S a) r out=(out++(bH l).map T3.E,-1)
 | [],a,r,r',out,_,_,_,h=>by
  have h0:(bS []).size=0:=rfl
  rw [iF fun hh=>by omega,uN omq]
  simp [bH]
 | none :: l,a,r,r',out,hc,hn,hA,hz=>by
  have hs:(bS (none :: l)).size=1+(bS l).size:=by show (pcT none++bS l).size=_;rw [ByteArray.size_append'];rfl
  have h0:bAt S a=32:=by
   have:=hA.2 0 omq
   rw [Nat.add_zero] at this
   rw [this]
   show bAt (pcT none++bS l) 0=32
   rw [eH (by show 0<1;omega)];rfl
  rw [i7 omq (by rw [h0];rfl)]
  refine vc l (a+1) r r' out hc hn ⟨omq,fun j hj=>?_⟩ omq
  have:=hA.2 (1+j) omq
  rw [←Nat.add_assoc] at this
  rw [this]
  show bAt (pcT none++bS l) (1+j)=_
  rw [iH (by show 1≤1+j;omega)]
  congr 1
  show 1+j-1=j;omega
 | some t :: l,a,r,r',out,hc,hn,hA,hz=>by
  obtain⟨hg,hst,hc2⟩:=hc
  have hs:(bS (some t :: l)).size=t.T.size+(bS l).size:=by show (pcT (some t)++bS l).size=_;rw [ByteArray.size_append'];rfl
  have hA1:AtS S a t.T:=⟨omq,fun j hj=>by
   rw [hA.2 j omq]
   show bAt (t.T++bS l) j=_
   rw [eH hj]⟩
  have hA2:AtS S (a+t.T.size) (bS l):=⟨omq,fun j hj=>by
   have:=hA.2 (t.T.size+j) omq
   rw [←Nat.add_assoc] at this
   rw [this]
   show bAt (t.T++bS l) (t.T.size+j)=_
   rw [iH omq]
   congr 1;omega⟩
  have he:a+t.T.size=S.size∨hX t (bAt S (a+t.T.size))=true:=by
   cases l with
   | nil=>left;have h0:(bS []).size=0:=rfl;omega
   | cons x l =>
    right
    have hst':hX t (bAt (pcT x) 0)=true:=hst
    have hx:1≤(pcT x).size:=za4 (r:=qJ t.1 t.2.2) fun u hu=>by subst hu;exact hc2.1
    have h1:(bS (x :: l)).size=(pcT x).size+(bS l).size:=by show (pcT x++bS l).size=_;rw [ByteArray.size_append']
    have:=hA2.2 0 omq
    rw [Nat.add_zero] at this
    rw [this]
    show hX t (bAt (pcT x++bS l) 0)=true
    rw [eH omq]
    exact hst'
  obtain⟨o0,o1,o2,o3⟩:=u9 hg hA1 he
  have e0:bAt S a=bAt t.T 0:=hA1.2 0 omq
  have hlt:=hA1.1
  rw [iF fun ⟨_,hh⟩=>by
   rw [e0,o2] at hh
   rcases hh with hh|hh
   ·cases hh
   ·exact o3 hh]
  have hn':out.length+((bH l).length+1)≤2000:=by simpa [bH] using hn
  have hy:=uO (s:=S) (a:=a) (rex:=r) (out:=out) omq (by rw [o0];exact hg.1) omq
  rw [o0] at hy
  rw [hy]
  dsimp only
  have hE:(Tk.mk t.1 t.2.1 t.2.2 (a+t.T.size)).E=t.E:=rfl
  rw [hE,vc l (a+t.T.size) _ r' _ hc2 (by rw [List.length_append,List.length_singleton];omega) hA2 omq]
  simp [bH]
theorem zk1 {l:Pc}{r':Bool}(h:okP false l none r')(hn:(bH l).length≤2000):nx (bS l)=((bH l).map T3.E,-1):=by
 unfold nx
 rw [vc l 0 false r' [] h (by simpa using hn) ⟨omq,fun j hj=>by rw [Nat.zero_add]⟩ omq]
 rfl
def gpI (b:Nat)(c:E→Nat):List E→Nat→Nat
 | [],n=>n
 | x :: r,n=>if b<n+c x then b+1 else gpI b c r (n+c x)
def qR (b:Nat)(hd:E→Bool)(kd:E→List E):Nat→E→Nat
 | 0,_=>b+1
 | f+1,e=>if hd e=true then gpI b (qR b hd kd f) (kd e) 1 else b+1
def gpS (b:Nat)(c:E→Nat):List E→Nat→Nat
 | [],n=>n
 | x :: r,n=>if n≤b then gpS b c r (n+c x) else n
def j3 (b:Nat)(kd:E→List E):Nat→E→Nat
 | 0,_=>b+1
 | f+1,e=>gpS b (j3 b kd f) (kd e) 1
def okF (hd:E→Bool)(kd:E→List E):Nat→E→Bool
 | 0,_=>false
 | f+1,e=>(kd e).all (okF hd kd f)&&hd e
def okE (hd:E→Bool)(kd:E→List E)(e:E):Bool:=okF hd kd (e.sz+1) e
section
variable {b:Nat}{hd:E→Bool}{kd:E→List E}
theorem vd (hk:∀e x,x∈kd e→x.sz<e.sz):∀(n f:Nat) (e:E),e.sz<n→e.sz<f→okF hd kd f e=okE hd kd e
 | 0,_,_,h,_=>absurd h (Nat.not_lt_zero _)
 | n+1,0,_,_,h=>absurd h (Nat.not_lt_zero _)
 | n+1,f+1,e,h1,h2=>by
  have key:∀x∈kd e,okF hd kd f x=okF hd kd e.sz x:=fun x hx=>by
   have hs:=hk e x hx
   rw [vd hk n f x omq omq,vd hk n e.sz x omq hs]
  show ((kd e).all (okF hd kd f)&&hd e)=((kd e).all (okF hd kd e.sz)&&hd e)
  congr 1
  apply Bool.eq_iff_iff.2
  simp only [List.all_eq_true]
  exact⟨fun h x hx=>by rw [←key x hx];exact h x hx,fun h x hx=>by rw [key x hx];exact h x hx⟩
theorem j4 (hk:∀e x,x∈kd e→x.sz<e.sz)(e:E):okE hd kd e=((kd e).all (okE hd kd)&&hd e):=by
 show ((kd e).all (okF hd kd e.sz)&&hd e)=_
 congr 1
 apply Bool.eq_iff_iff.2
 simp only [List.all_eq_true]
 have key:∀x∈kd e,okF hd kd e.sz x=okE hd kd x:=fun x hx=>vd hk (x.sz+1) e.sz x omq (hk e x hx)
 exact⟨fun h x hx=>by rw [←key x hx];exact h x hx,fun h x hx=>by rw [key x hx];exact h x hx⟩
theorem qS {c:E→Nat}:∀(l:List E) (n:Nat),n≤gpS b c l n
 | [],n=>Nat.le_refl _
 | x :: r,n=>by
  unfold gpS
  split
  ·exact Nat.le_trans (Nat.le_add_right _ _) (qS r _)
  ·exact Nat.le_refl _
theorem ve {ci cs:E→Nat}{ok:E→Bool}(h:∀x,(ci x≤b↔cs x≤b∧ok x=true)∧(ci x≤b→ci x=cs x)):∀(l:List E) (n:Nat),n≤b →
 (gpI b ci l n≤b↔gpS b cs l n≤b∧l.all ok=true)∧(gpI b ci l n≤b→gpI b ci l n=gpS b cs l n)
 | [],n,hn=>⟨⟨fun h=>⟨h,rfl⟩,fun h=>h.1⟩,fun _=>rfl⟩
 | x :: r,n,hn=>by
  obtain⟨h1,h2⟩:=h x
  have e1:gpS b cs (x :: r) n=gpS b cs r (n+cs x):=if_pos hn
  rw [e1,List.all_cons]
  by_cases hx:ci x≤b
  ·obtain⟨g1,g2⟩:=h1.1 hx
   rw [←h2 hx,g2,Bool.true_and]
   by_cases hm:b<n+ci x
   ·have e2:gpI b ci (x :: r) n=b+1:=if_pos hm
    rw [e2]
    have:=qS (b:=b) (c:=cs) r (n+ci x)
    exact⟨⟨fun h=>by omega,fun h=>by omega⟩,fun h=>by omega⟩
   ·have e2:gpI b ci (x :: r) n=gpI b ci r (n+ci x):=if_neg hm
    rw [e2]
    exact ve h r (n+ci x) omq
  ·have e2:gpI b ci (x :: r) n=b+1:=if_pos omq
   rw [e2]
   refine⟨⟨fun h=>by omega,fun hh=>?_⟩,fun h=>by omega⟩
   obtain⟨g1,g2⟩:=hh
   rw [Bool.and_eq_true] at g2
   have:=qS (b:=b) (c:=cs) r (n+cs x)
   exact absurd (h1.2 ⟨omq,g2.1⟩) hx
theorem vf (hb:1≤b)(hk:∀e x,x∈kd e→x.sz<e.sz):∀(f:Nat) (e:E),(qR b hd kd f e≤b↔j3 b kd f e≤b∧okE hd kd e=true)∧(qR b hd kd f e≤b→qR b hd kd f e=j3 b kd f e)
 | 0,e=>⟨⟨fun h=>absurd h (by show ¬b+1≤b;omega),fun h=>absurd h.1 (by show ¬b+1≤b;omega)⟩,fun h=>absurd h (by show ¬b+1≤b;omega)⟩
 | f+1,e=>by
  rw [j4 hk e]
  by_cases hh:hd e=true
  ·have e1:qR b hd kd (f+1) e=gpI b (qR b hd kd f) (kd e) 1:=if_pos hh
   rw [e1,hh,Bool.and_true]
   exact ve (vf hb hk f) (kd e) 1 hb
  ·have e1:qR b hd kd (f+1) e=b+1:=if_neg hh
   have e2:hd e=false:=by cases h:hd e with
    | false=>rfl
    | true=>exact absurd h hh
   rw [e1,e2,Bool.and_false]
   exact⟨⟨fun h=>by omega,fun h=>by cases h.2⟩,fun h=>by omega⟩
theorem zb4 (hb:1≤b)(hk:∀e x,x∈kd e→x.sz<e.sz)(f:Nat)(e:E):decide (qR b hd kd f e≤b)=(decide (j3 b kd f e≤b)&&okE hd kd e):=by
 obtain⟨h1,-⟩:=vf (hd:=hd) hb hk f e
 apply Bool.eq_iff_iff.2
 simp only [Bool.and_eq_true,decide_eq_true_iff]
 exact h1
theorem zrQ {c:E→Nat}:∀(l:List E) (n:Nat),n≤b→gpI b c l n≤b+1
 | [],n,h=>by show n≤b+1;omega
 | x :: r,n,h=>by
  unfold gpI
  split
  ·exact Nat.le_refl _
  ·exact zrQ r _ omq
theorem zl1:∀(f:Nat) (e:E),1≤b→qR b hd kd f e≤b+1
 | 0,_,_=>Nat.le_refl _
 | f+1,e,h=>by
  unfold qR
  split
  ·exact zrQ _ _ h
  ·exact Nat.le_refl _
theorem ztQ {c:E→Nat}{m:Nat}(hc:∀x,c x≤m):∀(l:List E) (n:Nat),n≤b+m→gpS b c l n≤b+m
 | [],n,h=>h
 | x :: r,n,h=>by
  unfold gpS
  split
  ·exact ztQ hc r _ (by have:=hc x;omega)
  ·exact h
theorem vg:∀(f:Nat) (e:E),1≤b→j3 b kd f e≤b+1+b*f
 | 0,_,_=>by show b+1≤b+1+b*0;omega
 | f+1,e,h=>by
  show gpS b (j3 b kd f) (kd e) 1≤_
  have:=ztQ (b:=b) (m:=b+1+b*f) (fun x=>vg f x h) (kd e) 1 omq
  rw [Nat.mul_succ]
  omega
end
end Go.Proofs.YtomolhbkdhjofaaGreatDoor
