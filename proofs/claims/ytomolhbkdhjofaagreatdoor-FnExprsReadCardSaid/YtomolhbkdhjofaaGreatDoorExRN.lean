/- T -/
import Derived.Test.YtomolhbkdhjofaaGreatDoorExRM
set_option maxHeartbeats 0
set_option maxRecDepth 100000
namespace Go.Proofs.YtomolhbkdhjofaaGreatDoor
open Go.RowKit Go.Proofs.Tryz
def ie (s:ByteArray)(rex:Bool):Tk :=
 if (em s 0 rex).ok=true then em s 0 rex
 else if cW (bAt s 0)=true∨ic (bAt s 0)=true∨bAt s 0=39∨(bAt s 0=47∧rex=true) then ⟨0,0,ByteArray.empty,0⟩
 else ⟨5,0,ByteArray.empty,0⟩
theorem qN {c:Nat}(h:ic c=true):cW c=false:=by
 simp only [ic,baq,dqt] at h
 simp [cW];omega
theorem wy {s:ByteArray}{k:Int}{b:Nat}(hb:bAt s 0=b)(hk:(k=3∧b=39)∨(k=4∧b=47)){rex:Bool}(h1:em s 0 rex=kF s 0 k)(h2:bAt s 0=39∨(bAt s 0=47∧rex=true)) :
 ie s rex=if bL (neB b) s s.size 1=s.size then ⟨0,0,ByteArray.empty,0⟩ else if dE b (bz s 1 (bL (neB b) s s.size 1))=true∧(k=4→1≤(bz s 1 (bL (neB b) s s.size 1)).size) then ⟨k,0,bz s 1 (bL (neB b) s s.size 1),bL (neB b) s s.size 1+1⟩ else ⟨0,0,ByteArray.empty,0⟩:=by
 have h3:cW (bAt s 0)=true∨ic (bAt s 0)=true∨bAt s 0=39∨(bAt s 0=47∧rex=true):=.inr (.inr h2)
 unfold ie
 rw [if_pos h3,h1]
 unfold kF
 rw [hb]
 by_cases hr:bL (neB b) s s.size 1=s.size
 ·rw [if_pos hr,if_pos hr,if_neg (by simp [Tk.ok,bY])]
 ·rw [if_neg hr,if_neg hr]
  have hok:(Tk.mk k 0 (bz s 1 (bL (neB b) s s.size 1)) (bL (neB b) s s.size 1+1)).ok=true↔(dE b (bz s 1 (bL (neB b) s s.size 1))=true∧(k=4→1≤(bz s 1 (bL (neB b) s s.size 1)).size)):=by
   rcases hk with ⟨rfl,rfl⟩|⟨rfl,rfl⟩
   ·simp [Tk.ok,bY]
   ·simp [Tk.ok,bY]
  by_cases ho:dE b (bz s 1 (bL (neB b) s s.size 1))=true∧(k=4→1≤(bz s 1 (bL (neB b) s s.size 1)).size)
  ·rw [if_pos ho,if_pos (hok.2 ho)]
  ·rw [if_neg ho,if_neg fun h=>ho (hok.1 h)]
theorem tok_R {s:ByteArray}(h:bAt s 0=47):ie s true=if bL (neB 47) s s.size 1=s.size then ⟨0,0,ByteArray.empty,0⟩ else if (decide (1≤(bz s 1 (bL (neB 47) s s.size 1)).size)&&dE 47 (bz s 1 (bL (neB 47) s s.size 1)))=true then ⟨4,0,bz s 1 (bL (neB 47) s s.size 1),bL (neB 47) s s.size 1+1⟩ else ⟨0,0,ByteArray.empty,0⟩:=by
 rw [wy (k:=4) (b:=47) h (.inr ⟨rfl,rfl⟩) (by unfold em;rw [if_neg (by simp [cW,h]),if_neg (by simp [ic,h]),if_neg omq,if_pos ⟨h,rfl⟩]) (.inr ⟨h,rfl⟩)]
 congr 1
 by_cases h1:dE 47 (bz s 1 (bL (neB 47) s s.size 1))=true<;>by_cases h2:1≤(bz s 1 (bL (neB 47) s s.size 1)).size<;>simp [h1,h2]
theorem tok_Q {s:ByteArray}{rex:Bool}(h:bAt s 0=39):ie s rex=if bL (neB 39) s s.size 1=s.size then ⟨0,0,ByteArray.empty,0⟩ else if dE 39 (bz s 1 (bL (neB 39) s s.size 1))=true then ⟨3,0,bz s 1 (bL (neB 39) s s.size 1),bL (neB 39) s s.size 1+1⟩ else ⟨0,0,ByteArray.empty,0⟩:=by
 rw [wy (k:=3) (b:=39) h (.inl ⟨rfl,rfl⟩) (by unfold em;rw [if_neg (by simp [cW,h]),if_neg (by simp [ic,h]),if_pos h]) (.inl h)]
 simp
theorem tok_L {s:ByteArray}{rex:Bool}(h0:0<s.size)(h:ic (bAt s 0)=true):ie s rex=if bL ldB s s.size 0≤8 then ⟨2,0,bz s 0 (bL ldB s s.size 0),bL ldB s s.size 0⟩ else ⟨0,0,ByteArray.empty,0⟩:=by
 have h1:em s 0 rex=⟨2,0,bz s 0 (bL ldB s s.size 0),bL ldB s s.size 0⟩:=by
  unfold em
  rw [if_neg (by rw [qN h];simp),if_pos h]
 have h2:=(fh (p:=ldB) h0 (by simp [ldB,h])).2
 have h3:=bP (p:=ldB) (s:=s) s.size 0 omq omq
 have hz:=bO (s:=s) (a:=0) (b:=bL ldB s s.size 0) omq h3.2.1
 have hall:kD ldB (bz s 0 (bL ldB s s.size 0))=true:=gt fun j hj=>by
  rw [d6 h3.2.1 omq,Nat.zero_add]
  exact h3.2.2.1 j omq omq
 have hfst:ic (bAt (bz s 0 (bL ldB s s.size 0)) 0)=true:=by rw [d6 h3.2.1 omq];exact h
 have hok:(Tk.mk 2 0 (bz s 0 (bL ldB s s.size 0)) (bL ldB s s.size 0)).ok=true↔bL ldB s s.size 0≤8:=by
  have e2:bY 2 0 (bz s 0 (bL ldB s s.size 0))=d8 (bz s 0 (bL ldB s s.size 0)):=by simp [bY]
  show bY 2 0 (bz s 0 (bL ldB s s.size 0))=true↔_
  rw [e2]
  simp only [d8,hall,hfst,hz,Bool.and_true,baq,dqt]
  omega
 unfold ie
 rw [if_pos (show cW (bAt s 0)=true∨ic (bAt s 0)=true∨bAt s 0=39∨(bAt s 0=47∧rex=true) from .inr (.inl h)),h1]
 by_cases h8:bL ldB s s.size 0≤8
 ·rw [if_pos h8,if_pos (hok.2 h8)]
 ·rw [if_neg h8,if_neg fun h=>h8 (hok.1 h)]
theorem wz {s:ByteArray}:kD cW (bz s 0 (bL cW s s.size 0))=true:=by
 have h3:=bP (p:=cW) (s:=s) s.size 0 omq omq
 have hz:=bO (s:=s) (a:=0) (b:=bL cW s s.size 0) omq h3.2.1
 exact gt fun j hj=>by
  rw [d6 h3.2.1 omq,Nat.zero_add]
  exact h3.2.2.1 j omq omq
theorem tok_D {s:ByteArray}{rex:Bool}(h0:0<s.size)(h:cW (bAt s 0)=true):ie s rex=if lk (bz s 0 (bL cW s s.size 0))≤2147483647∧iO (lk (bz s 0 (bL cW s s.size 0)):Int)=bz s 0 (bL cW s s.size 0) then ⟨1,(lk (bz s 0 (bL cW s s.size 0)):Int),ByteArray.empty,bL cW s s.size 0⟩ else ⟨0,0,ByteArray.empty,0⟩:=by
 have h1:em s 0 rex=⟨1,wg (bz s 0 (bL cW s s.size 0)),ByteArray.empty,bL cW s s.size 0⟩:=by
  unfold em
  rw [if_pos h]
 have h2:=(fh (p:=cW) h0 h).2
 have h3:=bP (p:=cW) (s:=s) s.size 0 omq omq
 have hz:=bO (s:=s) (a:=0) (b:=bL cW s s.size 0) omq h3.2.1
 have hn:=ze2 (s:=bz s 0 (bL cW s s.size 0)) wz omq
 unfold ie
 rw [if_pos (show cW (bAt s 0)=true∨ic (bAt s 0)=true∨bAt s 0=39∨(bAt s 0=47∧rex=true) from .inl h),h1]
 unfold Tk.ok
 dsimp only
 by_cases hq:lk (bz s 0 (bL cW s s.size 0))≤2147483647∧iO (lk (bz s 0 (bL cW s s.size 0)):Int)=bz s 0 (bL cW s s.size 0)
 ·have hq2:=hn.1 hq
  rw [if_pos hq,if_pos hq2]
  have:wg (bz s 0 (bL cW s s.size 0))=(lk (bz s 0 (bL cW s s.size 0)):Int):=by
   by_cases hb:1≤(bz s 0 (bL cW s s.size 0)).size∧(bz s 0 (bL cW s s.size 0)).size≤10∧¬(1<(bz s 0 (bL cW s s.size 0)).size∧bAt (bz s 0 (bL cW s s.size 0)) 0=48)
   ·exact jE hb
   ·rw [l4 hb] at hq2
    exact absurd hq2 (by decide)
  rw [this]
 ·rw [if_neg hq,if_neg fun h=>hq (hn.2 h)]
theorem za5 {s:ByteArray}(h:1≤s.size):eI (bz s 0 1)=lY (bAt s 0):=by
 have hz:=bO (s:=s) (a:=0) (b:=1) omq h
 have e:bAt (bz s 0 1) 0=bAt s 0:=d6 h omq
 simp [eI,hz,e]
theorem sx {s:ByteArray}(h:2≤s.size):eI (bz s 0 2)=n8 (bAt s 0) (bAt s 1):=by
 have hz:=bO (s:=s) (a:=0) (b:=2) omq h
 have e:bAt (bz s 0 2) 0=bAt s 0:=d6 h omq
 have e1:bAt (bz s 0 2) 1=bAt s 1:=d6 h omq
 simp [eI,hz,e,e1]
theorem tok_M {s:ByteArray}{rex:Bool}(h0:0<s.size)(h1:cW (bAt s 0)=false)(h2:ic (bAt s 0)=false)(h3:bAt s 0≠39)(h4:¬(bAt s 0=47∧rex=true)):ie s rex=⟨5,0,qF s,(qF s).size⟩:=by
 unfold ie em
 simp only [h1,h2,h3,h4,if_false,Bool.false_eq_true,or_self,Nat.zero_add]
 unfold qF
 by_cases hs:1<s.size∧eI (bz s 0 2)=true
 ·have h6:=sx (s:=s) omq
  have hz:=bO (s:=s) (a:=0) (b:=2) omq omq
  have hm:=hs.2
  rw [h6] at hm
  rw [if_pos hs,if_pos (show 2≤s.size∧n8 (bAt s 0) (bAt s 1)=true from ⟨omq,hm⟩),if_pos (show (Tk.mk 5 0 (bz s 0 2) 2).ok=true by simp [Tk.ok,bY,hs.2]),hz]
 ·rw [if_neg hs]
  have h6:¬(2≤s.size∧n8 (bAt s 0) (bAt s 1)=true):=fun ⟨a,b⟩=>hs ⟨omq,by rw [sx a];exact b⟩
  rw [if_neg h6]
  have h7:=za5 (s:=s) omq
  have hz:=bO (s:=s) (a:=0) (b:=1) omq omq
  cases h8:lY (bAt s 0) with
  | true =>
   rw [h8] at h7
   rw [if_pos (show 1≤s.size∧true=true from ⟨omq,rfl⟩),if_pos (show (Tk.mk 5 0 (bz s 0 1) 1).ok=true by simp [Tk.ok,bY,h7]),hz]
  | false =>
   rw [h8] at h7
   rw [if_neg (show ¬(1≤s.size∧false=true) by simp),if_neg (show ¬(Tk.mk 5 0 (bz s 0 1) 1).ok=true by simp [Tk.ok,bY,h7])]
   rfl
theorem zq {s:ByteArray}{rex:Bool}(h:(em s 0 rex).ok=true):ie s rex=em s 0 rex:=if_pos h
theorem zb5 {s:ByteArray}{rex:Bool}(h:¬(em s 0 rex).ok=true):(ie s rex).e=0:=by
 unfold ie
 rw [if_neg h]
 split<;>rfl
theorem wA (a:List (List UInt8))(x sep:List UInt8):Lib.join (a++[x]) sep=(if a=[] then [] else Lib.join a sep++sep)++x:=by
 cases a with
 | nil=>simp [Lib.join_one]
 | cons y r =>
  rw [List.cons_append,Lib.join_cons,Lib.join_cons,if_neg (by simp)]
  simp [Lib.joinTail,List.append_assoc]
theorem gQ (a b:List UInt8):(ByteArray.mk (a++b).toArray)=⟨a.toArray⟩++⟨b.toArray⟩:=by rw [ByteArray.mk_append_mk]
theorem pr (sep:ByteArray):gP [] sep=ByteArray.empty:=rfl
theorem sA (s:ByteArray):(ByteArray.mk s.data.toList.toArray)=s:=by cases s;rfl
theorem ny {a:List E}(x:E)(sep:ByteArray):gP (a++[x]) sep=(if a=[] then ByteArray.empty else gP a sep++sep)++lu x:=by
 unfold gP
 rw [List.map_append,List.map_cons,List.map_nil,wA,gQ,sA]
 congr 1
 by_cases h:a=[]
 ·subst h;rfl
 ·rw [if_neg h,if_neg (by simpa using h),gQ,sA]
theorem uj {l:List E}{k:Nat}{x:E}(hx:l[k]? = some x)(sep:ByteArray):gP (l.take (k+1)) sep=(if k=0 then ByteArray.empty else gP (l.take k) sep++sep)++lu x:=by
 obtain⟨hk,-⟩:=List.getElem?_eq_some_iff.1 hx
 rw [List.take_add_one,hx,Option.toList_some,ny]
 congr 1
 by_cases h:k=0
 ·subst h;rfl
 ·rw [if_neg h,if_neg (fun e=>by have:=congrArg List.length e;rw [List.length_take,List.length_nil] at this;omega)]
abbrev T3:=Int×Int×ByteArray
def T3.E (t:T3):E:=tokE t.1 t.2.1 t.2.2
def tkT (k n:Int)(s:ByteArray):ByteArray :=
 if bY k n s=true then if k=1 then iO n else if k=3 then (⟨#[39]⟩++s)++⟨#[39]⟩ else if k=4 then (⟨#[47]⟩++s)++⟨#[47]⟩ else s else ⟨#[]⟩
def T3.T (t:T3):ByteArray:=tkT t.1 t.2.1 t.2.2
def uV (r:Bool)(t:T3):Prop:=bY t.1 t.2.1 t.2.2=true∧(t.1=4→r=true)∧(t.1=5→t.2.2=⟨#[47]⟩→r=false)
def ch:Bool→List T3→Bool→Prop
 | r,[],r'=>r=r'
 | r,t :: l,r'=>uV r t∧ch (oT t.1 t.2.2) l r'
theorem wB:∀{l:List T3} {r r':Bool} {t:T3},ch r l r'→uV r' t→ch r (l++[t]) (oT t.1 t.2.2)
 | [],r,r',t,h,g=>by
  have:r=r':=h
  subst this
  exact⟨g,rfl⟩
 | x :: l,r,r',t,h,g=>⟨h.1,wB (l:=l) h.2 g⟩
theorem wC:∀{l:List T3} {r r':Bool},ch r l r'→∀t∈l,bY t.1 t.2.1 t.2.2=true
 | [],_,_,_,t,ht=>by cases ht
 | x :: l,r,r',h,t,ht=>by
  rcases List.mem_cons.1 ht with rfl|ht
  ·exact h.1.1
  ·exact wC h.2 t ht
def AtS (S:ByteArray)(a:Nat)(x:ByteArray):Prop:=a+x.size≤S.size∧∀j,j<x.size→bAt S (a+j)=bAt x j
theorem pu {S x:ByteArray}{a:Nat}(h:AtS S a x):bz S a (a+x.size)=x:=by
 have hz:=bO (s:=S) (a:=a) (b:=a+x.size) omq h.1
 refine iw omq fun j hj=>?_
 rw [d6 h.1 omq]
 exact h.2 j omq
theorem wD {p:Nat→Bool}{S:ByteArray}{a e:Nat}(h1:a≤e)(h2:e≤S.size)(h3:∀j,a≤j→j<e→p (bAt S j)=true)(h4:e<S.size→p (bAt S e)=false):bL p S S.size a=e:=by
 obtain⟨g1,g2,g3,g4⟩:=bP (p:=p) (s:=S) S.size a omq omq
 rcases Nat.lt_trichotomy (bL p S S.size a) e with h|h|h
 ·have:=h3 _ g1 h
  rw [g4 omq] at this;cases this
 ·exact h
 ·have:=g3 e h1 h
  rw [h4 omq] at this;cases this
theorem zg2 (n:Nat):Lib.decDigits n=if n<10 then [UInt8.ofNat (48+n)] else Lib.decDigits (n / 10)++[UInt8.ofNat (48+n % 10)]:=by
 rw [Lib.decDigits]
 split<;>rfl
theorem ofN {k:Nat}(h:k<256):(UInt8.ofNat k).toNat=k:=by rw [UInt8.toNat_ofNat',Nat.mod_eq_of_lt h]
theorem oh:∀(m n:Nat),n≤m→jY 0 (Lib.decDigits n)=n∧digL (Lib.decDigits n)
 | 0,n,h=>by
  obtain rfl:n=0:=by omega
  rw [zg2,if_pos omq]
  refine⟨rfl,fun c hc=>?_⟩
  rw [List.mem_singleton.1 hc];decide
 | m+1,n,h=>by
  rw [zg2]
  split
  ·rename_i h10
   refine⟨?_,fun c hc=>?_⟩
   ·show 0*10+((UInt8.ofNat (48+n)).toNat-48)=n
    rw [ofN omq];omega
   ·rw [List.mem_singleton.1 hc,ofN omq];omega
  ·rename_i h10
   obtain⟨i1,i2⟩:=oh m (n / 10) omq
   refine⟨?_,fun c hc=>?_⟩
   ·rw [lm,ob,i1,ofN omq];omega
   ·rcases List.mem_append.1 hc with hc|hc
    ·exact i2 c hc
    ·rw [List.mem_singleton.1 hc,ofN omq];omega
theorem ol {n:Int}(h:0≤n):(iO n).data.toList=Lib.decDigits n.toNat:=by
 obtain⟨k,rfl⟩:∃k:Nat,n=(k:Int):=⟨n.toNat,omq⟩
 rw [iP,Int.toNat_natCast]
theorem qO {n:Int}(h:0≤n):kD cW (iO n)=true:=by
 have h2:=(oh _ n.toNat (nlr _)).2
 rw [←ol h] at h2
 refine gt fun j hj=>?_
 have h3:=ls hj
 have h4:=h2 _ (mge h3)
 rw [ofN (cZ _ _)] at h4
 simpa [cW] using h4
theorem qP {n:Int}(h:0≤n):1≤(iO n).size:=by
 have h2:=zd2 _ n.toNat (nlr _)
 rw [←ol h] at h2
 have:(iO n).data.toList.length=(iO n).size:=Array.length_toList
 cases hl:(iO n).data.toList with
 | nil=>exact absurd hl h2
 | cons c r=>rw [hl,List.length_cons] at this;omega
theorem zr {n:Int}(h:0≤n)(h2:n≤2147483647):wg (iO n)=n:=by
 have hv:lk (iO n)=n.toNat:=by
  unfold lk
  rw [ol h];exact (oh _ n.toNat (nlr _)).1
 have hn:=(ze2 (qO h) (qP h)).1 ⟨by rw [hv];omega,by rw [hv,Int.toNat_of_nonneg h]⟩
 by_cases hb:1≤(iO n).size∧(iO n).size≤10∧¬(1<(iO n).size∧bAt (iO n) 0=48)
 ·rw [jE hb,hv];omega
 ·rw [l4 hb] at hn
  exact absurd hn (by decide)
theorem fP {x y:ByteArray}{j:Nat}(h:j<x.size):bAt (x++y) j=bAt x j:=by
 unfold bAt
 rw [ByteArray.data_append,Array.getElem?_append,if_pos (show j<x.data.size from h)]
theorem jG {x y:ByteArray}{j:Nat}(h:x.size≤j):bAt (x++y) j=bAt y (j-x.size):=by
 unfold bAt
 rw [ByteArray.data_append,Array.getElem?_append,if_neg (show ¬j<x.data.size from by show ¬j<x.size;omega)]
 rfl
theorem zh2 {S s:ByteArray}{a b:Nat}{b8:UInt8}(hb8:b8.toNat=b){k:Int}(h:AtS S a ((⟨#[b8]⟩++s)++⟨#[b8]⟩))(hs:dE b s=true):bAt S a=b∧kF S a k=⟨k,0,s,a+((⟨#[b8]⟩++s)++⟨#[b8]⟩:ByteArray).size⟩:=by
 have hz:((⟨#[b8]⟩++s)++⟨#[b8]⟩:ByteArray).size=s.size+2:=by
  rw [ByteArray.size_append',ByteArray.size_append']
  show 1+s.size+1=_;omega
 have h1:(⟨#[b8]⟩:ByteArray).size=1:=rfl
 have h1s:((⟨#[b8]⟩:ByteArray)++s).size=1+s.size:=by rw [ByteArray.size_append',h1]
 have hsz:=h.1
 rw [hz] at hsz
 have e0:bAt S a=b:=by
  have:=h.2 0 omq
  rw [Nat.add_zero,fP omq,fP omq] at this
  rw [this];exact hb8
 have ej:∀j,j<s.size→bAt S (a+1+j)=bAt s j:=fun j hj=>by
  have:=h.2 (1+j) omq
  rw [fP omq,jG omq,h1,Nat.add_sub_cancel_left] at this
  rw [Nat.add_assoc,this]
 have ee:bAt S (a+1+s.size)=b:=by
  have:=h.2 (1+s.size) omq
  rw [jG omq,h1s,Nat.sub_self] at this
  rw [Nat.add_assoc,this];exact hb8
 have hall:∀j,j<s.size→bAt s j≠b:=fun j hj=>by
  simp only [dE,baq,kD,dqt] at hs
  have:=hs.2 j hj
  simp only [plB,baq,dqt] at this
  exact this.2.2
 have hr:bL (neB b) S S.size (a+1)=a+1+s.size:=wD omq omq (fun j h1 h2=>by
  have:=ej (j-(a+1)) omq
  rw [show a+1+(j-(a+1))=j by omega] at this
  rw [this]
  simp only [neB,dqt]
  exact hall _ omq) fun _=>by rw [ee];simp [neB]
 refine⟨e0,?_⟩
 unfold kF
 rw [e0,hr,if_neg omq,hz]
 have hc:bz S (a+1) (a+1+s.size)=s:=pu ⟨omq,ej⟩
 rw [hc]
 simp only [Tk.mk.injEq,true_and];omega
def i7 (t:T3)(d:Nat):Bool:=if t.1=1 then !cW d else if t.1=2 then !ldB d else if t.1=5∧t.2.2.size=1 then !n8 (bAt t.2.2 0) d else true
theorem wE {S:ByteArray}{a:Nat}{r:Bool}{t:T3}(hg:uV r t)(h:AtS S a t.T)(he:a+t.T.size=S.size∨i7 t (bAt S (a+t.T.size))=true):em S a r=⟨t.1,t.2.1,t.2.2,a+t.T.size⟩∧1≤t.T.size∧blB (bAt t.T 0)=false∧bAt t.T 0≠35:=by
 obtain⟨k,n,s⟩:=t
 obtain⟨g1,g2,g3⟩:=hg
 unfold T3.T at h he ⊢
 unfold i7 at he
 dsimp only at g1 g2 g3 h he ⊢
 unfold tkT at h he ⊢
 rw [if_pos g1] at h he ⊢
 by_cases k1:k=1
 ·subst k1
  rw [if_pos rfl] at h he ⊢
  rw [if_pos rfl] at he
  unfold bY at g1
  rw [if_pos rfl] at g1
  simp only [baq,dqt] at g1
  obtain⟨n0,n1,s0⟩:=g1
  obtain rfl:s=ByteArray.empty:=iw s0 fun j hj=>absurd hj omq
  have hd:=qO n0
  have hp:=qP n0
  simp only [kD,dqt] at hd
  have e0:bAt S a=bAt (iO n) 0:=h.2 0 omq
  have h0:=hd 0 omq
  have hr:bL cW S S.size a=a+(iO n).size:=wD omq h.1 (fun j h1 h2=>by
   have:=h.2 (j-a) omq
   rw [show a+(j-a)=j by omega] at this
   rw [this];exact hd _ omq) fun hlt=>by
    rcases he with he|he
    ·omega
    ·simpa using he
  refine⟨?_,hp,?_,?_⟩
  ·unfold em
   rw [e0,if_pos h0,hr,pu h,zr n0 n1]
  ·simp only [cW,baq,dqt] at h0
   simp [blB];omega
  ·simp only [cW,baq,dqt] at h0
   omega
 rw [if_neg k1] at h he ⊢
 rw [if_neg k1] at he
 by_cases k3:k=3
 ·subst k3
  rw [if_pos rfl] at h he ⊢
  have g4:dE 39 s=true∧n=0:=by simpa [bY] using g1
  obtain⟨g4,rfl⟩:=g4
  obtain⟨q0,q1⟩:=zh2 (b:=39) (k:=3) rfl h g4
  have hz:((⟨#[39]⟩++s)++⟨#[39]⟩:ByteArray).size=s.size+2:=by
   rw [ByteArray.size_append',ByteArray.size_append']
   show 1+s.size+1=_;omega
  have e0:=h.2 0 omq
  rw [Nat.add_zero,q0] at e0
  refine⟨?_,omq,by rw [←e0];rfl,omq⟩
  unfold em
  rw [q0,if_neg (by decide),if_neg (by decide),if_pos rfl,q1]
 rw [if_neg k3] at h he ⊢
 by_cases k4:k=4
 ·subst k4
  rw [if_pos rfl] at h he ⊢
  have g4:dE 47 s=true∧1≤s.size∧n=0:=by simpa [bY] using g1
  obtain⟨g4,-,rfl⟩:=g4
  obtain⟨q0,q1⟩:=zh2 (b:=47) (k:=4) rfl h g4
  have hz:((⟨#[47]⟩++s)++⟨#[47]⟩:ByteArray).size=s.size+2:=by
   rw [ByteArray.size_append',ByteArray.size_append']
   show 1+s.size+1=_;omega
  have e0:=h.2 0 omq
  rw [Nat.add_zero,q0] at e0
  refine⟨?_,omq,by rw [←e0];rfl,omq⟩
  unfold em
  rw [q0,if_neg (by decide),if_neg (by decide),if_neg (by decide),if_pos ⟨rfl,g2 rfl⟩,q1]
 rw [if_neg k4] at h he ⊢
 by_cases k2:k=2
 ·subst k2
  rw [if_pos rfl] at he
  have g4:d8 s=true∧n=0:=by simpa [bY] using g1
  obtain⟨g4,rfl⟩:=g4
  simp only [d8,baq,dqt,kD] at g4
  obtain⟨s1,s8,l0,la⟩:=g4
  have e0:bAt S a=bAt s 0:=h.2 0 omq
  have hr:bL ldB S S.size a=a+s.size:=wD omq h.1 (fun j h1 h2=>by
   have:=h.2 (j-a) omq
   rw [show a+(j-a)=j by omega] at this
   rw [this];exact la _ omq) fun hlt=>by
    rcases he with he|he
    ·omega
    ·simpa using he
  refine⟨?_,s1,?_,?_⟩
  ·unfold em
   rw [e0,if_neg (by rw [qN l0];simp),if_pos l0,hr,pu h]
  ·simp only [ic,baq,dqt] at l0
   simp [blB];omega
  ·simp only [ic,baq,dqt] at l0
   omega
 rw [if_neg k2] at he
 have k5:k=5:=by
  simp only [bY,if_neg k1,if_neg k2,if_neg k3,if_neg k4] at g1
  split at g1
  ·assumption
  ·cases g1
 subst k5
 have g4:eI s=true∧n=0:=by simpa [bY] using g1
 obtain⟨g4,rfl⟩:=g4
 by_cases hz:s.size=2
 ·have h6:n8 (bAt s 0) (bAt s 1)=true:=by simpa [eI,hz] using g4
  have e0:bAt S a=bAt s 0:=h.2 0 omq
  have hc:bz S a (a+2)=s:=by have:=pu h;rwa [hz] at this
  have hlt:=h.1
  have hh:bAt s 0=60∨bAt s 0=61∨bAt s 0=33∨bAt s 0=62∨bAt s 0=38∨bAt s 0=124:=by
   simp only [n8,Bool.or_eq_true,baq,dqt] at h6
   omega
  refine⟨?_,omq,?_,omq⟩
  ·unfold em
   have hd:cW (bAt s 0)=false:=by simp [cW];omega
   have hl:ic (bAt s 0)=false:=by simp [ic];omega
   rw [e0,hd,hl,if_neg (by simp),if_neg (by simp),if_neg omq,if_neg omq,hc,if_pos ⟨omq,g4⟩,hz]
  ·simp [blB];omega
 ·have hz1:s.size=1∧lY (bAt s 0)=true:=by simpa [eI,hz] using g4
  obtain⟨hz1,h1⟩:=hz1
  rw [if_pos ⟨rfl,hz1⟩] at he
  have e0:bAt S a=bAt s 0:=h.2 0 omq
  have hc:bz S a (a+1)=s:=by have:=pu h;rwa [hz1] at this
  have hlt:=h.1
  have h1b:=h1
  simp only [lY,List.contains_eq_mem,dqt,List.mem_cons,List.not_mem_nil,or_false] at h1
  have hn47:¬(bAt s 0=47∧r=true):=fun ⟨h47,hr⟩=>by
   have:=g3 rfl (iw hz1 fun j hj=>by
    obtain rfl:j=0:=by omega
    rw [h47];rfl)
   rw [hr] at this;cases this
  refine⟨?_,omq,?_,omq⟩
  ·unfold em
   have hd:cW (bAt s 0)=false:=by simp [cW];omega
   have hl:ic (bAt s 0)=false:=by simp [ic];omega
   have hm:¬(a+1<S.size∧eI (bz S a (a+2))=true):=fun ⟨q1,q2⟩=>by
    have hz2:=bO (s:=S) (a:=a) (b:=a+2) omq omq
    have q3:n8 (bAt s 0) (bAt S (a+1))=false:=by
     rcases he with he|he
     ·omega
     ·rw [hz1] at he;simpa using he
    have b0:bAt (bz S a (a+2)) 0=bAt S a:=by rw [d6 omq omq];rfl
    have b1:bAt (bz S a (a+2)) 1=bAt S (a+1):=by rw [d6 omq omq]
    have b2:(bz S a (a+2)).size=2:=by omega
    simp [eI,b2,b1,b0,e0,q3] at q2
   rw [e0,hd,hl,if_neg (by simp),if_neg (by simp),if_neg omq,if_neg hn47,if_neg hm,hc,hz1]
  ·simp [blB];omega
abbrev Pc:=List (Option T3)
def pcT:Option T3→ByteArray
 | none=>⟨#[32]⟩
 | some t=>t.T
def cB:Pc→ByteArray
 | []=>ByteArray.empty
 | x :: l=>pcT x++cB l
def bS:Pc→List T3
 | []=>[]
 | none :: l=>bS l
 | some t :: l=>t :: bS l
theorem er:∀(a b:Pc),cB (a++b)=cB a++cB b
 | [],b=>by show cB b=ByteArray.empty++cB b;rw [ByteArray.empty_append]
 | x :: a,b=>by show pcT x++cB (a++b)=(pcT x++cB a)++cB b;rw [er a b,ByteArray.append_assoc]
theorem di:∀(a b:Pc),bS (a++b)=bS a++bS b
 | [],b=>rfl
 | none :: a,b=>di a b
 | some t :: a,b=>by show t :: bS (a++b)=t :: (bS a++bS b);rw [di a b]
def zt:Pc→Option Nat→Option Nat
 | [],d=>d
 | x :: _,_=>some (bAt (pcT x) 0)
def wF (t:T3):Option Nat→Bool
 | none=>true
 | some d=>i7 t d
def okP:Bool→Pc→Option Nat→Bool→Prop
 | r,[],_,r'=>r=r'
 | r,none :: l,d,r'=>okP r l d r'
 | r,some t :: l,d,r'=>uV r t∧wF t (zt l d)=true∧okP (oT t.1 t.2.2) l d r'
theorem sB (a b:Pc)(d:Option Nat):zt (a++b) d=zt a (zt b d):=by
 cases a with
 | nil=>rfl
 | cons x a=>rfl
theorem fV:∀{a b:Pc} {d:Option Nat} {r r1 r':Bool},okP r a (zt b d) r1→okP r1 b d r'→okP r (a++b) d r'
 | [],b,d,r,r1,r',h,g=>by have:r=r1:=h;subst this;exact g
 | none :: a,b,d,r,r1,r',h,g=>fV (a:=a) h g
 | some t :: a,b,d,r,r1,r',h,g=>⟨h.1,by show wF t (zt (a++b) d)=true;rw [sB];exact h.2.1,fV (a:=a) h.2.2 g⟩
theorem wG {t:T3}(h:bY t.1 t.2.1 t.2.2=true):i7 t 32=true:=by
 unfold i7
 split
 ·rfl
 ·split
  ·rfl
  ·split
   ·simp [n8]
   ·rfl
theorem zv7 {x:Option T3}{r:Bool}(h:∀t,x=some t→uV r t):1≤(pcT x).size:=by
 cases x with
 | none=>exact nlr _
 | some t =>
  have hg:=h t rfl
  have:=(wE (S:=t.T) (a:=0) hg ⟨omq,fun j hj=>by rw [Nat.zero_add]⟩ (.inl omq)).2.1
  exact this
theorem wH {S:ByteArray}:∀(l:Pc) (a:Nat) (r r':Bool) (out:List E),okP r l none r'→out.length+(bS l).length≤2000→AtS S a (cB l)→a+(cB l).size=S.size→uf S (eV S a) r out=(out++(bS l).map T3.E,-1)
 | [],a,r,r',out,_,_,_,h=>by
  have h0:(cB []).size=0:=rfl
  rw [gO fun hh=>by omega,qH omq]
  simp [bS]
 | none :: l,a,r,r',out,hc,hn,hA,hz=>by
  have hs:(cB (none :: l)).size=1+(cB l).size:=by show (pcT none++cB l).size=_;rw [ByteArray.size_append'];rfl
  have h0:bAt S a=32:=by
   have:=hA.2 0 omq
   rw [Nat.add_zero] at this
   rw [this]
   show bAt (pcT none++cB l) 0=32
   rw [fP (by show 0<1;omega)];rfl
  rw [jk omq (by rw [h0];rfl)]
  refine wH l (a+1) r r' out hc hn ⟨omq,fun j hj=>?_⟩ omq
  have:=hA.2 (1+j) omq
  rw [←Nat.add_assoc] at this
  rw [this]
  show bAt (pcT none++cB l) (1+j)=_
  rw [jG (by show 1≤1+j;omega)]
  congr 1
  show 1+j-1=j;omega
 | some t :: l,a,r,r',out,hc,hn,hA,hz=>by
  obtain⟨hg,hst,hc2⟩:=hc
  have hs:(cB (some t :: l)).size=t.T.size+(cB l).size:=by show (pcT (some t)++cB l).size=_;rw [ByteArray.size_append'];rfl
  have hA1:AtS S a t.T:=⟨omq,fun j hj=>by
   rw [hA.2 j omq]
   show bAt (t.T++cB l) j=_
   rw [fP hj]⟩
  have hA2:AtS S (a+t.T.size) (cB l):=⟨omq,fun j hj=>by
   have:=hA.2 (t.T.size+j) omq
   rw [←Nat.add_assoc] at this
   rw [this]
   show bAt (t.T++cB l) (t.T.size+j)=_
   rw [jG omq]
   congr 1;omega⟩
  have he:a+t.T.size=S.size∨i7 t (bAt S (a+t.T.size))=true:=by
   cases l with
   | nil=>left;have h0:(cB []).size=0:=rfl;omega
   | cons x l =>
    right
    have hst':i7 t (bAt (pcT x) 0)=true:=hst
    have hx:1≤(pcT x).size:=zv7 (r:=oT t.1 t.2.2) fun u hu=>by subst hu;exact hc2.1
    have h1:(cB (x :: l)).size=(pcT x).size+(cB l).size:=by show (pcT x++cB l).size=_;rw [ByteArray.size_append']
    have:=hA2.2 0 omq
    rw [Nat.add_zero] at this
    rw [this]
    show i7 t (bAt (pcT x++cB l) 0)=true
    rw [fP omq]
    exact hst'
  obtain⟨o0,o1,o2,o3⟩:=wE hg hA1 he
  have e0:bAt S a=bAt t.T 0:=hA1.2 0 omq
  have hlt:=hA1.1
  rw [gO fun ⟨_,hh⟩=>by
   rw [e0,o2] at hh
   rcases hh with hh|hh
   ·cases hh
   ·exact o3 hh]
  have hn':out.length+((bS l).length+1)≤2000:=by simpa [bS] using hn
  have hy:=qI (s:=S) (a:=a) (rex:=r) (out:=out) omq (by rw [o0];exact hg.1) omq
  rw [o0] at hy
  rw [hy]
  dsimp only
  have hE:(Tk.mk t.1 t.2.1 t.2.2 (a+t.T.size)).E=t.E:=rfl
  rw [hE,wH l (a+t.T.size) _ r' _ hc2 (by rw [lla,List.length_singleton];omega) hA2 omq]
  simp [bS]
theorem zc5 {l:Pc}{r':Bool}(h:okP false l none r')(hn:(bS l).length≤2000):i6 (cB l)=((bS l).map T3.E,-1):=by
 unfold i6
 rw [wH l 0 false r' [] h (by simpa using hn) ⟨omq,fun j hj=>by rw [Nat.zero_add]⟩ omq]
 rfl
def gpI (b:Nat)(c:E→Nat):List E→Nat→Nat
 | [],n=>n
 | x :: r,n=>if b<n+c x then b+1 else gpI b c r (n+c x)
def sC (b:Nat)(hd:E→Bool)(kd:E→List E):Nat→E→Nat
 | 0,_=>b+1
 | f+1,e=>if hd e=true then gpI b (sC b hd kd f) (kd e) 1 else b+1
def gpS (b:Nat)(c:E→Nat):List E→Nat→Nat
 | [],n=>n
 | x :: r,n=>if n≤b then gpS b c r (n+c x) else n
def lw (b:Nat)(kd:E→List E):Nat→E→Nat
 | 0,_=>b+1
 | f+1,e=>gpS b (lw b kd f) (kd e) 1
def okF (hd:E→Bool)(kd:E→List E):Nat→E→Bool
 | 0,_=>false
 | f+1,e=>(kd e).all (okF hd kd f)&&hd e
def okE (hd:E→Bool)(kd:E→List E)(e:E):Bool:=okF hd kd (e.sz+1) e
section
variable {b:Nat}{hd:E→Bool}{kd:E→List E}
theorem wI (hk:∀e x,x∈kd e→x.sz<e.sz):∀(n f:Nat) (e:E),e.sz<n→e.sz<f→okF hd kd f e=okE hd kd e
 | 0,_,_,h,_=>absurd h (Nat.not_lt_zero _)
 | n+1,0,_,_,h=>absurd h (Nat.not_lt_zero _)
 | n+1,f+1,e,h1,h2=>by
  have key:∀x∈kd e,okF hd kd f x=okF hd kd e.sz x:=fun x hx=>by
   have hs:=hk e x hx
   rw [wI hk n f x omq omq,wI hk n e.sz x omq hs]
  show ((kd e).all (okF hd kd f)&&hd e)=((kd e).all (okF hd kd e.sz)&&hd e)
  congr 1
  apply Bool.eq_iff_iff.2
  simp only [List.all_eq_true]
  exact⟨fun h x hx=>by rw [←key x hx];exact h x hx,fun h x hx=>by rw [key x hx];exact h x hx⟩
theorem jH (hk:∀e x,x∈kd e→x.sz<e.sz)(e:E):okE hd kd e=((kd e).all (okE hd kd)&&hd e):=by
 show ((kd e).all (okF hd kd e.sz)&&hd e)=_
 congr 1
 apply Bool.eq_iff_iff.2
 simp only [List.all_eq_true]
 have key:∀x∈kd e,okF hd kd e.sz x=okE hd kd x:=fun x hx=>wI hk (x.sz+1) e.sz x omq (hk e x hx)
 exact⟨fun h x hx=>by rw [←key x hx];exact h x hx,fun h x hx=>by rw [key x hx];exact h x hx⟩
theorem sD {c:E→Nat}:∀(l:List E) (n:Nat),n≤gpS b c l n
 | [],n=>nlr _
 | x :: r,n=>by
  unfold gpS
  split
  ·exact Nat.le_trans (Nat.le_add_right _ _) (sD r _)
  ·exact nlr _
theorem wJ {ci cs:E→Nat}{ok:E→Bool}(h:∀x,(ci x≤b↔cs x≤b∧ok x=true)∧(ci x≤b→ci x=cs x)):∀(l:List E) (n:Nat),n≤b →
 (gpI b ci l n≤b↔gpS b cs l n≤b∧l.all ok=true)∧(gpI b ci l n≤b→gpI b ci l n=gpS b cs l n)
 | [],n,hn=>⟨⟨fun h=>⟨h,rfl⟩,fun h=>h.1⟩,fun _=>rfl⟩
 | x :: r,n,hn=>by
  obtain⟨h1,h2⟩:=h x
  have e1:gpS b cs (x :: r) n=gpS b cs r (n+cs x):=if_pos hn
  rw [e1,List.all_cons]
  by_cases hx:ci x≤b
  ·obtain⟨g1,g2⟩:=h1.1 hx
   rw [←h2 hx,g2,Bool.true_and]
   by_cases hm:b<n+ci x
   ·have e2:gpI b ci (x :: r) n=b+1:=if_pos hm
    rw [e2]
    have:=sD (b:=b) (c:=cs) r (n+ci x)
    exact⟨⟨fun h=>by omega,fun h=>by omega⟩,fun h=>by omega⟩
   ·have e2:gpI b ci (x :: r) n=gpI b ci r (n+ci x):=if_neg hm
    rw [e2]
    exact wJ h r (n+ci x) omq
  ·have e2:gpI b ci (x :: r) n=b+1:=if_pos omq
   rw [e2]
   refine⟨⟨fun h=>by omega,fun hh=>?_⟩,fun h=>by omega⟩
   obtain⟨g1,g2⟩:=hh
   rw [baq] at g2
   have:=sD (b:=b) (c:=cs) r (n+cs x)
   exact absurd (h1.2 ⟨omq,g2.1⟩) hx
theorem wK (hb:1≤b)(hk:∀e x,x∈kd e→x.sz<e.sz):∀(f:Nat) (e:E),(sC b hd kd f e≤b↔lw b kd f e≤b∧okE hd kd e=true)∧(sC b hd kd f e≤b→sC b hd kd f e=lw b kd f e)
 | 0,e=>⟨⟨fun h=>absurd h (by show ¬b+1≤b;omega),fun h=>absurd h.1 (by show ¬b+1≤b;omega)⟩,fun h=>absurd h (by show ¬b+1≤b;omega)⟩
 | f+1,e=>by
  rw [jH hk e]
  by_cases hh:hd e=true
  ·have e1:sC b hd kd (f+1) e=gpI b (sC b hd kd f) (kd e) 1:=if_pos hh
   rw [e1,hh,Bool.and_true]
   exact wJ (wK hb hk f) (kd e) 1 hb
  ·have e1:sC b hd kd (f+1) e=b+1:=if_neg hh
   have e2:hd e=false:=by cases h:hd e with
    | false=>rfl
    | true=>exact absurd h hh
   rw [e1,e2,Bool.and_false]
   exact⟨⟨fun h=>by omega,fun h=>by cases h.2⟩,fun h=>by omega⟩
theorem zw7 (hb:1≤b)(hk:∀e x,x∈kd e→x.sz<e.sz)(f:Nat)(e:E):decide (sC b hd kd f e≤b)=(decide (lw b kd f e≤b)&&okE hd kd e):=by
 obtain⟨h1,-⟩:=wK (hd:=hd) hb hk f e
 apply Bool.eq_iff_iff.2
 simp only [baq,dqt]
 exact h1
theorem zi2 {c:E→Nat}:∀(l:List E) (n:Nat),n≤b→gpI b c l n≤b+1
 | [],n,h=>by show n≤b+1;omega
 | x :: r,n,h=>by
  unfold gpI
  split
  ·exact nlr _
  ·exact zi2 r _ omq
theorem zd5:∀(f:Nat) (e:E),1≤b→sC b hd kd f e≤b+1
 | 0,_,_=>nlr _
 | f+1,e,h=>by
  unfold sC
  split
  ·exact zi2 _ _ h
  ·exact nlr _
theorem zj2 {c:E→Nat}{m:Nat}(hc:∀x,c x≤m):∀(l:List E) (n:Nat),n≤b+m→gpS b c l n≤b+m
 | [],n,h=>h
 | x :: r,n,h=>by
  unfold gpS
  split
  ·exact zj2 hc r _ (by have:=hc x;omega)
  ·exact h
theorem wL:∀(f:Nat) (e:E),1≤b→lw b kd f e≤b+1+b*f
 | 0,_,_=>by show b+1≤b+1+b*0;omega
 | f+1,e,h=>by
  show gpS b (lw b kd f) (kd e) 1≤_
  have:=zj2 (b:=b) (m:=b+1+b*f) (fun x=>wL f x h) (kd e) 1 omq
  rw [Nat.mul_succ]
  omega
end
def ma (c:Nat):Bool:=(decide (97≤c)&&decide (c≤122))||(decide (65≤c)&&decide (c≤90))||(decide (48≤c)&&decide (c≤57))||c==32||c==95||c==45||c==44||c==58
def eX (s:ByteArray)(i:Nat):Bool:=ma (bAt s i)&&(i==0||decide (bAt s (i-1)<bAt s i))
def ig (s:ByteArray):Bool:=(List.range s.size).all (eX s)&&(decide (1≤s.size)&&decide (s.size≤10))
def gR (k:Int):Bool:=k==6||k==7||k==8
def du (k:Int)(s:ByteArray)(l:List E):E:=.agg [.int .i64 k,.str s,.lst 3 112 none 0 l]
def dv:E:=du 0 ByteArray.empty []
def E.rk:E→Int
 | .agg (.int _ k :: _)=>k
 | _=>0
def E.rs:E→ByteArray
 | .agg (_ :: .str s :: _)=>s
 | _=>ByteArray.empty
def E.rl:E→List E
 | .agg (_ :: _ :: .lst _ _ _ _ l :: _)=>l
 | _=>[]
def fW (k:Int)(s:ByteArray)(l:List E):Bool :=
 if k=1 then s.size==1&&ma (bAt s 0)&&l.length==0
 else if k=3 then ig s&&l.length==0
 else if k=2∨k=9∨k=10∨k=11 then s.size==0&&l.length==0
 else if k=4∨k=5 then s.size==0&&(decide (2≤l.length)&&decide (l.length≤8))
 else if k=6∨k=7∨k=8 then s.size==0&&l.length==1&&!(l.any fun x=>gR x.rk)
 else false
def m6 (e:E):Bool:=fW e.rk e.rs e.rl&&!((e.rk==4||e.rk==5)&&e.rl.any fun x=>x.rk==e.rk)
def kG (g:E→Nat):List E→Nat→Nat
 | [],n=>n
 | x :: r,n=>if 61≤n+g x then 61 else kG g r (n+g x)
def bR:Nat→E→Nat
 | 0,_=>61
 | f+1,e=>if m6 e then kG (bR f) e.rl 1 else 61
def nz (g:E→Nat):List E→Nat→Nat
 | [],n=>n
 | x :: r,n=>if n≤60 then nz g r (n+g x) else n
def dF:Nat→E→Nat
 | 0,_=>61
 | f+1,e=>nz (dF f) e.rl 1
def okS:Nat→E→Bool
 | 0,_=>false
 | f+1,e=>(e.rl.all fun x=>okS f x&&!(x.rk==e.rk&&!gR e.rk))&&fW e.rk e.rs e.rl
def eO (e:E):Bool:=decide (bR 6 e≤60)
def mb (e:E):Bool:=decide (dF 6 e≤60)&&okS 6 e
theorem wM (g:E→Nat):∀(l:List E) (n:Nat),n≤61→kG g l n≤61
 | [],n,h=>h
 | x :: r,n,h=>by
  unfold kG
  split
  ·omega
  ·exact wM g r _ omq
theorem wN (f:Nat)(e:E):bR f e≤61:=by
 cases f with
 | zero=>exact nlr _
 | succ f=>unfold bR;split<;>first|exact wM _ _ _ omq|omega
theorem jm {g:E→Nat}:∀{l:List E} {n:Nat},kG g l n≤60→n≤60∧(∀x∈l,g x≤60)
 | [],n,h=>⟨h,fun x hx=>absurd hx List.not_mem_nil⟩
 | x :: r,n,h=>by
  unfold kG at h
  split at h
  ·omega
  ·rename_i hn
   obtain⟨h1,h2⟩:=jm h
   exact⟨omq,fun y hy=>by rcases List.mem_cons.1 hy with rfl|hy;·omega
                          ·exact h2 y hy⟩
theorem qQ {g:E→Nat}:∀(l:List E) (n:Nat),n≤nz g l n
 | [],n=>nlr _
 | x :: r,n=>by
  unfold nz
  split
  ·exact Nat.le_trans (Nat.le_add_right _ _) (qQ r _)
  ·exact nlr _
theorem mc {g:E→Nat}:∀{l:List E} {n:Nat},nz g l n≤60→n≤60∧(∀x∈l,g x≤60)
 | [],n,h=>⟨h,fun x hx=>absurd hx List.not_mem_nil⟩
 | x :: r,n,h=>by
  unfold nz at h
  split at h
  ·rename_i hn
   have h0:=qQ r (n+g x) (g:=g)
   obtain⟨h1,h2⟩:=mc h
   exact⟨hn,fun y hy=>by rcases List.mem_cons.1 hy with rfl|hy;·omega
                         ·exact h2 y hy⟩
  ·omega
theorem sE {g h:E→Nat}:∀{l:List E} (n:Nat),(∀x∈l,g x≤60→h x=g x)→kG g l n≤60→nz h l n=kG g l n
 | [],n,_,_=>rfl
 | x :: r,n,hx,hs=>by
  have h0:=(jm hs).1
  have h1:=(jm hs).2 x mcs
  unfold kG at hs ⊢
  unfold nz
  rw [if_pos h0,hx x mcs h1]
  split at hs
  ·omega
  ·rename_i hn;rw [if_neg hn];exact sE _ (fun y hy=>hx y (mco _ hy)) hs
theorem sum_same' {g h:E→Nat}:∀{l:List E} (n:Nat),(∀x∈l,h x≤60→g x=h x)→nz h l n≤60→kG g l n=nz h l n
 | [],n,_,_=>rfl
 | x :: r,n,hx,hs=>by
  have h0:=(mc hs).1
  have h1:=(mc hs).2 x mcs
  unfold nz at hs ⊢
  unfold kG
  rw [if_pos h0] at hs ⊢
  have h2:=qQ r (n+h x) (g:=h)
  rw [hx x mcs h1,if_neg omq]
  exact sum_same' _ (fun y hy=>hx y (mco _ hy)) hs
theorem zu {e:E}(h1:fW e.rk e.rs e.rl=true)(h2:(e.rl.all fun x=>!(x.rk==e.rk&&!gR e.rk))=true):m6 e=true:=by
 unfold m6
 rw [h1,Bool.true_and,bnt,Bool.and_eq_false_iff]
 by_cases hk:(e.rk==4||e.rk==5)=true
 ·right
  rw [Bool.eq_false_iff]
  intro h
  obtain⟨x,hx,hxk⟩:=List.any_eq_true.1 h
  have:=List.all_eq_true.1 h2 x hx
  rw [hxk] at this
  have h3:gR e.rk=false:=by
   unfold gR
   rcases Bool.or_eq_true_iff.1 hk with hk|hk<;>rw [eq_of_beq hk]<;>rfl
  rw [h3] at this
  cases this
 ·left;simpa using hk
theorem qR {e:E}(h:m6 e=true):fW e.rk e.rs e.rl=true∧(e.rl.all fun x=>!(x.rk==e.rk&&!gR e.rk))=true:=by
 unfold m6 at h
 rw [baq] at h
 refine⟨h.1,List.all_eq_true.2 fun x hx=>?_⟩
 rw [bnt,Bool.eq_false_iff]
 intro hc
 rw [baq,bnt] at hc
 have h2:=h.2
 rw [bnt,Bool.and_eq_false_iff] at h2
 have hk:(e.rl.any fun y=>y.rk==e.rk)=true:=List.any_eq_true.2 ⟨x,hx,hc.1⟩
 rcases h2 with h2|h2
 ·have h1:=h.1
  unfold fW at h1
  by_cases k4:e.rk=4
  ·rw [k4] at h2;cases h2
  by_cases k5:e.rk=5
  ·rw [k5] at h2;cases h2
  have hl:¬e.rl.length=0:=fun h0=>by rw [List.length_eq_zero_iff.1 h0] at hx;exact absurd hx List.not_mem_nil
  have hlk:¬(e.rk=6∨e.rk=7∨e.rk=8):=fun h0=>by
   have:=hc.2
   unfold gR at this
   rcases h0 with h0|h0|h0<;>rw [h0] at this<;>cases this
  have hl':(e.rl.length==0)=false:=by simpa using hl
  simp only [hl',Bool.and_false,hlk,if_false,k4,k5,or_self] at h1
  split at h1<;>(try cases h1)
  split at h1<;>(try cases h1)
  split at h1<;>cases h1
 ·rw [hk] at h2;cases h2
theorem sF (f:Nat):∀e:E,(bR f e≤60↔dF f e≤60∧okS f e=true)∧(bR f e≤60→dF f e=bR f e):=by
 induction f with
 | zero=>intro e;simp [bR,dF,okS]
 | succ f ih =>
  intro e
  have key:bR (f+1) e≤60→dF (f+1) e=bR (f+1) e∧okS (f+1) e=true:=by
   intro h
   unfold bR at h ⊢
   split at h
   ·rename_i hh
    rw [if_pos hh]
    have h1:=(jm h).2
    refine⟨?_,?_⟩
    ·unfold dF
     exact sE _ (fun x hx hp=>(ih x).2 hp) h
    ·unfold okS
     obtain⟨h3,h4⟩:=qR hh
     rw [h3,Bool.and_true]
     refine List.all_eq_true.2 fun x hx=>?_
     rw [((ih x).1.1 (h1 x hx)).2,Bool.true_and]
     exact List.all_eq_true.1 h4 x hx
   ·omega
  refine⟨⟨fun h=>⟨by rw [(key h).1];exact h,(key h).2⟩,fun ⟨h1,h2⟩=>?_⟩,fun h=>(key h).1⟩
  unfold okS at h2
  rw [baq] at h2
  have hall:=List.all_eq_true.1 h2.1
  have hh:m6 e=true:=zu h2.2 (List.all_eq_true.2 fun x hx=>(Bool.and_eq_true_iff.1 (hall x hx)).2)
  unfold bR
  rw [if_pos hh]
  unfold dF at h1
  have h3:=(mc h1).2
  rw [sum_same' (h:=dF f) _ (fun x hx hp=>?_) h1]
  ·exact h1
  ·exact ((ih x).2 ((ih x).1.2 ⟨hp,(Bool.and_eq_true_iff.1 (hall x hx)).1⟩)).symm
theorem uk (e:E):eO e=mb e:=by
 unfold eO mb
 have h:=(sF 6 e).1
 by_cases h1:bR 6 e≤60
 ·have:=h.1 h1
  simp [h1,this]
 ·have h2:¬(dF 6 e≤60∧okS 6 e=true):=fun q=>h1 (h.2 q)
  simp only [h1,decide_false]
  by_cases h3:dF 6 e≤60
  ·have:okS 6 e=false:=by simpa using fun q=>h2 ⟨h3,q⟩
   simp [this]
  ·simp [h3]
end Go.Proofs.YtomolhbkdhjofaaGreatDoor
