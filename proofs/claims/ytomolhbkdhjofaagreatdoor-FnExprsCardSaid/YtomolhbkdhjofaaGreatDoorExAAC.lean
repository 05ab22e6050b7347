/- T -/
import Derived.Test.YtomolhbkdhjofaaGreatDoorExAAB
set_option maxHeartbeats 0
set_option maxRecDepth 100000
namespace Go.Proofs.YtomolhbkdhjofaaGreatDoor
open Go.RowKit Go.Proofs.Tryz
structure RI where
 a:Nat
 b:Bool
def RI.up (r:RI):RI:=⟨r.a+1,r.b⟩
section
variable (L:List T3)
def isI (r:RI)(j:Nat)(s:ByteArray):Bool:=(decide ((tAt L (r.a+j)).1=5)||decide ((tAt L (r.a+j)).1=2))&&decide ((tAt L (r.a+j)).2.2=s)
def waI (r:RI)(s:ByteArray):RI:=⟨r.a+1,r.b||!isI L r 0 s⟩
def taI (r:RI)(k:Int):T3×RI:=(tAt L r.a,⟨r.a+1,r.b||!decide ((tAt L r.a).1=k)⟩)
variable (g:RI→E×RI)
def lsI (en:ByteArray):Nat→List E→RI→List E×RI
 | 0,l,r=>(l,r)
 | n+1,l,r=>if r.b=true∨isI L r 0 en=true then (l,r) else lsI en n (l++[(g (if l=[] then r else waI L r ⟨#[44]⟩)).1]) (g (if l=[] then r else waI L r ⟨#[44]⟩)).2
def ny (en:ByteArray)(r:RI):List E×RI:=((lsI L g en (L.length+2) [] r).1,waI L (lsI L g en (L.length+2) [] r).2 en)
def j9 (k:Int)(s:ByteArray)(r:RI):E×RI:=(xE k 0 s (ny L g ⟨#[41]⟩ (waI L r.up ⟨#[40]⟩)).1,(ny L g ⟨#[41]⟩ (waI L r.up ⟨#[40]⟩)).2)
def oI (r:RI):E×RI :=
 (xE 18 0 (taI L (waI L (g (waI L r ⟨#[40]⟩)).2 ⟨#[126]⟩) 4).1.2.2 [(g (waI L r ⟨#[40]⟩)).1,(g (waI L (taI L (waI L (g (waI L r ⟨#[40]⟩)).2 ⟨#[126]⟩) 4).2 ⟨#[44]⟩)).1],waI L (g (waI L (taI L (waI L (g (waI L r ⟨#[40]⟩)).2 ⟨#[126]⟩) 4).2 ⟨#[44]⟩)).2 ⟨#[41]⟩)
def cu (s:ByteArray)(r:RI):E×RI :=
 if s=⟨#[108,101,110,103,116,104]⟩ then j9 L g 12 ByteArray.empty r
 else if s=⟨#[115,117,98,115,116,114]⟩ then j9 L g 13 ByteArray.empty r
 else if s=⟨#[105,110,100,101,120]⟩ then j9 L g 16 ByteArray.empty r
 else if s=⟨#[117,112,112,101,114]⟩ then j9 L g 17 ByteArray.empty r
 else if s=⟨#[110,114]⟩ then (xE 14 0 ByteArray.empty [],r.up)
 else if s=⟨#[110,102]⟩ then (xE 15 0 ByteArray.empty [],r.up)
 else if s=⟨#[103,115,117,98]⟩ then oI L g r.up
 else if isI L r 1 ⟨#[40]⟩=true then j9 L g 11 s r
 else if isI L r.up 0 ⟨#[91]⟩=true then (xE 4 0 s [(g r.up.up).1],waI L (g r.up.up).2 ⟨#[93]⟩)
 else (xE 3 0 s [],r.up)
def enI (r:RI):E×RI :=
 if isI L (g (waI L r ⟨#[40]⟩)).2 0 ⟨#[105,110]⟩=true then (xE 9 0 (taI L (g (waI L r ⟨#[40]⟩)).2.up 2).1.2.2 [(g (waI L r ⟨#[40]⟩)).1],waI L (taI L (g (waI L r ⟨#[40]⟩)).2.up 2).2 ⟨#[41]⟩)
 else if isI L (g (waI L r ⟨#[40]⟩)).2 0 ⟨#[126]⟩=true then (xE 10 0 (taI L (g (waI L r ⟨#[40]⟩)).2.up 4).1.2.2 [(g (waI L r ⟨#[40]⟩)).1],waI L (taI L (g (waI L r ⟨#[40]⟩)).2.up 4).2 ⟨#[41]⟩)
 else (xE 6 0 (taI L (g (waI L r ⟨#[40]⟩)).2 5).1.2.2 [(g (waI L r ⟨#[40]⟩)).1,(g (taI L (g (waI L r ⟨#[40]⟩)).2 5).2).1],waI L (g (taI L (g (waI L r ⟨#[40]⟩)).2 5).2).2 ⟨#[41]⟩)
def fH (s:ByteArray):Int:=if s=⟨#[36]⟩ then 5 else if s=⟨#[33]⟩ then 7 else if s=⟨#[45]⟩ then 8 else 0
def paI (r:RI):E×RI :=
 if (tAt L r.a).1=1 then (xE 1 (tAt L r.a).2.1 ByteArray.empty [],r.up)
 else if (tAt L r.a).1=3 then (xE 2 0 (tAt L r.a).2.2 [],r.up)
 else if (tAt L r.a).1=2 then cu L g (tAt L r.a).2.2 r
 else if isI L r 0 ⟨#[40]⟩=true then enI L g r
 else if (tAt L r.a).1=5∧0<fH (tAt L r.a).2.2 then (xE (fH (tAt L r.a).2.2) 0 ByteArray.empty [(g r.up).1],(g r.up).2)
 else (zE,⟨r.a,true⟩)
end
def exI (L:List T3):Nat→RI→E×RI
 | 0,r=>(zE,⟨r.a,true⟩)
 | f+1,r=>if r.b=true then (zE,r) else paI L (exI L f) r
section
variable {L:List T3}{t:T3}{rest:List T3}
theorem cQ {a:Nat}(h:L.drop a=t :: rest):tAt L a=t∧L.drop (a+1)=rest:=by
 have:=bY (r:=⟨a,false,0⟩) h
 exact⟨this.2.1,this.2.2⟩
theorem nd {a j:Nat}{b:Bool}(h:L.drop (a+j)=t :: rest)(s:ByteArray):isI L ⟨a,b⟩ j s=((decide (t.1=5)||decide (t.1=2))&&decide (t.2.2=s)):=by
 unfold isI
 dsimp only
 rw [(cQ h).1]
theorem iU {a:Nat}{m:ByteArray}(h:L.drop a=(5,0,m) :: rest):waI L ⟨a,false⟩ m=⟨a+1,false⟩:=by
 unfold waI
 rw [nd (j:=0) h]
 simp
theorem yC {a:Nat}{k:Int}(h:L.drop a=t :: rest)(hk:t.1=k):taI L ⟨a,false⟩ k=(t,⟨a+1,false⟩):=by
 unfold taI
 rw [(cQ h).1]
 simp [hk]
end
def nfI (rest:List T3):Prop:=∀t r,rest=t :: r→¬((t.1=5∨t.1=2)∧(t.2.2=⟨#[40]⟩∨t.2.2=⟨#[91]⟩))
theorem nf {k n:Int}{m:ByteArray}{rest:List T3}(h1:m≠⟨#[40]⟩)(h2:m≠⟨#[91]⟩):nfI ((k,n,m) :: rest):=fun t r h=>by
 injection h with h3 h4
 subst h3
 rintro ⟨-,q|q⟩
 ·exact h1 q
 ·exact h2 q
def BkI (L:List T3)(g:RI→E×RI)(e:E):Prop:=∀a rest,L.drop a=tkE e++rest→nfI rest→g ⟨a,false⟩=(gk e,⟨a+(tkE e).length,false⟩)
theorem zq2 {L:List T3}(hL:okL L){a:Nat}{b:Bool}{t:T3}{q:List T3}(h:L.drop a=t :: q)(hf:fstT t):isI L ⟨a,b⟩ 0 ⟨#[41]⟩=false:=by
 rw [nd (j:=0) h]
 have hok:cq t.1 t.2.1 t.2.2=true:=by
  have h1:=bY (r:=⟨a,false,0⟩) h
  have:=zO hL h1.1
  rwa [h1.2.1] at this
 by_cases h5:t.1=5
 ·have:t.2.2≠⟨#[41]⟩:=by
   rcases hf with hf|hf|hf|hf|hf
   ·exact absurd h5 hf
   all_goals (rw [hf];decide)
  simp [this]
 ·by_cases h2:t.1=2
  ·rw [h2] at hok
   have hw:dD t.2.2=true:=by
    have:dD t.2.2=true∧t.2.1=0:=by simpa [cq] using hok
    exact this.1
   have:t.2.2≠⟨#[41]⟩:=fun e=>by
    rw [e] at hw
    revert hw
    decide
   simp [this]
  ·simp [h5,h2]
theorem wl {L:List T3}(hL:okL L){g:RI→E×RI}:∀(l:List E) (n:Nat) (acc:List E) (a:Nat) (rest:List T3),l.length+1≤n→(∀x∈l,BkI L g x)→(∀x∈l,okX x=true)→L.drop a=(if acc=[]∨l=[] then [] else [(5,0,⟨#[44]⟩)])++(jtk l++(5,0,⟨#[41]⟩) :: rest)→lsI L g ⟨#[41]⟩ n acc ⟨a,false⟩=(acc++l.map gk,⟨a+(if acc=[]∨l=[] then 0 else 1)+(jtk l).length,false⟩)
 | [],n+1,acc,a,rest,_,_,_,h=>by
  have h':L.drop a=(5,0,⟨#[41]⟩) :: rest:=by
   rw [if_pos (.inr rfl)] at h
   exact h
  unfold lsI
  rw [if_pos (.inr (by rw [nd (j:=0) h'];decide)),if_pos (.inr rfl)]
  simp;rfl
 | x :: l,n+1,acc,a,rest,hn,hx,ho,h=>by
  obtain⟨t,q,et,hf⟩:=wg ho (by simp)
  obtain⟨a0,ha0⟩:∃a0,a0=a+(if acc=[]∨x :: l=[] then 0 else 1):=⟨_,rfl⟩
  have key:L.drop a0=jtk (x :: l)++(5,0,⟨#[41]⟩) :: rest∧(if acc=[] then (⟨a,false⟩:RI) else waI L ⟨a,false⟩ ⟨#[44]⟩)=⟨a0,false⟩∧isI L ⟨a,false⟩ 0 ⟨#[41]⟩=false:=by
   by_cases hacc:acc=[]
   ·rw [if_pos (.inl hacc)] at h ha0
    rw [if_pos hacc]
    subst ha0
    refine⟨h,rfl,?_⟩
    rw [List.nil_append,et,List.cons_append] at h
    exact zq2 hL h hf
   ·have hno:¬(acc=[]∨x :: l=[]):=by simp [hacc]
    rw [if_neg hno] at h ha0
    rw [if_neg hacc]
    subst ha0
    have h':L.drop a=(5,0,⟨#[44]⟩) :: (jtk (x :: l)++(5,0,⟨#[41]⟩) :: rest):=h
    refine⟨(cQ h').2,iU h',?_⟩
    rw [nd (j:=0) h']
    decide
  obtain⟨hd0,hw,hend⟩:=key
  have hne:¬(acc++[gk x]=[]∨l=[])↔l≠[]:=by simp
  have hd1:L.drop (a0+(tkE x).length)=(if acc++[gk x]=[]∨l=[] then [] else [(5,0,⟨#[44]⟩)])++(jtk l++(5,0,⟨#[41]⟩) :: rest)∧g ⟨a0,false⟩=(gk x,⟨a0+(tkE x).length,false⟩):=by
   by_cases hl:l=[]
   ·subst hl
    rw [if_pos (.inr rfl)]
    have hd0':L.drop a0=tkE x++(5,0,⟨#[41]⟩) :: rest:=hd0
    exact⟨cz hd0',hx x (by simp) a0 _ hd0' (nf (by decide) (by decide))⟩
   ·rw [if_neg (hne.2 hl)]
    rw [g8 x hl,List.append_assoc] at hd0
    exact⟨cz hd0,hx x (by simp) a0 _ hd0 (nf (by decide) (by decide))⟩
  unfold lsI
  rw [if_neg (by rw [hend];simp),hw,hd1.2]
  dsimp only
  rw [wl hL l n (acc++[gk x]) (a0+(tkE x).length) rest (by simp only [List.length_cons] at hn;omega) (fun y hy=>hx y (List.mem_cons_of_mem _ hy)) (fun y hy=>ho y (List.mem_cons_of_mem _ hy)) hd1.1]
  rw [←ha0]
  refine Prod.ext (by simp) (congrArg (fun z=>RI.mk z false) ?_)
  by_cases hl:l=[]
  ·subst hl
   rw [if_pos (.inr rfl)]
   rfl
  ·rw [if_neg (hne.2 hl),g8 x hl,List.length_append,List.length_cons]
   omega
section
variable {L:List T3}{g:RI→E×RI}
theorem jI {a:Nat}{b:Bool}{t:T3}{rest:List T3}(h:L.drop a=t :: rest)(s:ByteArray):isI L ⟨a,b⟩ 0 s=((decide (t.1=5)||decide (t.1=2))&&decide (t.2.2=s)):=nd (j:=0) h s
theorem yD (hL:okL L){l:List E}{a:Nat}{rest:List T3}(hx:∀x∈l,BkI L g x)(ho:∀x∈l,okX x=true)(h:L.drop a=jtk l++(5,0,⟨#[41]⟩) :: rest):ny L g ⟨#[41]⟩ ⟨a,false⟩=(l.map gk,⟨a+((jtk l).length+1),false⟩):=by
 have hlen:l.length+1≤L.length+2:=by
  have a1:=pW ho
  have a2:(L.drop a).length=(jtk l++(5,0,⟨#[41]⟩) :: rest).length:=by rw [h]
  rw [List.length_drop,List.length_append] at a2
  omega
 unfold ny
 rw [wl hL l (L.length+2) [] a rest hlen hx ho (by rw [if_pos (.inl rfl)];exact h),if_pos (.inl rfl)]
 have h2:L.drop (a+0+(jtk l).length)=(5,0,⟨#[41]⟩) :: rest:=cz h
 dsimp only
 rw [iU h2]
 exact Prod.ext (by simp) (congrArg (fun z=>RI.mk z false) omq)
theorem iV (hL:okL L){k:Int}{w s:ByteArray}{l:List E}{a:Nat}{rest:List T3}(hx:∀x∈l,BkI L g x)(ho:∀x∈l,okX x=true)(h:L.drop a=((2,0,w) :: (5,0,⟨#[40]⟩) :: (jtk l++[(5,0,⟨#[41]⟩)]))++rest):j9 L g k s ⟨a,false⟩=(xE k 0 s (l.map gk),⟨a+((2,0,w) :: (5,0,⟨#[40]⟩) :: (jtk l++[(5,0,⟨#[41]⟩)]):List T3).length,false⟩):=by
 have h0:L.drop a=(2,0,w) :: (5,0,⟨#[40]⟩) :: (jtk l++(5,0,⟨#[41]⟩) :: rest):=by rw [h];simp
 have h2:=(cQ h0).2
 have h3:=(cQ h2).2
 unfold j9
 rw [show RI.up ⟨a,false⟩=⟨a+1,false⟩ from rfl,iU h2,yD hL hx ho h3]
 exact Prod.ext rfl (congrArg (fun z=>RI.mk z false) (by simp only [List.length_cons,List.length_append,List.length_nil]<;>omega))
theorem sK {x y:E}{s:ByteArray}{a:Nat}{rest:List T3}(hx:BkI L g x)(hy:BkI L g y)(h:L.drop a=(5,0,⟨#[40]⟩) :: (tkE x++(5,0,⟨#[126]⟩) :: (4,0,s) :: (5,0,⟨#[44]⟩) :: (tkE y++(5,0,⟨#[41]⟩) :: rest))):oI L g ⟨a,false⟩=(xE 18 0 s [gk x,gk y],⟨a+((tkE x).length+(tkE y).length+5),false⟩):=by
 have h2:=(cQ h).2
 have h3:L.drop (a+1+(tkE x).length)=(5,0,⟨#[126]⟩) :: (4,0,s) :: (5,0,⟨#[44]⟩) :: (tkE y++(5,0,⟨#[41]⟩) :: rest):=cz h2
 have h4:=(cQ h3).2
 have h5:=(cQ h4).2
 have h6:=(cQ h5).2
 have h7:L.drop (a+1+(tkE x).length+1+1+1+(tkE y).length)=(5,0,⟨#[41]⟩) :: rest:=cz h6
 unfold oI
 rw [iU h,hx _ _ h2 (nf (by decide) (by decide))]
 dsimp only
 rw [iU h3,yC h4 rfl]
 dsimp only
 rw [iU h5,hy _ _ h6 (nf (by decide) (by decide))]
 dsimp only
 rw [iU h7]
 exact Prod.ext rfl (congrArg (fun z=>RI.mk z false) omq)
theorem yE {x:E}{s:ByteArray}{a:Nat}{rest:List T3}(hx:BkI L g x)(h:L.drop a=(5,0,⟨#[40]⟩) :: (tkE x++(2,0,⟨#[105,110]⟩) :: (2,0,s) :: (5,0,⟨#[41]⟩) :: rest)):enI L g ⟨a,false⟩=(xE 9 0 s [gk x],⟨a+((tkE x).length+4),false⟩):=by
 have h2:=(cQ h).2
 have h3:L.drop (a+1+(tkE x).length)=(2,0,⟨#[105,110]⟩) :: (2,0,s) :: (5,0,⟨#[41]⟩) :: rest:=cz h2
 have h4:=(cQ h3).2
 have h5:=(cQ h4).2
 unfold enI
 rw [iU h,hx _ _ h2 (nf (by decide) (by decide))]
 dsimp only
 rw [if_pos (by rw [jI h3];decide),show RI.up ⟨a+1+(tkE x).length,false⟩=⟨a+1+(tkE x).length+1,false⟩ from rfl,yC h4 rfl]
 dsimp only
 rw [iU h5]
 exact Prod.ext rfl (congrArg (fun z=>RI.mk z false) omq)
theorem wm {x:E}{s:ByteArray}{a:Nat}{rest:List T3}(hx:BkI L g x)(h:L.drop a=(5,0,⟨#[40]⟩) :: (tkE x++(5,0,⟨#[126]⟩) :: (4,0,s) :: (5,0,⟨#[41]⟩) :: rest)):enI L g ⟨a,false⟩=(xE 10 0 s [gk x],⟨a+((tkE x).length+4),false⟩):=by
 have h2:=(cQ h).2
 have h3:L.drop (a+1+(tkE x).length)=(5,0,⟨#[126]⟩) :: (4,0,s) :: (5,0,⟨#[41]⟩) :: rest:=cz h2
 have h4:=(cQ h3).2
 have h5:=(cQ h4).2
 unfold enI
 rw [iU h,hx _ _ h2 (nf (by decide) (by decide))]
 dsimp only
 rw [if_neg (by rw [jI h3];decide),if_pos (by rw [jI h3];decide),show RI.up ⟨a+1+(tkE x).length,false⟩=⟨a+1+(tkE x).length+1,false⟩ from rfl,yC h4 rfl]
 dsimp only
 rw [iU h5]
 exact Prod.ext rfl (congrArg (fun z=>RI.mk z false) omq)
theorem yF {x y:E}{s:ByteArray}{a:Nat}{rest:List T3}(hx:BkI L g x)(hy:BkI L g y)(hs:kU kT s=true)(h:L.drop a=(5,0,⟨#[40]⟩) :: (tkE x++(5,0,s) :: (tkE y++(5,0,⟨#[41]⟩) :: rest))):enI L g ⟨a,false⟩=(xE 6 0 s [gk x,gk y],⟨a+((tkE x).length+(tkE y).length+3),false⟩):=by
 obtain⟨o1,o2,o3⟩:=op_ne hs
 have o4:s≠⟨#[105,110]⟩:=fun e=>by
  subst e
  have:=(pT hs).1
  revert this
  decide
 have h2:=(cQ h).2
 have h3:L.drop (a+1+(tkE x).length)=(5,0,s) :: (tkE y++(5,0,⟨#[41]⟩) :: rest):=cz h2
 have h4:=(cQ h3).2
 have h5:L.drop (a+1+(tkE x).length+1+(tkE y).length)=(5,0,⟨#[41]⟩) :: rest:=cz h4
 unfold enI
 rw [iU h,hx _ _ h2 (nf o1 o2)]
 dsimp only
 rw [if_neg (by rw [jI h3];simp [o4]),if_neg (by rw [jI h3];simp [o3]),yC h3 rfl]
 dsimp only
 rw [hy _ _ h4 (nf (by decide) (by decide))]
 dsimp only
 rw [iU h5]
 exact Prod.ext rfl (congrArg (fun z=>RI.mk z false) omq)
theorem dG {a:Nat}{n:Int}{s:ByteArray}{rest:List T3}(h:L.drop a=(2,n,s) :: rest):paI L g ⟨a,false⟩=cu L g s ⟨a,false⟩:=by
 unfold paI
 dsimp only
 rw [(cQ h).1,if_neg (show ¬(2:Int)=1 by decide),if_neg (show ¬(2:Int)=3 by decide),if_pos rfl]
theorem pX {a:Nat}{rest:List T3}(h:L.drop a=(5,0,⟨#[40]⟩) :: rest):paI L g ⟨a,false⟩=enI L g ⟨a,false⟩:=by
 unfold paI
 dsimp only
 rw [(cQ h).1,if_neg (show ¬(5:Int)=1 by decide),if_neg (show ¬(5:Int)=3 by decide),if_neg (show ¬(5:Int)=2 by decide),if_pos (by rw [jI h];decide)]
theorem pY {a:Nat}{m:ByteArray}{x:E}{rest:List T3}(h:L.drop a=(5,0,m) :: (tkE x++rest))(hx:BkI L g x)(hf:nfI rest)(hm:m≠⟨#[40]⟩)(hk:0<fH m):paI L g ⟨a,false⟩=(xE (fH m) 0 ByteArray.empty [gk x],⟨a+((tkE x).length+1),false⟩):=by
 have h2:=(cQ h).2
 unfold paI
 dsimp only
 rw [(cQ h).1,if_neg (show ¬(5:Int)=1 by decide),if_neg (show ¬(5:Int)=3 by decide),if_neg (show ¬(5:Int)=2 by decide),if_neg (by rw [jI h];simp [hm]),if_pos ⟨rfl,hk⟩,show RI.up ⟨a,false⟩=⟨a+1,false⟩ from rfl,hx _ _ h2 hf]
 exact Prod.ext rfl (congrArg (fun z=>RI.mk z false) omq)
end
theorem zQ {L:List T3}{a j:Nat}{b:Bool}{rest:List T3}(h:L.drop (a+j)=rest)(hf:nfI rest):isI L ⟨a,b⟩ j ⟨#[40]⟩=false∧isI L ⟨a,b⟩ j ⟨#[91]⟩=false:=by
 cases rest with
 | nil =>
  have h0:tAt L (a+j)=(0,0,ByteArray.empty):=by
   unfold tAt
   rw [List.getD_eq_getElem?_getD,List.getElem?_eq_none (by have:=congrArg List.length h;rw [List.length_drop,List.length_nil] at this;omega)]
   rfl
  unfold isI
  dsimp only
  rw [h0]
  exact⟨by decide,by decide⟩
 | cons t q =>
  have:=hf t q rfl
  rw [nd h,nd h]
  simp only [Bool.and_eq_false_iff,Bool.or_eq_false_iff,decide_eq_false_iff_not]
  constructor
  ·by_cases h5:t.1=5∨t.1=2
   ·right;exact fun h=>this ⟨h5,.inl h⟩
   ·left;exact⟨fun h=>h5 (.inl h),fun h=>h5 (.inr h)⟩
  ·by_cases h5:t.1=5∨t.1=2
   ·right;exact fun h=>this ⟨h5,.inr h⟩
   ·left;exact⟨fun h=>h5 (.inl h),fun h=>h5 (.inr h)⟩
theorem yG {L:List T3}{g:RI→E×RI}{x:E}{s:ByteArray}{a:Nat}{rest:List T3}(hx:BkI L g x)(hs:dK s=true)(h:L.drop a=(2,0,s) :: (5,0,⟨#[91]⟩) :: (tkE x++(5,0,⟨#[93]⟩) :: rest)):paI L g ⟨a,false⟩=(xE 4 0 s [gk x],⟨a+((tkE x).length+3),false⟩):=by
 have h2:=(cQ h).2
 have h3:=(cQ h2).2
 have hk:=sJ hs
 rw [dG h]
 unfold cu
 rw [if_neg (hk _ (by simp)),if_neg (hk _ (by simp)),if_neg (hk _ (by simp)),if_neg (hk _ (by simp)),if_neg (hk _ (by simp)),if_neg (hk _ (by simp)),if_neg (hk _ (by simp)),if_neg (by rw [nd (j:=1) h2];decide),show RI.up ⟨a,false⟩=⟨a+1,false⟩ from rfl,if_pos (by rw [jI h2];decide),show RI.up ⟨a+1,false⟩=⟨a+1+1,false⟩ from rfl,hx _ _ h3 (nf (by decide) (by decide))]
 have h4:L.drop (a+1+1+(tkE x).length)=(5,0,⟨#[93]⟩) :: rest:=cz h3
 dsimp only
 rw [iU h4]
 exact Prod.ext rfl (congrArg (fun z=>RI.mk z false) omq)
theorem yH {L:List T3}(hL:okL L){g:RI→E×RI}{i j:IntKind}{k n:Int}{s:ByteArray}{w:Nat}{T:TypeId}{A:Option Addr}{c:Nat}{l:List E}(ho:∀x∈l,okX x=true)(hh:eu k n s l.length=true)(hx:∀x∈l,BkI L g x):BkI L (paI L g) (.agg [.int i k,.int j n,.str s,.lst w T A c l]):=fun a rest h hf=>by
 have htk:tkE (.agg [.int i k,.int j n,.str s,.lst w T A c l])=bH (eZ k n s (l.map pcE)):=by unfold tkE;rw [gZ]
 rw [htk] at h ⊢
 rw [k9]
 unfold eu at hh
 by_cases k1:k=1
 ·subst k1
  rw [if_pos rfl,Bool.and_eq_true,Bool.and_eq_true] at hh
  obtain rfl:=lJ hh.2.1
  obtain rfl:=gB hh.2.2
  have h':L.drop a=(1,n,ByteArray.empty) :: rest:=h
  unfold paI
  dsimp only
  rw [(cQ h').1,if_pos rfl]
  rfl
 rw [if_neg k1,Bool.and_eq_true,decide_eq_true_iff] at hh
 obtain⟨rfl,hh⟩:=hh
 by_cases k2:k=2
 ·subst k2
  rw [if_pos rfl,Bool.and_eq_true] at hh
  obtain rfl:=gB hh.2
  have h':L.drop a=(3,0,s) :: rest:=h
  unfold paI
  dsimp only
  rw [(cQ h').1,if_neg (show ¬(3:Int)=1 by decide),if_pos rfl]
  rfl
 rw [if_neg k2] at hh
 by_cases k3:k=3
 ·subst k3
  rw [if_pos rfl,Bool.and_eq_true] at hh
  obtain rfl:=gB hh.2
  have h':L.drop a=(2,0,s) :: rest:=h
  have h2:=(cQ h').2
  have hk:=sJ hh.1
  have f1:=(zQ (b:=false) (a:=a) (j:=1) h2 hf).1
  have f2:=(zQ (b:=false) (a:=a+1) (j:=0) h2 hf).2
  rw [dG h']
  unfold cu
  rw [if_neg (hk _ (by simp)),if_neg (hk _ (by simp)),if_neg (hk _ (by simp)),if_neg (hk _ (by simp)),if_neg (hk _ (by simp)),if_neg (hk _ (by simp)),if_neg (hk _ (by simp)),if_neg (by rw [f1];simp),show RI.up ⟨a,false⟩=⟨a+1,false⟩ from rfl,if_neg (by rw [f2];simp)]
  rfl
 rw [if_neg k3] at hh
 by_cases k4:k=4∨k=9
 ·rw [if_pos k4,Bool.and_eq_true] at hh
  obtain⟨x,rfl⟩:=iS hh.2
  have hxx:=hx x (by simp)
  rcases k4 with rfl|rfl
  ·have e4:bH (eZ 4 0 s ([x].map pcE))=(2,0,s) :: (5,0,⟨#[91]⟩) :: (tkE x++[(5,0,⟨#[93]⟩)]):=by
    show (2,0,s) :: (5,0,⟨#[91]⟩) :: bH (pcE x++[mkP ⟨#[93]⟩])=_
    rw [cK];rfl
   rw [e4] at h ⊢
   rw [yG (s:=s) (rest:=rest) hxx hh.1 (by rw [h];simp)]
   exact Prod.ext rfl (congrArg (fun z=>RI.mk (a+z) false) (by simp only [List.length_cons,List.length_append,List.length_nil]<;>omega))
  ·rw [←sX,tk_9] at h ⊢
   have h':L.drop a=(5,0,⟨#[40]⟩) :: (tkE x++(2,0,⟨#[105,110]⟩) :: (2,0,s) :: (5,0,⟨#[41]⟩) :: rest):=by rw [h];simp
   rw [pX h',yE hxx h']
   exact Prod.ext rfl (congrArg (fun z=>RI.mk (a+z) false) (by simp only [List.length_cons,List.length_append,List.length_nil]<;>omega))
 rw [if_neg k4] at hh
 by_cases k5:k=5∨k=7∨k=8∨k=12∨k=17
 ·rw [if_pos k5,Bool.and_eq_true] at hh
  obtain rfl:=lJ hh.1
  obtain⟨x,rfl⟩:=iS hh.2
  have hxx:=hx x (by simp)
  rcases k5 with rfl|rfl|rfl|rfl|rfl
  ·have h':L.drop a=(5,0,⟨#[36]⟩) :: (tkE x++rest):=h
   rw [pY h' hxx hf (by decide) (by decide)]
   rfl
  ·have h':L.drop a=(5,0,⟨#[33]⟩) :: (tkE x++rest):=h
   rw [pY h' hxx hf (by decide) (by decide)]
   rfl
  ·have h':L.drop a=(5,0,⟨#[45]⟩) :: (tkE x++rest):=h
   rw [pY h' hxx hf (by decide) (by decide)]
   rfl
  ·rw [show bH (eZ 12 0 ByteArray.empty ([x].map pcE))=_ from ft ⟨#[108,101,110,103,116,104]⟩ [x]] at h ⊢
   rw [dG h]
   unfold cu
   rw [if_pos rfl]
   exact iV hL hx ho h
  ·rw [show bH (eZ 17 0 ByteArray.empty ([x].map pcE))=_ from ft ⟨#[117,112,112,101,114]⟩ [x]] at h ⊢
   rw [dG h]
   unfold cu
   rw [if_neg (by decide),if_neg (by decide),if_neg (by decide),if_pos rfl]
   exact iV hL hx ho h
 rw [if_neg k5] at hh
 by_cases k6:k=6
 ·subst k6
  rw [if_pos rfl,Bool.and_eq_true] at hh
  obtain⟨x,y,rfl⟩:=mb hh.2
  rw [←sX,tk_6] at h ⊢
  have h':L.drop a=(5,0,⟨#[40]⟩) :: (tkE x++(5,0,s) :: (tkE y++(5,0,⟨#[41]⟩) :: rest)):=by rw [h];simp
  rw [pX h',yF (hx x (by simp)) (hx y (by simp)) hh.1 h']
  exact Prod.ext rfl (congrArg (fun z=>RI.mk (a+z) false) (by simp only [List.length_cons,List.length_append,List.length_nil]<;>omega))
 rw [if_neg k6] at hh
 by_cases k10:k=10
 ·subst k10
  rw [if_pos rfl,Bool.and_eq_true] at hh
  obtain⟨x,rfl⟩:=iS hh.1
  rw [←sX,tk_10] at h ⊢
  have h':L.drop a=(5,0,⟨#[40]⟩) :: (tkE x++(5,0,⟨#[126]⟩) :: (4,0,s) :: (5,0,⟨#[41]⟩) :: rest):=by rw [h];simp
  rw [pX h',wm (hx x (by simp)) h']
  exact Prod.ext rfl (congrArg (fun z=>RI.mk (a+z) false) (by simp only [List.length_cons,List.length_append,List.length_nil]<;>omega))
 rw [if_neg k10] at hh
 by_cases k18:k=18
 ·subst k18
  rw [if_pos rfl,Bool.and_eq_true] at hh
  obtain⟨x,y,rfl⟩:=mb hh.1
  rw [←sX,tk_18] at h ⊢
  have h':L.drop a=(2,0,⟨#[103,115,117,98]⟩) :: (5,0,⟨#[40]⟩) :: (tkE x++(5,0,⟨#[126]⟩) :: (4,0,s) :: (5,0,⟨#[44]⟩) :: (tkE y++(5,0,⟨#[41]⟩) :: rest)):=by rw [h];simp
  rw [dG h']
  unfold cu
  rw [if_neg (by decide),if_neg (by decide),if_neg (by decide),if_neg (by decide),if_neg (by decide),if_neg (by decide),if_pos rfl,show RI.up ⟨a,false⟩=⟨a+1,false⟩ from rfl,sK (s:=s) (rest:=rest) (hx x (by simp)) (hx y (by simp)) (cQ h').2]
  exact Prod.ext rfl (congrArg (fun z=>RI.mk z false) (by simp only [List.length_cons,List.length_append,List.length_nil]<;>omega))
 rw [if_neg k18] at hh
 by_cases k11:k=11
 ·subst k11
  rw [if_pos rfl,Bool.and_eq_true] at hh
  have hk:=sJ hh.1
  rw [show bH (eZ 11 0 s (l.map pcE))=_ from ft s l] at h ⊢
  have h2:L.drop (a+1)=(5,0,⟨#[40]⟩) :: (jtk l++[(5,0,⟨#[41]⟩)]++rest):=(cQ h).2
  rw [dG h]
  unfold cu
  rw [if_neg (hk _ (by simp)),if_neg (hk _ (by simp)),if_neg (hk _ (by simp)),if_neg (hk _ (by simp)),if_neg (hk _ (by simp)),if_neg (hk _ (by simp)),if_neg (hk _ (by simp)),if_pos (by rw [nd (j:=1) h2];decide)]
  exact iV hL hx ho h
 rw [if_neg k11] at hh
 by_cases k13:k=13
 ·subst k13
  rw [if_pos rfl,Bool.and_eq_true,beq_iff_eq] at hh
  obtain rfl:=lJ hh.1
  rw [show bH (eZ 13 0 ByteArray.empty (l.map pcE))=_ from ft ⟨#[115,117,98,115,116,114]⟩ l] at h ⊢
  rw [dG h]
  unfold cu
  rw [if_neg (by decide),if_pos rfl]
  exact iV hL hx ho h
 rw [if_neg k13] at hh
 by_cases k14:k=14∨k=15
 ·rw [if_pos k14,Bool.and_eq_true] at hh
  obtain rfl:=lJ hh.1
  obtain rfl:=gB hh.2
  rcases k14 with rfl|rfl
  ·have h':L.drop a=(2,0,⟨#[110,114]⟩) :: rest:=h
   rw [dG h']
   unfold cu
   rw [if_neg (by decide),if_neg (by decide),if_neg (by decide),if_neg (by decide),if_pos rfl]
   rfl
  ·have h':L.drop a=(2,0,⟨#[110,102]⟩) :: rest:=h
   rw [dG h']
   unfold cu
   rw [if_neg (by decide),if_neg (by decide),if_neg (by decide),if_neg (by decide),if_neg (by decide),if_pos rfl]
   rfl
 rw [if_neg k14] at hh
 by_cases k16:k=16
 ·subst k16
  rw [if_pos rfl,Bool.and_eq_true,beq_iff_eq] at hh
  obtain rfl:=lJ hh.1
  rw [show bH (eZ 16 0 ByteArray.empty (l.map pcE))=_ from ft ⟨#[105,110,100,101,120]⟩ l] at h ⊢
  rw [dG h]
  unfold cu
  rw [if_neg (by decide),if_neg (by decide),if_pos rfl]
  exact iV hL hx ho h
 rw [if_neg k16] at hh
 cases hh
theorem rq {L:List T3}(hL:okL L):∀(f:Nat) (e:E),j3 100 dh f e≤100→okX e=true→∀F,f≤F→BkI L (exI L F) e
 | 0,e,h,_,_,_=>absurd h (by show ¬100+1≤100;omega)
 | f+1,e,h,hok,F,hF=>by
  obtain⟨G,rfl⟩:∃G,F=G+1:=⟨F-1,omq⟩
  obtain⟨o1,o2⟩:=j8 hok
  have h1:gpS 100 (j3 100 dh f) (dh e) 1≤100:=h
  have hm:=kZ _ _ h1
  unfold mY at o2
  split at o2
  ·rename_i i k j m s w T A c l
   have hx:∀x∈l,BkI L (exI L G) x:=fun x hx=>rq hL f x (hm x hx) (o1 x hx) G omq
   intro a rest hr hf
   unfold exI
   rw [if_neg (by simp)]
   exact yH hL (w:=w) (T:=T) (A:=A) (c:=c) o1 o2 hx a rest hr hf
  ·cases o2
theorem wn {s:ByteArray}{a:Nat}{rex:Bool}(ha:a<s.size)(h:(dU s a rex).ok=true):sU rex ((dU s a rex).k,(dU s a rex).n,(dU s a rex).s):=by
 refine⟨h,fun h4=>?_,fun h5 hs=>?_⟩
 ·dsimp only at h4
  have hq3:(nY s a 3).k=4→False:=fun h=>by
   unfold nY at h
   split at h<;>(dsimp only at h;omega)
  unfold dU at h4
  split at h4
  ·(dsimp only at h4;omega)
  ·split at h4
   ·(dsimp only at h4;omega)
   ·split at h4
    ·exact (hq3 h4).elim
    ·split at h4
     ·rename_i hh;exact hh.2
     ·split at h4<;>(dsimp only at h4;omega)
 ·dsimp only at h5 hs
  have hq:∀k:Int,k≠5→(nY s a k).k=5→False:=fun k hk h=>by
   unfold nY at h
   split at h
   ·(dsimp only at h;omega)
   ·exact hk h
  unfold dU at h5 hs
  split at h5
  ·(dsimp only at h5;omega)
  ·rename_i n1
   rw [if_neg n1] at hs
   split at h5
   ·(dsimp only at h5;omega)
   ·rename_i n2
    rw [if_neg n2] at hs
    split at h5
    ·exact (hq 3 (by decide) h5).elim
    ·rename_i n3
     rw [if_neg n3] at hs
     split at h5
     ·exact (hq 4 (by decide) h5).elim
     ·rename_i n4
      rw [if_neg n4] at hs
      split at hs
      ·rename_i hh
       have hz:=bR (s:=s) (a:=a) (b:=a+2) omq omq
       have hs':bu s a (a+2)=⟨#[47]⟩:=hs
       rw [hs'] at hz
       have:(⟨#[47]⟩:ByteArray).size=1:=rfl
       omega
      ·have hs':bu s a (a+1)=⟨#[47]⟩:=hs
       have e:=dJ (s:=s) (a:=a) (b:=a+1) (j:=0) omq omq
       rw [hs'] at e
       have e':bAt s a=47:=e.symm
       cases rex with
       | false=>rfl
       | true=>exact absurd ⟨e',rfl⟩ n4
theorem oJ {s:ByteArray}:∀(f a:Nat) (rex:Bool) (out:List T3),ch false out rex→out.length≤2000 →
 ∃(l:List T3) (r':Bool),(pu s f a rex (out.map T3.E)).1=l.map T3.E∧ch false l r'∧l.length≤2000∧(((pu s f a rex (out.map T3.E)).2 = -1)∨(0≤(pu s f a rex (out.map T3.E)).2∧(pu s f a rex (out.map T3.E)).2<s.size∧l=[]))
 | 0,a,rex,out,hc,hl=>⟨out,rex,rfl,hc,hl,.inl rfl⟩
 | f+1,a,rex,out,hc,hl=>by
  unfold pu
  split
  ·rename_i ha
   split
   ·rename_i hh
    have hg:=wn ha hh.1
    have hm:=hh.2
    rw [List.length_map] at hm
    have:=oJ (s:=s) f (eY s (s.size+1) (dU s a rex).e) (qJ (dU s a rex).k (dU s a rex).s) (out++[((dU s a rex).k,(dU s a rex).n,(dU s a rex).s)]) (u5 hc hg) (by rw [List.length_append,List.length_singleton];omega)
    rw [List.map_append] at this
    exact this
   ·exact⟨[],false,rfl,rfl,Nat.zero_le _,.inr ⟨Int.natCast_nonneg _,by show (a:Int)<_;omega,rfl⟩⟩
  ·exact⟨out,rex,rfl,hc,hl,.inl rfl⟩
theorem oK (s:ByteArray):∃(l:List T3) (r':Bool),(nx s).1=l.map T3.E∧ch false l r'∧l.length≤2000∧((nx s).2 = -1∨(0≤(nx s).2∧(nx s).2<s.size∧l=[])) :=
 oJ (s:=s) (s.size+1) (hQ s 0) false [] rfl (Nat.zero_le _)
theorem rr {k n:Int}{s:ByteArray}(h:cq k n s=true):s.size≤200∧0≤n∧n≤2147483647∧1≤k∧k≤5:=by
 unfold cq at h
 split at h
 ·simp only [Bool.and_eq_true,decide_eq_true_iff] at h;omega
 ·split at h
  ·simp only [dD,Bool.and_eq_true,decide_eq_true_iff] at h;omega
  ·split at h
   ·simp only [df,Bool.and_eq_true,decide_eq_true_iff] at h;omega
   ·split at h
    ·simp only [df,Bool.and_eq_true,decide_eq_true_iff] at h;omega
    ·split at h
     ·simp only [Bool.and_eq_true,decide_eq_true_iff] at h
      have h2:s.size≤2:=by
       have:=h.1
       simp only [il,Bool.or_eq_true,Bool.and_eq_true,decide_eq_true_iff] at this
       omega
      omega
     ·cases h
theorem mg {x:Int}(h0 : -9223372036854775808≤x)(h1:x≤9223372036854775807):(Lit.int .i64 x).wf=true:=by
 have e1:IntKind.i64.min = -9223372036854775808:=by decide
 have e2:IntKind.i64.max=9223372036854775807:=by decide
 simp only [Lit.wf,Bool.and_eq_true,decide_eq_true_iff]
 rw [e1,e2]
 omega
theorem T3.Ty {t:T3}(h:cq t.1 t.2.1 t.2.2=true):t.E.Ty prog 63:=by
 have:=rr h
 refine E.Ty.mk_agg underlying63 (E.TyF.mk_cons ?_ (E.TyF.mk_cons ?_ (E.TyF.mk_cons ?_ E.TyF.mk_nil)))
 ·simp only [E.Ty];exact⟨underlying3,mg omq omq⟩
 ·simp only [E.Ty];exact⟨underlying3,mg omq omq⟩
 ·simp only [E.Ty];exact⟨underlying9,by unfold maxLen;omega⟩
def unT:E→T3
 | .agg [.int _ k,.int _ n,.str s]=>(k,n,s)
 | _=>(0,0,ByteArray.empty)
theorem unT_E (t:T3):unT t.E=t:=rfl
theorem ng:∀l:List T3,(l.map T3.E).map unT=l
 | []=>rfl
 | t :: l=>by rw [List.map_cons,List.map_cons,ng l,unT_E]
def jr (s:ByteArray):List T3:=(nx s).1.map unT
theorem eU (s:ByteArray):okL (jr s)∧(nx s).1=(jr s).map T3.E:=by
 obtain⟨l,r',e,hc,-,-⟩:=oK s
 unfold jr
 rw [e,ng]
 exact⟨u6 hc,rfl⟩
def rdS (s:ByteArray):E×RS:=exS (jr s) 21 ⟨0,false,0⟩
def rdI (s:ByteArray):E×RI:=exI (jr s) ((jr s).length+12) ⟨0,false⟩
theorem zr2 {s:ByteArray}{e:E}(hb:fq e=true)(h:jr s=tkE e):rdS s=(gk e,⟨(jr s).length,false,0⟩)∧rdI s=(gk e,⟨(jr s).length,false⟩):=by
 have hok:=m8 hb
 have hc:j3 100 dh 10 e≤100:=by
  unfold fq at hb
  rw [Bool.and_eq_true,decide_eq_true_iff] at hb
  exact hb.1
 have h0:(jr s).drop 0=tkE e++[]:=by rw [List.drop_zero,List.append_nil];exact h
 constructor
 ·have:=rm (L:=jr s) 10 e hc hok 21 omq 0 omq ⟨0,false,0⟩ [] rfl rfl h0 (fun t r h=>by cases h)
  unfold rdS
  rw [this,←h]
  simp
 ·have:=rq (eU s).1 10 e hc hok ((jr s).length+12) omq 0 [] h0 (fun t r h=>by cases h)
  unfold rdI
  rw [this,←h]
  simp
theorem zv4:∀{l m:List T3},l.map T3.E=m.map T3.E→l=m:=fun {l m} h=>by
 have:=congrArg (List.map unT) h
 rwa [ng,ng] at this
end Go.Proofs.YtomolhbkdhjofaaGreatDoor
