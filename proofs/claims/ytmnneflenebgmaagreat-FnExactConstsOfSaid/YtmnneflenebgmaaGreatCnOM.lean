/- T -/
import Derived.Test.YtmnneflenebgmaaGreatCnOL
set_option maxHeartbeats 0
set_option maxRecDepth 100000
namespace Go.Proofs.YtmnneflenebgmaaGreat
open Go.RowKit Go.Proofs.Tryz
structure PS where
 a:Nat
 d:Nat
 b:Bool
def dY (s:ByteArray)(c:Nat):Nat→Nat→Nat
 | 0,a=>a
 | f+1,a=>if a<s.size∧bAt s a≠c then dY s c f (a+1) else a
def jB (k:Int):List E→E
 | [x]=>x
 | l=>cU k ByteArray.empty l
def uN (c:Nat):ByteArray:=⟨#[UInt8.ofNat c]⟩
def PS.bad (p:PS):PS:=⟨p.a,p.d,true⟩
def PS.go (p:PS)(n:Nat):PS:=⟨p.a+n,p.d,p.b⟩
section
variable (s:ByteArray)
def d7 (alt:PS→E×PS)(c:Nat)(q:PS):E×PS :=
 if lm c then (cU 1 (uN c) [],q)
 else if c=46 then (cU 2 ByteArray.empty [],q)
 else if c=94 then (cU 10 ByteArray.empty [],q)
 else if c=36 then (cU 11 ByteArray.empty [],q)
 else if c=91 then
  let e:=dY s 93 s.size q.a
  if e<s.size then (cU 3 (eV s q.a e) [],⟨e+1,q.d,q.b⟩) else (cV,q.bad)
 else if c=40 then
  if bAt s q.a=41 then (cU 9 ByteArray.empty [],q.go 1)
  else
   let r:=alt q
   if bAt s r.2.a=41 then (r.1,r.2.go 1) else (cV,r.2.bad)
 else (cV,q.bad)
def iV (alt:PS→E×PS)(p:PS):E×PS:=d7 s alt (bAt s p.a) (p.go 1)
def jC (atom:PS→E×PS)(p:PS):E×PS :=
 let r:=atom p
 if bAt s r.2.a=42 then (cU 6 ByteArray.empty [r.1],r.2.go 1)
 else if bAt s r.2.a=43 then (cU 7 ByteArray.empty [r.1],r.2.go 1)
 else if bAt s r.2.a=63 then (cU 8 ByteArray.empty [r.1],r.2.go 1)
 else r
def goI (p:PS):Bool:=!p.b&&!(bAt s p.a==0)&&!(bAt s p.a==124)&&!(bAt s p.a==41)
def bX (item:PS→E×PS):Nat→List E→PS→List E×PS
 | 0,l,p=>(l,p)
 | n+1,l,p=>if goI s p then bX item n (l++[(item p).1]) (item p).2 else (l,p)
def sS (item:PS→E×PS)(p:PS):E×PS :=
 let r:=bX s item (s.size+2) [] p
 if r.1.length=0 then (cV,r.2.bad) else (jB 4 r.1,r.2)
def wE (p:PS):Bool:=!p.b&&bAt s p.a==124
def cJ (cat:PS→E×PS):Nat→List E→PS→List E×PS
 | 0,l,p=>(l,p)
 | n+1,l,p=>if wE s p then cJ cat n (l++[(cat (p.go 1)).1]) (cat (p.go 1)).2 else (l,p)
def xv (cat:PS→E×PS)(p:PS):E×PS :=
 let r:=cat ⟨p.a,p.d+1,p.b||decide (40<p.d+1)⟩
 let q:=cJ s cat (s.size+1) [r.1] r.2
 (jB 5 q.1,⟨q.2.a,q.2.d-1,q.2.b⟩)
def sU:Nat→PS→E×PS
 | 0,p=>(cV,p.bad)
 | f+1,p=>xv s (sS s (jC s (iV s (sU f)))) p
def isB (c:Nat)(p:PS):Bool:=!p.b&&decide (p.a<s.size)&&bAt s p.a==c
def dD (alt:PS→E×PS)(p:PS):E×PS :=
 if isB s 41 p then (cU 9 ByteArray.empty [],p.go 1)
 else if 8<p.d+1 then (cV,⟨p.a,p.d+1,true⟩)
 else
  let r:=alt ⟨p.a,p.d+1,p.b⟩
  let q:PS:=⟨r.2.a,r.2.d-1,r.2.b⟩
  if isB s 41 q then (r.1,q.go 1) else (cV,q.bad)
def d8 (alt:PS→E×PS)(c:Nat)(q:PS):E×PS :=
 if c=46 then (cU 2 ByteArray.empty [],q)
 else if c=94 then (cU 10 ByteArray.empty [],q)
 else if c=36 then (cU 11 ByteArray.empty [],q)
 else if c=40 then dD s alt q
 else if lm c then (cU 1 (uN c) [],q)
 else if c≠91 then (cV,q.bad)
 else
  let e:=dY s 93 s.size q.a
  let t:PS:=⟨e,q.d,q.b⟩
  if isB s 93 t then (cU 3 (eV s q.a e) [],t.go 1) else (cV,t.bad)
def dh (alt:PS→E×PS)(p:PS):E×PS:=if p.b=true∨s.size≤p.a then (cV,p.bad) else d8 s alt (bAt s p.a) (p.go 1)
def ee (atom:PS→E×PS)(p:PS):E×PS :=
 let r:=atom p
 if isB s 42 r.2 then (cU 6 ByteArray.empty [r.1],r.2.go 1)
 else if isB s 43 r.2 then (cU 7 ByteArray.empty [r.1],r.2.go 1)
 else if isB s 63 r.2 then (cU 8 ByteArray.empty [r.1],r.2.go 1)
 else r
def goS (p:PS):Bool:=!p.b&&decide (p.a<s.size)&&!(bAt s p.a==124)&&!(bAt s p.a==41)
def bY (item:PS→E×PS):Nat→List E→PS→List E×PS
 | 0,l,p=>(l,p)
 | n+1,l,p=>if goS s p then bY item n (l++[(item p).1]) (item p).2 else (l,p)
def oR (item:PS→E×PS)(p:PS):E×PS :=
 let q:=bY s item (s.size+1) [(item p).1] (item p).2
 (jB 4 q.1,q.2)
def b9 (cat:PS→E×PS):Nat→List E→PS→List E×PS
 | 0,l,p=>(l,p)
 | n+1,l,p=>if isB s 124 p then b9 cat n (l++[(cat (p.go 1)).1]) (cat (p.go 1)).2 else (l,p)
def xw (cat:PS→E×PS)(p:PS):E×PS :=
 let q:=b9 s cat (s.size+1) [(cat p).1] (cat p).2
 (jB 5 q.1,q.2)
def gP:Nat→PS→E×PS
 | 0,p=>(cV,p.bad)
 | f+1,p=>xw s (oR s (ee s (dh s (gP f)))) p
end
def PS.up (p:PS):PS:=⟨p.a,p.d+1,p.b⟩
theorem iW {s:ByteArray}{j:Nat}(h:s.size≤j):bAt s j=0:=by
 unfold bAt
 have:s.data.size≤j:=h
 rw [Array.getElem?_eq_none this]
 rfl
theorem da {s:ByteArray}{j:Nat}(h:bAt s j≠0):j<s.size:=by
 rcases Nat.lt_or_ge j s.size with h1|h1
 ·exact h1
 ·exact absurd (iW h1) h
def Same (f g:PS→E×PS)(p:PS):Prop:=p.b=false→(f p).2.b=false→g p.up=((f p).1,(f p).2.up)∧(f p).2.d=p.d
theorem kt {s:ByteArray}{c:Nat}{p:PS}(hc:c≠0)(hp:p.b=false):isB s c p=(bAt s p.a==c):=by
 unfold isB
 rw [hp]
 by_cases h:p.a<s.size
 ·simp [h]
 ·rw [iW omq]
  simp [h]
  exact fun e=>hc e.symm
theorem zkQ {c:Nat}(h:lm c=true):c≠46∧c≠94∧c≠36∧c≠40∧c≠91:=by
 refine⟨?_,?_,?_,?_,?_⟩<;>(rintro rfl;cases h)
section
variable {s:ByteArray}{alt:PS→E×PS}{c:Nat}{q:PS}
theorem iX (h:lm c=true):d8 s alt c q=(cU 1 (uN c) [],q):=by
 obtain⟨h1,h2,h3,h4,h5⟩:=zkQ h
 unfold d8
 rw [if_neg h1,if_neg h2,if_neg h3,if_neg h4,if_pos h]
theorem rQ (h:lm c=true):d7 s alt c q=(cU 1 (uN c) [],q):=by
 unfold d7
 rw [if_pos h]
theorem lQ:d8 s alt 91 q=if isB s 93 ⟨dY s 93 s.size q.a,q.d,q.b⟩ then (cU 3 (eV s q.a (dY s 93 s.size q.a)) [],⟨dY s 93 s.size q.a+1,q.d,q.b⟩) else (cV,⟨dY s 93 s.size q.a,q.d,true⟩):=rfl
theorem rR:d7 s alt 91 q=if dY s 93 s.size q.a<s.size then (cU 3 (eV s q.a (dY s 93 s.size q.a)) [],⟨dY s 93 s.size q.a+1,q.d,q.b⟩) else (cV,q.bad):=rfl
theorem iY:d7 s alt 40 q=if bAt s q.a=41 then (cU 9 ByteArray.empty [],q.go 1) else if bAt s (alt q).2.a=41 then ((alt q).1,(alt q).2.go 1) else (cV,(alt q).2.bad):=rfl
theorem nU (h:lm c=false)(h1:c≠46)(h2:c≠94)(h3:c≠36)(h4:c≠40)(h5:c≠91):d8 s alt c q=(cV,q.bad):=by
 unfold d8
 rw [if_neg h1,if_neg h2,if_neg h3,if_neg h4,if_neg (by rw [h];decide),if_pos h5]
end
theorem rS {s:ByteArray}{alt alt':PS→E×PS}(ha:∀p,p.b=false→p.d≤8→(alt p).2.b=false→alt' p=alt p∧(alt p).2.d=p.d)(p:PS)(_hd:p.d≤8):Same (dh s alt) (iV s alt') p:=by
 intro hp h
 obtain⟨a,d,b⟩:=p
 simp only at hp
 subst hp
 have e0:iV s alt' (PS.up ⟨a,d,false⟩)=d7 s alt' (bAt s a) ⟨a+1,d+1,false⟩:=rfl
 rw [e0]
 clear e0
 have e1:dh s alt ⟨a,d,false⟩=if s.size≤a then (cV,⟨a,d,true⟩) else d8 s alt (bAt s a) ⟨a+1,d,false⟩:=by
  unfold dh
  simp only [Bool.false_eq_true,false_or]
  rfl
 rw [e1] at h ⊢
 clear e1
 by_cases h1:s.size≤a
 ·rw [if_pos h1] at h;cases h
 rw [if_neg h1] at h ⊢
 generalize hc:bAt s a=c at h ⊢
 by_cases c1:c=46
 ·subst c1;exact⟨rfl,rfl⟩
 by_cases c2:c=94
 ·subst c2;exact⟨rfl,rfl⟩
 by_cases c3:c=36
 ·subst c3;exact⟨rfl,rfl⟩
 by_cases c4:c=40
 ·subst c4
  have e2:d8 s alt 40 ⟨a+1,d,false⟩=dD s alt ⟨a+1,d,false⟩:=rfl
  rw [e2] at h ⊢
  rw [iY]
  clear e2
  have e3:dD s alt ⟨a+1,d,false⟩=if (bAt s (a+1)==41)=true then (cU 9 ByteArray.empty [],⟨a+1+1,d,false⟩) else if 8<d+1 then (cV,⟨a+1,d+1,true⟩) else if isB s 41 ⟨(alt ⟨a+1,d+1,false⟩).2.a,(alt ⟨a+1,d+1,false⟩).2.d-1,(alt ⟨a+1,d+1,false⟩).2.b⟩ then ((alt ⟨a+1,d+1,false⟩).1,⟨(alt ⟨a+1,d+1,false⟩).2.a+1,(alt ⟨a+1,d+1,false⟩).2.d-1,(alt ⟨a+1,d+1,false⟩).2.b⟩) else (cV,⟨(alt ⟨a+1,d+1,false⟩).2.a,(alt ⟨a+1,d+1,false⟩).2.d-1,true⟩):=by
   rw [←kt (p:=⟨a+1,d,false⟩) (by decide) rfl]
   rfl
  rw [e3] at h ⊢
  clear e3
  by_cases c5:bAt s (a+1)=41
  ·rw [if_pos c5,if_pos (by simpa using c5)]
   exact⟨rfl,rfl⟩
  have c5b:¬(bAt s (a+1)==41)=true:=by simpa using c5
  rw [if_neg c5b] at h ⊢
  rw [if_neg c5]
  by_cases c6:8<d+1
  ·rw [if_pos c6] at h;cases h
  rw [if_neg c6] at h ⊢
  by_cases c7:(alt ⟨a+1,d+1,false⟩).2.b=true
  ·have:isB s 41 ⟨(alt ⟨a+1,d+1,false⟩).2.a,(alt ⟨a+1,d+1,false⟩).2.d-1,(alt ⟨a+1,d+1,false⟩).2.b⟩=false:=by unfold isB;rw [c7];rfl
   rw [this] at h
   cases h
  have c7':(alt ⟨a+1,d+1,false⟩).2.b=false:=by simpa using c7
  obtain⟨e1,e2⟩:=ha ⟨a+1,d+1,false⟩ rfl (by show d+1≤8;omega) c7'
  rw [e1]
  generalize alt ⟨a+1,d+1,false⟩=R at *
  obtain⟨r1,ra,rd,rb⟩:=R
  simp only at c7' e2
  subst c7' e2
  have e4:isB s 41 ⟨ra,d+1-1,false⟩=(bAt s ra==41):=kt (by decide) rfl
  show (if bAt s ra=41 then _ else _)=_∧_
  change (if isB s 41 ⟨ra,d+1-1,false⟩=true then (r1,(⟨ra+1,d+1-1,false⟩:PS)) else (cV,⟨ra,d+1-1,true⟩)).2.b=false at h
  rw [e4] at h
  by_cases c8:bAt s ra=41
  ·rw [if_pos c8]
   have:(if isB s 41 ⟨ra,d+1-1,false⟩=true then (r1,(⟨ra+1,d+1-1,false⟩:PS)) else (cV,⟨ra,d+1-1,true⟩))=(r1,⟨ra+1,d+1-1,false⟩):=by rw [e4,if_pos (by simpa using c8)]
   simp only [this]
   exact⟨rfl,rfl⟩
  ·rw [if_neg (by simpa using c8)] at h
   cases h
 by_cases c5:lm c=true
 ·rw [iX c5] at h ⊢
  rw [rQ c5]
  exact⟨rfl,rfl⟩
 by_cases c6:c=91
 ·subst c6
  rw [lQ] at h ⊢
  rw [rR]
  by_cases c7:dY s 93 s.size (a+1)<s.size∧bAt s (dY s 93 s.size (a+1))=93
  ·have:isB s 93 ⟨dY s 93 s.size (a+1),d,false⟩=true:=by unfold isB;simp [c7.1,c7.2]
   rw [if_pos c7.1]
   simp only [this,if_true]
   exact⟨rfl,trivial⟩
  ·have:isB s 93 ⟨dY s 93 s.size (a+1),d,false⟩=false:=by unfold isB;simpa using c7
   simp only [this] at h
   cases h
 ·rw [nU (by simpa using c5) c1 c2 c3 c4 c6] at h
  cases h
theorem uO {s:ByteArray}{f g:PS→E×PS}{p:PS}(h:Same f g p):Same (ee s f) (jC s g) p:=by
 intro hp hb
 unfold ee at hb ⊢
 unfold jC
 by_cases c7:(f p).2.b=true
 ·have hn:∀c,isB s c (f p).2=false:=fun c=>by unfold isB;rw [c7];rfl
  simp only [hn,Bool.false_eq_true,if_false] at hb
  rw [c7] at hb;cases hb
 have c7':(f p).2.b=false:=by simpa using c7
 obtain⟨e1,e2⟩:=h hp c7'
 rw [e1]
 simp only [PS.up,PS.go]
 rw [kt (by decide) c7',kt (by decide) c7',kt (by decide) c7']
 by_cases k1:bAt s (f p).2.a=42
 ·simp [k1,e2]
 by_cases k2:bAt s (f p).2.a=43
 ·simp [k2,e2]
 by_cases k3:bAt s (f p).2.a=63
 ·simp [k3,e2]
 simp [k1,k2,k3,e2]
theorem jl {s:ByteArray}{f:PS→E×PS}{p:PS}(h:p.b=true):∀(n:Nat) (l:List E),bY s f n l p=(l,p)
 | 0,l=>rfl
 | n+1,l=>by
  unfold bY
  have:goS s p=false:=by unfold goS;rw [h];rfl
  rw [this];rfl
theorem jm {s:ByteArray}{f:PS→E×PS}{p:PS}(h:p.b=true):∀(n:Nat) (l:List E),b9 s f n l p=(l,p)
 | 0,l=>rfl
 | n+1,l=>by
  unfold b9
  have:isB s 124 p=false:=by unfold isB;rw [h];rfl
  rw [this];rfl
def Picky (s:ByteArray)(f:PS→E×PS):Prop:=∀p,p.b=false→(bAt s p.a=0∨bAt s p.a=124∨bAt s p.a=41)→(f p).2.b=true
theorem rU {s:ByteArray}(alt:PS→E×PS):Picky s (dh s alt):=by
 intro p hp hc
 unfold dh
 split
 ·rfl
 unfold d8
 have hl:∀c,c=0∨c=124∨c=41→lm c=false∧c≠46∧c≠94∧c≠36∧c≠40∧c≠91:=by
  rintro c (rfl|rfl|rfl)<;>decide
 obtain⟨h0,h1,h2,h3,h4,h5⟩:=hl _ hc
 simp only [h0,h1,h2,h3,h4,h5,if_false,Bool.false_eq_true,ne_eq,not_false_eq_true,if_true,PS.bad]
theorem rV {s:ByteArray}{f:PS→E×PS}(h:Picky s f):Picky s (ee s f):=by
 intro p hp hc
 have hb:=h p hp hc
 have hn:∀c,isB s c (f p).2=false:=fun c=>by unfold isB;rw [hb];rfl
 unfold ee
 simp only [hn,Bool.false_eq_true,if_false]
 exact hb
theorem jn {s:ByteArray}{f g:PS→E×PS}(D:Nat)(h:∀p,p.d=D→Same f g p)(hk:Picky s f):∀(n:Nat) (l:List E) (p:PS),p.d=D→p.b=false→(bY s f n l p).2.b=false →
 bX s g n l p.up=((bY s f n l p).1,(bY s f n l p).2.up)∧(bY s f n l p).2.d=D
 | 0,l,p,hd,hp,hb=>⟨rfl,hd⟩
 | n+1,l,p,hd,hp,hb=>by
  unfold bY at hb ⊢
  unfold bX
  by_cases hg:goS s p=true
  ·rw [if_pos hg] at hb ⊢
   have hfb:(f p).2.b=false:=by
    rw [Bool.eq_false_iff]
    intro hc
    rw [jl hc] at hb
    rw [hc] at hb;cases hb
   have hne:bAt s p.a≠0:=fun h0=>by rw [hk p hp (.inl h0)] at hfb;cases hfb
   obtain⟨e1,e2⟩:=h p hd hp hfb
   have hg':goI s p.up=true:=by
    unfold goS at hg
    unfold goI
    simp only [PS.up]
    rw [Bool.and_eq_true,Bool.and_eq_true,Bool.and_eq_true] at hg
    rw [hg.1.1.1,hg.1.2,hg.2]
    simpa using hne
   rw [if_pos hg',e1]
   exact jn D h hk n _ _ (e2.trans hd) hfb hb
  ·rw [if_neg hg] at hb ⊢
   have hg':goI s p.up=false:=by
    rw [Bool.eq_false_iff]
    intro hc
    refine hg ?_
    unfold goI at hc
    simp only [PS.up] at hc
    unfold goS
    rw [Bool.and_eq_true,Bool.and_eq_true,Bool.and_eq_true] at hc
    have hlt:p.a<s.size:=da (by simpa using hc.1.1.2)
    rw [hc.1.1.1,hc.1.2,hc.2]
    simp [hlt]
   rw [hg']
   exact⟨rfl,hd⟩
theorem ku {s:ByteArray}{f:PS→E×PS}:∀(n:Nat) (l:List E) (p:PS),l.length≤(bX s f n l p).1.length
 | 0,l,p=>Nat.le_refl _
 | n+1,l,p=>by
  unfold bX
  split
  ·exact Nat.le_trans (by simp) (ku n _ _)
  ·exact Nat.le_refl _
theorem xx {s:ByteArray}{f g:PS→E×PS}(D:Nat)(h:∀p,p.d=D→Same f g p)(hk:Picky s f)(p:PS)(hd:p.d=D):Same (oR s f) (sS s g) p:=by
 intro hp hb
 unfold oR at hb ⊢
 unfold sS
 have hfb:(f p).2.b=false:=by
  rw [Bool.eq_false_iff]
  intro hc
  simp only [jl hc] at hb
  rw [hc] at hb;cases hb
 have hne:¬(bAt s p.a=0∨bAt s p.a=124∨bAt s p.a=41):=fun h0=>by rw [hk p hp h0] at hfb;cases hfb
 obtain⟨e1,e2⟩:=h p hd hp hfb
 have hg':goI s p.up=true:=by
  unfold goI
  simp only [PS.up,hp]
  simp only [not_or] at hne
  simp [hne]
 have e3:bX s g (s.size+2) [] p.up=bX s g (s.size+1) [(f p).1] (f p).2.up:=by
  conv=>lhs;unfold bX
  rw [if_pos hg',e1]
  rfl
 obtain⟨e5,e6⟩:=jn D h hk (s.size+1) [(f p).1] (f p).2 (e2.trans hd) hfb hb
 simp only
 rw [e3,e5]
 have hl:¬(bY s f (s.size+1) [(f p).1] (f p).2).1.length=0:=by
  have:=ku (s:=s) (f:=g) (s.size+1) [(f p).1] (f p).2.up
  rw [e5] at this
  simp only [List.length_cons,List.length_nil] at this
  omega
 rw [if_neg hl]
 exact⟨rfl,e6.trans hd.symm⟩
theorem jo {s:ByteArray}{f g:PS→E×PS}(D:Nat)(h:∀p,p.d=D→Same f g p):∀(n:Nat) (l:List E) (p:PS),p.d=D→p.b=false→(b9 s f n l p).2.b=false →
 cJ s g n l p.up=((b9 s f n l p).1,(b9 s f n l p).2.up)∧(b9 s f n l p).2.d=D
 | 0,l,p,hd,hp,hb=>⟨rfl,hd⟩
 | n+1,l,p,hd,hp,hb=>by
  unfold b9 at hb ⊢
  unfold cJ
  have hi:wE s p.up=isB s 124 p:=by
   rw [kt (by decide) hp]
   unfold wE
   simp only [PS.up,hp,Bool.not_false,Bool.true_and]
  rw [hi]
  by_cases hg:isB s 124 p=true
  ·rw [if_pos hg] at hb ⊢
   rw [if_pos hg]
   have hfb:(f (p.go 1)).2.b=false:=by
    rw [Bool.eq_false_iff]
    intro hc
    rw [jm hc] at hb
    rw [hc] at hb;cases hb
   obtain⟨e1,e2⟩:=h (p.go 1) hd hp hfb
   have e3:p.up.go 1=(p.go 1).up:=rfl
   rw [e3,e1]
   exact jo D h n _ _ (e2.trans hd) hfb hb
  ·rw [if_neg hg] at hb ⊢
   rw [if_neg hg]
   exact⟨rfl,hd⟩
theorem qM {s:ByteArray}(f:Nat):∀p:PS,p.b=false→p.d≤8→(gP s f p).2.b=false→sU s f p=gP s f p∧(gP s f p).2.d=p.d:=by
 induction f with
 | zero=>intro p hp hd h;cases h
 | succ f ih =>
  intro p hp hd h
  have hA:∀q:PS,q.d=p.d→Same (oR s (ee s (dh s (gP s f)))) (sS s (jC s (iV s (sU s f)))) q:=fun q hq =>
   xx q.d (fun r hr=>uO (rS (fun t ht htd hb=>ih t ht htd hb) r omq)) (rV (rU _)) q rfl
  unfold gP xw at h ⊢
  unfold sU xv
  have hfb:(oR s (ee s (dh s (gP s f))) p).2.b=false:=by
   rw [Bool.eq_false_iff]
   intro hc
   simp only [jm hc] at h
   rw [hc] at h;cases h
  obtain⟨e1,e2⟩:=hA p rfl hp hfb
  have e3:(⟨p.a,p.d+1,p.b||decide (40<p.d+1)⟩:PS)=p.up:=by
   unfold PS.up
   rw [decide_eq_false omq,Bool.or_false]
  simp only [e3,e1]
  obtain⟨e5,e6⟩:=jo p.d hA (s.size+1) [(oR s (ee s (dh s (gP s f))) p).1] _ e2 hfb h
  rw [e5]
  refine⟨?_,e6⟩
  simp only [PS.up,Nat.add_sub_cancel]
end Go.Proofs.YtmnneflenebgmaaGreat
