/- T -/
import Derived.Test.YtmnneflenebgmaaGreatRxOL
set_option maxHeartbeats 0
set_option maxRecDepth 100000
namespace Go.Proofs.YtmnneflenebgmaaGreat
open Go.RowKit Go.Proofs.Tryz
structure PS where
 a:Nat
 d:Nat
 b:Bool
def dX (s:ByteArray)(c:Nat):Nat→Nat→Nat
 | 0,a=>a
 | f+1,a=>if a<s.size∧bAt s a≠c then dX s c f (a+1) else a
def jC (k:Int):List E→E
 | [x]=>x
 | l=>cQ k ByteArray.empty l
def uG (c:Nat):ByteArray:=⟨#[UInt8.ofNat c]⟩
def PS.bad (p:PS):PS:=⟨p.a,p.d,true⟩
def PS.go (p:PS)(n:Nat):PS:=⟨p.a+n,p.d,p.b⟩
section
variable (s:ByteArray)
def d6 (alt:PS→E×PS)(c:Nat)(q:PS):E×PS :=
 if lc c then (cQ 1 (uG c) [],q)
 else if c=46 then (cQ 2 ByteArray.empty [],q)
 else if c=94 then (cQ 10 ByteArray.empty [],q)
 else if c=36 then (cQ 11 ByteArray.empty [],q)
 else if c=91 then
  let e:=dX s 93 s.size q.a
  if e<s.size then (cQ 3 (eU s q.a e) [],⟨e+1,q.d,q.b⟩) else (cU,q.bad)
 else if c=40 then
  if bAt s q.a=41 then (cQ 9 ByteArray.empty [],q.go 1)
  else
   let r:=alt q
   if bAt s r.2.a=41 then (r.1,r.2.go 1) else (cU,r.2.bad)
 else (cU,q.bad)
def iY (alt:PS→E×PS)(p:PS):E×PS:=d6 s alt (bAt s p.a) (p.go 1)
def jD (atom:PS→E×PS)(p:PS):E×PS :=
 let r:=atom p
 if bAt s r.2.a=42 then (cQ 6 ByteArray.empty [r.1],r.2.go 1)
 else if bAt s r.2.a=43 then (cQ 7 ByteArray.empty [r.1],r.2.go 1)
 else if bAt s r.2.a=63 then (cQ 8 ByteArray.empty [r.1],r.2.go 1)
 else r
def goI (p:PS):Bool:=!p.b&&!(bAt s p.a==0)&&!(bAt s p.a==124)&&!(bAt s p.a==41)
def bX (item:PS→E×PS):Nat→List E→PS→List E×PS
 | 0,l,p=>(l,p)
 | n+1,l,p=>if goI s p then bX item n (l++[(item p).1]) (item p).2 else (l,p)
def sH (item:PS→E×PS)(p:PS):E×PS :=
 let r:=bX s item (s.size+2) [] p
 if r.1.length=0 then (cU,r.2.bad) else (jC 4 r.1,r.2)
def wq (p:PS):Bool:=!p.b&&bAt s p.a==124
def cG (cat:PS→E×PS):Nat→List E→PS→List E×PS
 | 0,l,p=>(l,p)
 | n+1,l,p=>if wq s p then cG cat n (l++[(cat (p.go 1)).1]) (cat (p.go 1)).2 else (l,p)
def xm (cat:PS→E×PS)(p:PS):E×PS :=
 let r:=cat ⟨p.a,p.d+1,p.b||decide (40<p.d+1)⟩
 let q:=cG s cat (s.size+1) [r.1] r.2
 (jC 5 q.1,⟨q.2.a,q.2.d-1,q.2.b⟩)
def sI:Nat→PS→E×PS
 | 0,p=>(cU,p.bad)
 | f+1,p=>xm s (sH s (jD s (iY s (sI f)))) p
def isB (c:Nat)(p:PS):Bool:=!p.b&&decide (p.a<s.size)&&bAt s p.a==c
def dA (alt:PS→E×PS)(p:PS):E×PS :=
 if isB s 41 p then (cQ 9 ByteArray.empty [],p.go 1)
 else if 8<p.d+1 then (cU,⟨p.a,p.d+1,true⟩)
 else
  let r:=alt ⟨p.a,p.d+1,p.b⟩
  let q:PS:=⟨r.2.a,r.2.d-1,r.2.b⟩
  if isB s 41 q then (r.1,q.go 1) else (cU,q.bad)
def d7 (alt:PS→E×PS)(c:Nat)(q:PS):E×PS :=
 if c=46 then (cQ 2 ByteArray.empty [],q)
 else if c=94 then (cQ 10 ByteArray.empty [],q)
 else if c=36 then (cQ 11 ByteArray.empty [],q)
 else if c=40 then dA s alt q
 else if lc c then (cQ 1 (uG c) [],q)
 else if c≠91 then (cU,q.bad)
 else
  let e:=dX s 93 s.size q.a
  let t:PS:=⟨e,q.d,q.b⟩
  if isB s 93 t then (cQ 3 (eU s q.a e) [],t.go 1) else (cU,t.bad)
def df (alt:PS→E×PS)(p:PS):E×PS:=if p.b=true∨s.size≤p.a then (cU,p.bad) else d7 s alt (bAt s p.a) (p.go 1)
def ec (atom:PS→E×PS)(p:PS):E×PS :=
 let r:=atom p
 if isB s 42 r.2 then (cQ 6 ByteArray.empty [r.1],r.2.go 1)
 else if isB s 43 r.2 then (cQ 7 ByteArray.empty [r.1],r.2.go 1)
 else if isB s 63 r.2 then (cQ 8 ByteArray.empty [r.1],r.2.go 1)
 else r
def goS (p:PS):Bool:=!p.b&&decide (p.a<s.size)&&!(bAt s p.a==124)&&!(bAt s p.a==41)
def bY (item:PS→E×PS):Nat→List E→PS→List E×PS
 | 0,l,p=>(l,p)
 | n+1,l,p=>if goS s p then bY item n (l++[(item p).1]) (item p).2 else (l,p)
def oK (item:PS→E×PS)(p:PS):E×PS :=
 let q:=bY s item (s.size+1) [(item p).1] (item p).2
 (jC 4 q.1,q.2)
def b9 (cat:PS→E×PS):Nat→List E→PS→List E×PS
 | 0,l,p=>(l,p)
 | n+1,l,p=>if isB s 124 p then b9 cat n (l++[(cat (p.go 1)).1]) (cat (p.go 1)).2 else (l,p)
def xn (cat:PS→E×PS)(p:PS):E×PS :=
 let q:=b9 s cat (s.size+1) [(cat p).1] (cat p).2
 (jC 5 q.1,q.2)
def gP:Nat→PS→E×PS
 | 0,p=>(cU,p.bad)
 | f+1,p=>xn s (oK s (ec s (df s (gP f)))) p
end
def PS.up (p:PS):PS:=⟨p.a,p.d+1,p.b⟩
theorem iZ {s:ByteArray}{j:Nat}(h:s.size≤j):bAt s j=0:=by
 unfold bAt
 have:s.data.size≤j:=h
 rw [Array.getElem?_eq_none this]
 rfl
theorem c9 {s:ByteArray}{j:Nat}(h:bAt s j≠0):j<s.size:=by
 rcases Nat.lt_or_ge j s.size with h1|h1
 ·exact h1
 ·exact absurd (iZ h1) h
def Same (f g:PS→E×PS)(p:PS):Prop:=p.b=false→(f p).2.b=false→g p.up=((f p).1,(f p).2.up)∧(f p).2.d=p.d
theorem ko {s:ByteArray}{c:Nat}{p:PS}(hc:c≠0)(hp:p.b=false):isB s c p=(bAt s p.a==c):=by
 unfold isB
 rw [hp]
 by_cases h:p.a<s.size
 ·simp [h]
 ·rw [iZ omq]
  simp [h]
  exact fun e=>hc e.symm
theorem zdQ {c:Nat}(h:lc c=true):c≠46∧c≠94∧c≠36∧c≠40∧c≠91:=by
 refine⟨?_,?_,?_,?_,?_⟩<;>(rintro rfl;cases h)
section
variable {s:ByteArray}{alt:PS→E×PS}{c:Nat}{q:PS}
theorem i4 (h:lc c=true):d7 s alt c q=(cQ 1 (uG c) [],q):=by
 obtain⟨h1,h2,h3,h4,h5⟩:=zdQ h
 unfold d7
 rw [if_neg h1,if_neg h2,if_neg h3,if_neg h4,if_pos h]
theorem rG (h:lc c=true):d6 s alt c q=(cQ 1 (uG c) [],q):=by
 unfold d6
 rw [if_pos h]
theorem lJ:d7 s alt 91 q=if isB s 93 ⟨dX s 93 s.size q.a,q.d,q.b⟩ then (cQ 3 (eU s q.a (dX s 93 s.size q.a)) [],⟨dX s 93 s.size q.a+1,q.d,q.b⟩) else (cU,⟨dX s 93 s.size q.a,q.d,true⟩):=rfl
theorem rH:d6 s alt 91 q=if dX s 93 s.size q.a<s.size then (cQ 3 (eU s q.a (dX s 93 s.size q.a)) [],⟨dX s 93 s.size q.a+1,q.d,q.b⟩) else (cU,q.bad):=rfl
theorem i5:d6 s alt 40 q=if bAt s q.a=41 then (cQ 9 ByteArray.empty [],q.go 1) else if bAt s (alt q).2.a=41 then ((alt q).1,(alt q).2.go 1) else (cU,(alt q).2.bad):=rfl
theorem nP (h:lc c=false)(h1:c≠46)(h2:c≠94)(h3:c≠36)(h4:c≠40)(h5:c≠91):d7 s alt c q=(cU,q.bad):=by
 unfold d7
 rw [if_neg h1,if_neg h2,if_neg h3,if_neg h4,if_neg (by rw [h];decide),if_pos h5]
end
theorem rI {s:ByteArray}{alt alt':PS→E×PS}(ha:∀p,p.b=false→p.d≤8→(alt p).2.b=false→alt' p=alt p∧(alt p).2.d=p.d)(p:PS)(_hd:p.d≤8):Same (df s alt) (iY s alt') p:=by
 intro hp h
 obtain⟨a,d,b⟩:=p
 simp only at hp
 subst hp
 have e0:iY s alt' (PS.up ⟨a,d,false⟩)=d6 s alt' (bAt s a) ⟨a+1,d+1,false⟩:=rfl
 rw [e0]
 clear e0
 have e1:df s alt ⟨a,d,false⟩=if s.size≤a then (cU,⟨a,d,true⟩) else d7 s alt (bAt s a) ⟨a+1,d,false⟩:=by
  unfold df
  simp only [Bool.false_eq_true,false_or]
  rfl
 rw [e1] at h ⊢
 clear e1
 by_cases h1:s.size≤a
 ·rw [if_pos h1] at h;cases h
 rw [if_neg h1] at h ⊢
 generalize hc:bAt s a=c at h ⊢
 by_cases c1:c=46
 ·subst c1;exact⟨rfl,rfl⟩
 by_cases c2:c=94
 ·subst c2;exact⟨rfl,rfl⟩
 by_cases c3:c=36
 ·subst c3;exact⟨rfl,rfl⟩
 by_cases c4:c=40
 ·subst c4
  have e2:d7 s alt 40 ⟨a+1,d,false⟩=dA s alt ⟨a+1,d,false⟩:=rfl
  rw [e2] at h ⊢
  rw [i5]
  clear e2
  have e3:dA s alt ⟨a+1,d,false⟩=if (bAt s (a+1)==41)=true then (cQ 9 ByteArray.empty [],⟨a+1+1,d,false⟩) else if 8<d+1 then (cU,⟨a+1,d+1,true⟩) else if isB s 41 ⟨(alt ⟨a+1,d+1,false⟩).2.a,(alt ⟨a+1,d+1,false⟩).2.d-1,(alt ⟨a+1,d+1,false⟩).2.b⟩ then ((alt ⟨a+1,d+1,false⟩).1,⟨(alt ⟨a+1,d+1,false⟩).2.a+1,(alt ⟨a+1,d+1,false⟩).2.d-1,(alt ⟨a+1,d+1,false⟩).2.b⟩) else (cU,⟨(alt ⟨a+1,d+1,false⟩).2.a,(alt ⟨a+1,d+1,false⟩).2.d-1,true⟩):=by
   rw [←ko (p:=⟨a+1,d,false⟩) (by decide) rfl]
   rfl
  rw [e3] at h ⊢
  clear e3
  by_cases c5:bAt s (a+1)=41
  ·rw [if_pos c5,if_pos (by simpa using c5)]
   exact⟨rfl,rfl⟩
  have c5b:¬(bAt s (a+1)==41)=true:=by simpa using c5
  rw [if_neg c5b] at h ⊢
  rw [if_neg c5]
  by_cases c6:8<d+1
  ·rw [if_pos c6] at h;cases h
  rw [if_neg c6] at h ⊢
  by_cases c7:(alt ⟨a+1,d+1,false⟩).2.b=true
  ·have:isB s 41 ⟨(alt ⟨a+1,d+1,false⟩).2.a,(alt ⟨a+1,d+1,false⟩).2.d-1,(alt ⟨a+1,d+1,false⟩).2.b⟩=false:=by unfold isB;rw [c7];rfl
   rw [this] at h
   cases h
  have c7':(alt ⟨a+1,d+1,false⟩).2.b=false:=by simpa using c7
  obtain⟨e1,e2⟩:=ha ⟨a+1,d+1,false⟩ rfl (by show d+1≤8;omega) c7'
  rw [e1]
  generalize alt ⟨a+1,d+1,false⟩=R at *
  obtain⟨r1,ra,rd,rb⟩:=R
  simp only at c7' e2
  subst c7' e2
  have e4:isB s 41 ⟨ra,d+1-1,false⟩=(bAt s ra==41):=ko (by decide) rfl
  show (if bAt s ra=41 then _ else _)=_∧_
  change (if isB s 41 ⟨ra,d+1-1,false⟩=true then (r1,(⟨ra+1,d+1-1,false⟩:PS)) else (cU,⟨ra,d+1-1,true⟩)).2.b=false at h
  rw [e4] at h
  by_cases c8:bAt s ra=41
  ·rw [if_pos c8]
   have:(if isB s 41 ⟨ra,d+1-1,false⟩=true then (r1,(⟨ra+1,d+1-1,false⟩:PS)) else (cU,⟨ra,d+1-1,true⟩))=(r1,⟨ra+1,d+1-1,false⟩):=by rw [e4,if_pos (by simpa using c8)]
   simp only [this]
   exact⟨rfl,rfl⟩
  ·rw [if_neg (by simpa using c8)] at h
   cases h
 by_cases c5:lc c=true
 ·rw [i4 c5] at h ⊢
  rw [rG c5]
  exact⟨rfl,rfl⟩
 by_cases c6:c=91
 ·subst c6
  rw [lJ] at h ⊢
  rw [rH]
  by_cases c7:dX s 93 s.size (a+1)<s.size∧bAt s (dX s 93 s.size (a+1))=93
  ·have:isB s 93 ⟨dX s 93 s.size (a+1),d,false⟩=true:=by unfold isB;simp [c7.1,c7.2]
   rw [if_pos c7.1]
   simp only [this,if_true]
   exact⟨rfl,trivial⟩
  ·have:isB s 93 ⟨dX s 93 s.size (a+1),d,false⟩=false:=by unfold isB;simpa using c7
   simp only [this] at h
   cases h
 ·rw [nP (by simpa using c5) c1 c2 c3 c4 c6] at h
  cases h
theorem uH {s:ByteArray}{f g:PS→E×PS}{p:PS}(h:Same f g p):Same (ec s f) (jD s g) p:=by
 intro hp hb
 unfold ec at hb ⊢
 unfold jD
 by_cases c7:(f p).2.b=true
 ·have hn:∀c,isB s c (f p).2=false:=fun c=>by unfold isB;rw [c7];rfl
  simp only [hn,Bool.false_eq_true,if_false] at hb
  rw [c7] at hb;cases hb
 have c7':(f p).2.b=false:=by simpa using c7
 obtain⟨e1,e2⟩:=h hp c7'
 rw [e1]
 simp only [PS.up,PS.go]
 rw [ko (by decide) c7',ko (by decide) c7',ko (by decide) c7']
 by_cases k1:bAt s (f p).2.a=42
 ·simp [k1,e2]
 by_cases k2:bAt s (f p).2.a=43
 ·simp [k2,e2]
 by_cases k3:bAt s (f p).2.a=63
 ·simp [k3,e2]
 simp [k1,k2,k3,e2]
theorem jm {s:ByteArray}{f:PS→E×PS}{p:PS}(h:p.b=true):∀(n:Nat) (l:List E),bY s f n l p=(l,p)
 | 0,l=>rfl
 | n+1,l=>by
  unfold bY
  have:goS s p=false:=by unfold goS;rw [h];rfl
  rw [this];rfl
theorem jn {s:ByteArray}{f:PS→E×PS}{p:PS}(h:p.b=true):∀(n:Nat) (l:List E),b9 s f n l p=(l,p)
 | 0,l=>rfl
 | n+1,l=>by
  unfold b9
  have:isB s 124 p=false:=by unfold isB;rw [h];rfl
  rw [this];rfl
def Picky (s:ByteArray)(f:PS→E×PS):Prop:=∀p,p.b=false→(bAt s p.a=0∨bAt s p.a=124∨bAt s p.a=41)→(f p).2.b=true
theorem rJ {s:ByteArray}(alt:PS→E×PS):Picky s (df s alt):=by
 intro p hp hc
 unfold df
 split
 ·rfl
 unfold d7
 have hl:∀c,c=0∨c=124∨c=41→lc c=false∧c≠46∧c≠94∧c≠36∧c≠40∧c≠91:=by
  rintro c (rfl|rfl|rfl)<;>decide
 obtain⟨h0,h1,h2,h3,h4,h5⟩:=hl _ hc
 simp only [h0,h1,h2,h3,h4,h5,if_false,Bool.false_eq_true,ne_eq,not_false_eq_true,if_true,PS.bad]
theorem rK {s:ByteArray}{f:PS→E×PS}(h:Picky s f):Picky s (ec s f):=by
 intro p hp hc
 have hb:=h p hp hc
 have hn:∀c,isB s c (f p).2=false:=fun c=>by unfold isB;rw [hb];rfl
 unfold ec
 simp only [hn,Bool.false_eq_true,if_false]
 exact hb
theorem jo {s:ByteArray}{f g:PS→E×PS}(D:Nat)(h:∀p,p.d=D→Same f g p)(hk:Picky s f):∀(n:Nat) (l:List E) (p:PS),p.d=D→p.b=false→(bY s f n l p).2.b=false →
 bX s g n l p.up=((bY s f n l p).1,(bY s f n l p).2.up)∧(bY s f n l p).2.d=D
 | 0,l,p,hd,hp,hb=>⟨rfl,hd⟩
 | n+1,l,p,hd,hp,hb=>by
  unfold bY at hb ⊢
  unfold bX
  by_cases hg:goS s p=true
  ·rw [if_pos hg] at hb ⊢
   have hfb:(f p).2.b=false:=by
    rw [Bool.eq_false_iff]
    intro hc
    rw [jm hc] at hb
    rw [hc] at hb;cases hb
   have hne:bAt s p.a≠0:=fun h0=>by rw [hk p hp (.inl h0)] at hfb;cases hfb
   obtain⟨e1,e2⟩:=h p hd hp hfb
   have hg':goI s p.up=true:=by
    unfold goS at hg
    unfold goI
    simp only [PS.up]
    rw [Bool.and_eq_true,Bool.and_eq_true,Bool.and_eq_true] at hg
    rw [hg.1.1.1,hg.1.2,hg.2]
    simpa using hne
   rw [if_pos hg',e1]
   exact jo D h hk n _ _ (e2.trans hd) hfb hb
  ·rw [if_neg hg] at hb ⊢
   have hg':goI s p.up=false:=by
    rw [Bool.eq_false_iff]
    intro hc
    refine hg ?_
    unfold goI at hc
    simp only [PS.up] at hc
    unfold goS
    rw [Bool.and_eq_true,Bool.and_eq_true,Bool.and_eq_true] at hc
    have hlt:p.a<s.size:=c9 (by simpa using hc.1.1.2)
    rw [hc.1.1.1,hc.1.2,hc.2]
    simp [hlt]
   rw [hg']
   exact⟨rfl,hd⟩
theorem kq {s:ByteArray}{f:PS→E×PS}:∀(n:Nat) (l:List E) (p:PS),l.length≤(bX s f n l p).1.length
 | 0,l,p=>Nat.le_refl _
 | n+1,l,p=>by
  unfold bX
  split
  ·exact Nat.le_trans (by simp) (kq n _ _)
  ·exact Nat.le_refl _
theorem xp {s:ByteArray}{f g:PS→E×PS}(D:Nat)(h:∀p,p.d=D→Same f g p)(hk:Picky s f)(p:PS)(hd:p.d=D):Same (oK s f) (sH s g) p:=by
 intro hp hb
 unfold oK at hb ⊢
 unfold sH
 have hfb:(f p).2.b=false:=by
  rw [Bool.eq_false_iff]
  intro hc
  simp only [jm hc] at hb
  rw [hc] at hb;cases hb
 have hne:¬(bAt s p.a=0∨bAt s p.a=124∨bAt s p.a=41):=fun h0=>by rw [hk p hp h0] at hfb;cases hfb
 obtain⟨e1,e2⟩:=h p hd hp hfb
 have hg':goI s p.up=true:=by
  unfold goI
  simp only [PS.up,hp]
  simp only [not_or] at hne
  simp [hne]
 have e3:bX s g (s.size+2) [] p.up=bX s g (s.size+1) [(f p).1] (f p).2.up:=by
  conv=>lhs;unfold bX
  rw [if_pos hg',e1]
  rfl
 obtain⟨e5,e6⟩:=jo D h hk (s.size+1) [(f p).1] (f p).2 (e2.trans hd) hfb hb
 simp only
 rw [e3,e5]
 have hl:¬(bY s f (s.size+1) [(f p).1] (f p).2).1.length=0:=by
  have:=kq (s:=s) (f:=g) (s.size+1) [(f p).1] (f p).2.up
  rw [e5] at this
  simp only [List.length_cons,List.length_nil] at this
  omega
 rw [if_neg hl]
 exact⟨rfl,e6.trans hd.symm⟩
theorem jp {s:ByteArray}{f g:PS→E×PS}(D:Nat)(h:∀p,p.d=D→Same f g p):∀(n:Nat) (l:List E) (p:PS),p.d=D→p.b=false→(b9 s f n l p).2.b=false →
 cG s g n l p.up=((b9 s f n l p).1,(b9 s f n l p).2.up)∧(b9 s f n l p).2.d=D
 | 0,l,p,hd,hp,hb=>⟨rfl,hd⟩
 | n+1,l,p,hd,hp,hb=>by
  unfold b9 at hb ⊢
  unfold cG
  have hi:wq s p.up=isB s 124 p:=by
   rw [ko (by decide) hp]
   unfold wq
   simp only [PS.up,hp,Bool.not_false,Bool.true_and]
  rw [hi]
  by_cases hg:isB s 124 p=true
  ·rw [if_pos hg] at hb ⊢
   rw [if_pos hg]
   have hfb:(f (p.go 1)).2.b=false:=by
    rw [Bool.eq_false_iff]
    intro hc
    rw [jn hc] at hb
    rw [hc] at hb;cases hb
   obtain⟨e1,e2⟩:=h (p.go 1) hd hp hfb
   have e3:p.up.go 1=(p.go 1).up:=rfl
   rw [e3,e1]
   exact jp D h n _ _ (e2.trans hd) hfb hb
  ·rw [if_neg hg] at hb ⊢
   rw [if_neg hg]
   exact⟨rfl,hd⟩
theorem qF {s:ByteArray}(f:Nat):∀p:PS,p.b=false→p.d≤8→(gP s f p).2.b=false→sI s f p=gP s f p∧(gP s f p).2.d=p.d:=by
 induction f with
 | zero=>intro p hp hd h;cases h
 | succ f ih =>
  intro p hp hd h
  have hA:∀q:PS,q.d=p.d→Same (oK s (ec s (df s (gP s f)))) (sH s (jD s (iY s (sI s f)))) q:=fun q hq =>
   xp q.d (fun r hr=>uH (rI (fun t ht htd hb=>ih t ht htd hb) r omq)) (rK (rJ _)) q rfl
  unfold gP xn at h ⊢
  unfold sI xm
  have hfb:(oK s (ec s (df s (gP s f))) p).2.b=false:=by
   rw [Bool.eq_false_iff]
   intro hc
   simp only [jn hc] at h
   rw [hc] at h;cases h
  obtain⟨e1,e2⟩:=hA p rfl hp hfb
  have e3:(⟨p.a,p.d+1,p.b||decide (40<p.d+1)⟩:PS)=p.up:=by
   unfold PS.up
   rw [decide_eq_false omq,Bool.or_false]
  simp only [e3,e1]
  obtain⟨e5,e6⟩:=jp p.d hA (s.size+1) [(oK s (ec s (df s (gP s f))) p).1] _ e2 hfb h
  rw [e5]
  refine⟨?_,e6⟩
  simp only [PS.up,Nat.add_sub_cancel]
end Go.Proofs.YtmnneflenebgmaaGreat
