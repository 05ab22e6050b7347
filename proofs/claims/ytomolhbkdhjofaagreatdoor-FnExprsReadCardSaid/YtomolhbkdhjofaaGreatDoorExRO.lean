/- T -/
import Derived.Test.YtomolhbkdhjofaaGreatDoorExRN
set_option maxHeartbeats 0
set_option maxRecDepth 100000
namespace Go.Proofs.YtomolhbkdhjofaaGreatDoor
open Go.RowKit Go.Proofs.Tryz
structure PS where
 a:Nat
 d:Nat
 b:Bool
def eS (s:ByteArray)(c:Nat):Nat→Nat→Nat
 | 0,a=>a
 | f+1,a=>if a<s.size∧bAt s a≠c then eS s c f (a+1) else a
def kW (k:Int):List E→E
 | [x]=>x
 | l=>du k ByteArray.empty l
def wO (c:Nat):ByteArray:=⟨#[UInt8.ofNat c]⟩
def PS.bad (p:PS):PS:=⟨p.a,p.d,true⟩
def PS.go (p:PS)(n:Nat):PS:=⟨p.a+n,p.d,p.b⟩
section
variable (s:ByteArray)
def eY (alt:PS→E×PS)(c:Nat)(q:PS):E×PS :=
 if ma c then (du 1 (wO c) [],q)
 else if c=46 then (du 2 ByteArray.empty [],q)
 else if c=94 then (du 10 ByteArray.empty [],q)
 else if c=36 then (du 11 ByteArray.empty [],q)
 else if c=91 then
  let e:=eS s 93 s.size q.a
  if e<s.size then (du 3 (bz s q.a e) [],⟨e+1,q.d,q.b⟩) else (dv,q.bad)
 else if c=40 then
  if bAt s q.a=41 then (du 9 ByteArray.empty [],q.go 1)
  else
   let r:=alt q
   if bAt s r.2.a=41 then (r.1,r.2.go 1) else (dv,r.2.bad)
 else (dv,q.bad)
def kf (alt:PS→E×PS)(p:PS):E×PS:=eY s alt (bAt s p.a) (p.go 1)
def kX (atom:PS→E×PS)(p:PS):E×PS :=
 let r:=atom p
 if bAt s r.2.a=42 then (du 6 ByteArray.empty [r.1],r.2.go 1)
 else if bAt s r.2.a=43 then (du 7 ByteArray.empty [r.1],r.2.go 1)
 else if bAt s r.2.a=63 then (du 8 ByteArray.empty [r.1],r.2.go 1)
 else r
def goI (p:PS):Bool:=!p.b&&!(bAt s p.a==0)&&!(bAt s p.a==124)&&!(bAt s p.a==41)
def cv (item:PS→E×PS):Nat→List E→PS→List E×PS
 | 0,l,p=>(l,p)
 | n+1,l,p=>if goI s p then cv item n (l++[(item p).1]) (item p).2 else (l,p)
def uW (item:PS→E×PS)(p:PS):E×PS :=
 let r:=cv s item (s.size+2) [] p
 if r.1.length=0 then (dv,r.2.bad) else (kW 4 r.1,r.2)
def yE (p:PS):Bool:=!p.b&&bAt s p.a==124
def de (cat:PS→E×PS):Nat→List E→PS→List E×PS
 | 0,l,p=>(l,p)
 | n+1,l,p=>if yE s p then de cat n (l++[(cat (p.go 1)).1]) (cat (p.go 1)).2 else (l,p)
def zv (cat:PS→E×PS)(p:PS):E×PS :=
 let r:=cat ⟨p.a,p.d+1,p.b||decide (40<p.d+1)⟩
 let q:=de s cat (s.size+1) [r.1] r.2
 (kW 5 q.1,⟨q.2.a,q.2.d-1,q.2.b⟩)
def uX:Nat→PS→E×PS
 | 0,p=>(dv,p.bad)
 | f+1,p=>zv s (uW s (kX s (kf s (uX f)))) p
def isB (c:Nat)(p:PS):Bool:=!p.b&&decide (p.a<s.size)&&bAt s p.a==c
def eg (alt:PS→E×PS)(p:PS):E×PS :=
 if isB s 41 p then (du 9 ByteArray.empty [],p.go 1)
 else if 8<p.d+1 then (dv,⟨p.a,p.d+1,true⟩)
 else
  let r:=alt ⟨p.a,p.d+1,p.b⟩
  let q:PS:=⟨r.2.a,r.2.d-1,r.2.b⟩
  if isB s 41 q then (r.1,q.go 1) else (dv,q.bad)
def eZ (alt:PS→E×PS)(c:Nat)(q:PS):E×PS :=
 if c=46 then (du 2 ByteArray.empty [],q)
 else if c=94 then (du 10 ByteArray.empty [],q)
 else if c=36 then (du 11 ByteArray.empty [],q)
 else if c=40 then eg s alt q
 else if ma c then (du 1 (wO c) [],q)
 else if c≠91 then (dv,q.bad)
 else
  let e:=eS s 93 s.size q.a
  let t:PS:=⟨e,q.d,q.b⟩
  if isB s 93 t then (du 3 (bz s q.a e) [],t.go 1) else (dv,t.bad)
def dR (alt:PS→E×PS)(p:PS):E×PS:=if p.b=true∨s.size≤p.a then (dv,p.bad) else eZ s alt (bAt s p.a) (p.go 1)
def fc (atom:PS→E×PS)(p:PS):E×PS :=
 let r:=atom p
 if isB s 42 r.2 then (du 6 ByteArray.empty [r.1],r.2.go 1)
 else if isB s 43 r.2 then (du 7 ByteArray.empty [r.1],r.2.go 1)
 else if isB s 63 r.2 then (du 8 ByteArray.empty [r.1],r.2.go 1)
 else r
def goS (p:PS):Bool:=!p.b&&decide (p.a<s.size)&&!(bAt s p.a==124)&&!(bAt s p.a==41)
def cz (item:PS→E×PS):Nat→List E→PS→List E×PS
 | 0,l,p=>(l,p)
 | n+1,l,p=>if goS s p then cz item n (l++[(item p).1]) (item p).2 else (l,p)
def qk (item:PS→E×PS)(p:PS):E×PS :=
 let q:=cz s item (s.size+1) [(item p).1] (item p).2
 (kW 4 q.1,q.2)
def cC (cat:PS→E×PS):Nat→List E→PS→List E×PS
 | 0,l,p=>(l,p)
 | n+1,l,p=>if isB s 124 p then cC cat n (l++[(cat (p.go 1)).1]) (cat (p.go 1)).2 else (l,p)
def zw (cat:PS→E×PS)(p:PS):E×PS :=
 let q:=cC s cat (s.size+1) [(cat p).1] (cat p).2
 (kW 5 q.1,q.2)
def ja:Nat→PS→E×PS
 | 0,p=>(dv,p.bad)
 | f+1,p=>zw s (qk s (fc s (dR s (ja f)))) p
end
def PS.up (p:PS):PS:=⟨p.a,p.d+1,p.b⟩
theorem kg {s:ByteArray}{j:Nat}(h:s.size≤j):bAt s j=0:=by
 unfold bAt
 have:s.data.size≤j:=h
 rw [Array.getElem?_eq_none this]
 rfl
theorem dG {s:ByteArray}{j:Nat}(h:bAt s j≠0):j<s.size:=by
 rcases Nat.lt_or_ge j s.size with h1|h1
 ·exact h1
 ·exact absurd (kg h1) h
def Same (f g:PS→E×PS)(p:PS):Prop:=p.b=false→(f p).2.b=false→g p.up=((f p).1,(f p).2.up)∧(f p).2.d=p.d
theorem me {s:ByteArray}{c:Nat}{p:PS}(hc:c≠0)(hp:p.b=false):isB s c p=(bAt s p.a==c):=by
 unfold isB
 rw [hp]
 by_cases h:p.a<s.size
 ·simp [h]
 ·rw [kg omq]
  simp [h]
  exact fun e=>hc e.symm
theorem zk2 {c:Nat}(h:ma c=true):c≠46∧c≠94∧c≠36∧c≠40∧c≠91:=by
 refine⟨?_,?_,?_,?_,?_⟩<;>(rintro rfl;cases h)
section
variable {s:ByteArray}{alt:PS→E×PS}{c:Nat}{q:PS}
theorem kh (h:ma c=true):eZ s alt c q=(du 1 (wO c) [],q):=by
 obtain⟨h1,h2,h3,h4,h5⟩:=zk2 h
 unfold eZ
 rw [if_neg h1,if_neg h2,if_neg h3,if_neg h4,if_pos h]
theorem ul (h:ma c=true):eY s alt c q=(du 1 (wO c) [],q):=by
 unfold eY
 rw [if_pos h]
theorem nA:eZ s alt 91 q=if isB s 93 ⟨eS s 93 s.size q.a,q.d,q.b⟩ then (du 3 (bz s q.a (eS s 93 s.size q.a)) [],⟨eS s 93 s.size q.a+1,q.d,q.b⟩) else (dv,⟨eS s 93 s.size q.a,q.d,true⟩):=rfl
theorem um:eY s alt 91 q=if eS s 93 s.size q.a<s.size then (du 3 (bz s q.a (eS s 93 s.size q.a)) [],⟨eS s 93 s.size q.a+1,q.d,q.b⟩) else (dv,q.bad):=rfl
theorem ki:eY s alt 40 q=if bAt s q.a=41 then (du 9 ByteArray.empty [],q.go 1) else if bAt s (alt q).2.a=41 then ((alt q).1,(alt q).2.go 1) else (dv,(alt q).2.bad):=rfl
theorem pv (h:ma c=false)(h1:c≠46)(h2:c≠94)(h3:c≠36)(h4:c≠40)(h5:c≠91):eZ s alt c q=(dv,q.bad):=by
 unfold eZ
 rw [if_neg h1,if_neg h2,if_neg h3,if_neg h4,if_neg (by rw [h];decide),if_pos h5]
end
theorem uo {s:ByteArray}{alt alt':PS→E×PS}(ha:∀p,p.b=false→p.d≤8→(alt p).2.b=false→alt' p=alt p∧(alt p).2.d=p.d)(p:PS)(_hd:p.d≤8):Same (dR s alt) (kf s alt') p:=by
 intro hp h
 obtain⟨a,d,b⟩:=p
 simp only at hp
 subst hp
 have e0:kf s alt' (PS.up ⟨a,d,false⟩)=eY s alt' (bAt s a) ⟨a+1,d+1,false⟩:=rfl
 rw [e0]
 clear e0
 have e1:dR s alt ⟨a,d,false⟩=if s.size≤a then (dv,⟨a,d,true⟩) else eZ s alt (bAt s a) ⟨a+1,d,false⟩:=by
  unfold dR
  simp only [Bool.false_eq_true,false_or]
  rfl
 rw [e1] at h ⊢
 clear e1
 by_cases h1:s.size≤a
 ·rw [if_pos h1] at h;cases h
 rw [if_neg h1] at h ⊢
 generalize hc:bAt s a=c at h ⊢
 by_cases c1:c=46
 ·subst c1;exact⟨rfl,rfl⟩
 by_cases c2:c=94
 ·subst c2;exact⟨rfl,rfl⟩
 by_cases c3:c=36
 ·subst c3;exact⟨rfl,rfl⟩
 by_cases c4:c=40
 ·subst c4
  have e2:eZ s alt 40 ⟨a+1,d,false⟩=eg s alt ⟨a+1,d,false⟩:=rfl
  rw [e2] at h ⊢
  rw [ki]
  clear e2
  have e3:eg s alt ⟨a+1,d,false⟩=if (bAt s (a+1)==41)=true then (du 9 ByteArray.empty [],⟨a+1+1,d,false⟩) else if 8<d+1 then (dv,⟨a+1,d+1,true⟩) else if isB s 41 ⟨(alt ⟨a+1,d+1,false⟩).2.a,(alt ⟨a+1,d+1,false⟩).2.d-1,(alt ⟨a+1,d+1,false⟩).2.b⟩ then ((alt ⟨a+1,d+1,false⟩).1,⟨(alt ⟨a+1,d+1,false⟩).2.a+1,(alt ⟨a+1,d+1,false⟩).2.d-1,(alt ⟨a+1,d+1,false⟩).2.b⟩) else (dv,⟨(alt ⟨a+1,d+1,false⟩).2.a,(alt ⟨a+1,d+1,false⟩).2.d-1,true⟩):=by
   rw [←me (p:=⟨a+1,d,false⟩) (by decide) rfl]
   rfl
  rw [e3] at h ⊢
  clear e3
  by_cases c5:bAt s (a+1)=41
  ·rw [if_pos c5,if_pos (by simpa using c5)]
   exact⟨rfl,rfl⟩
  have c5b:¬(bAt s (a+1)==41)=true:=by simpa using c5
  rw [if_neg c5b] at h ⊢
  rw [if_neg c5]
  by_cases c6:8<d+1
  ·rw [if_pos c6] at h;cases h
  rw [if_neg c6] at h ⊢
  by_cases c7:(alt ⟨a+1,d+1,false⟩).2.b=true
  ·have:isB s 41 ⟨(alt ⟨a+1,d+1,false⟩).2.a,(alt ⟨a+1,d+1,false⟩).2.d-1,(alt ⟨a+1,d+1,false⟩).2.b⟩=false:=by unfold isB;rw [c7];rfl
   rw [this] at h
   cases h
  have c7':(alt ⟨a+1,d+1,false⟩).2.b=false:=by simpa using c7
  obtain⟨e1,e2⟩:=ha ⟨a+1,d+1,false⟩ rfl (by show d+1≤8;omega) c7'
  rw [e1]
  generalize alt ⟨a+1,d+1,false⟩=R at *
  obtain⟨r1,ra,rd,rb⟩:=R
  simp only at c7' e2
  subst c7' e2
  have e4:isB s 41 ⟨ra,d+1-1,false⟩=(bAt s ra==41):=me (by decide) rfl
  show (if bAt s ra=41 then _ else _)=_∧_
  change (if isB s 41 ⟨ra,d+1-1,false⟩=true then (r1,(⟨ra+1,d+1-1,false⟩:PS)) else (dv,⟨ra,d+1-1,true⟩)).2.b=false at h
  rw [e4] at h
  by_cases c8:bAt s ra=41
  ·rw [if_pos c8]
   have:(if isB s 41 ⟨ra,d+1-1,false⟩=true then (r1,(⟨ra+1,d+1-1,false⟩:PS)) else (dv,⟨ra,d+1-1,true⟩))=(r1,⟨ra+1,d+1-1,false⟩):=by rw [e4,if_pos (by simpa using c8)]
   simp only [this]
   exact⟨rfl,rfl⟩
  ·rw [if_neg (by simpa using c8)] at h
   cases h
 by_cases c5:ma c=true
 ·rw [kh c5] at h ⊢
  rw [ul c5]
  exact⟨rfl,rfl⟩
 by_cases c6:c=91
 ·subst c6
  rw [nA] at h ⊢
  rw [um]
  by_cases c7:eS s 93 s.size (a+1)<s.size∧bAt s (eS s 93 s.size (a+1))=93
  ·have:isB s 93 ⟨eS s 93 s.size (a+1),d,false⟩=true:=by unfold isB;simp [c7.1,c7.2]
   rw [if_pos c7.1]
   simp only [this,if_true]
   exact⟨rfl,trivial⟩
  ·have:isB s 93 ⟨eS s 93 s.size (a+1),d,false⟩=false:=by unfold isB;simpa using c7
   simp only [this] at h
   cases h
 ·rw [pv (by simpa using c5) c1 c2 c3 c4 c6] at h
  cases h
theorem wP {s:ByteArray}{f g:PS→E×PS}{p:PS}(h:Same f g p):Same (fc s f) (kX s g) p:=by
 intro hp hb
 unfold fc at hb ⊢
 unfold kX
 by_cases c7:(f p).2.b=true
 ·have hn:∀c,isB s c (f p).2=false:=fun c=>by unfold isB;rw [c7];rfl
  simp only [hn,Bool.false_eq_true,if_false] at hb
  rw [c7] at hb;cases hb
 have c7':(f p).2.b=false:=by simpa using c7
 obtain⟨e1,e2⟩:=h hp c7'
 rw [e1]
 simp only [PS.up,PS.go]
 rw [me (by decide) c7',me (by decide) c7',me (by decide) c7']
 by_cases k1:bAt s (f p).2.a=42
 ·simp [k1,e2]
 by_cases k2:bAt s (f p).2.a=43
 ·simp [k2,e2]
 by_cases k3:bAt s (f p).2.a=63
 ·simp [k3,e2]
 simp [k1,k2,k3,e2]
theorem kH {s:ByteArray}{f:PS→E×PS}{p:PS}(h:p.b=true):∀(n:Nat) (l:List E),cz s f n l p=(l,p)
 | 0,l=>rfl
 | n+1,l=>by
  unfold cz
  have:goS s p=false:=by unfold goS;rw [h];rfl
  rw [this];rfl
theorem kI {s:ByteArray}{f:PS→E×PS}{p:PS}(h:p.b=true):∀(n:Nat) (l:List E),cC s f n l p=(l,p)
 | 0,l=>rfl
 | n+1,l=>by
  unfold cC
  have:isB s 124 p=false:=by unfold isB;rw [h];rfl
  rw [this];rfl
def Picky (s:ByteArray)(f:PS→E×PS):Prop:=∀p,p.b=false→(bAt s p.a=0∨bAt s p.a=124∨bAt s p.a=41)→(f p).2.b=true
theorem uq {s:ByteArray}(alt:PS→E×PS):Picky s (dR s alt):=by
 intro p hp hc
 unfold dR
 split
 ·rfl
 unfold eZ
 have hl:∀c,c=0∨c=124∨c=41→ma c=false∧c≠46∧c≠94∧c≠36∧c≠40∧c≠91:=by
  rintro c (rfl|rfl|rfl)<;>decide
 obtain⟨h0,h1,h2,h3,h4,h5⟩:=hl _ hc
 simp only [h0,h1,h2,h3,h4,h5,if_false,Bool.false_eq_true,ne_eq,not_false_eq_true,if_true,PS.bad]
theorem ur {s:ByteArray}{f:PS→E×PS}(h:Picky s f):Picky s (fc s f):=by
 intro p hp hc
 have hb:=h p hp hc
 have hn:∀c,isB s c (f p).2=false:=fun c=>by unfold isB;rw [hb];rfl
 unfold fc
 simp only [hn,Bool.false_eq_true,if_false]
 exact hb
theorem kJ {s:ByteArray}{f g:PS→E×PS}(D:Nat)(h:∀p,p.d=D→Same f g p)(hk:Picky s f):∀(n:Nat) (l:List E) (p:PS),p.d=D→p.b=false→(cz s f n l p).2.b=false →
 cv s g n l p.up=((cz s f n l p).1,(cz s f n l p).2.up)∧(cz s f n l p).2.d=D
 | 0,l,p,hd,hp,hb=>⟨rfl,hd⟩
 | n+1,l,p,hd,hp,hb=>by
  unfold cz at hb ⊢
  unfold cv
  by_cases hg:goS s p=true
  ·rw [if_pos hg] at hb ⊢
   have hfb:(f p).2.b=false:=by
    rw [Bool.eq_false_iff]
    intro hc
    rw [kH hc] at hb
    rw [hc] at hb;cases hb
   have hne:bAt s p.a≠0:=fun h0=>by rw [hk p hp (.inl h0)] at hfb;cases hfb
   obtain⟨e1,e2⟩:=h p hd hp hfb
   have hg':goI s p.up=true:=by
    unfold goS at hg
    unfold goI
    simp only [PS.up]
    rw [baq,baq,baq] at hg
    rw [hg.1.1.1,hg.1.2,hg.2]
    simpa using hne
   rw [if_pos hg',e1]
   exact kJ D h hk n _ _ (e2.trans hd) hfb hb
  ·rw [if_neg hg] at hb ⊢
   have hg':goI s p.up=false:=by
    rw [Bool.eq_false_iff]
    intro hc
    refine hg ?_
    unfold goI at hc
    simp only [PS.up] at hc
    unfold goS
    rw [baq,baq,baq] at hc
    have hlt:p.a<s.size:=dG (by simpa using hc.1.1.2)
    rw [hc.1.1.1,hc.1.2,hc.2]
    simp [hlt]
   rw [hg']
   exact⟨rfl,hd⟩
theorem mf {s:ByteArray}{f:PS→E×PS}:∀(n:Nat) (l:List E) (p:PS),l.length≤(cv s f n l p).1.length
 | 0,l,p=>nlr _
 | n+1,l,p=>by
  unfold cv
  split
  ·exact Nat.le_trans (by simp) (mf n _ _)
  ·exact nlr _
theorem zA {s:ByteArray}{f g:PS→E×PS}(D:Nat)(h:∀p,p.d=D→Same f g p)(hk:Picky s f)(p:PS)(hd:p.d=D):Same (qk s f) (uW s g) p:=by
 intro hp hb
 unfold qk at hb ⊢
 unfold uW
 have hfb:(f p).2.b=false:=by
  rw [Bool.eq_false_iff]
  intro hc
  simp only [kH hc] at hb
  rw [hc] at hb;cases hb
 have hne:¬(bAt s p.a=0∨bAt s p.a=124∨bAt s p.a=41):=fun h0=>by rw [hk p hp h0] at hfb;cases hfb
 obtain⟨e1,e2⟩:=h p hd hp hfb
 have hg':goI s p.up=true:=by
  unfold goI
  simp only [PS.up,hp]
  simp only [not_or] at hne
  simp [hne]
 have e3:cv s g (s.size+2) [] p.up=cv s g (s.size+1) [(f p).1] (f p).2.up:=by
  conv=>lhs;unfold cv
  rw [if_pos hg',e1]
  rfl
 obtain⟨e5,e6⟩:=kJ D h hk (s.size+1) [(f p).1] (f p).2 (e2.trans hd) hfb hb
 simp only
 rw [e3,e5]
 have hl:¬(cz s f (s.size+1) [(f p).1] (f p).2).1.length=0:=by
  have:=mf (s:=s) (f:=g) (s.size+1) [(f p).1] (f p).2.up
  rw [e5] at this
  simp only [List.length_cons,List.length_nil] at this
  omega
 rw [if_neg hl]
 exact⟨rfl,e6.trans hd.symm⟩
theorem kK {s:ByteArray}{f g:PS→E×PS}(D:Nat)(h:∀p,p.d=D→Same f g p):∀(n:Nat) (l:List E) (p:PS),p.d=D→p.b=false→(cC s f n l p).2.b=false →
 de s g n l p.up=((cC s f n l p).1,(cC s f n l p).2.up)∧(cC s f n l p).2.d=D
 | 0,l,p,hd,hp,hb=>⟨rfl,hd⟩
 | n+1,l,p,hd,hp,hb=>by
  unfold cC at hb ⊢
  unfold de
  have hi:yE s p.up=isB s 124 p:=by
   rw [me (by decide) hp]
   unfold yE
   simp only [PS.up,hp,Bool.not_false,Bool.true_and]
  rw [hi]
  by_cases hg:isB s 124 p=true
  ·rw [if_pos hg] at hb ⊢
   rw [if_pos hg]
   have hfb:(f (p.go 1)).2.b=false:=by
    rw [Bool.eq_false_iff]
    intro hc
    rw [kI hc] at hb
    rw [hc] at hb;cases hb
   obtain⟨e1,e2⟩:=h (p.go 1) hd hp hfb
   have e3:p.up.go 1=(p.go 1).up:=rfl
   rw [e3,e1]
   exact kK D h n _ _ (e2.trans hd) hfb hb
  ·rw [if_neg hg] at hb ⊢
   rw [if_neg hg]
   exact⟨rfl,hd⟩
theorem sG {s:ByteArray}(f:Nat):∀p:PS,p.b=false→p.d≤8→(ja s f p).2.b=false→uX s f p=ja s f p∧(ja s f p).2.d=p.d:=by
 induction f with
 | zero=>intro p hp hd h;cases h
 | succ f ih =>
  intro p hp hd h
  have hA:∀q:PS,q.d=p.d→Same (qk s (fc s (dR s (ja s f)))) (uW s (kX s (kf s (uX s f)))) q:=fun q hq =>
   zA q.d (fun r hr=>wP (uo (fun t ht htd hb=>ih t ht htd hb) r omq)) (ur (uq _)) q rfl
  unfold ja zw at h ⊢
  unfold uX zv
  have hfb:(qk s (fc s (dR s (ja s f))) p).2.b=false:=by
   rw [Bool.eq_false_iff]
   intro hc
   simp only [kI hc] at h
   rw [hc] at h;cases h
  obtain⟨e1,e2⟩:=hA p rfl hp hfb
  have e3:(⟨p.a,p.d+1,p.b||decide (40<p.d+1)⟩:PS)=p.up:=by
   unfold PS.up
   rw [decide_eq_false omq,Bool.or_false]
  simp only [e3,e1]
  obtain⟨e5,e6⟩:=kK p.d hA (s.size+1) [(qk s (fc s (dR s (ja s f))) p).1] _ e2 hfb h
  rw [e5]
  refine⟨?_,e6⟩
  simp only [PS.up,Nat.add_sub_cancel]
end Go.Proofs.YtomolhbkdhjofaaGreatDoor
