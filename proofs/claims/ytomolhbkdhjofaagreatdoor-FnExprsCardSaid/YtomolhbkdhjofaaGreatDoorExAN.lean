/- T -/
import Derived.Test.YtomolhbkdhjofaaGreatDoorExAM
set_option maxHeartbeats 0
set_option maxRecDepth 100000
namespace Go.Proofs.YtomolhbkdhjofaaGreatDoor
open Go.RowKit Go.Proofs.Tryz
def kC (c:Nat):Bool:=(decide (97≤c)&&decide (c≤122))||(decide (65≤c)&&decide (c≤90))||(decide (48≤c)&&decide (c≤57))||c==32||c==95||c==45||c==44||c==58
def dY (s:ByteArray)(i:Nat):Bool:=kC (bAt s i)&&(i==0||decide (bAt s (i-1)<bAt s i))
def ga (s:ByteArray):Bool:=(List.range s.size).all (dY s)&&(decide (1≤s.size)&&decide (s.size≤10))
def fE (k:Int):Bool:=k==6||k==7||k==8
def cL (k:Int)(s:ByteArray)(l:List E):E:=.agg [.int .i64 k,.str s,.lst 3 112 none 0 l]
def cN:E:=cL 0 ByteArray.empty []
def E.rk:E→Int
 | .agg (.int _ k :: _)=>k
 | _=>0
def E.rs:E→ByteArray
 | .agg (_ :: .str s :: _)=>s
 | _=>ByteArray.empty
def E.rl:E→List E
 | .agg (_ :: _ :: .lst _ _ _ _ l :: _)=>l
 | _=>[]
def eT (k:Int)(s:ByteArray)(l:List E):Bool :=
 if k=1 then s.size==1&&kC (bAt s 0)&&l.length==0
 else if k=3 then ga s&&l.length==0
 else if k=2∨k=9∨k=10∨k=11 then s.size==0&&l.length==0
 else if k=4∨k=5 then s.size==0&&(decide (2≤l.length)&&decide (l.length≤8))
 else if k=6∨k=7∨k=8 then s.size==0&&l.length==1&&!(l.any fun x=>fE x.rk)
 else false
def lG (e:E):Bool:=eT e.rk e.rs e.rl&&!((e.rk==4||e.rk==5)&&e.rl.any fun x=>x.rk==e.rk)
def jx (g:E→Nat):List E→Nat→Nat
 | [],n=>n
 | x :: r,n=>if 61≤n+g x then 61 else jx g r (n+g x)
def bF:Nat→E→Nat
 | 0,_=>61
 | f+1,e=>if lG e then jx (bF f) e.rl 1 else 61
def lX (g:E→Nat):List E→Nat→Nat
 | [],n=>n
 | x :: r,n=>if n≤60 then lX g r (n+g x) else n
def cW:Nat→E→Nat
 | 0,_=>61
 | f+1,e=>lX (cW f) e.rl 1
def okS:Nat→E→Bool
 | 0,_=>false
 | f+1,e=>(e.rl.all fun x=>okS f x&&!(x.rk==e.rk&&!fE e.rk))&&eT e.rk e.rs e.rl
def dQ (e:E):Bool:=decide (bF 6 e≤60)
def kD (e:E):Bool:=decide (cW 6 e≤60)&&okS 6 e
theorem vh (g:E→Nat):∀(l:List E) (n:Nat),n≤61→jx g l n≤61
 | [],n,h=>h
 | x :: r,n,h=>by
  unfold jx
  split
  ·omega
  ·exact vh g r _ omq
theorem vi (f:Nat)(e:E):bF f e≤61:=by
 cases f with
 | zero=>exact Nat.le_refl _
 | succ f=>unfold bF;split<;>first|exact vh _ _ _ omq|omega
theorem im {g:E→Nat}:∀{l:List E} {n:Nat},jx g l n≤60→n≤60∧(∀x∈l,g x≤60)
 | [],n,h=>⟨h,fun x hx=>absurd hx List.not_mem_nil⟩
 | x :: r,n,h=>by
  unfold jx at h
  split at h
  ·omega
  ·rename_i hn
   obtain⟨h1,h2⟩:=im h
   exact⟨omq,fun y hy=>by rcases List.mem_cons.1 hy with rfl|hy;·omega
                          ·exact h2 y hy⟩
theorem pF {g:E→Nat}:∀(l:List E) (n:Nat),n≤lX g l n
 | [],n=>Nat.le_refl _
 | x :: r,n=>by
  unfold lX
  split
  ·exact Nat.le_trans (Nat.le_add_right _ _) (pF r _)
  ·exact Nat.le_refl _
theorem kE {g:E→Nat}:∀{l:List E} {n:Nat},lX g l n≤60→n≤60∧(∀x∈l,g x≤60)
 | [],n,h=>⟨h,fun x hx=>absurd hx List.not_mem_nil⟩
 | x :: r,n,h=>by
  unfold lX at h
  split at h
  ·rename_i hn
   have h0:=pF r (n+g x) (g:=g)
   obtain⟨h1,h2⟩:=kE h
   exact⟨hn,fun y hy=>by rcases List.mem_cons.1 hy with rfl|hy;·omega
                         ·exact h2 y hy⟩
  ·omega
theorem qT {g h:E→Nat}:∀{l:List E} (n:Nat),(∀x∈l,g x≤60→h x=g x)→jx g l n≤60→lX h l n=jx g l n
 | [],n,_,_=>rfl
 | x :: r,n,hx,hs=>by
  have h0:=(im hs).1
  have h1:=(im hs).2 x List.mem_cons_self
  unfold jx at hs ⊢
  unfold lX
  rw [if_pos h0,hx x List.mem_cons_self h1]
  split at hs
  ·omega
  ·rename_i hn;rw [if_neg hn];exact qT _ (fun y hy=>hx y (List.mem_cons_of_mem _ hy)) hs
theorem sum_same' {g h:E→Nat}:∀{l:List E} (n:Nat),(∀x∈l,h x≤60→g x=h x)→lX h l n≤60→jx g l n=lX h l n
 | [],n,_,_=>rfl
 | x :: r,n,hx,hs=>by
  have h0:=(kE hs).1
  have h1:=(kE hs).2 x List.mem_cons_self
  unfold lX at hs ⊢
  unfold jx
  rw [if_pos h0] at hs ⊢
  have h2:=pF r (n+h x) (g:=h)
  rw [hx x List.mem_cons_self h1,if_neg omq]
  exact sum_same' _ (fun y hy=>hx y (List.mem_cons_of_mem _ hy)) hs
theorem xI {e:E}(h1:eT e.rk e.rs e.rl=true)(h2:(e.rl.all fun x=>!(x.rk==e.rk&&!fE e.rk))=true):lG e=true:=by
 unfold lG
 rw [h1,Bool.true_and,Bool.not_eq_true',Bool.and_eq_false_iff]
 by_cases hk:(e.rk==4||e.rk==5)=true
 ·right
  rw [Bool.eq_false_iff]
  intro h
  obtain⟨x,hx,hxk⟩:=List.any_eq_true.1 h
  have:=List.all_eq_true.1 h2 x hx
  rw [hxk] at this
  have h3:fE e.rk=false:=by
   unfold fE
   rcases Bool.or_eq_true_iff.1 hk with hk|hk<;>rw [eq_of_beq hk]<;>rfl
  rw [h3] at this
  cases this
 ·left;simpa using hk
theorem pG {e:E}(h:lG e=true):eT e.rk e.rs e.rl=true∧(e.rl.all fun x=>!(x.rk==e.rk&&!fE e.rk))=true:=by
 unfold lG at h
 rw [Bool.and_eq_true] at h
 refine⟨h.1,List.all_eq_true.2 fun x hx=>?_⟩
 rw [Bool.not_eq_true',Bool.eq_false_iff]
 intro hc
 rw [Bool.and_eq_true,Bool.not_eq_true'] at hc
 have h2:=h.2
 rw [Bool.not_eq_true',Bool.and_eq_false_iff] at h2
 have hk:(e.rl.any fun y=>y.rk==e.rk)=true:=List.any_eq_true.2 ⟨x,hx,hc.1⟩
 rcases h2 with h2|h2
 ·have h1:=h.1
  unfold eT at h1
  by_cases k4:e.rk=4
  ·rw [k4] at h2;cases h2
  by_cases k5:e.rk=5
  ·rw [k5] at h2;cases h2
  have hl:¬e.rl.length=0:=fun h0=>by rw [List.length_eq_zero_iff.1 h0] at hx;exact absurd hx List.not_mem_nil
  have hlk:¬(e.rk=6∨e.rk=7∨e.rk=8):=fun h0=>by
   have:=hc.2
   unfold fE at this
   rcases h0 with h0|h0|h0<;>rw [h0] at this<;>cases this
  have hl':(e.rl.length==0)=false:=by simpa using hl
  simp only [hl',Bool.and_false,hlk,if_false,k4,k5,or_self] at h1
  split at h1<;>(try cases h1)
  split at h1<;>(try cases h1)
  split at h1<;>cases h1
 ·rw [hk] at h2;cases h2
theorem qU (f:Nat):∀e:E,(bF f e≤60↔cW f e≤60∧okS f e=true)∧(bF f e≤60→cW f e=bF f e):=by
 induction f with
 | zero=>intro e;simp [bF,cW,okS]
 | succ f ih =>
  intro e
  have key:bF (f+1) e≤60→cW (f+1) e=bF (f+1) e∧okS (f+1) e=true:=by
   intro h
   unfold bF at h ⊢
   split at h
   ·rename_i hh
    rw [if_pos hh]
    have h1:=(im h).2
    refine⟨?_,?_⟩
    ·unfold cW
     exact qT _ (fun x hx hp=>(ih x).2 hp) h
    ·unfold okS
     obtain⟨h3,h4⟩:=pG hh
     rw [h3,Bool.and_true]
     refine List.all_eq_true.2 fun x hx=>?_
     rw [((ih x).1.1 (h1 x hx)).2,Bool.true_and]
     exact List.all_eq_true.1 h4 x hx
   ·omega
  refine⟨⟨fun h=>⟨by rw [(key h).1];exact h,(key h).2⟩,fun ⟨h1,h2⟩=>?_⟩,fun h=>(key h).1⟩
  unfold okS at h2
  rw [Bool.and_eq_true] at h2
  have hall:=List.all_eq_true.1 h2.1
  have hh:lG e=true:=xI h2.2 (List.all_eq_true.2 fun x hx=>(Bool.and_eq_true_iff.1 (hall x hx)).2)
  unfold bF
  rw [if_pos hh]
  unfold cW at h1
  have h3:=(kE h1).2
  rw [sum_same' (h:=cW f) _ (fun x hx hp=>?_) h1]
  ·exact h1
  ·exact ((ih x).2 ((ih x).1.2 ⟨hp,(Bool.and_eq_true_iff.1 (hall x hx)).1⟩)).symm
theorem sg (e:E):dQ e=kD e:=by
 unfold dQ kD
 have h:=(qU 6 e).1
 by_cases h1:bF 6 e≤60
 ·have:=h.1 h1
  simp [h1,this]
 ·have h2:¬(cW 6 e≤60∧okS 6 e=true):=fun q=>h1 (h.2 q)
  simp only [h1,decide_false]
  by_cases h3:cW 6 e≤60
  ·have:okS 6 e=false:=by simpa using fun q=>h2 ⟨h3,q⟩
   simp [this]
  ·simp [h3]
structure PS where
 a:Nat
 d:Nat
 b:Bool
def dV (s:ByteArray)(c:Nat):Nat→Nat→Nat
 | 0,a=>a
 | f+1,a=>if a<s.size∧bAt s a≠c then dV s c f (a+1) else a
def jP (k:Int):List E→E
 | [x]=>x
 | l=>cL k ByteArray.empty l
def vj (c:Nat):ByteArray:=⟨#[UInt8.ofNat c]⟩
def PS.bad (p:PS):PS:=⟨p.a,p.d,true⟩
def PS.go (p:PS)(n:Nat):PS:=⟨p.a+n,p.d,p.b⟩
section
variable (s:ByteArray)
def dZ (alt:PS→E×PS)(c:Nat)(q:PS):E×PS :=
 if kC c then (cL 1 (vj c) [],q)
 else if c=46 then (cL 2 ByteArray.empty [],q)
 else if c=94 then (cL 10 ByteArray.empty [],q)
 else if c=36 then (cL 11 ByteArray.empty [],q)
 else if c=91 then
  let e:=dV s 93 s.size q.a
  if e<s.size then (cL 3 (bu s q.a e) [],⟨e+1,q.d,q.b⟩) else (cN,q.bad)
 else if c=40 then
  if bAt s q.a=41 then (cL 9 ByteArray.empty [],q.go 1)
  else
   let r:=alt q
   if bAt s r.2.a=41 then (r.1,r.2.go 1) else (cN,r.2.bad)
 else (cN,q.bad)
def jd (alt:PS→E×PS)(p:PS):E×PS:=dZ s alt (bAt s p.a) (p.go 1)
def jQ (atom:PS→E×PS)(p:PS):E×PS :=
 let r:=atom p
 if bAt s r.2.a=42 then (cL 6 ByteArray.empty [r.1],r.2.go 1)
 else if bAt s r.2.a=43 then (cL 7 ByteArray.empty [r.1],r.2.go 1)
 else if bAt s r.2.a=63 then (cL 8 ByteArray.empty [r.1],r.2.go 1)
 else r
def goI (p:PS):Bool:=!p.b&&!(bAt s p.a==0)&&!(bAt s p.a==124)&&!(bAt s p.a==41)
def bP (item:PS→E×PS):Nat→List E→PS→List E×PS
 | 0,l,p=>(l,p)
 | n+1,l,p=>if goI s p then bP item n (l++[(item p).1]) (item p).2 else (l,p)
def sV (item:PS→E×PS)(p:PS):E×PS :=
 let r:=bP s item (s.size+2) [] p
 if r.1.length=0 then (cN,r.2.bad) else (jP 4 r.1,r.2)
def wM (p:PS):Bool:=!p.b&&bAt s p.a==124
def cB (cat:PS→E×PS):Nat→List E→PS→List E×PS
 | 0,l,p=>(l,p)
 | n+1,l,p=>if wM s p then cB cat n (l++[(cat (p.go 1)).1]) (cat (p.go 1)).2 else (l,p)
def xJ (cat:PS→E×PS)(p:PS):E×PS :=
 let r:=cat ⟨p.a,p.d+1,p.b||decide (40<p.d+1)⟩
 let q:=cB s cat (s.size+1) [r.1] r.2
 (jP 5 q.1,⟨q.2.a,q.2.d-1,q.2.b⟩)
def sW:Nat→PS→E×PS
 | 0,p=>(cN,p.bad)
 | f+1,p=>xJ s (sV s (jQ s (jd s (sW f)))) p
def isB (c:Nat)(p:PS):Bool:=!p.b&&decide (p.a<s.size)&&bAt s p.a==c
def dB (alt:PS→E×PS)(p:PS):E×PS :=
 if isB s 41 p then (cL 9 ByteArray.empty [],p.go 1)
 else if 8<p.d+1 then (cN,⟨p.a,p.d+1,true⟩)
 else
  let r:=alt ⟨p.a,p.d+1,p.b⟩
  let q:PS:=⟨r.2.a,r.2.d-1,r.2.b⟩
  if isB s 41 q then (r.1,q.go 1) else (cN,q.bad)
def d4 (alt:PS→E×PS)(c:Nat)(q:PS):E×PS :=
 if c=46 then (cL 2 ByteArray.empty [],q)
 else if c=94 then (cL 10 ByteArray.empty [],q)
 else if c=36 then (cL 11 ByteArray.empty [],q)
 else if c=40 then dB s alt q
 else if kC c then (cL 1 (vj c) [],q)
 else if c≠91 then (cN,q.bad)
 else
  let e:=dV s 93 s.size q.a
  let t:PS:=⟨e,q.d,q.b⟩
  if isB s 93 t then (cL 3 (bu s q.a e) [],t.go 1) else (cN,t.bad)
def dc (alt:PS→E×PS)(p:PS):E×PS:=if p.b=true∨s.size≤p.a then (cN,p.bad) else d4 s alt (bAt s p.a) (p.go 1)
def d7 (atom:PS→E×PS)(p:PS):E×PS :=
 let r:=atom p
 if isB s 42 r.2 then (cL 6 ByteArray.empty [r.1],r.2.go 1)
 else if isB s 43 r.2 then (cL 7 ByteArray.empty [r.1],r.2.go 1)
 else if isB s 63 r.2 then (cL 8 ByteArray.empty [r.1],r.2.go 1)
 else r
def goS (p:PS):Bool:=!p.b&&decide (p.a<s.size)&&!(bAt s p.a==124)&&!(bAt s p.a==41)
def bQ (item:PS→E×PS):Nat→List E→PS→List E×PS
 | 0,l,p=>(l,p)
 | n+1,l,p=>if goS s p then bQ item n (l++[(item p).1]) (item p).2 else (l,p)
def oX (item:PS→E×PS)(p:PS):E×PS :=
 let q:=bQ s item (s.size+1) [(item p).1] (item p).2
 (jP 4 q.1,q.2)
def bV (cat:PS→E×PS):Nat→List E→PS→List E×PS
 | 0,l,p=>(l,p)
 | n+1,l,p=>if isB s 124 p then bV cat n (l++[(cat (p.go 1)).1]) (cat (p.go 1)).2 else (l,p)
def xK (cat:PS→E×PS)(p:PS):E×PS :=
 let q:=bV s cat (s.size+1) [(cat p).1] (cat p).2
 (jP 5 q.1,q.2)
def hZ:Nat→PS→E×PS
 | 0,p=>(cN,p.bad)
 | f+1,p=>xK s (oX s (d7 s (dc s (hZ f)))) p
end
def PS.up (p:PS):PS:=⟨p.a,p.d+1,p.b⟩
theorem je {s:ByteArray}{j:Nat}(h:s.size≤j):bAt s j=0:=by
 unfold bAt
 have:s.data.size≤j:=h
 rw [Array.getElem?_eq_none this]
 rfl
theorem cX {s:ByteArray}{j:Nat}(h:bAt s j≠0):j<s.size:=by
 rcases Nat.lt_or_ge j s.size with h1|h1
 ·exact h1
 ·exact absurd (je h1) h
def Same (f g:PS→E×PS)(p:PS):Prop:=p.b=false→(f p).2.b=false→g p.up=((f p).1,(f p).2.up)∧(f p).2.d=p.d
theorem kF {s:ByteArray}{c:Nat}{p:PS}(hc:c≠0)(hp:p.b=false):isB s c p=(bAt s p.a==c):=by
 unfold isB
 rw [hp]
 by_cases h:p.a<s.size
 ·simp [h]
 ·rw [je omq]
  simp [h]
  exact fun e=>hc e.symm
theorem zuQ {c:Nat}(h:kC c=true):c≠46∧c≠94∧c≠36∧c≠40∧c≠91:=by
 refine⟨?_,?_,?_,?_,?_⟩<;>(rintro rfl;cases h)
section
variable {s:ByteArray}{alt:PS→E×PS}{c:Nat}{q:PS}
theorem jf (h:kC c=true):d4 s alt c q=(cL 1 (vj c) [],q):=by
 obtain⟨h1,h2,h3,h4,h5⟩:=zuQ h
 unfold d4
 rw [if_neg h1,if_neg h2,if_neg h3,if_neg h4,if_pos h]
theorem sh (h:kC c=true):dZ s alt c q=(cL 1 (vj c) [],q):=by
 unfold dZ
 rw [if_pos h]
theorem lY:d4 s alt 91 q=if isB s 93 ⟨dV s 93 s.size q.a,q.d,q.b⟩ then (cL 3 (bu s q.a (dV s 93 s.size q.a)) [],⟨dV s 93 s.size q.a+1,q.d,q.b⟩) else (cN,⟨dV s 93 s.size q.a,q.d,true⟩):=rfl
theorem si:dZ s alt 91 q=if dV s 93 s.size q.a<s.size then (cL 3 (bu s q.a (dV s 93 s.size q.a)) [],⟨dV s 93 s.size q.a+1,q.d,q.b⟩) else (cN,q.bad):=rfl
theorem jg:dZ s alt 40 q=if bAt s q.a=41 then (cL 9 ByteArray.empty [],q.go 1) else if bAt s (alt q).2.a=41 then ((alt q).1,(alt q).2.go 1) else (cN,(alt q).2.bad):=rfl
theorem oc (h:kC c=false)(h1:c≠46)(h2:c≠94)(h3:c≠36)(h4:c≠40)(h5:c≠91):d4 s alt c q=(cN,q.bad):=by
 unfold d4
 rw [if_neg h1,if_neg h2,if_neg h3,if_neg h4,if_neg (by rw [h];decide),if_pos h5]
end
theorem sj {s:ByteArray}{alt alt':PS→E×PS}(ha:∀p,p.b=false→p.d≤8→(alt p).2.b=false→alt' p=alt p∧(alt p).2.d=p.d)(p:PS)(_hd:p.d≤8):Same (dc s alt) (jd s alt') p:=by
 intro hp h
 obtain⟨a,d,b⟩:=p
 simp only at hp
 subst hp
 have e0:jd s alt' (PS.up ⟨a,d,false⟩)=dZ s alt' (bAt s a) ⟨a+1,d+1,false⟩:=rfl
 rw [e0]
 clear e0
 have e1:dc s alt ⟨a,d,false⟩=if s.size≤a then (cN,⟨a,d,true⟩) else d4 s alt (bAt s a) ⟨a+1,d,false⟩:=by
  unfold dc
  simp only [Bool.false_eq_true,false_or]
  rfl
 rw [e1] at h ⊢
 clear e1
 by_cases h1:s.size≤a
 ·rw [if_pos h1] at h;cases h
 rw [if_neg h1] at h ⊢
 generalize hc:bAt s a=c at h ⊢
 by_cases c1:c=46
 ·subst c1;exact⟨rfl,rfl⟩
 by_cases c2:c=94
 ·subst c2;exact⟨rfl,rfl⟩
 by_cases c3:c=36
 ·subst c3;exact⟨rfl,rfl⟩
 by_cases c4:c=40
 ·subst c4
  have e2:d4 s alt 40 ⟨a+1,d,false⟩=dB s alt ⟨a+1,d,false⟩:=rfl
  rw [e2] at h ⊢
  rw [jg]
  clear e2
  have e3:dB s alt ⟨a+1,d,false⟩=if (bAt s (a+1)==41)=true then (cL 9 ByteArray.empty [],⟨a+1+1,d,false⟩) else if 8<d+1 then (cN,⟨a+1,d+1,true⟩) else if isB s 41 ⟨(alt ⟨a+1,d+1,false⟩).2.a,(alt ⟨a+1,d+1,false⟩).2.d-1,(alt ⟨a+1,d+1,false⟩).2.b⟩ then ((alt ⟨a+1,d+1,false⟩).1,⟨(alt ⟨a+1,d+1,false⟩).2.a+1,(alt ⟨a+1,d+1,false⟩).2.d-1,(alt ⟨a+1,d+1,false⟩).2.b⟩) else (cN,⟨(alt ⟨a+1,d+1,false⟩).2.a,(alt ⟨a+1,d+1,false⟩).2.d-1,true⟩):=by
   rw [←kF (p:=⟨a+1,d,false⟩) (by decide) rfl]
   rfl
  rw [e3] at h ⊢
  clear e3
  by_cases c5:bAt s (a+1)=41
  ·rw [if_pos c5,if_pos (by simpa using c5)]
   exact⟨rfl,rfl⟩
  have c5b:¬(bAt s (a+1)==41)=true:=by simpa using c5
  rw [if_neg c5b] at h ⊢
  rw [if_neg c5]
  by_cases c6:8<d+1
  ·rw [if_pos c6] at h;cases h
  rw [if_neg c6] at h ⊢
  by_cases c7:(alt ⟨a+1,d+1,false⟩).2.b=true
  ·have:isB s 41 ⟨(alt ⟨a+1,d+1,false⟩).2.a,(alt ⟨a+1,d+1,false⟩).2.d-1,(alt ⟨a+1,d+1,false⟩).2.b⟩=false:=by unfold isB;rw [c7];rfl
   rw [this] at h
   cases h
  have c7':(alt ⟨a+1,d+1,false⟩).2.b=false:=by simpa using c7
  obtain⟨e1,e2⟩:=ha ⟨a+1,d+1,false⟩ rfl (by show d+1≤8;omega) c7'
  rw [e1]
  generalize alt ⟨a+1,d+1,false⟩=R at *
  obtain⟨r1,ra,rd,rb⟩:=R
  simp only at c7' e2
  subst c7' e2
  have e4:isB s 41 ⟨ra,d+1-1,false⟩=(bAt s ra==41):=kF (by decide) rfl
  show (if bAt s ra=41 then _ else _)=_∧_
  change (if isB s 41 ⟨ra,d+1-1,false⟩=true then (r1,(⟨ra+1,d+1-1,false⟩:PS)) else (cN,⟨ra,d+1-1,true⟩)).2.b=false at h
  rw [e4] at h
  by_cases c8:bAt s ra=41
  ·rw [if_pos c8]
   have:(if isB s 41 ⟨ra,d+1-1,false⟩=true then (r1,(⟨ra+1,d+1-1,false⟩:PS)) else (cN,⟨ra,d+1-1,true⟩))=(r1,⟨ra+1,d+1-1,false⟩):=by rw [e4,if_pos (by simpa using c8)]
   simp only [this]
   exact⟨rfl,rfl⟩
  ·rw [if_neg (by simpa using c8)] at h
   cases h
 by_cases c5:kC c=true
 ·rw [jf c5] at h ⊢
  rw [sh c5]
  exact⟨rfl,rfl⟩
 by_cases c6:c=91
 ·subst c6
  rw [lY] at h ⊢
  rw [si]
  by_cases c7:dV s 93 s.size (a+1)<s.size∧bAt s (dV s 93 s.size (a+1))=93
  ·have:isB s 93 ⟨dV s 93 s.size (a+1),d,false⟩=true:=by unfold isB;simp [c7.1,c7.2]
   rw [if_pos c7.1]
   simp only [this,if_true]
   exact⟨rfl,trivial⟩
  ·have:isB s 93 ⟨dV s 93 s.size (a+1),d,false⟩=false:=by unfold isB;simpa using c7
   simp only [this] at h
   cases h
 ·rw [oc (by simpa using c5) c1 c2 c3 c4 c6] at h
  cases h
theorem vk {s:ByteArray}{f g:PS→E×PS}{p:PS}(h:Same f g p):Same (d7 s f) (jQ s g) p:=by
 intro hp hb
 unfold d7 at hb ⊢
 unfold jQ
 by_cases c7:(f p).2.b=true
 ·have hn:∀c,isB s c (f p).2=false:=fun c=>by unfold isB;rw [c7];rfl
  simp only [hn,Bool.false_eq_true,if_false] at hb
  rw [c7] at hb;cases hb
 have c7':(f p).2.b=false:=by simpa using c7
 obtain⟨e1,e2⟩:=h hp c7'
 rw [e1]
 simp only [PS.up,PS.go]
 rw [kF (by decide) c7',kF (by decide) c7',kF (by decide) c7']
 by_cases k1:bAt s (f p).2.a=42
 ·simp [k1,e2]
 by_cases k2:bAt s (f p).2.a=43
 ·simp [k2,e2]
 by_cases k3:bAt s (f p).2.a=63
 ·simp [k3,e2]
 simp [k1,k2,k3,e2]
theorem jy {s:ByteArray}{f:PS→E×PS}{p:PS}(h:p.b=true):∀(n:Nat) (l:List E),bQ s f n l p=(l,p)
 | 0,l=>rfl
 | n+1,l=>by
  unfold bQ
  have:goS s p=false:=by unfold goS;rw [h];rfl
  rw [this];rfl
theorem jz {s:ByteArray}{f:PS→E×PS}{p:PS}(h:p.b=true):∀(n:Nat) (l:List E),bV s f n l p=(l,p)
 | 0,l=>rfl
 | n+1,l=>by
  unfold bV
  have:isB s 124 p=false:=by unfold isB;rw [h];rfl
  rw [this];rfl
def Picky (s:ByteArray)(f:PS→E×PS):Prop:=∀p,p.b=false→(bAt s p.a=0∨bAt s p.a=124∨bAt s p.a=41)→(f p).2.b=true
theorem sk {s:ByteArray}(alt:PS→E×PS):Picky s (dc s alt):=by
 intro p hp hc
 unfold dc
 split
 ·rfl
 unfold d4
 have hl:∀c,c=0∨c=124∨c=41→kC c=false∧c≠46∧c≠94∧c≠36∧c≠40∧c≠91:=by
  rintro c (rfl|rfl|rfl)<;>decide
 obtain⟨h0,h1,h2,h3,h4,h5⟩:=hl _ hc
 simp only [h0,h1,h2,h3,h4,h5,if_false,Bool.false_eq_true,ne_eq,not_false_eq_true,if_true,PS.bad]
theorem sm {s:ByteArray}{f:PS→E×PS}(h:Picky s f):Picky s (d7 s f):=by
 intro p hp hc
 have hb:=h p hp hc
 have hn:∀c,isB s c (f p).2=false:=fun c=>by unfold isB;rw [hb];rfl
 unfold d7
 simp only [hn,Bool.false_eq_true,if_false]
 exact hb
theorem jA {s:ByteArray}{f g:PS→E×PS}(D:Nat)(h:∀p,p.d=D→Same f g p)(hk:Picky s f):∀(n:Nat) (l:List E) (p:PS),p.d=D→p.b=false→(bQ s f n l p).2.b=false →
 bP s g n l p.up=((bQ s f n l p).1,(bQ s f n l p).2.up)∧(bQ s f n l p).2.d=D
 | 0,l,p,hd,hp,hb=>⟨rfl,hd⟩
 | n+1,l,p,hd,hp,hb=>by
  unfold bQ at hb ⊢
  unfold bP
  by_cases hg:goS s p=true
  ·rw [if_pos hg] at hb ⊢
   have hfb:(f p).2.b=false:=by
    rw [Bool.eq_false_iff]
    intro hc
    rw [jy hc] at hb
    rw [hc] at hb;cases hb
   have hne:bAt s p.a≠0:=fun h0=>by rw [hk p hp (.inl h0)] at hfb;cases hfb
   obtain⟨e1,e2⟩:=h p hd hp hfb
   have hg':goI s p.up=true:=by
    unfold goS at hg
    unfold goI
    simp only [PS.up]
    rw [Bool.and_eq_true,Bool.and_eq_true,Bool.and_eq_true] at hg
    rw [hg.1.1.1,hg.1.2,hg.2]
    simpa using hne
   rw [if_pos hg',e1]
   exact jA D h hk n _ _ (e2.trans hd) hfb hb
  ·rw [if_neg hg] at hb ⊢
   have hg':goI s p.up=false:=by
    rw [Bool.eq_false_iff]
    intro hc
    refine hg ?_
    unfold goI at hc
    simp only [PS.up] at hc
    unfold goS
    rw [Bool.and_eq_true,Bool.and_eq_true,Bool.and_eq_true] at hc
    have hlt:p.a<s.size:=cX (by simpa using hc.1.1.2)
    rw [hc.1.1.1,hc.1.2,hc.2]
    simp [hlt]
   rw [hg']
   exact⟨rfl,hd⟩
theorem kG {s:ByteArray}{f:PS→E×PS}:∀(n:Nat) (l:List E) (p:PS),l.length≤(bP s f n l p).1.length
 | 0,l,p=>Nat.le_refl _
 | n+1,l,p=>by
  unfold bP
  split
  ·exact Nat.le_trans (by simp) (kG n _ _)
  ·exact Nat.le_refl _
theorem xL {s:ByteArray}{f g:PS→E×PS}(D:Nat)(h:∀p,p.d=D→Same f g p)(hk:Picky s f)(p:PS)(hd:p.d=D):Same (oX s f) (sV s g) p:=by
 intro hp hb
 unfold oX at hb ⊢
 unfold sV
 have hfb:(f p).2.b=false:=by
  rw [Bool.eq_false_iff]
  intro hc
  simp only [jy hc] at hb
  rw [hc] at hb;cases hb
 have hne:¬(bAt s p.a=0∨bAt s p.a=124∨bAt s p.a=41):=fun h0=>by rw [hk p hp h0] at hfb;cases hfb
 obtain⟨e1,e2⟩:=h p hd hp hfb
 have hg':goI s p.up=true:=by
  unfold goI
  simp only [PS.up,hp]
  simp only [not_or] at hne
  simp [hne]
 have e3:bP s g (s.size+2) [] p.up=bP s g (s.size+1) [(f p).1] (f p).2.up:=by
  conv=>lhs;unfold bP
  rw [if_pos hg',e1]
  rfl
 obtain⟨e5,e6⟩:=jA D h hk (s.size+1) [(f p).1] (f p).2 (e2.trans hd) hfb hb
 simp only
 rw [e3,e5]
 have hl:¬(bQ s f (s.size+1) [(f p).1] (f p).2).1.length=0:=by
  have:=kG (s:=s) (f:=g) (s.size+1) [(f p).1] (f p).2.up
  rw [e5] at this
  simp only [List.length_cons,List.length_nil] at this
  omega
 rw [if_neg hl]
 exact⟨rfl,e6.trans hd.symm⟩
theorem jB {s:ByteArray}{f g:PS→E×PS}(D:Nat)(h:∀p,p.d=D→Same f g p):∀(n:Nat) (l:List E) (p:PS),p.d=D→p.b=false→(bV s f n l p).2.b=false →
 cB s g n l p.up=((bV s f n l p).1,(bV s f n l p).2.up)∧(bV s f n l p).2.d=D
 | 0,l,p,hd,hp,hb=>⟨rfl,hd⟩
 | n+1,l,p,hd,hp,hb=>by
  unfold bV at hb ⊢
  unfold cB
  have hi:wM s p.up=isB s 124 p:=by
   rw [kF (by decide) hp]
   unfold wM
   simp only [PS.up,hp,Bool.not_false,Bool.true_and]
  rw [hi]
  by_cases hg:isB s 124 p=true
  ·rw [if_pos hg] at hb ⊢
   rw [if_pos hg]
   have hfb:(f (p.go 1)).2.b=false:=by
    rw [Bool.eq_false_iff]
    intro hc
    rw [jz hc] at hb
    rw [hc] at hb;cases hb
   obtain⟨e1,e2⟩:=h (p.go 1) hd hp hfb
   have e3:p.up.go 1=(p.go 1).up:=rfl
   rw [e3,e1]
   exact jB D h n _ _ (e2.trans hd) hfb hb
  ·rw [if_neg hg] at hb ⊢
   rw [if_neg hg]
   exact⟨rfl,hd⟩
theorem qV {s:ByteArray}(f:Nat):∀p:PS,p.b=false→p.d≤8→(hZ s f p).2.b=false→sW s f p=hZ s f p∧(hZ s f p).2.d=p.d:=by
 induction f with
 | zero=>intro p hp hd h;cases h
 | succ f ih =>
  intro p hp hd h
  have hA:∀q:PS,q.d=p.d→Same (oX s (d7 s (dc s (hZ s f)))) (sV s (jQ s (jd s (sW s f)))) q:=fun q hq =>
   xL q.d (fun r hr=>vk (sj (fun t ht htd hb=>ih t ht htd hb) r omq)) (sm (sk _)) q rfl
  unfold hZ xK at h ⊢
  unfold sW xJ
  have hfb:(oX s (d7 s (dc s (hZ s f))) p).2.b=false:=by
   rw [Bool.eq_false_iff]
   intro hc
   simp only [jz hc] at h
   rw [hc] at h;cases h
  obtain⟨e1,e2⟩:=hA p rfl hp hfb
  have e3:(⟨p.a,p.d+1,p.b||decide (40<p.d+1)⟩:PS)=p.up:=by
   unfold PS.up
   rw [decide_eq_false omq,Bool.or_false]
  simp only [e3,e1]
  obtain⟨e5,e6⟩:=jB p.d hA (s.size+1) [(oX s (d7 s (dc s (hZ s f))) p).1] _ e2 hfb h
  rw [e5]
  refine⟨?_,e6⟩
  simp only [PS.up,Nat.add_sub_cancel]
end Go.Proofs.YtomolhbkdhjofaaGreatDoor
