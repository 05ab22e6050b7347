/- T -/
import Derived.Test.YtomolhbkdhjofaaGreatDoorExRO
set_option maxHeartbeats 0
set_option maxRecDepth 100000
namespace Go.Proofs.YtomolhbkdhjofaaGreatDoor
open Go.RowKit Go.Proofs.Tryz
def brk (g:E→ByteArray)(x:E):ByteArray:=if x.rk=5 then ⟨#[40]⟩++g x++⟨#[41]⟩ else g x
def jb (g:E→ByteArray)(x:E):ByteArray:=if x.rk=4∨x.rk=5 then ⟨#[40]⟩++g x++⟨#[41]⟩ else g x
def dw (g:E→ByteArray)(by_:ByteArray):List E→ByteArray
 | []=>ByteArray.empty
 | y :: r=>by_++(brk g y++dw g by_ r)
def eK (g:E→ByteArray)(by_:ByteArray):List E→ByteArray
 | []=>ByteArray.empty
 | x :: r=>brk g x++dw g by_ r
def aS:Nat→E→ByteArray
 | 0,_=>ByteArray.empty
 | f+1,e =>
  if e.rk=1 then e.rs
  else if e.rk=2 then ⟨#[46]⟩
  else if e.rk=3 then ⟨#[91]⟩++e.rs++⟨#[93]⟩
  else if e.rk=4 then eK (aS f) ByteArray.empty e.rl
  else if e.rk=5 then eK (aS f) ⟨#[124]⟩ e.rl
  else if e.rk=6 then jb (aS f) (e.rl.headD dv)++⟨#[42]⟩
  else if e.rk=7 then jb (aS f) (e.rl.headD dv)++⟨#[43]⟩
  else if e.rk=8 then jb (aS f) (e.rl.headD dv)++⟨#[63]⟩
  else if e.rk=10 then ⟨#[94]⟩
  else if e.rk=11 then ⟨#[36]⟩
  else ⟨#[40,41]⟩
theorem dN {k:Int}{s:ByteArray}{l:List E}(h:fW k s l=true) :
 (k=1∧s.size=1∧ma (bAt s 0)=true∧l=[])∨(k=3∧ig s=true∧l=[])∨((k=2∨k=9∨k=10∨k=11)∧s.size=0∧l=[]) ∨
 ((k=4∨k=5)∧s.size=0∧2≤l.length∧l.length≤8)∨((k=6∨k=7∨k=8)∧s.size=0∧∃x,l=[x]∧gR x.rk=false):=by
 have nil:(l.length==0)=true→l=[]:=fun h=>List.length_eq_zero_iff.1 (eq_of_beq h)
 unfold fW at h
 split at h
 ·rename_i k1
  simp only [baq] at h
  exact .inl ⟨k1,eq_of_beq h.1.1,h.1.2,nil h.2⟩
 split at h
 ·rename_i _ k1
  simp only [baq] at h
  exact .inr (.inl ⟨k1,h.1,nil h.2⟩)
 split at h
 ·rename_i _ _ k1
  simp only [baq] at h
  exact .inr (.inr (.inl ⟨k1,eq_of_beq h.1,nil h.2⟩))
 split at h
 ·rename_i _ _ _ k1
  simp only [baq,dqt] at h
  exact .inr (.inr (.inr (.inl ⟨k1,eq_of_beq h.1,h.2.1,h.2.2⟩)))
 split at h
 ·rename_i _ _ _ _ k1
  simp only [baq] at h
  refine .inr (.inr (.inr (.inr ⟨k1,eq_of_beq h.1.1,?_⟩)))
  have hl:=eq_of_beq h.1.2
  match l,hl,h.2 with
  | [x],_,h2=>exact⟨x,rfl,by simpa using h2⟩
 ·cases h
theorem jn {a b:ByteArray}{j:Nat}:bAt (a++b) j=if j<a.size then bAt a j else bAt b (j-a.size):=by
 unfold bAt
 have h1:(a++b).data=a.data++b.data:=ByteArray.data_append
 rw [h1,Array.getElem?_append]
 have:a.data.size=a.size:=rfl
 rw [this]
 split<;>rfl
theorem bN (a b:ByteArray):(a++b).size=a.size+b.size:=by
 show (a++b).data.size=a.data.size+b.data.size
 rw [ByteArray.data_append,Array.size_append]
theorem jI:ByteArray.empty.size=0:=rfl
theorem kl (a:ByteArray):ByteArray.empty++a=a:=by
 apply ByteArray.ext;rw [ByteArray.data_append];exact Array.empty_append
theorem qS (a:ByteArray):a++ByteArray.empty=a:=by
 apply ByteArray.ext;rw [ByteArray.data_append];exact Array.append_empty
theorem iy (a b c:ByteArray):a++b++c=a++(b++c):=by
 apply ByteArray.ext;simp only [ByteArray.data_append,Array.append_assoc]
theorem mg {a b:ByteArray}(h:a.size=b.size)(h2:∀j,j<a.size→bAt a j=bAt b j):a=b:=by
 apply ByteArray.ext
 refine Array.ext h fun i hi hi'=>?_
 have:=h2 i hi
 unfold bAt at this
 rw [Array.getElem?_eq_getElem hi,Array.getElem?_eq_getElem hi'] at this
 exact UInt8.toNat_inj.1 this
theorem jJ {s:ByteArray}(h:s.size=0):s=ByteArray.empty:=mg h fun j hj=>by omega
theorem ze5 {s:ByteArray}(h:s.size=1):wO (bAt s 0)=s:=by
 refine mg (by rw [h];rfl) fun j hj=>?_
 have hj:j<1:=hj
 obtain rfl:j=0:=by omega
 unfold wO
 show (UInt8.ofNat (bAt s 0)).toNat=bAt s 0
 rw [UInt8.toNat_ofNat']
 exact Nat.mod_eq_of_lt (cZ s 0)
def Here (s:ByteArray)(p:Nat)(t:ByteArray):Prop:=p+t.size≤s.size∧∀j,j<t.size→bAt s (p+j)=bAt t j
theorem Here.app {s a b:ByteArray}{p:Nat}(h:Here s p (a++b)):Here s p a∧Here s (p+a.size) b:=by
 obtain⟨h1,h2⟩:=h
 rw [bN] at h1 h2
 refine⟨⟨omq,fun j hj=>?_⟩,⟨omq,fun j hj=>?_⟩⟩
 ·rw [h2 j omq,jn,if_pos hj]
 ·have:=h2 (a.size+j) omq
  rw [jn,if_neg omq,Nat.add_sub_cancel_left] at this
  rw [Nat.add_assoc];exact this
theorem Here.at0 {s t:ByteArray}{p:Nat}(h:Here s p t)(ht:0<t.size):bAt s p=bAt t 0:=h.2 0 ht
theorem Here.cut {s t:ByteArray}{p:Nat}(h:Here s p t):bz s p (p+t.size)=t:=by
 refine mg (by rw [bO omq h.1];omega) fun j hj=>?_
 rw [bO omq h.1] at hj
 rw [d6 h.1 omq,h.2 j omq]
def kY (c:Nat):Bool:=ma c||c==46||c==91||c==40||c==94||c==36
theorem om {c:Nat}(h:kY c=true):c≠0∧c≠41∧c≠124∧c≠42∧c≠43∧c≠63:=by
 refine⟨?_,?_,?_,?_,?_,?_⟩<;>(rintro rfl;cases h)
theorem oo {g:E→ByteArray}{x:E}(h:0<(g x).size∧kY (bAt (g x) 0)=true):0<(brk g x).size∧kY (bAt (brk g x) 0)=true:=by
 unfold brk
 split
 ·refine⟨by simp only [bN];show 0<1+_+1;omega,?_⟩
  rw [iy,jn]
  rfl
 ·exact h
theorem zB {g:E→ByteArray}{x:E}(h:0<(g x).size∧kY (bAt (g x) 0)=true):0<(jb g x).size∧kY (bAt (jb g x) 0)=true:=by
 unfold jb
 split
 ·refine⟨by simp only [bN];show 0<1+_+1;omega,?_⟩
  rw [iy,jn]
  rfl
 ·exact h
theorem wQ {g:E→ByteArray}{b:ByteArray}{x:E}{r:List E}(h:0<(g x).size∧kY (bAt (g x) 0)=true):0<(eK g b (x :: r)).size∧kY (bAt (eK g b (x :: r)) 0)=true:=by
 obtain⟨h1,h2⟩:=oo h
 unfold eK
 refine⟨by rw [bN];omega,?_⟩
 rw [jn,if_pos h1];exact h2
theorem wR {a b:ByteArray}(h:0<a.size∧kY (bAt a 0)=true):0<(a++b).size∧kY (bAt (a++b) 0)=true:=by
 refine⟨by rw [bN];omega,?_⟩
 rw [jn,if_pos h.1];exact h.2
theorem jK {f:Nat}{e:E}(h:okS (f+1) e=true):(∀x∈e.rl,okS f x=true∧(x.rk=e.rk→gR e.rk=true))∧fW e.rk e.rs e.rl=true:=by
 unfold okS at h
 rw [baq] at h
 refine⟨fun x hx=>?_,h.2⟩
 have:=List.all_eq_true.1 h.1 x hx
 rw [baq] at this
 refine⟨this.1,fun hk=>?_⟩
 have h2:=this.2
 rw [hk] at h2
 simpa using h2
theorem g8 (f:Nat):∀e,okS f e=true→0<(aS f e).size∧kY (bAt (aS f e) 0)=true:=by
 induction f with
 | zero=>intro e h;cases h
 | succ f ih =>
  intro e h
  obtain⟨hk,hh⟩:=jK h
  unfold aS
  rcases dN hh with ⟨k,h1,h2,h3⟩|⟨k,h1,h3⟩|⟨k,h1,h3⟩|⟨k,h1,h2,h3⟩|⟨k,h1,x,h2,h3⟩
  ·rw [if_pos k]
   refine⟨omq,?_⟩
   unfold kY
   rw [h2];rfl
  ·rw [k]
   simp only [Int.reduceEq,if_false,if_true]
   rw [iy]
   exact wR ⟨by decide,rfl⟩
  ·rcases k with k|k|k|k<;>(rw [k];exact⟨Nat.zero_lt_succ _,rfl⟩)
  ·obtain⟨x,r,hl⟩:∃x r,e.rl=x :: r:=by
    match hq:e.rl,h2 with
    | x :: r,_=>exact⟨x,r,rfl⟩
   have hx:=ih x (hk x (by rw [hl];exact mcs)).1
   rw [hl]
   rcases k with k|k<;>(rw [k];exact wQ hx)
  ·have hx:=zB (ih x (hk x (by rw [h2];exact mcs)).1)
   rw [h2]
   rcases k with k|k|k<;>(rw [k];exact wR hx)
inductive Can:E→Prop
 | mk (k:Int) (s:ByteArray) (l:List E) (h:∀x∈l,Can x):Can (du k s l)
theorem Can.eta {e:E}(h:Can e):e=du e.rk e.rs e.rl:=by cases h;rfl
theorem Can.kid {e x:E}(h:Can e)(hx:x∈e.rl):Can x:=by cases h with|mk k s l h=>exact h x hx
theorem wS {s:ByteArray}{c:Nat}:∀(n a f:Nat),n≤f→(∀j,j<n→a+j<s.size∧bAt s (a+j)≠c)→(s.size≤a+n∨bAt s (a+n)=c)→eS s c f a=a+n
 | 0,a,0,_,_,_=>rfl
 | 0,a,f+1,_,_,h2=>by
  unfold eS
  rw [if_neg];·rfl
  rintro ⟨h3,h4⟩
  rcases h2 with h2|h2
  ·omega
  ·exact h4 h2
 | n+1,a,0,h,_,_=>by omega
 | n+1,a,f+1,h,h1,h2=>by
  unfold eS
  rw [if_pos (by simpa using h1 0 omq)]
  rw [wS n (a+1) f omq (fun j hj=>by have:=h1 (j+1) omq;rw [show a+1+j=a+(j+1) by omega];exact this) (by rw [show a+1+n=a+(n+1) by omega];exact h2)]
  omega
theorem wT {s:ByteArray}(h:ig s=true):∀j,j<s.size→ma (bAt s j)=true:=by
 intro j hj
 unfold ig at h
 rw [baq] at h
 have:=List.all_eq_true.1 h.1 j (List.mem_range.2 hj)
 unfold eX at this
 rw [baq] at this
 exact this.1
section
variable {s:ByteArray}{alt:PS→E×PS}
theorem sH {p:PS}(hb:p.b=false)(hp:p.a<s.size):dR s alt p=eZ s alt (bAt s p.a) (p.go 1):=by
 unfold dR
 rw [if_neg]
 rintro (h|h)
 ·rw [hb] at h;cases h
 ·omega
theorem jo {p:PS}{c:Nat}(hb:p.b=false)(hc:c≠0)(h:bAt s p.a=c):isB s c p=true:=by
 rw [me hc hb,h];simp
theorem g9 {p:PS}{c:Nat}(h:bAt s p.a≠c):isB s c p=false:=by
 unfold isB
 have:(bAt s p.a==c)=false:=by simpa using h
 rw [this,Bool.and_false]
theorem pw {g:Nat}{e:E}{p:PS}(hc:Can e)(ho:okS g e=true)(hk:e.rk≠4∧e.rk≠5∧gR e.rk=false)(hb:p.b=false)(hh:Here s p.a (aS g e)):dR s alt p=(e,p.go (aS g e).size):=by
 have h0:=g8 g e ho
 rw [sH hb (by have:=hh.1;omega)]
 cases g with
 | zero=>cases ho
 | succ f =>
 obtain⟨_,hd⟩:=jK ho
 rw [hh.at0 h0.1]
 clear h0
 have he:=hc.eta
 rcases dN hd with ⟨k,h1,h2,h3⟩|⟨k,h1,h3⟩|⟨k,h1,h3⟩|⟨k,h1,h2,h3⟩|⟨k,h1,x,h2,h3⟩
 ·have ht:aS (f+1) e=e.rs:=by unfold aS;rw [if_pos k]
  rw [ht,kh h2,ze5 h1,h1]
  rw [k,h3] at he
  exact congrArg (·,p.go 1) he.symm
 ·have ht:aS (f+1) e=⟨#[91]⟩++e.rs++⟨#[93]⟩:=by unfold aS;rw [k];rfl
  rw [ht] at hh ⊢
  have q:=hh.app
  have q1:=q.1.app
  have hu:eS s 93 s.size (p.a+1)=p.a+1+e.rs.size:=by
   refine wS _ _ _ ?_ (fun j hj=>⟨?_,?_⟩) (.inr ?_)
   ·have:=q1.2.1;have e1:(ByteArray.mk #[91]).size=1:=rfl;omega
   ·have:=q1.2.1;have e1:(ByteArray.mk #[91]).size=1:=rfl;omega
   ·rw [show bAt s (p.a+1+j)=bAt e.rs j from q1.2.2 j hj]
    have:=zk2 (wT h1 j hj)
    intro e9
    have h9:=wT h1 j hj
    rw [e9] at h9
    cases h9
   ·have:=q.2.2 0 (by decide)
    rw [bN,show p.a+((ByteArray.mk #[91]).size+e.rs.size)+0=p.a+1+e.rs.size by show p.a+(1+e.rs.size)+0=_;omega] at this
    exact this
  rw [iy,jn]
  show eZ s alt 91 (p.go 1)=_
  rw [nA]
  show (if isB s 93 ⟨eS s 93 s.size (p.a+1),p.d,p.b⟩=true then (du 3 (bz s (p.a+1) (eS s 93 s.size (p.a+1))) [],(⟨eS s 93 s.size (p.a+1)+1,p.d,p.b⟩:PS)) else _)=_
  have h93:bAt s (p.a+1+e.rs.size)=93:=by
   have:=q.2.2 0 (by decide)
   rw [bN,show p.a+((ByteArray.mk #[91]).size+e.rs.size)+0=p.a+1+e.rs.size by show p.a+(1+e.rs.size)+0=_;omega] at this
   exact this
  rw [hu,jo (p:=⟨p.a+1+e.rs.size,p.d,p.b⟩) hb (by decide) h93]
  ·rw [if_pos rfl,show bz s (p.a+1) (p.a+1+e.rs.size)=e.rs from q1.2.cut]
   rw [k,h3] at he
   rw [←he]
   refine congrArg (e,·) ?_
   unfold PS.go
   have e1:(ByteArray.mk #[91]).size=1:=rfl
   have e2:(ByteArray.mk #[93]).size=1:=rfl
   simp only [bN,e1,e2]
   congr 1
   omega
 ·have hs:=jJ h1
  rw [hs,h3] at he
  rcases k with k|k|k|k
  ·have ht:aS (f+1) e=⟨#[46]⟩:=by unfold aS;rw [k];rfl
   rw [k] at he
   rw [ht];exact congrArg (·,p.go 1) he.symm
  ·have ht:aS (f+1) e=⟨#[40,41]⟩:=by unfold aS;rw [k];rfl
   rw [k] at he
   rw [ht] at hh ⊢
   show eg s alt (p.go 1)=_
   unfold eg
   rw [jo (p:=p.go 1) hb (by decide) (show bAt s (p.a+1)=41 from hh.2 1 (by decide))]
   rw [if_pos rfl];exact congrArg (·,p.go 2) he.symm
  ·have ht:aS (f+1) e=⟨#[94]⟩:=by unfold aS;rw [k];rfl
   rw [k] at he
   rw [ht];exact congrArg (·,p.go 1) he.symm
  ·have ht:aS (f+1) e=⟨#[36]⟩:=by unfold aS;rw [k];rfl
   rw [k] at he
   rw [ht];exact congrArg (·,p.go 1) he.symm
 ·rcases k with k|k
  ·exact absurd k hk.1
  ·exact absurd k hk.2.1
 ·have:=hk.2.2
  rcases k with k|k|k<;>(rw [k] at this;cases this)
end
def Stop (s:ByteArray)(a:Nat):Prop:=s.size≤a∨bAt s a=41
def StopC (s:ByteArray)(a:Nat):Prop:=s.size≤a∨bAt s a=41∨bAt s a=124
def NoPost (s:ByteArray)(a:Nat):Prop:=bAt s a≠42∧bAt s a≠43∧bAt s a≠63
theorem StopC.post {s:ByteArray}{a:Nat}(h:StopC s a):NoPost s a:=by
 rcases h with h|h|h
 ·unfold NoPost;rw [kg h];decide
 ·unfold NoPost;rw [h];decide
 ·unfold NoPost;rw [h];decide
theorem sI {s:ByteArray}{a:Nat}(h:kY (bAt s a)=true):NoPost s a:=(om h).2.2.2
def AltOk (s:ByteArray)(F f:Nat):Prop:=∀e,Can e→okS f e=true→∀p:PS,p.b=false→p.d+f≤9→Here s p.a (aS f e)→Stop s (p.a+(aS f e).size)→ja s F p=(e,p.go (aS f e).size)
theorem wU (p:PS)(m n:Nat):(p.go m).go n=p.go (m+n):=by unfold PS.go;simp only [Nat.add_assoc]
section
variable {s:ByteArray}{F:Nat}
theorem nB {g:Nat}{y:E}{p:PS}(hA:AltOk s F g)(hc:Can y)(ho:okS g y=true)(hb:p.b=false)(hd:p.d+1+g≤9)(hh:Here s p.a (⟨#[40]⟩++aS g y++⟨#[41]⟩)):dR s (ja s F) p=(y,p.go ((aS g y).size+2)):=by
 have q:=hh.app
 have q1:=q.1.app
 have e1:(ByteArray.mk #[40]).size=1:=rfl
 have e2:(ByteArray.mk #[41]).size=1:=rfl
 rw [bN,e1] at q
 rw [e1] at q1
 rw [sH hb (by have:=q1.1.1;omega)]
 have hg:0<g:=by cases g with
  | zero=>cases ho
  | succ g=>omega
 rw [show bAt s p.a=40 from q1.1.2 0 (by decide)]
 show eg s (ja s F) (p.go 1)=_
 unfold eg
 have h0:=g8 g y ho
 have h41:bAt s (p.a+1)≠41:=by
  rw [q1.2.at0 h0.1]
  exact (om h0.2).2.1
 rw [g9 (show bAt s (p.go 1).a≠41 from h41)]
 simp only [Bool.false_eq_true,if_false]
 rw [if_neg (by show ¬8<p.d+1;omega)]
 have hr:=hA y hc ho ⟨p.a+1,p.d+1,p.b⟩ hb hd q1.2 (.inr (by have:=q.2.2 0 (by decide);rw [show p.a+(1+(aS g y).size)+0=p.a+1+(aS g y).size by omega] at this;exact this))
 have e3:ja s F ⟨(p.go 1).a,(p.go 1).d+1,(p.go 1).b⟩=(y,⟨p.a+1+(aS g y).size,p.d+1,p.b⟩):=hr
 rw [e3]
 simp only [Nat.add_sub_cancel]
 have h3:bAt s (p.a+1+(aS g y).size)=41:=by
  have:=q.2.2 0 (by decide)
  rw [show p.a+(1+(aS g y).size)+0=p.a+1+(aS g y).size by omega] at this
  exact this
 rw [jo (p:=⟨p.a+1+(aS g y).size,p.d,p.b⟩) hb (by decide) h3,if_pos rfl]
 refine congrArg (y,·) ?_
 unfold PS.go
 congr 1
 simp only
 omega
theorem wV {e:E}{p q:PS}{atom:PS→E×PS}(h:atom p=(e,q))(hn:NoPost s q.a):fc s atom p=(e,q):=by
 unfold fc
 rw [h]
 simp only [g9 hn.1,g9 hn.2.1,g9 hn.2.2,Bool.false_eq_true,if_false]
theorem px {g:Nat}{e:E}{p:PS}(hA:∀g',g=g'+1→AltOk s F g')(hc:Can e)(ho:okS g e=true)(h4:e.rk≠4)(h5:e.rk≠5)(hb:p.b=false)(hd:p.d+g≤9)(hh:Here s p.a (aS g e))(hn:NoPost s (p.a+(aS g e).size)):fc s (dR s (ja s F)) p=(e,p.go (aS g e).size):=by
 by_cases hl:gR e.rk=true
 ·cases g with
  | zero=>cases ho
  | succ f =>
  obtain⟨hkk,hdd⟩:=jK ho
  have he:=hc.eta
  rcases dN hdd with ⟨k,h1,h2,h3⟩|⟨k,h1,h3⟩|⟨k,h1,h3⟩|⟨k,h1,h2,h3⟩|⟨k,h1,x,h2,h3⟩
  ·rw [k] at hl;cases hl
  ·rw [k] at hl;cases hl
  ·rcases k with k|k|k|k<;>(rw [k] at hl;cases hl)
  ·rcases k with k|k<;>(rw [k] at hl;cases hl)
  ·have hx:=hkk x (by rw [h2];exact mcs)
   have hcx:=hc.kid (x:=x) (by rw [h2];exact mcs)
   rw [jJ h1,h2] at he
   have unit:∀c:Nat,Here s p.a (jb (aS f) x++wO c)→dR s (ja s F) p=(x,p.go (jb (aS f) x).size):=by
    intro c hc2
    have q:=hc2.app.1
    unfold jb at q ⊢
    split at q
    ·rename_i hk
     rw [if_pos hk]
     rw [nB (hA f rfl) hcx hx.1 hb omq q]
     refine congrArg (fun n=>(x,p.go n)) ?_
     simp only [bN]
     show _=1+_+1
     omega
    ·rename_i hk
     rw [if_neg hk]
     exact pw hcx hx.1 ⟨fun h=>hk (.inl h),fun h=>hk (.inr h),h3⟩ hb q
   have fin:∀(c:Nat) (K:Int),c≠0→c<256→e=du K ByteArray.empty [x]→aS (f+1) e=jb (aS f) x++wO c →
    (∀r:E×PS,r.2.b=false→bAt s r.2.a=c→(if isB s 42 r.2 then (du 6 ByteArray.empty [r.1],r.2.go 1) else if isB s 43 r.2 then (du 7 ByteArray.empty [r.1],r.2.go 1) else if isB s 63 r.2 then (du 8 ByteArray.empty [r.1],r.2.go 1) else r)=(du K ByteArray.empty [r.1],r.2.go 1))→fc s (dR s (ja s F)) p=(e,p.go (aS (f+1) e).size):=by
    intro c K hc0 hc256 he2 ht hsel
    rw [ht] at hh ⊢
    unfold fc
    rw [unit c hh]
    have hq:=hh.app.2.2 0 (show 0<1 by omega)
    have hcc:bAt (wO c) 0=c:=by
     show (UInt8.ofNat c).toNat=c
     rw [UInt8.toNat_ofNat'];exact Nat.mod_eq_of_lt hc256
    rw [hcc] at hq
    have:=hsel (x,p.go (jb (aS f) x).size) hb hq
    simp only at this ⊢
    rw [this,wU,←he2,bN]
    rfl
   rw [h2] at hkk
   rcases k with k|k|k
   ·rw [k] at he
    refine fin 42 6 (by decide) (by decide) he ?_ fun r hr1 hr2=>?_
    ·unfold aS;rw [k,h2];rfl
    ·rw [jo hr1 (by decide) hr2];rfl
   ·rw [k] at he
    refine fin 43 7 (by decide) (by decide) he ?_ fun r hr1 hr2=>?_
    ·unfold aS;rw [k,h2];rfl
    ·rw [g9 (by rw [hr2];decide),jo hr1 (by decide) hr2];rfl
   ·rw [k] at he
    refine fin 63 8 (by decide) (by decide) he ?_ fun r hr1 hr2=>?_
    ·unfold aS;rw [k,h2];rfl
    ·rw [g9 (by rw [hr2];decide),g9 (by rw [hr2];decide),jo hr1 (by decide) hr2];rfl
 ·exact wV (pw hc ho ⟨h4,h5,by simpa using hl⟩ hb hh) hn
theorem sJ {g:Nat}{x:E}{p:PS}(hA:∀g',g'≤g→AltOk s F g')(hc:Can x)(ho:okS g x=true)(h4:x.rk≠4)(hb:p.b=false)(hd:p.d+1+g≤9)(hh:Here s p.a (brk (aS g) x))(hn:NoPost s (p.a+(brk (aS g) x).size)):fc s (dR s (ja s F)) p=(x,p.go (brk (aS g) x).size):=by
 unfold brk at hh hn ⊢
 split at hh
 ·rename_i hk
  rw [if_pos hk] at hn ⊢
  have e1:(ByteArray.mk #[40]++aS g x++ByteArray.mk #[41]).size=(aS g x).size+2:=by
   simp only [bN]
   show 1+_+1=_
   omega
  rw [e1] at hn ⊢
  exact wV (nB (hA g (nlr _)) hc ho hb hd hh) hn
 ·rename_i hk
  rw [if_neg hk] at hn ⊢
  exact px (fun g' e=>hA g' omq) hc ho h4 hk hb omq hh hn
theorem kL {g:Nat}(hA:∀g',g'≤g→AltOk s F g'):∀(r acc:List E) (n:Nat) (p:PS),r.length≤n→(∀x∈r,Can x∧okS g x=true∧x.rk≠4)→p.b=false→p.d+1+g≤9→Here s p.a (dw (aS g) ByteArray.empty r)→StopC s (p.a+(dw (aS g) ByteArray.empty r).size) →
 cz s (fc s (dR s (ja s F))) n acc p=(acc++r,p.go (dw (aS g) ByteArray.empty r).size)
 | [],acc,n,p,_,_,hb,_,_,hs=>by
  have e:p.go (dw (aS g) ByteArray.empty []).size=p:=rfl
  rw [e,List.append_nil]
  cases n with
  | zero=>rfl
  | succ n =>
   unfold cz
   have hg:goS s p=false:=by
    unfold goS
    rcases hs with h|h|h
    ·have h:s.size≤p.a:=h
     have:decide (p.a<s.size)=false:=by simpa using h
     simp [this]
    ·have h:bAt s p.a=41:=h
     simp [h]
    ·have h:bAt s p.a=124:=h
     simp [h]
   rw [hg];rfl
 | x :: r,acc,0,p,h,_,_,_,_,_=>by simp at h
 | x :: r,acc,n+1,p,hl,hr,hb,hd,hh,hs=>by
  obtain⟨hc,ho,h4⟩:=hr x mcs
  unfold dw at hh hs ⊢
  rw [kl] at hh hs ⊢
  have q:=hh.app
  have h0:=oo (g:=aS g) (g8 g x ho)
  have hne:=om h0.2
  rw [←q.1.at0 h0.1] at hne
  unfold cz
  have hlt:p.a<s.size:=by have:=q.1.1;omega
  have hg:goS s p=true:=by
   unfold goS
   rw [hb]
   simp [hlt,hne.2.1,hne.2.2.1]
  rw [if_pos hg]
  have hn:NoPost s (p.a+(brk (aS g) x).size):=by
   cases r with
   | nil =>
    rw [bN] at hs
    exact StopC.post (by simpa [dw,jI] using hs)
   | cons y r' =>
    have hy:=oo (g:=aS g) (g8 g y (hr y (by simp)).2.1)
    have q2:=q.2
    unfold dw at q2
    rw [kl] at q2
    have:=q2.app.1.at0 hy.1
    refine sI ?_
    rw [this];exact hy.2
  rw [sJ hA hc ho h4 hb hd q.1 hn]
  simp only
  rw [kL hA r (acc++[x]) n (p.go (brk (aS g) x).size) (by simpa using hl) (fun y hy=>hr y (mco _ hy)) hb hd q.2 (by rw [bN] at hs;rw [show p.a+((brk (aS g) x).size+(dw (aS g) ByteArray.empty r).size)=p.a+(brk (aS g) x).size+(dw (aS g) ByteArray.empty r).size by omega] at hs;exact hs)]
  rw [wU,bN,List.append_assoc]
  rfl
theorem oq {g:E→ByteArray}{b:ByteArray}:∀{r:List E},(∀x∈r,0<(g x).size)→r.length≤(dw g b r).size
 | [],_=>Nat.zero_le _
 | x :: r,h=>by
  have h1:=oq (b:=b) (r:=r) fun y hy=>h y (mco _ hy)
  have h2:0<(brk g x).size:=by
   unfold brk
   split
   ·simp only [bN];show 0<1+_+1;omega
   ·exact h x mcs
  unfold dw
  simp only [bN,List.length_cons]
  omega
theorem ot {g:Nat}{e:E}{p:PS}(hA:∀g',g'<g→AltOk s F g')(hc:Can e)(ho:okS g e=true)(h5:e.rk≠5)(hb:p.b=false)(hd:p.d+g≤9)(hh:Here s p.a (aS g e))(hs:StopC s (p.a+(aS g e).size)):qk s (fc s (dR s (ja s F))) p=(e,p.go (aS g e).size):=by
 cases g with
 | zero=>cases ho
 | succ f =>
 by_cases h4:e.rk=4
 ·obtain⟨hkk,hdd⟩:=jK ho
  have he:=hc.eta
  rcases dN hdd with ⟨k,h1,h2,h3⟩|⟨k,h1,h3⟩|⟨k,h1,h3⟩|⟨k,h1,h2,h3⟩|⟨k,h1,x,h2,h3⟩
  ·rw [h4] at k;cases k
  ·rw [h4] at k;cases k
  ·rw [h4] at k;rcases k with k|k|k|k<;>cases k
  ·have ht:aS (f+1) e=eK (aS f) ByteArray.empty e.rl:=by unfold aS;rw [h4];rfl
   rw [ht] at hh hs ⊢
   have hkid:∀x∈e.rl,Can x∧okS f x=true∧x.rk≠4:=fun x hx=>⟨hc.kid hx,(hkk x hx).1,fun h=>by have:=(hkk x hx).2 (h.trans h4.symm);rw [h4] at this;cases this⟩
   match hl:e.rl,h2 with
   | x :: r,h2 =>
    rw [hl] at hh hs hkid
    obtain⟨hcx,hox,h4x⟩:=hkid x mcs
    unfold eK at hh hs ⊢
    have q:=hh.app
    have hlen:=oq (g:=aS f) (b:=ByteArray.empty) (r:=r) fun y hy=>(g8 f y (hkid y (mco _ hy)).2.1).1
    have hn:NoPost s (p.a+(brk (aS f) x).size):=by
     cases r with
     | nil=>simp at h2
     | cons y r' =>
      have hy:=oo (g:=aS f) (g8 f y (hkid y (by simp)).2.1)
      have q2:=q.2
      unfold dw at q2
      rw [kl] at q2
      refine sI ?_
      rw [q2.app.1.at0 hy.1];exact hy.2
    unfold qk
    rw [sJ (fun g' hg'=>hA g' omq) hcx hox h4x hb omq q.1 hn]
    simp only
    rw [kL (fun g' hg'=>hA g' omq) r [x] (s.size+1) (p.go (brk (aS f) x).size) (by have:=q.2.1;omega) (fun y hy=>hkid y (mco _ hy)) hb (by show p.d+1+f≤9;omega) q.2 (by rw [bN] at hs;show StopC s (p.a+(brk (aS f) x).size+(dw (aS f) ByteArray.empty r).size);rw [Nat.add_assoc];exact hs)]
    rw [wU,bN]
    refine congrArg (·,_) ?_
    rw [jJ h1,hl,h4] at he
    rw [he]
    cases r with
    | nil=>simp at h2
    | cons y r'=>rfl
  ·rw [h4] at k;rcases k with k|k|k<;>cases k
 ·have hi:=px (fun g' e=>hA g' omq) hc ho h4 h5 hb hd hh hs.post
  unfold qk
  rw [hi]
  simp only
  have hg:goS s (p.go (aS (f+1) e).size)=false:=by
   unfold goS
   rcases hs with h|h|h
   ·have h:s.size≤(p.go (aS (f+1) e).size).a:=h
    have:decide ((p.go (aS (f+1) e).size).a<s.size)=false:=by simpa using h
    simp [this]
   ·have h:bAt s (p.go (aS (f+1) e).size).a=41:=h
    simp [h]
   ·have h:bAt s (p.go (aS (f+1) e).size).a=124:=h
    simp [h]
  have:cz s (fc s (dR s (ja s F))) (s.size+1) [e] (p.go (aS (f+1) e).size)=([e],p.go (aS (f+1) e).size):=by
   unfold cz
   rw [hg];rfl
  rw [this]
  rfl
theorem kM {g:Nat}(hA:∀g',g'<g→AltOk s F g'):∀(r acc:List E) (n:Nat) (p:PS),r.length≤n→(∀x∈r,Can x∧okS g x=true∧x.rk≠5)→p.b=false→p.d+g≤9→Here s p.a (dw (aS g) ⟨#[124]⟩ r)→Stop s (p.a+(dw (aS g) ⟨#[124]⟩ r).size) →
 cC s (qk s (fc s (dR s (ja s F)))) n acc p=(acc++r,p.go (dw (aS g) ⟨#[124]⟩ r).size)
 | [],acc,n,p,_,_,hb,_,_,hs=>by
  have e:p.go (dw (aS g) ⟨#[124]⟩ []).size=p:=rfl
  rw [e,List.append_nil]
  cases n with
  | zero=>rfl
  | succ n =>
   unfold cC
   have hg:isB s 124 p=false:=by
    refine g9 ?_
    rcases hs with h|h
    ·have h:s.size≤p.a:=h
     rw [kg h];decide
    ·have h:bAt s p.a=41:=h
     rw [h];decide
   rw [hg];rfl
 | x :: r,acc,0,p,h,_,_,_,_,_=>by simp at h
 | x :: r,acc,n+1,p,hl,hr,hb,hd,hh,hs=>by
  obtain⟨hc,ho,h5⟩:=hr x mcs
  unfold dw at hh hs ⊢
  have hbx:brk (aS g) x=aS g x:=by unfold brk;rw [if_neg h5]
  rw [hbx] at hh hs ⊢
  have e1:(ByteArray.mk #[124]).size=1:=rfl
  have q:=hh.app
  have q2:=q.2.app
  rw [e1] at q2
  unfold cC
  rw [jo hb (by decide) (show bAt s p.a=124 from q.1.2 0 (by decide)),if_pos rfl]
  have hn:StopC s (p.a+1+(aS g x).size):=by
   cases r with
   | nil =>
    simp only [bN,e1] at hs
    rcases hs with h|h
    ·exact .inl (by simpa [dw,jI,Nat.add_assoc] using h)
    ·exact .inr (.inl (by simpa [dw,jI,Nat.add_assoc] using h))
   | cons y r' =>
    have q3:=q2.2
    unfold dw at q3
    exact .inr (.inr (q3.app.1.2 0 (by decide)))
  rw [ot hA hc ho h5 (p:=p.go 1) hb hd q2.1 hn]
  simp only
  rw [kM hA r (acc++[x]) n ((p.go 1).go (aS g x).size) (by simpa using hl) (fun y hy=>hr y (mco _ hy)) hb hd q2.2 (by simp only [bN,e1] at hs;show Stop s (p.a+1+(aS g x).size+(dw (aS g) ⟨#[124]⟩ r).size);rw [show p.a+1+(aS g x).size+(dw (aS g) ⟨#[124]⟩ r).size=p.a+(1+((aS g x).size+(dw (aS g) ⟨#[124]⟩ r).size)) by omega];exact hs)]
  simp only [wU,bN,e1,List.append_assoc]
  rw [show 1+((aS g x).size+(dw (aS g) ⟨#[124]⟩ r).size)=1+(aS g x).size+(dw (aS g) ⟨#[124]⟩ r).size by omega]
  rfl
end
theorem zC (s:ByteArray)(F:Nat):∀f,f≤F→AltOk s F f:=by
 induction F with
 | zero =>
  intro f hf e _ ho
  obtain rfl:f=0:=by omega
  cases ho
 | succ F ih =>
  intro f hf e hc ho p hb hd hh hs
  have hA:∀g',g'<f→AltOk s F g':=fun g' hg=>ih g' omq
  cases f with
  | zero=>cases ho
  | succ f =>
  show zw s (qk s (fc s (dR s (ja s F)))) p=_
  by_cases h5:e.rk=5
  ·obtain⟨hkk,hdd⟩:=jK ho
   have he:=hc.eta
   rcases dN hdd with ⟨k,h1,h2,h3⟩|⟨k,h1,h3⟩|⟨k,h1,h3⟩|⟨k,h1,h2,h3⟩|⟨k,h1,x,h2,h3⟩
   ·rw [h5] at k;cases k
   ·rw [h5] at k;cases k
   ·rw [h5] at k;rcases k with k|k|k|k<;>cases k
   ·have ht:aS (f+1) e=eK (aS f) ⟨#[124]⟩ e.rl:=by unfold aS;rw [h5];rfl
    rw [ht] at hh hs ⊢
    have hkid:∀x∈e.rl,Can x∧okS f x=true∧x.rk≠5:=fun x hx=>⟨hc.kid hx,(hkk x hx).1,fun h=>by have:=(hkk x hx).2 (h.trans h5.symm);rw [h5] at this;cases this⟩
    match hl:e.rl,h2 with
    | x :: r,h2 =>
     rw [hl] at hh hs hkid
     obtain⟨hcx,hox,h5x⟩:=hkid x mcs
     have hbx:brk (aS f) x=aS f x:=by unfold brk;rw [if_neg h5x]
     have hj:eK (aS f) ⟨#[124]⟩ (x :: r)=aS f x++dw (aS f) ⟨#[124]⟩ r:=by rw [←hbx];rfl
     rw [hj] at hh hs ⊢
     have q:=hh.app
     have hlen:=oq (g:=aS f) (b:=⟨#[124]⟩) (r:=r) fun y hy=>(g8 f y (hkid y (mco _ hy)).2.1).1
     have hn:StopC s (p.a+(aS f x).size):=by
      cases r with
      | nil=>simp at h2
      | cons y r' =>
       have q3:=q.2
       unfold dw at q3
       exact .inr (.inr (q3.app.1.2 0 (by decide)))
     unfold zw
     rw [ot (fun g' hg'=>hA g' omq) hcx hox h5x hb omq q.1 hn]
     simp only
     rw [kM (fun g' hg'=>hA g' omq) r [x] (s.size+1) (p.go (aS f x).size) (by have:=q.2.1;omega) (fun y hy=>hkid y (mco _ hy)) hb (by show p.d+f≤9;omega) q.2 (by rw [bN] at hs;show Stop s (p.a+(aS f x).size+(dw (aS f) ⟨#[124]⟩ r).size);rw [Nat.add_assoc];exact hs)]
     rw [wU,bN]
     refine congrArg (·,_) ?_
     rw [jJ h1,hl,h5] at he
     rw [he]
     cases r with
     | nil=>simp at h2
     | cons y r'=>rfl
   ·rw [h5] at k;rcases k with k|k|k<;>cases k
  ·have hcc:=ot hA hc ho h5 hb hd hh (hs.elim .inl fun h=>.inr (.inl h))
   unfold zw
   rw [hcc]
   simp only
   have:cC s (qk s (fc s (dR s (ja s F)))) (s.size+1) [e] (p.go (aS (f+1) e).size)=([e],p.go (aS (f+1) e).size):=by
    unfold cC
    rw [g9]
    ·rfl
    ·rcases hs with h|h
     ·have h:s.size≤(p.go (aS (f+1) e).size).a:=h
      rw [kg h];decide
     ·have h:bAt s (p.go (aS (f+1) e).size).a=41:=h
      rw [h];decide
   rw [this]
   rfl
theorem pz {k:Int}:∀{l:List E},(∀x∈l,Can x)→Can (kW k l)
 | [],h=>Can.mk _ _ _ h
 | [x],h=>h x mcs
 | x :: y :: r,h=>Can.mk _ _ _ h
theorem mh:Can dv:=Can.mk _ _ _ fun _ h=>absurd h List.not_mem_nil
theorem zD (k:Int)(s:ByteArray):Can (du k s []):=Can.mk _ _ _ fun _ h=>absurd h List.not_mem_nil
section
variable {s:ByteArray}
theorem wW {alt:PS→E×PS}(h:∀p,Can (alt p).1)(p:PS):Can (kf s alt p).1:=by
 unfold kf eY
 dsimp only
 repeat' split
 all_goals first|exact zD _ _|exact mh|exact h _
theorem wX {f:PS→E×PS}(h:∀p,Can (f p).1)(p:PS):Can (kX s f p).1:=by
 unfold kX
 have h1:∀k,Can (du k ByteArray.empty [(f p).1]):=fun k=>Can.mk _ _ _ fun x hx=>by
  rw [List.mem_singleton] at hx;rw [hx];exact h p
 dsimp only
 repeat' split
 all_goals first|exact h1 _|exact h _
theorem kN {f:PS→E×PS}(h:∀p,Can (f p).1):∀(n:Nat) (l:List E) (p:PS),(∀x∈l,Can x)→∀x∈(cv s f n l p).1,Can x
 | 0,l,p,hl=>hl
 | n+1,l,p,hl=>by
  unfold cv
  split
  ·refine kN h n _ _ fun x hx=>?_
   rcases List.mem_append.1 hx with hx|hx
   ·exact hl x hx
   ·rw [List.mem_singleton] at hx;rw [hx];exact h p
  ·exact hl
theorem zF {f:PS→E×PS}(h:∀p,Can (f p).1)(p:PS):Can (uW s f p).1:=by
 unfold uW
 simp only
 split
 ·exact mh
 ·exact pz (kN h _ _ _ fun _ h=>absurd h List.not_mem_nil)
theorem kO {f:PS→E×PS}(h:∀p,Can (f p).1):∀(n:Nat) (l:List E) (p:PS),(∀x∈l,Can x)→∀x∈(de s f n l p).1,Can x
 | 0,l,p,hl=>hl
 | n+1,l,p,hl=>by
  unfold de
  split
  ·refine kO h n _ _ fun x hx=>?_
   rcases List.mem_append.1 hx with hx|hx
   ·exact hl x hx
   ·rw [List.mem_singleton] at hx;rw [hx];exact h _
  ·exact hl
theorem zG (f:Nat):∀p,Can (uX s f p).1:=by
 induction f with
 | zero=>exact fun p=>mh
 | succ f ih =>
  intro p
  unfold uX zv
  have hc:=zF (s:=s) (wX (s:=s) (wW (s:=s) ih))
  exact pz (kO hc _ _ _ fun x hx=>by rw [List.mem_singleton] at hx;rw [hx];exact hc _)
end
theorem nC {g:E→ByteArray}{b:ByteArray}{c:E→Nat}(hb:b.size≤1):∀{l:List E} {n:Nat},(∀x∈l,(g x).size+3≤16*c x)→kG c l n≤60→(dw g b l).size+16*n≤16*kG c l n
 | [],n,_,_=>by unfold dw kG;rw [jI];omega
 | x :: r,n,h,hs=>by
  have h1:=h x mcs
  unfold kG at hs ⊢
  split at hs
  ·omega
  ·rename_i hn
   rw [if_neg hn]
   have h2:=nC hb (n:=n+c x) (fun y hy=>h y (mco _ hy)) hs
   have h3:(brk g x).size≤(g x).size+2:=by
    unfold brk
    split
    ·simp only [bN];show 1+_+1≤_;omega
    ·omega
   unfold dw
   simp only [bN]
   omega
theorem nD (f:Nat):∀e,bR f e≤60→(aS f e).size+3≤16*bR f e:=by
 induction f with
 | zero=>intro e h;simp [bR] at h
 | succ f ih =>
  intro e h
  unfold bR at h ⊢
  split at h
  ·rename_i hh
   rw [if_pos hh]
   have hd:=(qR hh).1
   have hk:=(jm h).2
   have h1:1≤kG (bR f) e.rl 1:=by
    have:∀(l:List E) (n:Nat),kG (bR f) l n≤60→n≤kG (bR f) l n:=by
     intro l
     induction l with
     | nil=>intro n _;exact nlr _
     | cons x r ihl =>
      intro n hn
      unfold kG at hn ⊢
      split at hn
      ·omega
      ·rename_i hc
       rw [if_neg hc]
       have:=ihl _ hn
       omega
    exact this _ _ h
   unfold aS
   rcases dN hd with ⟨k,q1,q2,q3⟩|⟨k,q1,q3⟩|⟨k,q1,q3⟩|⟨k,q1,q2,q3⟩|⟨k,q1,x,q2,q3⟩
   ·rw [if_pos k,q1];omega
   ·rw [k]
    have:e.rs.size≤10:=by
     unfold ig at q1
     simp only [baq,dqt] at q1
     exact q1.2.2
    show (ByteArray.mk #[91]++e.rs++ByteArray.mk #[93]).size+3≤_
    simp only [bN]
    show 1+e.rs.size+1+3≤_
    omega
   ·rcases k with k|k|k|k<;>rw [k]
    ·show 1+3≤_;omega
    ·show 2+3≤_;omega
    ·show 1+3≤_;omega
    ·show 1+3≤_;omega
   ·have key:∀b:ByteArray,b.size≤1→(eK (aS f) b e.rl).size+3≤16*kG (bR f) e.rl 1:=by
     intro b hb
     have h3:=nC (g:=aS f) (b:=b) (c:=bR f) hb (fun x hx=>ih x (hk x hx)) h
     have h4:(eK (aS f) b e.rl).size≤(dw (aS f) b e.rl).size:=by
      cases e.rl with
      | nil=>exact nlr _
      | cons x r=>unfold eK;conv=>rhs;unfold dw
                  simp only [bN];omega
     omega
    rcases k with k|k<;>rw [k]
    ·exact key ByteArray.empty (by rw [jI];omega)
    ·exact key ⟨#[124]⟩ (nlr 1)
   ·have h3:=ih x (hk x (by rw [q2];exact mcs))
    rw [q2] at h h1 ⊢
    have h5:kG (bR f) [x] 1=1+bR f x:=by
     unfold kG at h ⊢
     split at h
     ·omega
     ·rename_i hc;rw [if_neg hc];rfl
    have h6:(jb (aS f) x).size≤(aS f x).size+2:=by
     unfold jb
     split
     ·simp only [bN];show 1+_+1≤_;omega
     ·omega
    rw [h5]
    rcases k with k|k|k<;>rw [k]
    ·show (jb (aS f) x++ByteArray.mk #[42]).size+3≤_
     rw [bN];show (jb (aS f) x).size+1+3≤_;omega
    ·show (jb (aS f) x++ByteArray.mk #[43]).size+3≤_
     rw [bN];show (jb (aS f) x).size+1+3≤_;omega
    ·show (jb (aS f) x++ByteArray.mk #[63]).size+3≤_
     rw [bN];show (jb (aS f) x).size+1+3≤_;omega
  ·omega
def kZ (e:E):ByteArray:=if eO e then aS 6 e else ByteArray.empty
def p00:PS:=⟨0,0,false⟩
def gE (s:ByteArray):E×PS:=uX s (s.size+8) p00
def mi (s:ByteArray):E×PS:=ja s (s.size+8) p00
def sK (s:ByteArray):Bool:=!(gE s).2.b&&((gE s).2.a==s.size)&&eO (gE s).1&&(kZ (gE s).1).toList==s.toList
def wY (s:ByteArray):Bool:=decide (s.size≤1000)&&!(mi s).2.b&&((mi s).2.a==s.size)&&(kZ (mi s).1).toList==s.toList
theorem toList_inj {a b:ByteArray}(h:a.toList=b.toList):a=b:=by
 rw [ByteArray.toList_eq,ByteArray.toList_eq] at h
 exact ByteArray.ext (Array.toList_inj.1 h)
theorem wZ (s:ByteArray):Here s 0 s:=⟨omq,fun j hj=>by rw [Nat.zero_add]⟩
theorem zl2 {s:ByteArray}(h:wY s=true):sK s=true∧gE s=mi s:=by
 unfold wY at h
 simp only [baq,bnt,dqt] at h
 obtain⟨⟨⟨h0,h1⟩,h2⟩,h3⟩:=h
 have e:gE s=mi s:=(sG (s.size+8) p00 rfl (by decide) h1).1
 refine⟨?_,e⟩
 unfold sK
 rw [e,h1,h2,h3]
 have:eO (mi s).1=true:=by
  cases hk:eO (mi s).1 with
  | true=>rfl
  | false =>
   have ht:kZ (mi s).1=ByteArray.empty:=by unfold kZ;rw [hk];rfl
   rw [ht] at h3
   have hs:=toList_inj (eq_of_beq h3)
   rw [←hs] at h1
   exact absurd h1 (by decide)
 rw [this];rfl
theorem zH {s:ByteArray}(h:sK s=true):wY s=true:=by
 unfold sK at h
 simp only [baq,bnt] at h
 obtain⟨⟨⟨h1,h2⟩,h3⟩,h4⟩:=h
 have ht:kZ (gE s).1=aS 6 (gE s).1:=by unfold kZ;rw [h3];rfl
 have hs:aS 6 (gE s).1=s:=ht▸toList_inj (eq_of_beq h4)
 have hp:bR 6 (gE s).1≤60:=by unfold eO at h3;exact of_decide_eq_true h3
 have hok:okS 6 (gE s).1=true:=((sF 6 _).1.1 hp).2
 have hsz:=nD 6 _ hp
 rw [hs] at hsz
 have hb:=zC s (s.size+8) 6 omq (gE s).1 (zG _ _) hok p00 rfl (by decide) (by rw [hs];exact wZ s) (.inl (by rw [hs];show s.size≤0+s.size;omega))
 rw [hs] at hb
 have e:mi s=((gE s).1,p00.go s.size):=hb
 unfold wY
 rw [e]
 simp only
 rw [h4]
 have:decide (s.size≤1000)=true:=by simp;omega
 rw [this]
 simp [PS.go,p00]
theorem sL (s:ByteArray):sK s=wY s:=by
 cases h:wY s with
 | true=>exact (zl2 h).1
 | false =>
  cases h2:sK s with
  | false=>rfl
  | true=>rw [zH h2] at h;cases h
def zI (s:ByteArray):E:=if sK s then (gE s).1 else dv
theorem zx7 (s:ByteArray):zI s=if wY s then (mi s).1 else dv:=by
 unfold zI
 rw [sL]
 cases h:wY s with
 | true=>rw [if_pos rfl,if_pos rfl,(zl2 h).2]
 | false=>rfl
end Go.Proofs.YtomolhbkdhjofaaGreatDoor
