/- T -/
import Derived.Test.YtmnneflenebgmaaGreatCnOM
set_option maxHeartbeats 0
set_option maxRecDepth 100000
namespace Go.Proofs.YtmnneflenebgmaaGreat
open Go.RowKit Go.Proofs.Tryz
def brk (g:E→ByteArray)(x:E):ByteArray:=if x.rk=5 then ⟨#[40]⟩++g x++⟨#[41]⟩ else g x
def iM (g:E→ByteArray)(x:E):ByteArray:=if x.rk=4∨x.rk=5 then ⟨#[40]⟩++g x++⟨#[41]⟩ else g x
def cX (g:E→ByteArray)(by_:ByteArray):List E→ByteArray
 | []=>ByteArray.empty
 | y :: r=>by_++(brk g y++cX g by_ r)
def eg (g:E→ByteArray)(by_:ByteArray):List E→ByteArray
 | []=>ByteArray.empty
 | x :: r=>brk g x++cX g by_ r
def aV:Nat→E→ByteArray
 | 0,_=>ByteArray.empty
 | f+1,e =>
  if e.rk=1 then e.rs
  else if e.rk=2 then ⟨#[46]⟩
  else if e.rk=3 then ⟨#[91]⟩++e.rs++⟨#[93]⟩
  else if e.rk=4 then eg (aV f) ByteArray.empty e.rl
  else if e.rk=5 then eg (aV f) ⟨#[124]⟩ e.rl
  else if e.rk=6 then iM (aV f) (e.rl.headD cV)++⟨#[42]⟩
  else if e.rk=7 then iM (aV f) (e.rl.headD cV)++⟨#[43]⟩
  else if e.rk=8 then iM (aV f) (e.rl.headD cV)++⟨#[63]⟩
  else if e.rk=10 then ⟨#[94]⟩
  else if e.rk=11 then ⟨#[36]⟩
  else ⟨#[40,41]⟩
theorem du {k:Int}{s:ByteArray}{l:List E}(h:eO k s l=true) :
 (k=1∧s.size=1∧lm (bAt s 0)=true∧l=[])∨(k=3∧gu s=true∧l=[])∨((k=2∨k=9∨k=10∨k=11)∧s.size=0∧l=[]) ∨
 ((k=4∨k=5)∧s.size=0∧2≤l.length∧l.length≤8)∨((k=6∨k=7∨k=8)∧s.size=0∧∃x,l=[x]∧fy x.rk=false):=by
 have nil:(l.length==0)=true→l=[]:=fun h=>List.length_eq_zero_iff.1 (eq_of_beq h)
 unfold eO at h
 split at h
 ·rename_i k1
  simp only [Bool.and_eq_true] at h
  exact .inl ⟨k1,eq_of_beq h.1.1,h.1.2,nil h.2⟩
 split at h
 ·rename_i _ k1
  simp only [Bool.and_eq_true] at h
  exact .inr (.inl ⟨k1,h.1,nil h.2⟩)
 split at h
 ·rename_i _ _ k1
  simp only [Bool.and_eq_true] at h
  exact .inr (.inr (.inl ⟨k1,eq_of_beq h.1,nil h.2⟩))
 split at h
 ·rename_i _ _ _ k1
  simp only [Bool.and_eq_true,decide_eq_true_iff] at h
  exact .inr (.inr (.inr (.inl ⟨k1,eq_of_beq h.1,h.2.1,h.2.2⟩)))
 split at h
 ·rename_i _ _ _ _ k1
  simp only [Bool.and_eq_true] at h
  refine .inr (.inr (.inr (.inr ⟨k1,eq_of_beq h.1.1,?_⟩)))
  have hl:=eq_of_beq h.1.2
  match l,hl,h.2 with
  | [x],_,h2=>exact⟨x,rfl,by simpa using h2⟩
 ·cases h
theorem gZ {a b:ByteArray}{j:Nat}:bAt (a++b) j=if j<a.size then bAt a j else bAt b (j-a.size):=by
 unfold bAt
 have h1:(a++b).data=a.data++b.data:=ByteArray.data_append
 rw [h1,Array.getElem?_append]
 have:a.data.size=a.size:=rfl
 rw [this]
 split<;>rfl
theorem bE (a b:ByteArray):(a++b).size=a.size+b.size:=by
 show (a++b).data.size=a.data.size+b.data.size
 rw [ByteArray.data_append,Array.size_append]
theorem iu:ByteArray.empty.size=0:=rfl
theorem iZ (a:ByteArray):ByteArray.empty++a=a:=by
 apply ByteArray.ext;rw [ByteArray.data_append];exact Array.empty_append
theorem pm (a:ByteArray):a++ByteArray.empty=a:=by
 apply ByteArray.ext;rw [ByteArray.data_append];exact Array.append_empty
theorem gv (a b c:ByteArray):a++b++c=a++(b++c):=by
 apply ByteArray.ext;simp only [ByteArray.data_append,Array.append_assoc]
theorem kv {a b:ByteArray}(h:a.size=b.size)(h2:∀j,j<a.size→bAt a j=bAt b j):a=b:=by
 apply ByteArray.ext
 refine Array.ext h fun i hi hi'=>?_
 have:=h2 i hi
 unfold bAt at this
 rw [Array.getElem?_eq_getElem hi,Array.getElem?_eq_getElem hi'] at this
 exact UInt8.toNat_inj.1 this
theorem iv {s:ByteArray}(h:s.size=0):s=ByteArray.empty:=kv h fun j hj=>by omega
theorem zl {s:ByteArray}(h:s.size=1):uN (bAt s 0)=s:=by
 refine kv (by rw [h];rfl) fun j hj=>?_
 have hj:j<1:=hj
 obtain rfl:j=0:=by omega
 unfold uN
 show (UInt8.ofNat (bAt s 0)).toNat=bAt s 0
 rw [UInt8.toNat_ofNat']
 exact Nat.mod_eq_of_lt (fu s 0)
def Here (s:ByteArray)(p:Nat)(t:ByteArray):Prop:=p+t.size≤s.size∧∀j,j<t.size→bAt s (p+j)=bAt t j
theorem Here.app {s a b:ByteArray}{p:Nat}(h:Here s p (a++b)):Here s p a∧Here s (p+a.size) b:=by
 obtain⟨h1,h2⟩:=h
 rw [bE] at h1 h2
 refine⟨⟨omq,fun j hj=>?_⟩,⟨omq,fun j hj=>?_⟩⟩
 ·rw [h2 j omq,gZ,if_pos hj]
 ·have:=h2 (a.size+j) omq
  rw [gZ,if_neg omq,Nat.add_sub_cancel_left] at this
  rw [Nat.add_assoc];exact this
theorem Here.at0 {s t:ByteArray}{p:Nat}(h:Here s p t)(ht:0<t.size):bAt s p=bAt t 0:=h.2 0 ht
theorem Here.cut {s t:ByteArray}{p:Nat}(h:Here s p t):eV s p (p+t.size)=t:=by
 refine kv (by rw [nM omq h.1];omega) fun j hj=>?_
 rw [nM omq h.1] at hj
 rw [zbQ h.1 omq,h.2 j omq]
def jD (c:Nat):Bool:=lm c||c==46||c==91||c==40||c==94||c==36
theorem mE {c:Nat}(h:jD c=true):c≠0∧c≠41∧c≠124∧c≠42∧c≠43∧c≠63:=by
 refine⟨?_,?_,?_,?_,?_,?_⟩<;>(rintro rfl;cases h)
theorem mF {g:E→ByteArray}{x:E}(h:0<(g x).size∧jD (bAt (g x) 0)=true):0<(brk g x).size∧jD (bAt (brk g x) 0)=true:=by
 unfold brk
 split
 ·refine⟨by simp only [bE];show 0<1+_+1;omega,?_⟩
  rw [gv,gZ]
  rfl
 ·exact h
theorem xy {g:E→ByteArray}{x:E}(h:0<(g x).size∧jD (bAt (g x) 0)=true):0<(iM g x).size∧jD (bAt (iM g x) 0)=true:=by
 unfold iM
 split
 ·refine⟨by simp only [bE];show 0<1+_+1;omega,?_⟩
  rw [gv,gZ]
  rfl
 ·exact h
theorem uP {g:E→ByteArray}{b:ByteArray}{x:E}{r:List E}(h:0<(g x).size∧jD (bAt (g x) 0)=true):0<(eg g b (x :: r)).size∧jD (bAt (eg g b (x :: r)) 0)=true:=by
 obtain⟨h1,h2⟩:=mF h
 unfold eg
 refine⟨by rw [bE];omega,?_⟩
 rw [gZ,if_pos h1];exact h2
theorem uQ {a b:ByteArray}(h:0<a.size∧jD (bAt a 0)=true):0<(a++b).size∧jD (bAt (a++b) 0)=true:=by
 refine⟨by rw [bE];omega,?_⟩
 rw [gZ,if_pos h.1];exact h.2
theorem iw {f:Nat}{e:E}(h:okS (f+1) e=true):(∀x∈e.rl,okS f x=true∧(x.rk=e.rk→fy e.rk=true))∧eO e.rk e.rs e.rl=true:=by
 unfold okS at h
 rw [Bool.and_eq_true] at h
 refine⟨fun x hx=>?_,h.2⟩
 have:=List.all_eq_true.1 h.1 x hx
 rw [Bool.and_eq_true] at this
 refine⟨this.1,fun hk=>?_⟩
 have h2:=this.2
 rw [hk] at h2
 simpa using h2
theorem fS (f:Nat):∀e,okS f e=true→0<(aV f e).size∧jD (bAt (aV f e) 0)=true:=by
 induction f with
 | zero=>intro e h;cases h
 | succ f ih =>
  intro e h
  obtain⟨hk,hh⟩:=iw h
  unfold aV
  rcases du hh with ⟨k,h1,h2,h3⟩|⟨k,h1,h3⟩|⟨k,h1,h3⟩|⟨k,h1,h2,h3⟩|⟨k,h1,x,h2,h3⟩
  ·rw [if_pos k]
   refine⟨omq,?_⟩
   unfold jD
   rw [h2];rfl
  ·rw [k]
   simp only [Int.reduceEq,if_false,if_true]
   rw [gv]
   exact uQ ⟨by decide,rfl⟩
  ·rcases k with k|k|k|k<;>(rw [k];exact⟨Nat.zero_lt_succ _,rfl⟩)
  ·obtain⟨x,r,hl⟩:∃x r,e.rl=x :: r:=by
    match hq:e.rl,h2 with
    | x :: r,_=>exact⟨x,r,rfl⟩
   have hx:=ih x (hk x (by rw [hl];exact List.mem_cons_self)).1
   rw [hl]
   rcases k with k|k<;>(rw [k];exact uP hx)
  ·have hx:=xy (ih x (hk x (by rw [h2];exact List.mem_cons_self)).1)
   rw [h2]
   rcases k with k|k|k<;>(rw [k];exact uQ hx)
inductive Can:E→Prop
 | mk (k:Int) (s:ByteArray) (l:List E) (h:∀x∈l,Can x):Can (cU k s l)
theorem Can.eta {e:E}(h:Can e):e=cU e.rk e.rs e.rl:=by cases h;rfl
theorem Can.kid {e x:E}(h:Can e)(hx:x∈e.rl):Can x:=by cases h with|mk k s l h=>exact h x hx
theorem uR {s:ByteArray}{c:Nat}:∀(n a f:Nat),n≤f→(∀j,j<n→a+j<s.size∧bAt s (a+j)≠c)→(s.size≤a+n∨bAt s (a+n)=c)→dY s c f a=a+n
 | 0,a,0,_,_,_=>rfl
 | 0,a,f+1,_,_,h2=>by
  unfold dY
  rw [if_neg];·rfl
  rintro ⟨h3,h4⟩
  rcases h2 with h2|h2
  ·omega
  ·exact h4 h2
 | n+1,a,0,h,_,_=>by omega
 | n+1,a,f+1,h,h1,h2=>by
  unfold dY
  rw [if_pos (by simpa using h1 0 omq)]
  rw [uR n (a+1) f omq (fun j hj=>by have:=h1 (j+1) omq;rw [show a+1+j=a+(j+1) by omega];exact this) (by rw [show a+1+n=a+(n+1) by omega];exact h2)]
  omega
theorem uS {s:ByteArray}(h:gu s=true):∀j,j<s.size→lm (bAt s j)=true:=by
 intro j hj
 unfold gu at h
 rw [Bool.and_eq_true] at h
 have:=List.all_eq_true.1 h.1 j (List.mem_range.2 hj)
 unfold et at this
 rw [Bool.and_eq_true] at this
 exact this.1
section
variable {s:ByteArray}{alt:PS→E×PS}
theorem qN {p:PS}(hb:p.b=false)(hp:p.a<s.size):dh s alt p=d8 s alt (bAt s p.a) (p.go 1):=by
 unfold dh
 rw [if_neg]
 rintro (h|h)
 ·rw [hb] at h;cases h
 ·omega
theorem g8 {p:PS}{c:Nat}(hb:p.b=false)(hc:c≠0)(h:bAt s p.a=c):isB s c p=true:=by
 rw [kt hc hb,h];simp
theorem fT {p:PS}{c:Nat}(h:bAt s p.a≠c):isB s c p=false:=by
 unfold isB
 have:(bAt s p.a==c)=false:=by simpa using h
 rw [this,Bool.and_false]
theorem nV {g:Nat}{e:E}{p:PS}(hc:Can e)(ho:okS g e=true)(hk:e.rk≠4∧e.rk≠5∧fy e.rk=false)(hb:p.b=false)(hh:Here s p.a (aV g e)):dh s alt p=(e,p.go (aV g e).size):=by
 have h0:=fS g e ho
 rw [qN hb (by have:=hh.1;omega)]
 cases g with
 | zero=>cases ho
 | succ f =>
 obtain⟨_,hd⟩:=iw ho
 rw [hh.at0 h0.1]
 clear h0
 have he:=hc.eta
 rcases du hd with ⟨k,h1,h2,h3⟩|⟨k,h1,h3⟩|⟨k,h1,h3⟩|⟨k,h1,h2,h3⟩|⟨k,h1,x,h2,h3⟩
 ·have ht:aV (f+1) e=e.rs:=by unfold aV;rw [if_pos k]
  rw [ht,iX h2,zl h1,h1]
  rw [k,h3] at he
  exact congrArg (·,p.go 1) he.symm
 ·have ht:aV (f+1) e=⟨#[91]⟩++e.rs++⟨#[93]⟩:=by unfold aV;rw [k];rfl
  rw [ht] at hh ⊢
  have q:=hh.app
  have q1:=q.1.app
  have hu:dY s 93 s.size (p.a+1)=p.a+1+e.rs.size:=by
   refine uR _ _ _ ?_ (fun j hj=>⟨?_,?_⟩) (.inr ?_)
   ·have:=q1.2.1;have e1:(ByteArray.mk #[91]).size=1:=rfl;omega
   ·have:=q1.2.1;have e1:(ByteArray.mk #[91]).size=1:=rfl;omega
   ·rw [show bAt s (p.a+1+j)=bAt e.rs j from q1.2.2 j hj]
    have:=zkQ (uS h1 j hj)
    intro e9
    have h9:=uS h1 j hj
    rw [e9] at h9
    cases h9
   ·have:=q.2.2 0 (by decide)
    rw [bE,show p.a+((ByteArray.mk #[91]).size+e.rs.size)+0=p.a+1+e.rs.size by show p.a+(1+e.rs.size)+0=_;omega] at this
    exact this
  rw [gv,gZ]
  show d8 s alt 91 (p.go 1)=_
  rw [lQ]
  show (if isB s 93 ⟨dY s 93 s.size (p.a+1),p.d,p.b⟩=true then (cU 3 (eV s (p.a+1) (dY s 93 s.size (p.a+1))) [],(⟨dY s 93 s.size (p.a+1)+1,p.d,p.b⟩:PS)) else _)=_
  have h93:bAt s (p.a+1+e.rs.size)=93:=by
   have:=q.2.2 0 (by decide)
   rw [bE,show p.a+((ByteArray.mk #[91]).size+e.rs.size)+0=p.a+1+e.rs.size by show p.a+(1+e.rs.size)+0=_;omega] at this
   exact this
  rw [hu,g8 (p:=⟨p.a+1+e.rs.size,p.d,p.b⟩) hb (by decide) h93]
  ·rw [if_pos rfl,show eV s (p.a+1) (p.a+1+e.rs.size)=e.rs from q1.2.cut]
   rw [k,h3] at he
   rw [←he]
   refine congrArg (e,·) ?_
   unfold PS.go
   have e1:(ByteArray.mk #[91]).size=1:=rfl
   have e2:(ByteArray.mk #[93]).size=1:=rfl
   simp only [bE,e1,e2]
   congr 1
   omega
 ·have hs:=iv h1
  rw [hs,h3] at he
  rcases k with k|k|k|k
  ·have ht:aV (f+1) e=⟨#[46]⟩:=by unfold aV;rw [k];rfl
   rw [k] at he
   rw [ht];exact congrArg (·,p.go 1) he.symm
  ·have ht:aV (f+1) e=⟨#[40,41]⟩:=by unfold aV;rw [k];rfl
   rw [k] at he
   rw [ht] at hh ⊢
   show dD s alt (p.go 1)=_
   unfold dD
   rw [g8 (p:=p.go 1) hb (by decide) (show bAt s (p.a+1)=41 from hh.2 1 (by decide))]
   rw [if_pos rfl];exact congrArg (·,p.go 2) he.symm
  ·have ht:aV (f+1) e=⟨#[94]⟩:=by unfold aV;rw [k];rfl
   rw [k] at he
   rw [ht];exact congrArg (·,p.go 1) he.symm
  ·have ht:aV (f+1) e=⟨#[36]⟩:=by unfold aV;rw [k];rfl
   rw [k] at he
   rw [ht];exact congrArg (·,p.go 1) he.symm
 ·rcases k with k|k
  ·exact absurd k hk.1
  ·exact absurd k hk.2.1
 ·have:=hk.2.2
  rcases k with k|k|k<;>(rw [k] at this;cases this)
end
def Stop (s:ByteArray)(a:Nat):Prop:=s.size≤a∨bAt s a=41
def StopC (s:ByteArray)(a:Nat):Prop:=s.size≤a∨bAt s a=41∨bAt s a=124
def NoPost (s:ByteArray)(a:Nat):Prop:=bAt s a≠42∧bAt s a≠43∧bAt s a≠63
theorem StopC.post {s:ByteArray}{a:Nat}(h:StopC s a):NoPost s a:=by
 rcases h with h|h|h
 ·unfold NoPost;rw [iW h];decide
 ·unfold NoPost;rw [h];decide
 ·unfold NoPost;rw [h];decide
theorem qO {s:ByteArray}{a:Nat}(h:jD (bAt s a)=true):NoPost s a:=(mE h).2.2.2
def AltOk (s:ByteArray)(F f:Nat):Prop:=∀e,Can e→okS f e=true→∀p:PS,p.b=false→p.d+f≤9→Here s p.a (aV f e)→Stop s (p.a+(aV f e).size)→gP s F p=(e,p.go (aV f e).size)
theorem uT (p:PS)(m n:Nat):(p.go m).go n=p.go (m+n):=by unfold PS.go;simp only [Nat.add_assoc]
section
variable {s:ByteArray}{F:Nat}
theorem lR {g:Nat}{y:E}{p:PS}(hA:AltOk s F g)(hc:Can y)(ho:okS g y=true)(hb:p.b=false)(hd:p.d+1+g≤9)(hh:Here s p.a (⟨#[40]⟩++aV g y++⟨#[41]⟩)):dh s (gP s F) p=(y,p.go ((aV g y).size+2)):=by
 have q:=hh.app
 have q1:=q.1.app
 have e1:(ByteArray.mk #[40]).size=1:=rfl
 have e2:(ByteArray.mk #[41]).size=1:=rfl
 rw [bE,e1] at q
 rw [e1] at q1
 rw [qN hb (by have:=q1.1.1;omega)]
 have hg:0<g:=by cases g with
  | zero=>cases ho
  | succ g=>omega
 rw [show bAt s p.a=40 from q1.1.2 0 (by decide)]
 show dD s (gP s F) (p.go 1)=_
 unfold dD
 have h0:=fS g y ho
 have h41:bAt s (p.a+1)≠41:=by
  rw [q1.2.at0 h0.1]
  exact (mE h0.2).2.1
 rw [fT (show bAt s (p.go 1).a≠41 from h41)]
 simp only [Bool.false_eq_true,if_false]
 rw [if_neg (by show ¬8<p.d+1;omega)]
 have hr:=hA y hc ho ⟨p.a+1,p.d+1,p.b⟩ hb hd q1.2 (.inr (by have:=q.2.2 0 (by decide);rw [show p.a+(1+(aV g y).size)+0=p.a+1+(aV g y).size by omega] at this;exact this))
 have e3:gP s F ⟨(p.go 1).a,(p.go 1).d+1,(p.go 1).b⟩=(y,⟨p.a+1+(aV g y).size,p.d+1,p.b⟩):=hr
 rw [e3]
 simp only [Nat.add_sub_cancel]
 have h3:bAt s (p.a+1+(aV g y).size)=41:=by
  have:=q.2.2 0 (by decide)
  rw [show p.a+(1+(aV g y).size)+0=p.a+1+(aV g y).size by omega] at this
  exact this
 rw [g8 (p:=⟨p.a+1+(aV g y).size,p.d,p.b⟩) hb (by decide) h3,if_pos rfl]
 refine congrArg (y,·) ?_
 unfold PS.go
 congr 1
 simp only
 omega
theorem uU {e:E}{p q:PS}{atom:PS→E×PS}(h:atom p=(e,q))(hn:NoPost s q.a):ee s atom p=(e,q):=by
 unfold ee
 rw [h]
 simp only [fT hn.1,fT hn.2.1,fT hn.2.2,Bool.false_eq_true,if_false]
theorem nW {g:Nat}{e:E}{p:PS}(hA:∀g',g=g'+1→AltOk s F g')(hc:Can e)(ho:okS g e=true)(h4:e.rk≠4)(h5:e.rk≠5)(hb:p.b=false)(hd:p.d+g≤9)(hh:Here s p.a (aV g e))(hn:NoPost s (p.a+(aV g e).size)):ee s (dh s (gP s F)) p=(e,p.go (aV g e).size):=by
 by_cases hl:fy e.rk=true
 ·cases g with
  | zero=>cases ho
  | succ f =>
  obtain⟨hkk,hdd⟩:=iw ho
  have he:=hc.eta
  rcases du hdd with ⟨k,h1,h2,h3⟩|⟨k,h1,h3⟩|⟨k,h1,h3⟩|⟨k,h1,h2,h3⟩|⟨k,h1,x,h2,h3⟩
  ·rw [k] at hl;cases hl
  ·rw [k] at hl;cases hl
  ·rcases k with k|k|k|k<;>(rw [k] at hl;cases hl)
  ·rcases k with k|k<;>(rw [k] at hl;cases hl)
  ·have hx:=hkk x (by rw [h2];exact List.mem_cons_self)
   have hcx:=hc.kid (x:=x) (by rw [h2];exact List.mem_cons_self)
   rw [iv h1,h2] at he
   have unit:∀c:Nat,Here s p.a (iM (aV f) x++uN c)→dh s (gP s F) p=(x,p.go (iM (aV f) x).size):=by
    intro c hc2
    have q:=hc2.app.1
    unfold iM at q ⊢
    split at q
    ·rename_i hk
     rw [if_pos hk]
     rw [lR (hA f rfl) hcx hx.1 hb omq q]
     refine congrArg (fun n=>(x,p.go n)) ?_
     simp only [bE]
     show _=1+_+1
     omega
    ·rename_i hk
     rw [if_neg hk]
     exact nV hcx hx.1 ⟨fun h=>hk (.inl h),fun h=>hk (.inr h),h3⟩ hb q
   have fin:∀(c:Nat) (K:Int),c≠0→c<256→e=cU K ByteArray.empty [x]→aV (f+1) e=iM (aV f) x++uN c →
    (∀r:E×PS,r.2.b=false→bAt s r.2.a=c→(if isB s 42 r.2 then (cU 6 ByteArray.empty [r.1],r.2.go 1) else if isB s 43 r.2 then (cU 7 ByteArray.empty [r.1],r.2.go 1) else if isB s 63 r.2 then (cU 8 ByteArray.empty [r.1],r.2.go 1) else r)=(cU K ByteArray.empty [r.1],r.2.go 1))→ee s (dh s (gP s F)) p=(e,p.go (aV (f+1) e).size):=by
    intro c K hc0 hc256 he2 ht hsel
    rw [ht] at hh ⊢
    unfold ee
    rw [unit c hh]
    have hq:=hh.app.2.2 0 (show 0<1 by omega)
    have hcc:bAt (uN c) 0=c:=by
     show (UInt8.ofNat c).toNat=c
     rw [UInt8.toNat_ofNat'];exact Nat.mod_eq_of_lt hc256
    rw [hcc] at hq
    have:=hsel (x,p.go (iM (aV f) x).size) hb hq
    simp only at this ⊢
    rw [this,uT,←he2,bE]
    rfl
   rw [h2] at hkk
   rcases k with k|k|k
   ·rw [k] at he
    refine fin 42 6 (by decide) (by decide) he ?_ fun r hr1 hr2=>?_
    ·unfold aV;rw [k,h2];rfl
    ·rw [g8 hr1 (by decide) hr2];rfl
   ·rw [k] at he
    refine fin 43 7 (by decide) (by decide) he ?_ fun r hr1 hr2=>?_
    ·unfold aV;rw [k,h2];rfl
    ·rw [fT (by rw [hr2];decide),g8 hr1 (by decide) hr2];rfl
   ·rw [k] at he
    refine fin 63 8 (by decide) (by decide) he ?_ fun r hr1 hr2=>?_
    ·unfold aV;rw [k,h2];rfl
    ·rw [fT (by rw [hr2];decide),fT (by rw [hr2];decide),g8 hr1 (by decide) hr2];rfl
 ·exact uU (nV hc ho ⟨h4,h5,by simpa using hl⟩ hb hh) hn
theorem qP {g:Nat}{x:E}{p:PS}(hA:∀g',g'≤g→AltOk s F g')(hc:Can x)(ho:okS g x=true)(h4:x.rk≠4)(hb:p.b=false)(hd:p.d+1+g≤9)(hh:Here s p.a (brk (aV g) x))(hn:NoPost s (p.a+(brk (aV g) x).size)):ee s (dh s (gP s F)) p=(x,p.go (brk (aV g) x).size):=by
 unfold brk at hh hn ⊢
 split at hh
 ·rename_i hk
  rw [if_pos hk] at hn ⊢
  have e1:(ByteArray.mk #[40]++aV g x++ByteArray.mk #[41]).size=(aV g x).size+2:=by
   simp only [bE]
   show 1+_+1=_
   omega
  rw [e1] at hn ⊢
  exact uU (lR (hA g (Nat.le_refl _)) hc ho hb hd hh) hn
 ·rename_i hk
  rw [if_neg hk] at hn ⊢
  exact nW (fun g' e=>hA g' omq) hc ho h4 hk hb omq hh hn
theorem jp {g:Nat}(hA:∀g',g'≤g→AltOk s F g'):∀(r acc:List E) (n:Nat) (p:PS),r.length≤n→(∀x∈r,Can x∧okS g x=true∧x.rk≠4)→p.b=false→p.d+1+g≤9→Here s p.a (cX (aV g) ByteArray.empty r)→StopC s (p.a+(cX (aV g) ByteArray.empty r).size) →
 bY s (ee s (dh s (gP s F))) n acc p=(acc++r,p.go (cX (aV g) ByteArray.empty r).size)
 | [],acc,n,p,_,_,hb,_,_,hs=>by
  have e:p.go (cX (aV g) ByteArray.empty []).size=p:=rfl
  rw [e,List.append_nil]
  cases n with
  | zero=>rfl
  | succ n =>
   unfold bY
   have hg:goS s p=false:=by
    unfold goS
    rcases hs with h|h|h
    ·have h:s.size≤p.a:=h
     have:decide (p.a<s.size)=false:=by simpa using h
     simp [this]
    ·have h:bAt s p.a=41:=h
     simp [h]
    ·have h:bAt s p.a=124:=h
     simp [h]
   rw [hg];rfl
 | x :: r,acc,0,p,h,_,_,_,_,_=>by simp at h
 | x :: r,acc,n+1,p,hl,hr,hb,hd,hh,hs=>by
  obtain⟨hc,ho,h4⟩:=hr x List.mem_cons_self
  unfold cX at hh hs ⊢
  rw [iZ] at hh hs ⊢
  have q:=hh.app
  have h0:=mF (g:=aV g) (fS g x ho)
  have hne:=mE h0.2
  rw [←q.1.at0 h0.1] at hne
  unfold bY
  have hlt:p.a<s.size:=by have:=q.1.1;omega
  have hg:goS s p=true:=by
   unfold goS
   rw [hb]
   simp [hlt,hne.2.1,hne.2.2.1]
  rw [if_pos hg]
  have hn:NoPost s (p.a+(brk (aV g) x).size):=by
   cases r with
   | nil =>
    rw [bE] at hs
    exact StopC.post (by simpa [cX,iu] using hs)
   | cons y r' =>
    have hy:=mF (g:=aV g) (fS g y (hr y (by simp)).2.1)
    have q2:=q.2
    unfold cX at q2
    rw [iZ] at q2
    have:=q2.app.1.at0 hy.1
    refine qO ?_
    rw [this];exact hy.2
  rw [qP hA hc ho h4 hb hd q.1 hn]
  simp only
  rw [jp hA r (acc++[x]) n (p.go (brk (aV g) x).size) (by simpa using hl) (fun y hy=>hr y (List.mem_cons_of_mem _ hy)) hb hd q.2 (by rw [bE] at hs;rw [show p.a+((brk (aV g) x).size+(cX (aV g) ByteArray.empty r).size)=p.a+(brk (aV g) x).size+(cX (aV g) ByteArray.empty r).size by omega] at hs;exact hs)]
  rw [uT,bE,List.append_assoc]
  rfl
theorem mG {g:E→ByteArray}{b:ByteArray}:∀{r:List E},(∀x∈r,0<(g x).size)→r.length≤(cX g b r).size
 | [],_=>Nat.zero_le _
 | x :: r,h=>by
  have h1:=mG (b:=b) (r:=r) fun y hy=>h y (List.mem_cons_of_mem _ hy)
  have h2:0<(brk g x).size:=by
   unfold brk
   split
   ·simp only [bE];show 0<1+_+1;omega
   ·exact h x List.mem_cons_self
  unfold cX
  simp only [bE,List.length_cons]
  omega
theorem mH {g:Nat}{e:E}{p:PS}(hA:∀g',g'<g→AltOk s F g')(hc:Can e)(ho:okS g e=true)(h5:e.rk≠5)(hb:p.b=false)(hd:p.d+g≤9)(hh:Here s p.a (aV g e))(hs:StopC s (p.a+(aV g e).size)):oR s (ee s (dh s (gP s F))) p=(e,p.go (aV g e).size):=by
 cases g with
 | zero=>cases ho
 | succ f =>
 by_cases h4:e.rk=4
 ·obtain⟨hkk,hdd⟩:=iw ho
  have he:=hc.eta
  rcases du hdd with ⟨k,h1,h2,h3⟩|⟨k,h1,h3⟩|⟨k,h1,h3⟩|⟨k,h1,h2,h3⟩|⟨k,h1,x,h2,h3⟩
  ·rw [h4] at k;cases k
  ·rw [h4] at k;cases k
  ·rw [h4] at k;rcases k with k|k|k|k<;>cases k
  ·have ht:aV (f+1) e=eg (aV f) ByteArray.empty e.rl:=by unfold aV;rw [h4];rfl
   rw [ht] at hh hs ⊢
   have hkid:∀x∈e.rl,Can x∧okS f x=true∧x.rk≠4:=fun x hx=>⟨hc.kid hx,(hkk x hx).1,fun h=>by have:=(hkk x hx).2 (h.trans h4.symm);rw [h4] at this;cases this⟩
   match hl:e.rl,h2 with
   | x :: r,h2 =>
    rw [hl] at hh hs hkid
    obtain⟨hcx,hox,h4x⟩:=hkid x List.mem_cons_self
    unfold eg at hh hs ⊢
    have q:=hh.app
    have hlen:=mG (g:=aV f) (b:=ByteArray.empty) (r:=r) fun y hy=>(fS f y (hkid y (List.mem_cons_of_mem _ hy)).2.1).1
    have hn:NoPost s (p.a+(brk (aV f) x).size):=by
     cases r with
     | nil=>simp at h2
     | cons y r' =>
      have hy:=mF (g:=aV f) (fS f y (hkid y (by simp)).2.1)
      have q2:=q.2
      unfold cX at q2
      rw [iZ] at q2
      refine qO ?_
      rw [q2.app.1.at0 hy.1];exact hy.2
    unfold oR
    rw [qP (fun g' hg'=>hA g' omq) hcx hox h4x hb omq q.1 hn]
    simp only
    rw [jp (fun g' hg'=>hA g' omq) r [x] (s.size+1) (p.go (brk (aV f) x).size) (by have:=q.2.1;omega) (fun y hy=>hkid y (List.mem_cons_of_mem _ hy)) hb (by show p.d+1+f≤9;omega) q.2 (by rw [bE] at hs;show StopC s (p.a+(brk (aV f) x).size+(cX (aV f) ByteArray.empty r).size);rw [Nat.add_assoc];exact hs)]
    rw [uT,bE]
    refine congrArg (·,_) ?_
    rw [iv h1,hl,h4] at he
    rw [he]
    cases r with
    | nil=>simp at h2
    | cons y r'=>rfl
  ·rw [h4] at k;rcases k with k|k|k<;>cases k
 ·have hi:=nW (fun g' e=>hA g' omq) hc ho h4 h5 hb hd hh hs.post
  unfold oR
  rw [hi]
  simp only
  have hg:goS s (p.go (aV (f+1) e).size)=false:=by
   unfold goS
   rcases hs with h|h|h
   ·have h:s.size≤(p.go (aV (f+1) e).size).a:=h
    have:decide ((p.go (aV (f+1) e).size).a<s.size)=false:=by simpa using h
    simp [this]
   ·have h:bAt s (p.go (aV (f+1) e).size).a=41:=h
    simp [h]
   ·have h:bAt s (p.go (aV (f+1) e).size).a=124:=h
    simp [h]
  have:bY s (ee s (dh s (gP s F))) (s.size+1) [e] (p.go (aV (f+1) e).size)=([e],p.go (aV (f+1) e).size):=by
   unfold bY
   rw [hg];rfl
  rw [this]
  rfl
theorem jq {g:Nat}(hA:∀g',g'<g→AltOk s F g'):∀(r acc:List E) (n:Nat) (p:PS),r.length≤n→(∀x∈r,Can x∧okS g x=true∧x.rk≠5)→p.b=false→p.d+g≤9→Here s p.a (cX (aV g) ⟨#[124]⟩ r)→Stop s (p.a+(cX (aV g) ⟨#[124]⟩ r).size) →
 b9 s (oR s (ee s (dh s (gP s F)))) n acc p=(acc++r,p.go (cX (aV g) ⟨#[124]⟩ r).size)
 | [],acc,n,p,_,_,hb,_,_,hs=>by
  have e:p.go (cX (aV g) ⟨#[124]⟩ []).size=p:=rfl
  rw [e,List.append_nil]
  cases n with
  | zero=>rfl
  | succ n =>
   unfold b9
   have hg:isB s 124 p=false:=by
    refine fT ?_
    rcases hs with h|h
    ·have h:s.size≤p.a:=h
     rw [iW h];decide
    ·have h:bAt s p.a=41:=h
     rw [h];decide
   rw [hg];rfl
 | x :: r,acc,0,p,h,_,_,_,_,_=>by simp at h
 | x :: r,acc,n+1,p,hl,hr,hb,hd,hh,hs=>by
  obtain⟨hc,ho,h5⟩:=hr x List.mem_cons_self
  unfold cX at hh hs ⊢
  have hbx:brk (aV g) x=aV g x:=by unfold brk;rw [if_neg h5]
  rw [hbx] at hh hs ⊢
  have e1:(ByteArray.mk #[124]).size=1:=rfl
  have q:=hh.app
  have q2:=q.2.app
  rw [e1] at q2
  unfold b9
  rw [g8 hb (by decide) (show bAt s p.a=124 from q.1.2 0 (by decide)),if_pos rfl]
  have hn:StopC s (p.a+1+(aV g x).size):=by
   cases r with
   | nil =>
    simp only [bE,e1] at hs
    rcases hs with h|h
    ·exact .inl (by simpa [cX,iu,Nat.add_assoc] using h)
    ·exact .inr (.inl (by simpa [cX,iu,Nat.add_assoc] using h))
   | cons y r' =>
    have q3:=q2.2
    unfold cX at q3
    exact .inr (.inr (q3.app.1.2 0 (by decide)))
  rw [mH hA hc ho h5 (p:=p.go 1) hb hd q2.1 hn]
  simp only
  rw [jq hA r (acc++[x]) n ((p.go 1).go (aV g x).size) (by simpa using hl) (fun y hy=>hr y (List.mem_cons_of_mem _ hy)) hb hd q2.2 (by simp only [bE,e1] at hs;show Stop s (p.a+1+(aV g x).size+(cX (aV g) ⟨#[124]⟩ r).size);rw [show p.a+1+(aV g x).size+(cX (aV g) ⟨#[124]⟩ r).size=p.a+(1+((aV g x).size+(cX (aV g) ⟨#[124]⟩ r).size)) by omega];exact hs)]
  simp only [uT,bE,e1,List.append_assoc]
  rw [show 1+((aV g x).size+(cX (aV g) ⟨#[124]⟩ r).size)=1+(aV g x).size+(cX (aV g) ⟨#[124]⟩ r).size by omega]
  rfl
end
theorem xz (s:ByteArray)(F:Nat):∀f,f≤F→AltOk s F f:=by
 induction F with
 | zero =>
  intro f hf e _ ho
  obtain rfl:f=0:=by omega
  cases ho
 | succ F ih =>
  intro f hf e hc ho p hb hd hh hs
  have hA:∀g',g'<f→AltOk s F g':=fun g' hg=>ih g' omq
  cases f with
  | zero=>cases ho
  | succ f =>
  show xw s (oR s (ee s (dh s (gP s F)))) p=_
  by_cases h5:e.rk=5
  ·obtain⟨hkk,hdd⟩:=iw ho
   have he:=hc.eta
   rcases du hdd with ⟨k,h1,h2,h3⟩|⟨k,h1,h3⟩|⟨k,h1,h3⟩|⟨k,h1,h2,h3⟩|⟨k,h1,x,h2,h3⟩
   ·rw [h5] at k;cases k
   ·rw [h5] at k;cases k
   ·rw [h5] at k;rcases k with k|k|k|k<;>cases k
   ·have ht:aV (f+1) e=eg (aV f) ⟨#[124]⟩ e.rl:=by unfold aV;rw [h5];rfl
    rw [ht] at hh hs ⊢
    have hkid:∀x∈e.rl,Can x∧okS f x=true∧x.rk≠5:=fun x hx=>⟨hc.kid hx,(hkk x hx).1,fun h=>by have:=(hkk x hx).2 (h.trans h5.symm);rw [h5] at this;cases this⟩
    match hl:e.rl,h2 with
    | x :: r,h2 =>
     rw [hl] at hh hs hkid
     obtain⟨hcx,hox,h5x⟩:=hkid x List.mem_cons_self
     have hbx:brk (aV f) x=aV f x:=by unfold brk;rw [if_neg h5x]
     have hj:eg (aV f) ⟨#[124]⟩ (x :: r)=aV f x++cX (aV f) ⟨#[124]⟩ r:=by rw [←hbx];rfl
     rw [hj] at hh hs ⊢
     have q:=hh.app
     have hlen:=mG (g:=aV f) (b:=⟨#[124]⟩) (r:=r) fun y hy=>(fS f y (hkid y (List.mem_cons_of_mem _ hy)).2.1).1
     have hn:StopC s (p.a+(aV f x).size):=by
      cases r with
      | nil=>simp at h2
      | cons y r' =>
       have q3:=q.2
       unfold cX at q3
       exact .inr (.inr (q3.app.1.2 0 (by decide)))
     unfold xw
     rw [mH (fun g' hg'=>hA g' omq) hcx hox h5x hb omq q.1 hn]
     simp only
     rw [jq (fun g' hg'=>hA g' omq) r [x] (s.size+1) (p.go (aV f x).size) (by have:=q.2.1;omega) (fun y hy=>hkid y (List.mem_cons_of_mem _ hy)) hb (by show p.d+f≤9;omega) q.2 (by rw [bE] at hs;show Stop s (p.a+(aV f x).size+(cX (aV f) ⟨#[124]⟩ r).size);rw [Nat.add_assoc];exact hs)]
     rw [uT,bE]
     refine congrArg (·,_) ?_
     rw [iv h1,hl,h5] at he
     rw [he]
     cases r with
     | nil=>simp at h2
     | cons y r'=>rfl
   ·rw [h5] at k;rcases k with k|k|k<;>cases k
  ·have hcc:=mH hA hc ho h5 hb hd hh (hs.elim .inl fun h=>.inr (.inl h))
   unfold xw
   rw [hcc]
   simp only
   have:b9 s (oR s (ee s (dh s (gP s F)))) (s.size+1) [e] (p.go (aV (f+1) e).size)=([e],p.go (aV (f+1) e).size):=by
    unfold b9
    rw [fT]
    ·rfl
    ·rcases hs with h|h
     ·have h:s.size≤(p.go (aV (f+1) e).size).a:=h
      rw [iW h];decide
     ·have h:bAt s (p.go (aV (f+1) e).size).a=41:=h
      rw [h];decide
   rw [this]
   rfl
end Go.Proofs.YtmnneflenebgmaaGreat
