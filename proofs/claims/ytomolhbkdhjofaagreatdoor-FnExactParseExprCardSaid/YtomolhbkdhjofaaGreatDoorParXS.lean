/- T -/
import Derived.Test.YtomolhbkdhjofaaGreatDoorParXR
set_option maxHeartbeats 0
set_option maxRecDepth 100000
namespace Go.Proofs.YtomolhbkdhjofaaGreatDoor
open Go.RowKit Go.Proofs.Tryz
def brk (g:E→ByteArray)(x:E):ByteArray:=if x.rk=5 then ⟨#[40]⟩++g x++⟨#[41]⟩ else g x
def iv (g:E→ByteArray)(x:E):ByteArray:=if x.rk=4∨x.rk=5 then ⟨#[40]⟩++g x++⟨#[41]⟩ else g x
def da (g:E→ByteArray)(by_:ByteArray):List E→ByteArray
 | []=>ByteArray.empty
 | y :: r=>by_++(brk g y++da g by_ r)
def d6 (g:E→ByteArray)(by_:ByteArray):List E→ByteArray
 | []=>ByteArray.empty
 | x :: r=>brk g x++da g by_ r
def aP:Nat→E→ByteArray
 | 0,_=>ByteArray.empty
 | f+1,e =>
  if e.rk=1 then e.rs
  else if e.rk=2 then ⟨#[46]⟩
  else if e.rk=3 then ⟨#[91]⟩++e.rs++⟨#[93]⟩
  else if e.rk=4 then d6 (aP f) ByteArray.empty e.rl
  else if e.rk=5 then d6 (aP f) ⟨#[124]⟩ e.rl
  else if e.rk=6 then iv (aP f) (e.rl.headD cZ)++⟨#[42]⟩
  else if e.rk=7 then iv (aP f) (e.rl.headD cZ)++⟨#[43]⟩
  else if e.rk=8 then iv (aP f) (e.rl.headD cZ)++⟨#[63]⟩
  else if e.rk=10 then ⟨#[94]⟩
  else if e.rk=11 then ⟨#[36]⟩
  else ⟨#[40,41]⟩
theorem dq {k:Int}{s:ByteArray}{l:List E}(h:fu k s l=true) :
 (k=1∧s.size=1∧ls (bAt s 0)=true∧l=[])∨(k=3∧gE s=true∧l=[])∨((k=2∨k=9∨k=10∨k=11)∧s.size=0∧l=[]) ∨
 ((k=4∨k=5)∧s.size=0∧2≤l.length∧l.length≤8)∨((k=6∨k=7∨k=8)∧s.size=0∧∃x,l=[x]∧gc x.rk=false):=by
 have nil:(l.length==0)=true→l=[]:=fun h=>List.length_eq_zero_iff.1 (eq_of_beq h)
 unfold fu at h
 split at h
 ·rename_i k1
  simp only [Bool.and_eq_true] at h
  exact .inl ⟨k1,eq_of_beq h.1.1,h.1.2,nil h.2⟩
 split at h
 ·rename_i _ k1
  simp only [Bool.and_eq_true] at h
  exact .inr (.inl ⟨k1,h.1,nil h.2⟩)
 split at h
 ·rename_i _ _ k1
  simp only [Bool.and_eq_true] at h
  exact .inr (.inr (.inl ⟨k1,eq_of_beq h.1,nil h.2⟩))
 split at h
 ·rename_i _ _ _ k1
  simp only [Bool.and_eq_true,decide_eq_true_iff] at h
  exact .inr (.inr (.inr (.inl ⟨k1,eq_of_beq h.1,h.2.1,h.2.2⟩)))
 split at h
 ·rename_i _ _ _ _ k1
  simp only [Bool.and_eq_true] at h
  refine .inr (.inr (.inr (.inr ⟨k1,eq_of_beq h.1.1,?_⟩)))
  have hl:=eq_of_beq h.1.2
  match l,hl,h.2 with
  | [x],_,h2=>exact⟨x,rfl,by simpa using h2⟩
 ·cases h
theorem iK {a b:ByteArray}{j:Nat}:bAt (a++b) j=if j<a.size then bAt a j else bAt b (j-a.size):=by
 unfold bAt
 have h1:(a++b).data=a.data++b.data:=ByteArray.data_append
 rw [h1,Array.getElem?_append]
 have:a.data.size=a.size:=rfl
 rw [this]
 split<;>rfl
theorem bF (a b:ByteArray):(a++b).size=a.size+b.size:=by
 show (a++b).data.size=a.data.size+b.data.size
 rw [ByteArray.data_append,Array.size_append]
theorem jd:ByteArray.empty.size=0:=rfl
theorem jG (a:ByteArray):ByteArray.empty++a=a:=by
 apply ByteArray.ext;rw [ByteArray.data_append];exact Array.empty_append
theorem qD (a:ByteArray):a++ByteArray.empty=a:=by
 apply ByteArray.ext;rw [ByteArray.data_append];exact Array.append_empty
theorem gS (a b c:ByteArray):a++b++c=a++(b++c):=by
 apply ByteArray.ext;simp only [ByteArray.data_append,Array.append_assoc]
theorem lz {a b:ByteArray}(h:a.size=b.size)(h2:∀j,j<a.size→bAt a j=bAt b j):a=b:=by
 apply ByteArray.ext
 refine Array.ext h fun i hi hi'=>?_
 have:=h2 i hi
 unfold bAt at this
 rw [Array.getElem?_eq_getElem hi,Array.getElem?_eq_getElem hi'] at this
 exact UInt8.toNat_inj.1 this
theorem je {s:ByteArray}(h:s.size=0):s=ByteArray.empty:=lz h fun j hj=>by omega
theorem zi4 {s:ByteArray}(h:s.size=1):wl (bAt s 0)=s:=by
 refine lz (by rw [h];rfl) fun j hj=>?_
 have hj:j<1:=hj
 obtain rfl:j=0:=by omega
 unfold wl
 show (UInt8.ofNat (bAt s 0)).toNat=bAt s 0
 rw [UInt8.toNat_ofNat']
 exact Nat.mod_eq_of_lt (cI s 0)
def Here (s:ByteArray)(p:Nat)(t:ByteArray):Prop:=p+t.size≤s.size∧∀j,j<t.size→bAt s (p+j)=bAt t j
theorem Here.app {s a b:ByteArray}{p:Nat}(h:Here s p (a++b)):Here s p a∧Here s (p+a.size) b:=by
 obtain⟨h1,h2⟩:=h
 rw [bF] at h1 h2
 refine⟨⟨omq,fun j hj=>?_⟩,⟨omq,fun j hj=>?_⟩⟩
 ·rw [h2 j omq,iK,if_pos hj]
 ·have:=h2 (a.size+j) omq
  rw [iK,if_neg omq,Nat.add_sub_cancel_left] at this
  rw [Nat.add_assoc];exact this
theorem Here.at0 {s t:ByteArray}{p:Nat}(h:Here s p t)(ht:0<t.size):bAt s p=bAt t 0:=h.2 0 ht
theorem Here.cut {s t:ByteArray}{p:Nat}(h:Here s p t):bk s p (p+t.size)=t:=by
 refine lz (by rw [bO omq h.1];omega) fun j hj=>?_
 rw [bO omq h.1] at hj
 rw [dB h.1 omq,h.2 j omq]
def ko (c:Nat):Bool:=ls c||c==46||c==91||c==40||c==94||c==36
theorem nN {c:Nat}(h:ko c=true):c≠0∧c≠41∧c≠124∧c≠42∧c≠43∧c≠63:=by
 refine⟨?_,?_,?_,?_,?_,?_⟩<;>(rintro rfl;cases h)
theorem nO {g:E→ByteArray}{x:E}(h:0<(g x).size∧ko (bAt (g x) 0)=true):0<(brk g x).size∧ko (bAt (brk g x) 0)=true:=by
 unfold brk
 split
 ·refine⟨by simp only [bF];show 0<1+_+1;omega,?_⟩
  rw [gS,iK]
  rfl
 ·exact h
theorem zc {g:E→ByteArray}{x:E}(h:0<(g x).size∧ko (bAt (g x) 0)=true):0<(iv g x).size∧ko (bAt (iv g x) 0)=true:=by
 unfold iv
 split
 ·refine⟨by simp only [bF];show 0<1+_+1;omega,?_⟩
  rw [gS,iK]
  rfl
 ·exact h
theorem wn {g:E→ByteArray}{b:ByteArray}{x:E}{r:List E}(h:0<(g x).size∧ko (bAt (g x) 0)=true):0<(d6 g b (x :: r)).size∧ko (bAt (d6 g b (x :: r)) 0)=true:=by
 obtain⟨h1,h2⟩:=nO h
 unfold d6
 refine⟨by rw [bF];omega,?_⟩
 rw [iK,if_pos h1];exact h2
theorem wo {a b:ByteArray}(h:0<a.size∧ko (bAt a 0)=true):0<(a++b).size∧ko (bAt (a++b) 0)=true:=by
 refine⟨by rw [bF];omega,?_⟩
 rw [iK,if_pos h.1];exact h.2
theorem jf {f:Nat}{e:E}(h:okS (f+1) e=true):(∀x∈e.rl,okS f x=true∧(x.rk=e.rk→gc e.rk=true))∧fu e.rk e.rs e.rl=true:=by
 unfold okS at h
 rw [Bool.and_eq_true] at h
 refine⟨fun x hx=>?_,h.2⟩
 have:=List.all_eq_true.1 h.1 x hx
 rw [Bool.and_eq_true] at this
 refine⟨this.1,fun hk=>?_⟩
 have h2:=this.2
 rw [hk] at h2
 simpa using h2
theorem gq (f:Nat):∀e,okS f e=true→0<(aP f e).size∧ko (bAt (aP f e) 0)=true:=by
 induction f with
 | zero=>intro e h;cases h
 | succ f ih =>
  intro e h
  obtain⟨hk,hh⟩:=jf h
  unfold aP
  rcases dq hh with ⟨k,h1,h2,h3⟩|⟨k,h1,h3⟩|⟨k,h1,h3⟩|⟨k,h1,h2,h3⟩|⟨k,h1,x,h2,h3⟩
  ·rw [if_pos k]
   refine⟨omq,?_⟩
   unfold ko
   rw [h2];rfl
  ·rw [k]
   simp only [Int.reduceEq,if_false,if_true]
   rw [gS]
   exact wo ⟨by decide,rfl⟩
  ·rcases k with k|k|k|k<;>(rw [k];exact⟨Nat.zero_lt_succ _,rfl⟩)
  ·obtain⟨x,r,hl⟩:∃x r,e.rl=x :: r:=by
    match hq:e.rl,h2 with
    | x :: r,_=>exact⟨x,r,rfl⟩
   have hx:=ih x (hk x (by rw [hl];exact List.mem_cons_self)).1
   rw [hl]
   rcases k with k|k<;>(rw [k];exact wn hx)
  ·have hx:=zc (ih x (hk x (by rw [h2];exact List.mem_cons_self)).1)
   rw [h2]
   rcases k with k|k|k<;>(rw [k];exact wo hx)
inductive Can:E→Prop
 | mk (k:Int) (s:ByteArray) (l:List E) (h:∀x∈l,Can x):Can (cY k s l)
theorem Can.eta {e:E}(h:Can e):e=cY e.rk e.rs e.rl:=by cases h;rfl
theorem Can.kid {e x:E}(h:Can e)(hx:x∈e.rl):Can x:=by cases h with|mk k s l h=>exact h x hx
theorem wq {s:ByteArray}{c:Nat}:∀(n a f:Nat),n≤f→(∀j,j<n→a+j<s.size∧bAt s (a+j)≠c)→(s.size≤a+n∨bAt s (a+n)=c)→ep s c f a=a+n
 | 0,a,0,_,_,_=>rfl
 | 0,a,f+1,_,_,h2=>by
  unfold ep
  rw [if_neg];·rfl
  rintro ⟨h3,h4⟩
  rcases h2 with h2|h2
  ·omega
  ·exact h4 h2
 | n+1,a,0,h,_,_=>by omega
 | n+1,a,f+1,h,h1,h2=>by
  unfold ep
  rw [if_pos (by simpa using h1 0 omq)]
  rw [wq n (a+1) f omq (fun j hj=>by have:=h1 (j+1) omq;rw [show a+1+j=a+(j+1) by omega];exact this) (by rw [show a+1+n=a+(n+1) by omega];exact h2)]
  omega
theorem wu {s:ByteArray}(h:gE s=true):∀j,j<s.size→ls (bAt s j)=true:=by
 intro j hj
 unfold gE at h
 rw [Bool.and_eq_true] at h
 have:=List.all_eq_true.1 h.1 j (List.mem_range.2 hj)
 unfold eB at this
 rw [Bool.and_eq_true] at this
 exact this.1
section
variable {s:ByteArray}{alt:PS→E×PS}
theorem se {p:PS}(hb:p.b=false)(hp:p.a<s.size):dt s alt p=eE s alt (bAt s p.a) (p.go 1):=by
 unfold dt
 rw [if_neg]
 rintro (h|h)
 ·rw [hb] at h;cases h
 ·omega
theorem iL {p:PS}{c:Nat}(hb:p.b=false)(hc:c≠0)(h:bAt s p.a=c):isB s c p=true:=by
 rw [lx hc hb,h];simp
theorem gt {p:PS}{c:Nat}(h:bAt s p.a≠c):isB s c p=false:=by
 unfold isB
 have:(bAt s p.a==c)=false:=by simpa using h
 rw [this,Bool.and_false]
theorem o8 {g:Nat}{e:E}{p:PS}(hc:Can e)(ho:okS g e=true)(hk:e.rk≠4∧e.rk≠5∧gc e.rk=false)(hb:p.b=false)(hh:Here s p.a (aP g e)):dt s alt p=(e,p.go (aP g e).size):=by
 have h0:=gq g e ho
 rw [se hb (by have:=hh.1;omega)]
 cases g with
 | zero=>cases ho
 | succ f =>
 obtain⟨_,hd⟩:=jf ho
 rw [hh.at0 h0.1]
 clear h0
 have he:=hc.eta
 rcases dq hd with ⟨k,h1,h2,h3⟩|⟨k,h1,h3⟩|⟨k,h1,h3⟩|⟨k,h1,h2,h3⟩|⟨k,h1,x,h2,h3⟩
 ·have ht:aP (f+1) e=e.rs:=by unfold aP;rw [if_pos k]
  rw [ht,jE h2,zi4 h1,h1]
  rw [k,h3] at he
  exact congrArg (·,p.go 1) he.symm
 ·have ht:aP (f+1) e=⟨#[91]⟩++e.rs++⟨#[93]⟩:=by unfold aP;rw [k];rfl
  rw [ht] at hh ⊢
  have q:=hh.app
  have q1:=q.1.app
  have hu:ep s 93 s.size (p.a+1)=p.a+1+e.rs.size:=by
   refine wq _ _ _ ?_ (fun j hj=>⟨?_,?_⟩) (.inr ?_)
   ·have:=q1.2.1;have e1:(ByteArray.mk #[91]).size=1:=rfl;omega
   ·have:=q1.2.1;have e1:(ByteArray.mk #[91]).size=1:=rfl;omega
   ·rw [show bAt s (p.a+1+j)=bAt e.rs j from q1.2.2 j hj]
    have:=zp1 (wu h1 j hj)
    intro e9
    have h9:=wu h1 j hj
    rw [e9] at h9
    cases h9
   ·have:=q.2.2 0 (by decide)
    rw [bF,show p.a+((ByteArray.mk #[91]).size+e.rs.size)+0=p.a+1+e.rs.size by show p.a+(1+e.rs.size)+0=_;omega] at this
    exact this
  rw [gS,iK]
  show eE s alt 91 (p.go 1)=_
  rw [mN]
  show (if isB s 93 ⟨ep s 93 s.size (p.a+1),p.d,p.b⟩=true then (cY 3 (bk s (p.a+1) (ep s 93 s.size (p.a+1))) [],(⟨ep s 93 s.size (p.a+1)+1,p.d,p.b⟩:PS)) else _)=_
  have h93:bAt s (p.a+1+e.rs.size)=93:=by
   have:=q.2.2 0 (by decide)
   rw [bF,show p.a+((ByteArray.mk #[91]).size+e.rs.size)+0=p.a+1+e.rs.size by show p.a+(1+e.rs.size)+0=_;omega] at this
   exact this
  rw [hu,iL (p:=⟨p.a+1+e.rs.size,p.d,p.b⟩) hb (by decide) h93]
  ·rw [if_pos rfl,show bk s (p.a+1) (p.a+1+e.rs.size)=e.rs from q1.2.cut]
   rw [k,h3] at he
   rw [←he]
   refine congrArg (e,·) ?_
   unfold PS.go
   have e1:(ByteArray.mk #[91]).size=1:=rfl
   have e2:(ByteArray.mk #[93]).size=1:=rfl
   simp only [bF,e1,e2]
   congr 1
   omega
 ·have hs:=je h1
  rw [hs,h3] at he
  rcases k with k|k|k|k
  ·have ht:aP (f+1) e=⟨#[46]⟩:=by unfold aP;rw [k];rfl
   rw [k] at he
   rw [ht];exact congrArg (·,p.go 1) he.symm
  ·have ht:aP (f+1) e=⟨#[40,41]⟩:=by unfold aP;rw [k];rfl
   rw [k] at he
   rw [ht] at hh ⊢
   show dN s alt (p.go 1)=_
   unfold dN
   rw [iL (p:=p.go 1) hb (by decide) (show bAt s (p.a+1)=41 from hh.2 1 (by decide))]
   rw [if_pos rfl];exact congrArg (·,p.go 2) he.symm
  ·have ht:aP (f+1) e=⟨#[94]⟩:=by unfold aP;rw [k];rfl
   rw [k] at he
   rw [ht];exact congrArg (·,p.go 1) he.symm
  ·have ht:aP (f+1) e=⟨#[36]⟩:=by unfold aP;rw [k];rfl
   rw [k] at he
   rw [ht];exact congrArg (·,p.go 1) he.symm
 ·rcases k with k|k
  ·exact absurd k hk.1
  ·exact absurd k hk.2.1
 ·have:=hk.2.2
  rcases k with k|k|k<;>(rw [k] at this;cases this)
end
def Stop (s:ByteArray)(a:Nat):Prop:=s.size≤a∨bAt s a=41
def StopC (s:ByteArray)(a:Nat):Prop:=s.size≤a∨bAt s a=41∨bAt s a=124
def NoPost (s:ByteArray)(a:Nat):Prop:=bAt s a≠42∧bAt s a≠43∧bAt s a≠63
theorem StopC.post {s:ByteArray}{a:Nat}(h:StopC s a):NoPost s a:=by
 rcases h with h|h|h
 ·unfold NoPost;rw [jD h];decide
 ·unfold NoPost;rw [h];decide
 ·unfold NoPost;rw [h];decide
theorem sf {s:ByteArray}{a:Nat}(h:ko (bAt s a)=true):NoPost s a:=(nN h).2.2.2
def AltOk (s:ByteArray)(F f:Nat):Prop:=∀e,Can e→okS f e=true→∀p:PS,p.b=false→p.d+f≤9→Here s p.a (aP f e)→Stop s (p.a+(aP f e).size)→iu s F p=(e,p.go (aP f e).size)
theorem wv (p:PS)(m n:Nat):(p.go m).go n=p.go (m+n):=by unfold PS.go;simp only [Nat.add_assoc]
section
variable {s:ByteArray}{F:Nat}
theorem mO {g:Nat}{y:E}{p:PS}(hA:AltOk s F g)(hc:Can y)(ho:okS g y=true)(hb:p.b=false)(hd:p.d+1+g≤9)(hh:Here s p.a (⟨#[40]⟩++aP g y++⟨#[41]⟩)):dt s (iu s F) p=(y,p.go ((aP g y).size+2)):=by
 have q:=hh.app
 have q1:=q.1.app
 have e1:(ByteArray.mk #[40]).size=1:=rfl
 have e2:(ByteArray.mk #[41]).size=1:=rfl
 rw [bF,e1] at q
 rw [e1] at q1
 rw [se hb (by have:=q1.1.1;omega)]
 have hg:0<g:=by cases g with
  | zero=>cases ho
  | succ g=>omega
 rw [show bAt s p.a=40 from q1.1.2 0 (by decide)]
 show dN s (iu s F) (p.go 1)=_
 unfold dN
 have h0:=gq g y ho
 have h41:bAt s (p.a+1)≠41:=by
  rw [q1.2.at0 h0.1]
  exact (nN h0.2).2.1
 rw [gt (show bAt s (p.go 1).a≠41 from h41)]
 simp only [Bool.false_eq_true,if_false]
 rw [if_neg (by show ¬8<p.d+1;omega)]
 have hr:=hA y hc ho ⟨p.a+1,p.d+1,p.b⟩ hb hd q1.2 (.inr (by have:=q.2.2 0 (by decide);rw [show p.a+(1+(aP g y).size)+0=p.a+1+(aP g y).size by omega] at this;exact this))
 have e3:iu s F ⟨(p.go 1).a,(p.go 1).d+1,(p.go 1).b⟩=(y,⟨p.a+1+(aP g y).size,p.d+1,p.b⟩):=hr
 rw [e3]
 simp only [Nat.add_sub_cancel]
 have h3:bAt s (p.a+1+(aP g y).size)=41:=by
  have:=q.2.2 0 (by decide)
  rw [show p.a+(1+(aP g y).size)+0=p.a+1+(aP g y).size by omega] at this
  exact this
 rw [iL (p:=⟨p.a+1+(aP g y).size,p.d,p.b⟩) hb (by decide) h3,if_pos rfl]
 refine congrArg (y,·) ?_
 unfold PS.go
 congr 1
 simp only
 omega
theorem ww {e:E}{p q:PS}{atom:PS→E×PS}(h:atom p=(e,q))(hn:NoPost s q.a):eH s atom p=(e,q):=by
 unfold eH
 rw [h]
 simp only [gt hn.1,gt hn.2.1,gt hn.2.2,Bool.false_eq_true,if_false]
theorem o9 {g:Nat}{e:E}{p:PS}(hA:∀g',g=g'+1→AltOk s F g')(hc:Can e)(ho:okS g e=true)(h4:e.rk≠4)(h5:e.rk≠5)(hb:p.b=false)(hd:p.d+g≤9)(hh:Here s p.a (aP g e))(hn:NoPost s (p.a+(aP g e).size)):eH s (dt s (iu s F)) p=(e,p.go (aP g e).size):=by
 by_cases hl:gc e.rk=true
 ·cases g with
  | zero=>cases ho
  | succ f =>
  obtain⟨hkk,hdd⟩:=jf ho
  have he:=hc.eta
  rcases dq hdd with ⟨k,h1,h2,h3⟩|⟨k,h1,h3⟩|⟨k,h1,h3⟩|⟨k,h1,h2,h3⟩|⟨k,h1,x,h2,h3⟩
  ·rw [k] at hl;cases hl
  ·rw [k] at hl;cases hl
  ·rcases k with k|k|k|k<;>(rw [k] at hl;cases hl)
  ·rcases k with k|k<;>(rw [k] at hl;cases hl)
  ·have hx:=hkk x (by rw [h2];exact List.mem_cons_self)
   have hcx:=hc.kid (x:=x) (by rw [h2];exact List.mem_cons_self)
   rw [je h1,h2] at he
   have unit:∀c:Nat,Here s p.a (iv (aP f) x++wl c)→dt s (iu s F) p=(x,p.go (iv (aP f) x).size):=by
    intro c hc2
    have q:=hc2.app.1
    unfold iv at q ⊢
    split at q
    ·rename_i hk
     rw [if_pos hk]
     rw [mO (hA f rfl) hcx hx.1 hb omq q]
     refine congrArg (fun n=>(x,p.go n)) ?_
     simp only [bF]
     show _=1+_+1
     omega
    ·rename_i hk
     rw [if_neg hk]
     exact o8 hcx hx.1 ⟨fun h=>hk (.inl h),fun h=>hk (.inr h),h3⟩ hb q
   have fin:∀(c:Nat) (K:Int),c≠0→c<256→e=cY K ByteArray.empty [x]→aP (f+1) e=iv (aP f) x++wl c →
    (∀r:E×PS,r.2.b=false→bAt s r.2.a=c→(if isB s 42 r.2 then (cY 6 ByteArray.empty [r.1],r.2.go 1) else if isB s 43 r.2 then (cY 7 ByteArray.empty [r.1],r.2.go 1) else if isB s 63 r.2 then (cY 8 ByteArray.empty [r.1],r.2.go 1) else r)=(cY K ByteArray.empty [r.1],r.2.go 1))→eH s (dt s (iu s F)) p=(e,p.go (aP (f+1) e).size):=by
    intro c K hc0 hc256 he2 ht hsel
    rw [ht] at hh ⊢
    unfold eH
    rw [unit c hh]
    have hq:=hh.app.2.2 0 (show 0<1 by omega)
    have hcc:bAt (wl c) 0=c:=by
     show (UInt8.ofNat c).toNat=c
     rw [UInt8.toNat_ofNat'];exact Nat.mod_eq_of_lt hc256
    rw [hcc] at hq
    have:=hsel (x,p.go (iv (aP f) x).size) hb hq
    simp only at this ⊢
    rw [this,wv,←he2,bF]
    rfl
   rw [h2] at hkk
   rcases k with k|k|k
   ·rw [k] at he
    refine fin 42 6 (by decide) (by decide) he ?_ fun r hr1 hr2=>?_
    ·unfold aP;rw [k,h2];rfl
    ·rw [iL hr1 (by decide) hr2];rfl
   ·rw [k] at he
    refine fin 43 7 (by decide) (by decide) he ?_ fun r hr1 hr2=>?_
    ·unfold aP;rw [k,h2];rfl
    ·rw [gt (by rw [hr2];decide),iL hr1 (by decide) hr2];rfl
   ·rw [k] at he
    refine fin 63 8 (by decide) (by decide) he ?_ fun r hr1 hr2=>?_
    ·unfold aP;rw [k,h2];rfl
    ·rw [gt (by rw [hr2];decide),gt (by rw [hr2];decide),iL hr1 (by decide) hr2];rfl
 ·exact ww (o8 hc ho ⟨h4,h5,by simpa using hl⟩ hb hh) hn
theorem sg {g:Nat}{x:E}{p:PS}(hA:∀g',g'≤g→AltOk s F g')(hc:Can x)(ho:okS g x=true)(h4:x.rk≠4)(hb:p.b=false)(hd:p.d+1+g≤9)(hh:Here s p.a (brk (aP g) x))(hn:NoPost s (p.a+(brk (aP g) x).size)):eH s (dt s (iu s F)) p=(x,p.go (brk (aP g) x).size):=by
 unfold brk at hh hn ⊢
 split at hh
 ·rename_i hk
  rw [if_pos hk] at hn ⊢
  have e1:(ByteArray.mk #[40]++aP g x++ByteArray.mk #[41]).size=(aP g x).size+2:=by
   simp only [bF]
   show 1+_+1=_
   omega
  rw [e1] at hn ⊢
  exact ww (mO (hA g (Nat.le_refl _)) hc ho hb hd hh) hn
 ·rename_i hk
  rw [if_neg hk] at hn ⊢
  exact o9 (fun g' e=>hA g' omq) hc ho h4 hk hb omq hh hn
theorem j6 {g:Nat}(hA:∀g',g'≤g→AltOk s F g'):∀(r acc:List E) (n:Nat) (p:PS),r.length≤n→(∀x∈r,Can x∧okS g x=true∧x.rk≠4)→p.b=false→p.d+1+g≤9→Here s p.a (da (aP g) ByteArray.empty r)→StopC s (p.a+(da (aP g) ByteArray.empty r).size) →
 bW s (eH s (dt s (iu s F))) n acc p=(acc++r,p.go (da (aP g) ByteArray.empty r).size)
 | [],acc,n,p,_,_,hb,_,_,hs=>by
  have e:p.go (da (aP g) ByteArray.empty []).size=p:=rfl
  rw [e,List.append_nil]
  cases n with
  | zero=>rfl
  | succ n =>
   unfold bW
   have hg:goS s p=false:=by
    unfold goS
    rcases hs with h|h|h
    ·have h:s.size≤p.a:=h
     have:decide (p.a<s.size)=false:=by simpa using h
     simp [this]
    ·have h:bAt s p.a=41:=h
     simp [h]
    ·have h:bAt s p.a=124:=h
     simp [h]
   rw [hg];rfl
 | x :: r,acc,0,p,h,_,_,_,_,_=>by simp at h
 | x :: r,acc,n+1,p,hl,hr,hb,hd,hh,hs=>by
  obtain⟨hc,ho,h4⟩:=hr x List.mem_cons_self
  unfold da at hh hs ⊢
  rw [jG] at hh hs ⊢
  have q:=hh.app
  have h0:=nO (g:=aP g) (gq g x ho)
  have hne:=nN h0.2
  rw [←q.1.at0 h0.1] at hne
  unfold bW
  have hlt:p.a<s.size:=by have:=q.1.1;omega
  have hg:goS s p=true:=by
   unfold goS
   rw [hb]
   simp [hlt,hne.2.1,hne.2.2.1]
  rw [if_pos hg]
  have hn:NoPost s (p.a+(brk (aP g) x).size):=by
   cases r with
   | nil =>
    rw [bF] at hs
    exact StopC.post (by simpa [da,jd] using hs)
   | cons y r' =>
    have hy:=nO (g:=aP g) (gq g y (hr y (by simp)).2.1)
    have q2:=q.2
    unfold da at q2
    rw [jG] at q2
    have:=q2.app.1.at0 hy.1
    refine sf ?_
    rw [this];exact hy.2
  rw [sg hA hc ho h4 hb hd q.1 hn]
  simp only
  rw [j6 hA r (acc++[x]) n (p.go (brk (aP g) x).size) (by simpa using hl) (fun y hy=>hr y (List.mem_cons_of_mem _ hy)) hb hd q.2 (by rw [bF] at hs;rw [show p.a+((brk (aP g) x).size+(da (aP g) ByteArray.empty r).size)=p.a+(brk (aP g) x).size+(da (aP g) ByteArray.empty r).size by omega] at hs;exact hs)]
  rw [wv,bF,List.append_assoc]
  rfl
theorem nP {g:E→ByteArray}{b:ByteArray}:∀{r:List E},(∀x∈r,0<(g x).size)→r.length≤(da g b r).size
 | [],_=>Nat.zero_le _
 | x :: r,h=>by
  have h1:=nP (b:=b) (r:=r) fun y hy=>h y (List.mem_cons_of_mem _ hy)
  have h2:0<(brk g x).size:=by
   unfold brk
   split
   ·simp only [bF];show 0<1+_+1;omega
   ·exact h x List.mem_cons_self
  unfold da
  simp only [bF,List.length_cons]
  omega
theorem nQ {g:Nat}{e:E}{p:PS}(hA:∀g',g'<g→AltOk s F g')(hc:Can e)(ho:okS g e=true)(h5:e.rk≠5)(hb:p.b=false)(hd:p.d+g≤9)(hh:Here s p.a (aP g e))(hs:StopC s (p.a+(aP g e).size)):pQ s (eH s (dt s (iu s F))) p=(e,p.go (aP g e).size):=by
 cases g with
 | zero=>cases ho
 | succ f =>
 by_cases h4:e.rk=4
 ·obtain⟨hkk,hdd⟩:=jf ho
  have he:=hc.eta
  rcases dq hdd with ⟨k,h1,h2,h3⟩|⟨k,h1,h3⟩|⟨k,h1,h3⟩|⟨k,h1,h2,h3⟩|⟨k,h1,x,h2,h3⟩
  ·rw [h4] at k;cases k
  ·rw [h4] at k;cases k
  ·rw [h4] at k;rcases k with k|k|k|k<;>cases k
  ·have ht:aP (f+1) e=d6 (aP f) ByteArray.empty e.rl:=by unfold aP;rw [h4];rfl
   rw [ht] at hh hs ⊢
   have hkid:∀x∈e.rl,Can x∧okS f x=true∧x.rk≠4:=fun x hx=>⟨hc.kid hx,(hkk x hx).1,fun h=>by have:=(hkk x hx).2 (h.trans h4.symm);rw [h4] at this;cases this⟩
   match hl:e.rl,h2 with
   | x :: r,h2 =>
    rw [hl] at hh hs hkid
    obtain⟨hcx,hox,h4x⟩:=hkid x List.mem_cons_self
    unfold d6 at hh hs ⊢
    have q:=hh.app
    have hlen:=nP (g:=aP f) (b:=ByteArray.empty) (r:=r) fun y hy=>(gq f y (hkid y (List.mem_cons_of_mem _ hy)).2.1).1
    have hn:NoPost s (p.a+(brk (aP f) x).size):=by
     cases r with
     | nil=>simp at h2
     | cons y r' =>
      have hy:=nO (g:=aP f) (gq f y (hkid y (by simp)).2.1)
      have q2:=q.2
      unfold da at q2
      rw [jG] at q2
      refine sf ?_
      rw [q2.app.1.at0 hy.1];exact hy.2
    unfold pQ
    rw [sg (fun g' hg'=>hA g' omq) hcx hox h4x hb omq q.1 hn]
    simp only
    rw [j6 (fun g' hg'=>hA g' omq) r [x] (s.size+1) (p.go (brk (aP f) x).size) (by have:=q.2.1;omega) (fun y hy=>hkid y (List.mem_cons_of_mem _ hy)) hb (by show p.d+1+f≤9;omega) q.2 (by rw [bF] at hs;show StopC s (p.a+(brk (aP f) x).size+(da (aP f) ByteArray.empty r).size);rw [Nat.add_assoc];exact hs)]
    rw [wv,bF]
    refine congrArg (·,_) ?_
    rw [je h1,hl,h4] at he
    rw [he]
    cases r with
    | nil=>simp at h2
    | cons y r'=>rfl
  ·rw [h4] at k;rcases k with k|k|k<;>cases k
 ·have hi:=o9 (fun g' e=>hA g' omq) hc ho h4 h5 hb hd hh hs.post
  unfold pQ
  rw [hi]
  simp only
  have hg:goS s (p.go (aP (f+1) e).size)=false:=by
   unfold goS
   rcases hs with h|h|h
   ·have h:s.size≤(p.go (aP (f+1) e).size).a:=h
    have:decide ((p.go (aP (f+1) e).size).a<s.size)=false:=by simpa using h
    simp [this]
   ·have h:bAt s (p.go (aP (f+1) e).size).a=41:=h
    simp [h]
   ·have h:bAt s (p.go (aP (f+1) e).size).a=124:=h
    simp [h]
  have:bW s (eH s (dt s (iu s F))) (s.size+1) [e] (p.go (aP (f+1) e).size)=([e],p.go (aP (f+1) e).size):=by
   unfold bW
   rw [hg];rfl
  rw [this]
  rfl
theorem j7 {g:Nat}(hA:∀g',g'<g→AltOk s F g'):∀(r acc:List E) (n:Nat) (p:PS),r.length≤n→(∀x∈r,Can x∧okS g x=true∧x.rk≠5)→p.b=false→p.d+g≤9→Here s p.a (da (aP g) ⟨#[124]⟩ r)→Stop s (p.a+(da (aP g) ⟨#[124]⟩ r).size) →
 bZ s (pQ s (eH s (dt s (iu s F)))) n acc p=(acc++r,p.go (da (aP g) ⟨#[124]⟩ r).size)
 | [],acc,n,p,_,_,hb,_,_,hs=>by
  have e:p.go (da (aP g) ⟨#[124]⟩ []).size=p:=rfl
  rw [e,List.append_nil]
  cases n with
  | zero=>rfl
  | succ n =>
   unfold bZ
   have hg:isB s 124 p=false:=by
    refine gt ?_
    rcases hs with h|h
    ·have h:s.size≤p.a:=h
     rw [jD h];decide
    ·have h:bAt s p.a=41:=h
     rw [h];decide
   rw [hg];rfl
 | x :: r,acc,0,p,h,_,_,_,_,_=>by simp at h
 | x :: r,acc,n+1,p,hl,hr,hb,hd,hh,hs=>by
  obtain⟨hc,ho,h5⟩:=hr x List.mem_cons_self
  unfold da at hh hs ⊢
  have hbx:brk (aP g) x=aP g x:=by unfold brk;rw [if_neg h5]
  rw [hbx] at hh hs ⊢
  have e1:(ByteArray.mk #[124]).size=1:=rfl
  have q:=hh.app
  have q2:=q.2.app
  rw [e1] at q2
  unfold bZ
  rw [iL hb (by decide) (show bAt s p.a=124 from q.1.2 0 (by decide)),if_pos rfl]
  have hn:StopC s (p.a+1+(aP g x).size):=by
   cases r with
   | nil =>
    simp only [bF,e1] at hs
    rcases hs with h|h
    ·exact .inl (by simpa [da,jd,Nat.add_assoc] using h)
    ·exact .inr (.inl (by simpa [da,jd,Nat.add_assoc] using h))
   | cons y r' =>
    have q3:=q2.2
    unfold da at q3
    exact .inr (.inr (q3.app.1.2 0 (by decide)))
  rw [nQ hA hc ho h5 (p:=p.go 1) hb hd q2.1 hn]
  simp only
  rw [j7 hA r (acc++[x]) n ((p.go 1).go (aP g x).size) (by simpa using hl) (fun y hy=>hr y (List.mem_cons_of_mem _ hy)) hb hd q2.2 (by simp only [bF,e1] at hs;show Stop s (p.a+1+(aP g x).size+(da (aP g) ⟨#[124]⟩ r).size);rw [show p.a+1+(aP g x).size+(da (aP g) ⟨#[124]⟩ r).size=p.a+(1+((aP g x).size+(da (aP g) ⟨#[124]⟩ r).size)) by omega];exact hs)]
  simp only [wv,bF,e1,List.append_assoc]
  rw [show 1+((aP g x).size+(da (aP g) ⟨#[124]⟩ r).size)=1+(aP g x).size+(da (aP g) ⟨#[124]⟩ r).size by omega]
  rfl
end
theorem zd (s:ByteArray)(F:Nat):∀f,f≤F→AltOk s F f:=by
 induction F with
 | zero =>
  intro f hf e _ ho
  obtain rfl:f=0:=by omega
  cases ho
 | succ F ih =>
  intro f hf e hc ho p hb hd hh hs
  have hA:∀g',g'<f→AltOk s F g':=fun g' hg=>ih g' omq
  cases f with
  | zero=>cases ho
  | succ f =>
  show za s (pQ s (eH s (dt s (iu s F)))) p=_
  by_cases h5:e.rk=5
  ·obtain⟨hkk,hdd⟩:=jf ho
   have he:=hc.eta
   rcases dq hdd with ⟨k,h1,h2,h3⟩|⟨k,h1,h3⟩|⟨k,h1,h3⟩|⟨k,h1,h2,h3⟩|⟨k,h1,x,h2,h3⟩
   ·rw [h5] at k;cases k
   ·rw [h5] at k;cases k
   ·rw [h5] at k;rcases k with k|k|k|k<;>cases k
   ·have ht:aP (f+1) e=d6 (aP f) ⟨#[124]⟩ e.rl:=by unfold aP;rw [h5];rfl
    rw [ht] at hh hs ⊢
    have hkid:∀x∈e.rl,Can x∧okS f x=true∧x.rk≠5:=fun x hx=>⟨hc.kid hx,(hkk x hx).1,fun h=>by have:=(hkk x hx).2 (h.trans h5.symm);rw [h5] at this;cases this⟩
    match hl:e.rl,h2 with
    | x :: r,h2 =>
     rw [hl] at hh hs hkid
     obtain⟨hcx,hox,h5x⟩:=hkid x List.mem_cons_self
     have hbx:brk (aP f) x=aP f x:=by unfold brk;rw [if_neg h5x]
     have hj:d6 (aP f) ⟨#[124]⟩ (x :: r)=aP f x++da (aP f) ⟨#[124]⟩ r:=by rw [←hbx];rfl
     rw [hj] at hh hs ⊢
     have q:=hh.app
     have hlen:=nP (g:=aP f) (b:=⟨#[124]⟩) (r:=r) fun y hy=>(gq f y (hkid y (List.mem_cons_of_mem _ hy)).2.1).1
     have hn:StopC s (p.a+(aP f x).size):=by
      cases r with
      | nil=>simp at h2
      | cons y r' =>
       have q3:=q.2
       unfold da at q3
       exact .inr (.inr (q3.app.1.2 0 (by decide)))
     unfold za
     rw [nQ (fun g' hg'=>hA g' omq) hcx hox h5x hb omq q.1 hn]
     simp only
     rw [j7 (fun g' hg'=>hA g' omq) r [x] (s.size+1) (p.go (aP f x).size) (by have:=q.2.1;omega) (fun y hy=>hkid y (List.mem_cons_of_mem _ hy)) hb (by show p.d+f≤9;omega) q.2 (by rw [bF] at hs;show Stop s (p.a+(aP f x).size+(da (aP f) ⟨#[124]⟩ r).size);rw [Nat.add_assoc];exact hs)]
     rw [wv,bF]
     refine congrArg (·,_) ?_
     rw [je h1,hl,h5] at he
     rw [he]
     cases r with
     | nil=>simp at h2
     | cons y r'=>rfl
   ·rw [h5] at k;rcases k with k|k|k<;>cases k
  ·have hcc:=nQ hA hc ho h5 hb hd hh (hs.elim .inl fun h=>.inr (.inl h))
   unfold za
   rw [hcc]
   simp only
   have:bZ s (pQ s (eH s (dt s (iu s F)))) (s.size+1) [e] (p.go (aP (f+1) e).size)=([e],p.go (aP (f+1) e).size):=by
    unfold bZ
    rw [gt]
    ·rfl
    ·rcases hs with h|h
     ·have h:s.size≤(p.go (aP (f+1) e).size).a:=h
      rw [jD h];decide
     ·have h:bAt s (p.go (aP (f+1) e).size).a=41:=h
      rw [h];decide
   rw [this]
   rfl
end Go.Proofs.YtomolhbkdhjofaaGreatDoor
