/- T -/
import Derived.Test.YtomolhbkdhjofaaGreatDoorParXP
set_option maxHeartbeats 0
set_option maxRecDepth 100000
namespace Go.Proofs.YtomolhbkdhjofaaGreatDoor
open Go.RowKit Go.Proofs.Tryz
def ir (t:T3)(d:Nat):Bool:=if t.1=1 then !cF d else if t.1=2 then !ldB d else if t.1=5∧t.2.2.size=1 then !nE (bAt t.2.2 0) d else true
theorem v8 {S:ByteArray}{a:Nat}{r:Bool}{t:T3}(hg:good r t)(h:AtS S a t.T)(he:a+t.T.size=S.size∨ir t (bAt S (a+t.T.size))=true):dQ S a r=⟨t.1,t.2.1,t.2.2,a+t.T.size⟩∧1≤t.T.size∧blB (bAt t.T 0)=false∧bAt t.T 0≠35:=by
 obtain⟨k,n,s⟩:=t
 obtain⟨g1,g2,g3⟩:=hg
 unfold T3.T at h he ⊢
 unfold ir at he
 dsimp only at g1 g2 g3 h he ⊢
 unfold tkT at h he ⊢
 rw [if_pos g1] at h he ⊢
 by_cases k1:k=1
 ·subst k1
  rw [if_pos rfl] at h he ⊢
  rw [if_pos rfl] at he
  unfold bP at g1
  rw [if_pos rfl] at g1
  simp only [Bool.and_eq_true,decide_eq_true_iff] at g1
  obtain⟨n0,n1,s0⟩:=g1
  obtain rfl:s=ByteArray.empty:=gR s0 fun j hj=>absurd hj omq
  have hd:=qz n0
  have hp:=qA n0
  simp only [jW,decide_eq_true_iff] at hd
  have e0:bAt S a=bAt (i6 n) 0:=h.2 0 omq
  have h0:=hd 0 omq
  have hr:bD cF S S.size a=a+(i6 n).size:=v7 omq h.1 (fun j h1 h2=>by
   have:=h.2 (j-a) omq
   rw [show a+(j-a)=j by omega] at this
   rw [this];exact hd _ omq) fun hlt=>by
    rcases he with he|he
    ·omega
    ·simpa using he
  refine⟨?_,hp,?_,?_⟩
  ·unfold dQ
   rw [e0,if_pos h0,hr,o6 h,y6 n0 n1]
  ·simp only [cF,Bool.and_eq_true,decide_eq_true_iff] at h0
   simp [blB];omega
  ·simp only [cF,Bool.and_eq_true,decide_eq_true_iff] at h0
   omega
 rw [if_neg k1] at h he ⊢
 rw [if_neg k1] at he
 by_cases k3:k=3
 ·subst k3
  rw [if_pos rfl] at h he ⊢
  have g4:dj 39 s=true∧n=0:=by simpa [bP] using g1
  obtain⟨g4,rfl⟩:=g4
  obtain⟨q0,q1⟩:=zm1 (b:=39) (k:=3) rfl h g4
  have hz:((⟨#[39]⟩++s)++⟨#[39]⟩:ByteArray).size=s.size+2:=by
   rw [ByteArray.size_append',ByteArray.size_append']
   show 1+s.size+1=_;omega
  have e0:=h.2 0 omq
  rw [Nat.add_zero,q0] at e0
  refine⟨?_,omq,by rw [←e0];rfl,omq⟩
  unfold dQ
  rw [q0,if_neg (by decide),if_neg (by decide),if_pos rfl,q1]
 rw [if_neg k3] at h he ⊢
 by_cases k4:k=4
 ·subst k4
  rw [if_pos rfl] at h he ⊢
  have g4:dj 47 s=true∧1≤s.size∧n=0:=by simpa [bP] using g1
  obtain⟨g4,-,rfl⟩:=g4
  obtain⟨q0,q1⟩:=zm1 (b:=47) (k:=4) rfl h g4
  have hz:((⟨#[47]⟩++s)++⟨#[47]⟩:ByteArray).size=s.size+2:=by
   rw [ByteArray.size_append',ByteArray.size_append']
   show 1+s.size+1=_;omega
  have e0:=h.2 0 omq
  rw [Nat.add_zero,q0] at e0
  refine⟨?_,omq,by rw [←e0];rfl,omq⟩
  unfold dQ
  rw [q0,if_neg (by decide),if_neg (by decide),if_neg (by decide),if_pos ⟨rfl,g2 rfl⟩,q1]
 rw [if_neg k4] at h he ⊢
 by_cases k2:k=2
 ·subst k2
  rw [if_pos rfl] at he
  have g4:dD s=true∧n=0:=by simpa [bP] using g1
  obtain⟨g4,rfl⟩:=g4
  simp only [dD,Bool.and_eq_true,decide_eq_true_iff,jW] at g4
  obtain⟨s1,s8,l0,la⟩:=g4
  have e0:bAt S a=bAt s 0:=h.2 0 omq
  have hr:bD ldB S S.size a=a+s.size:=v7 omq h.1 (fun j h1 h2=>by
   have:=h.2 (j-a) omq
   rw [show a+(j-a)=j by omega] at this
   rw [this];exact la _ omq) fun hlt=>by
    rcases he with he|he
    ·omega
    ·simpa using he
  refine⟨?_,s1,?_,?_⟩
  ·unfold dQ
   rw [e0,if_neg (by rw [qy l0];simp),if_pos l0,hr,o6 h]
  ·simp only [gC,Bool.and_eq_true,decide_eq_true_iff] at l0
   simp [blB];omega
  ·simp only [gC,Bool.and_eq_true,decide_eq_true_iff] at l0
   omega
 rw [if_neg k2] at he
 have k5:k=5:=by
  simp only [bP,if_neg k1,if_neg k2,if_neg k3,if_neg k4] at g1
  split at g1
  ·assumption
  ·cases g1
 subst k5
 have g4:dY s=true∧n=0:=by simpa [bP] using g1
 obtain⟨g4,rfl⟩:=g4
 by_cases hz:s.size=2
 ·have h6:nE (bAt s 0) (bAt s 1)=true:=by simpa [dY,hz] using g4
  have e0:bAt S a=bAt s 0:=h.2 0 omq
  have hc:bk S a (a+2)=s:=by have:=o6 h;rwa [hz] at this
  have hlt:=h.1
  have hh:bAt s 0=60∨bAt s 0=61∨bAt s 0=33∨bAt s 0=62∨bAt s 0=38∨bAt s 0=124:=by
   simp only [nE,Bool.or_eq_true,Bool.and_eq_true,decide_eq_true_iff] at h6
   omega
  refine⟨?_,omq,?_,omq⟩
  ·unfold dQ
   have hd:cF (bAt s 0)=false:=by simp [cF];omega
   have hl:gC (bAt s 0)=false:=by simp [gC];omega
   rw [e0,hd,hl,if_neg (by simp),if_neg (by simp),if_neg omq,if_neg omq,hc,if_pos ⟨omq,g4⟩,hz]
  ·simp [blB];omega
 ·have hz1:s.size=1∧lh (bAt s 0)=true:=by simpa [dY,hz] using g4
  obtain⟨hz1,h1⟩:=hz1
  rw [if_pos ⟨rfl,hz1⟩] at he
  have e0:bAt S a=bAt s 0:=h.2 0 omq
  have hc:bk S a (a+1)=s:=by have:=o6 h;rwa [hz1] at this
  have hlt:=h.1
  have h1b:=h1
  simp only [lh,List.contains_eq_mem,decide_eq_true_iff,List.mem_cons,List.not_mem_nil,or_false] at h1
  have hn47:¬(bAt s 0=47∧r=true):=fun ⟨h47,hr⟩=>by
   have:=g3 rfl (gR hz1 fun j hj=>by
    obtain rfl:j=0:=by omega
    rw [h47];rfl)
   rw [hr] at this;cases this
  refine⟨?_,omq,?_,omq⟩
  ·unfold dQ
   have hd:cF (bAt s 0)=false:=by simp [cF];omega
   have hl:gC (bAt s 0)=false:=by simp [gC];omega
   have hm:¬(a+1<S.size∧dY (bk S a (a+2))=true):=fun ⟨q1,q2⟩=>by
    have hz2:=bO (s:=S) (a:=a) (b:=a+2) omq omq
    have q3:nE (bAt s 0) (bAt S (a+1))=false:=by
     rcases he with he|he
     ·omega
     ·rw [hz1] at he;simpa using he
    have b0:bAt (bk S a (a+2)) 0=bAt S a:=by rw [dB omq omq];rfl
    have b1:bAt (bk S a (a+2)) 1=bAt S (a+1):=by rw [dB omq omq]
    have b2:(bk S a (a+2)).size=2:=by omega
    simp [dY,b2,b1,b0,e0,q3] at q2
   rw [e0,hd,hl,if_neg (by simp),if_neg (by simp),if_neg omq,if_neg hn47,if_neg hm,hc,hz1]
  ·simp [blB];omega
abbrev Pc:=List (Option T3)
def pcT:Option T3→ByteArray
 | none=>⟨#[32]⟩
 | some t=>t.T
def bY:Pc→ByteArray
 | []=>ByteArray.empty
 | x :: l=>pcT x++bY l
def bK:Pc→List T3
 | []=>[]
 | none :: l=>bK l
 | some t :: l=>t :: bK l
theorem dS:∀(a b:Pc),bY (a++b)=bY a++bY b
 | [],b=>by show bY b=ByteArray.empty++bY b;rw [ByteArray.empty_append]
 | x :: a,b=>by show pcT x++bY (a++b)=(pcT x++bY a)++bY b;rw [dS a b,ByteArray.append_assoc]
theorem cQ:∀(a b:Pc),bK (a++b)=bK a++bK b
 | [],b=>rfl
 | none :: a,b=>cQ a b
 | some t :: a,b=>by show t :: bK (a++b)=t :: (bK a++bK b);rw [cQ a b]
def y7:Pc→Option Nat→Option Nat
 | [],d=>d
 | x :: _,_=>some (bAt (pcT x) 0)
def wa (t:T3):Option Nat→Bool
 | none=>true
 | some d=>ir t d
def okP:Bool→Pc→Option Nat→Bool→Prop
 | r,[],_,r'=>r=r'
 | r,none :: l,d,r'=>okP r l d r'
 | r,some t :: l,d,r'=>good r t∧wa t (y7 l d)=true∧okP (ou t.1 t.2.2) l d r'
theorem r7 (a b:Pc)(d:Option Nat):y7 (a++b) d=y7 a (y7 b d):=by
 cases a with
 | nil=>rfl
 | cons x a=>rfl
theorem ft:∀{a b:Pc} {d:Option Nat} {r r1 r':Bool},okP r a (y7 b d) r1→okP r1 b d r'→okP r (a++b) d r'
 | [],b,d,r,r1,r',h,g=>by have:r=r1:=h;subst this;exact g
 | none :: a,b,d,r,r1,r',h,g=>ft (a:=a) h g
 | some t :: a,b,d,r,r1,r',h,g=>⟨h.1,by show wa t (y7 (a++b) d)=true;rw [r7];exact h.2.1,ft (a:=a) h.2.2 g⟩
theorem wb {t:T3}(h:bP t.1 t.2.1 t.2.2=true):ir t 32=true:=by
 unfold ir
 split
 ·rfl
 ·split
  ·rfl
  ·split
   ·simp [nE]
   ·rfl
theorem zz6 {x:Option T3}{r:Bool}(h:∀t,x=some t→good r t):1≤(pcT x).size:=by
 cases x with
 | none=>exact Nat.le_refl _
 | some t =>
  have hg:=h t rfl
  have:=(v8 (S:=t.T) (a:=0) hg ⟨omq,fun j hj=>by rw [Nat.zero_add]⟩ (.inl omq)).2.1
  exact this
theorem wd {S:ByteArray}:∀(l:Pc) (a:Nat) (r r':Bool) (out:List E),okP r l none r'→out.length+(bK l).length≤2000→AtS S a (bY l)→a+(bY l).size=S.size→th S (er S a) r out=(out++(bK l).map T3.E,-1)
 | [],a,r,r',out,_,_,_,h=>by
  have h0:(bY []).size=0:=rfl
  rw [ga fun hh=>by omega,qs omq]
  simp [bK]
 | none :: l,a,r,r',out,hc,hn,hA,hz=>by
  have hs:(bY (none :: l)).size=1+(bY l).size:=by show (pcT none++bY l).size=_;rw [ByteArray.size_append'];rfl
  have h0:bAt S a=32:=by
   have:=hA.2 0 omq
   rw [Nat.add_zero] at this
   rw [this]
   show bAt (pcT none++bY l) 0=32
   rw [fd (by show 0<1;omega)];rfl
  rw [iH omq (by rw [h0];rfl)]
  refine wd l (a+1) r r' out hc hn ⟨omq,fun j hj=>?_⟩ omq
  have:=hA.2 (1+j) omq
  rw [←Nat.add_assoc] at this
  rw [this]
  show bAt (pcT none++bY l) (1+j)=_
  rw [jc (by show 1≤1+j;omega)]
  congr 1
  show 1+j-1=j;omega
 | some t :: l,a,r,r',out,hc,hn,hA,hz=>by
  obtain⟨hg,hst,hc2⟩:=hc
  have hs:(bY (some t :: l)).size=t.T.size+(bY l).size:=by show (pcT (some t)++bY l).size=_;rw [ByteArray.size_append'];rfl
  have hA1:AtS S a t.T:=⟨omq,fun j hj=>by
   rw [hA.2 j omq]
   show bAt (t.T++bY l) j=_
   rw [fd hj]⟩
  have hA2:AtS S (a+t.T.size) (bY l):=⟨omq,fun j hj=>by
   have:=hA.2 (t.T.size+j) omq
   rw [←Nat.add_assoc] at this
   rw [this]
   show bAt (t.T++bY l) (t.T.size+j)=_
   rw [jc omq]
   congr 1;omega⟩
  have he:a+t.T.size=S.size∨ir t (bAt S (a+t.T.size))=true:=by
   cases l with
   | nil=>left;have h0:(bY []).size=0:=rfl;omega
   | cons x l =>
    right
    have hst':ir t (bAt (pcT x) 0)=true:=hst
    have hx:1≤(pcT x).size:=zz6 (r:=ou t.1 t.2.2) fun u hu=>by subst hu;exact hc2.1
    have h1:(bY (x :: l)).size=(pcT x).size+(bY l).size:=by show (pcT x++bY l).size=_;rw [ByteArray.size_append']
    have:=hA2.2 0 omq
    rw [Nat.add_zero] at this
    rw [this]
    show ir t (bAt (pcT x++bY l) 0)=true
    rw [fd omq]
    exact hst'
  obtain⟨o0,o1,o2,o3⟩:=v8 hg hA1 he
  have e0:bAt S a=bAt t.T 0:=hA1.2 0 omq
  have hlt:=hA1.1
  rw [ga fun ⟨_,hh⟩=>by
   rw [e0,o2] at hh
   rcases hh with hh|hh
   ·cases hh
   ·exact o3 hh]
  have hn':out.length+((bK l).length+1)≤2000:=by simpa [bK] using hn
  have hy:=qt (s:=S) (a:=a) (rex:=r) (out:=out) omq (by rw [o0];exact hg.1) omq
  rw [o0] at hy
  rw [hy]
  dsimp only
  have hE:(Tk.mk t.1 t.2.1 t.2.2 (a+t.T.size)).E=t.E:=rfl
  rw [hE,wd l (a+t.T.size) _ r' _ hc2 (by rw [List.length_append,List.length_singleton];omega) hA2 omq]
  simp [bK]
theorem zg4 {l:Pc}{r':Bool}(h:okP false l none r')(hn:(bK l).length≤2000):iq (bY l)=((bK l).map T3.E,-1):=by
 unfold iq
 rw [wd l 0 false r' [] h (by simpa using hn) ⟨omq,fun j hj=>by rw [Nat.zero_add]⟩ omq]
 rfl
def gpI (b:Nat)(c:E→Nat):List E→Nat→Nat
 | [],n=>n
 | x :: r,n=>if b<n+c x then b+1 else gpI b c r (n+c x)
def r8 (b:Nat)(hd:E→Bool)(kd:E→List E):Nat→E→Nat
 | 0,_=>b+1
 | f+1,e=>if hd e=true then gpI b (r8 b hd kd f) (kd e) 1 else b+1
def gpS (b:Nat)(c:E→Nat):List E→Nat→Nat
 | [],n=>n
 | x :: r,n=>if n≤b then gpS b c r (n+c x) else n
def kC (b:Nat)(kd:E→List E):Nat→E→Nat
 | 0,_=>b+1
 | f+1,e=>gpS b (kC b kd f) (kd e) 1
def okF (hd:E→Bool)(kd:E→List E):Nat→E→Bool
 | 0,_=>false
 | f+1,e=>(kd e).all (okF hd kd f)&&hd e
def okE (hd:E→Bool)(kd:E→List E)(e:E):Bool:=okF hd kd (e.sz+1) e
section
variable {b:Nat}{hd:E→Bool}{kd:E→List E}
theorem we (hk:∀e x,x∈kd e→x.sz<e.sz):∀(n f:Nat) (e:E),e.sz<n→e.sz<f→okF hd kd f e=okE hd kd e
 | 0,_,_,h,_=>absurd h (Nat.not_lt_zero _)
 | n+1,0,_,_,h=>absurd h (Nat.not_lt_zero _)
 | n+1,f+1,e,h1,h2=>by
  have key:∀x∈kd e,okF hd kd f x=okF hd kd e.sz x:=fun x hx=>by
   have hs:=hk e x hx
   rw [we hk n f x omq omq,we hk n e.sz x omq hs]
  show ((kd e).all (okF hd kd f)&&hd e)=((kd e).all (okF hd kd e.sz)&&hd e)
  congr 1
  apply Bool.eq_iff_iff.2
  simp only [List.all_eq_true]
  exact⟨fun h x hx=>by rw [←key x hx];exact h x hx,fun h x hx=>by rw [key x hx];exact h x hx⟩
theorem kD (hk:∀e x,x∈kd e→x.sz<e.sz)(e:E):okE hd kd e=((kd e).all (okE hd kd)&&hd e):=by
 show ((kd e).all (okF hd kd e.sz)&&hd e)=_
 congr 1
 apply Bool.eq_iff_iff.2
 simp only [List.all_eq_true]
 have key:∀x∈kd e,okF hd kd e.sz x=okE hd kd x:=fun x hx=>we hk (x.sz+1) e.sz x omq (hk e x hx)
 exact⟨fun h x hx=>by rw [←key x hx];exact h x hx,fun h x hx=>by rw [key x hx];exact h x hx⟩
theorem r9 {c:E→Nat}:∀(l:List E) (n:Nat),n≤gpS b c l n
 | [],n=>Nat.le_refl _
 | x :: r,n=>by
  unfold gpS
  split
  ·exact Nat.le_trans (Nat.le_add_right _ _) (r9 r _)
  ·exact Nat.le_refl _
theorem wg {ci cs:E→Nat}{ok:E→Bool}(h:∀x,(ci x≤b↔cs x≤b∧ok x=true)∧(ci x≤b→ci x=cs x)):∀(l:List E) (n:Nat),n≤b →
 (gpI b ci l n≤b↔gpS b cs l n≤b∧l.all ok=true)∧(gpI b ci l n≤b→gpI b ci l n=gpS b cs l n)
 | [],n,hn=>⟨⟨fun h=>⟨h,rfl⟩,fun h=>h.1⟩,fun _=>rfl⟩
 | x :: r,n,hn=>by
  obtain⟨h1,h2⟩:=h x
  have e1:gpS b cs (x :: r) n=gpS b cs r (n+cs x):=if_pos hn
  rw [e1,List.all_cons]
  by_cases hx:ci x≤b
  ·obtain⟨g1,g2⟩:=h1.1 hx
   rw [←h2 hx,g2,Bool.true_and]
   by_cases hm:b<n+ci x
   ·have e2:gpI b ci (x :: r) n=b+1:=if_pos hm
    rw [e2]
    have:=r9 (b:=b) (c:=cs) r (n+ci x)
    exact⟨⟨fun h=>by omega,fun h=>by omega⟩,fun h=>by omega⟩
   ·have e2:gpI b ci (x :: r) n=gpI b ci r (n+ci x):=if_neg hm
    rw [e2]
    exact wg h r (n+ci x) omq
  ·have e2:gpI b ci (x :: r) n=b+1:=if_pos omq
   rw [e2]
   refine⟨⟨fun h=>by omega,fun hh=>?_⟩,fun h=>by omega⟩
   obtain⟨g1,g2⟩:=hh
   rw [Bool.and_eq_true] at g2
   have:=r9 (b:=b) (c:=cs) r (n+cs x)
   exact absurd (h1.2 ⟨omq,g2.1⟩) hx
theorem wh (hb:1≤b)(hk:∀e x,x∈kd e→x.sz<e.sz):∀(f:Nat) (e:E),(r8 b hd kd f e≤b↔kC b kd f e≤b∧okE hd kd e=true)∧(r8 b hd kd f e≤b→r8 b hd kd f e=kC b kd f e)
 | 0,e=>⟨⟨fun h=>absurd h (by show ¬b+1≤b;omega),fun h=>absurd h.1 (by show ¬b+1≤b;omega)⟩,fun h=>absurd h (by show ¬b+1≤b;omega)⟩
 | f+1,e=>by
  rw [kD hk e]
  by_cases hh:hd e=true
  ·have e1:r8 b hd kd (f+1) e=gpI b (r8 b hd kd f) (kd e) 1:=if_pos hh
   rw [e1,hh,Bool.and_true]
   exact wg (wh hb hk f) (kd e) 1 hb
  ·have e1:r8 b hd kd (f+1) e=b+1:=if_neg hh
   have e2:hd e=false:=by cases h:hd e with
    | false=>rfl
    | true=>exact absurd h hh
   rw [e1,e2,Bool.and_false]
   exact⟨⟨fun h=>by omega,fun h=>by cases h.2⟩,fun h=>by omega⟩
theorem za7 (hb:1≤b)(hk:∀e x,x∈kd e→x.sz<e.sz)(f:Nat)(e:E):decide (r8 b hd kd f e≤b)=(decide (kC b kd f e≤b)&&okE hd kd e):=by
 obtain⟨h1,-⟩:=wh (hd:=hd) hb hk f e
 apply Bool.eq_iff_iff.2
 simp only [Bool.and_eq_true,decide_eq_true_iff]
 exact h1
theorem zn1 {c:E→Nat}:∀(l:List E) (n:Nat),n≤b→gpI b c l n≤b+1
 | [],n,h=>by show n≤b+1;omega
 | x :: r,n,h=>by
  unfold gpI
  split
  ·exact Nat.le_refl _
  ·exact zn1 r _ omq
theorem zh4:∀(f:Nat) (e:E),1≤b→r8 b hd kd f e≤b+1
 | 0,_,_=>Nat.le_refl _
 | f+1,e,h=>by
  unfold r8
  split
  ·exact zn1 _ _ h
  ·exact Nat.le_refl _
theorem zo1 {c:E→Nat}{m:Nat}(hc:∀x,c x≤m):∀(l:List E) (n:Nat),n≤b+m→gpS b c l n≤b+m
 | [],n,h=>h
 | x :: r,n,h=>by
  unfold gpS
  split
  ·exact zo1 hc r _ (by have:=hc x;omega)
  ·exact h
theorem wi:∀(f:Nat) (e:E),1≤b→kC b kd f e≤b+1+b*f
 | 0,_,_=>by show b+1≤b+1+b*0;omega
 | f+1,e,h=>by
  show gpS b (kC b kd f) (kd e) 1≤_
  have:=zo1 (b:=b) (m:=b+1+b*f) (fun x=>wi f x h) (kd e) 1 omq
  rw [Nat.mul_succ]
  omega
end
def ls (c:Nat):Bool:=(decide (97≤c)&&decide (c≤122))||(decide (65≤c)&&decide (c≤90))||(decide (48≤c)&&decide (c≤57))||c==32||c==95||c==45||c==44||c==58
def eB (s:ByteArray)(i:Nat):Bool:=ls (bAt s i)&&(i==0||decide (bAt s (i-1)<bAt s i))
def gE (s:ByteArray):Bool:=(List.range s.size).all (eB s)&&(decide (1≤s.size)&&decide (s.size≤10))
def gc (k:Int):Bool:=k==6||k==7||k==8
def cY (k:Int)(s:ByteArray)(l:List E):E:=.agg [.int .i64 k,.str s,.lst 3 112 none 0 l]
def cZ:E:=cY 0 ByteArray.empty []
def E.rk:E→Int
 | .agg (.int _ k :: _)=>k
 | _=>0
def E.rs:E→ByteArray
 | .agg (_ :: .str s :: _)=>s
 | _=>ByteArray.empty
def E.rl:E→List E
 | .agg (_ :: _ :: .lst _ _ _ _ l :: _)=>l
 | _=>[]
def fu (k:Int)(s:ByteArray)(l:List E):Bool :=
 if k=1 then s.size==1&&ls (bAt s 0)&&l.length==0
 else if k=3 then gE s&&l.length==0
 else if k=2∨k=9∨k=10∨k=11 then s.size==0&&l.length==0
 else if k=4∨k=5 then s.size==0&&(decide (2≤l.length)&&decide (l.length≤8))
 else if k=6∨k=7∨k=8 then s.size==0&&l.length==1&&!(l.any fun x=>gc x.rk)
 else false
def mq (e:E):Bool:=fu e.rk e.rs e.rl&&!((e.rk==4||e.rk==5)&&e.rl.any fun x=>x.rk==e.rk)
def jZ (g:E→Nat):List E→Nat→Nat
 | [],n=>n
 | x :: r,n=>if 61≤n+g x then 61 else jZ g r (n+g x)
def bJ:Nat→E→Nat
 | 0,_=>61
 | f+1,e=>if mq e then jZ (bJ f) e.rl 1 else 61
def mM (g:E→Nat):List E→Nat→Nat
 | [],n=>n
 | x :: r,n=>if n≤60 then mM g r (n+g x) else n
def dk:Nat→E→Nat
 | 0,_=>61
 | f+1,e=>mM (dk f) e.rl 1
def okS:Nat→E→Bool
 | 0,_=>false
 | f+1,e=>(e.rl.all fun x=>okS f x&&!(x.rk==e.rk&&!gc e.rk))&&fu e.rk e.rs e.rl
def eh (e:E):Bool:=decide (bJ 6 e≤60)
def lu (e:E):Bool:=decide (dk 6 e≤60)&&okS 6 e
theorem wj (g:E→Nat):∀(l:List E) (n:Nat),n≤61→jZ g l n≤61
 | [],n,h=>h
 | x :: r,n,h=>by
  unfold jZ
  split
  ·omega
  ·exact wj g r _ omq
theorem wk (f:Nat)(e:E):bJ f e≤61:=by
 cases f with
 | zero=>exact Nat.le_refl _
 | succ f=>unfold bJ;split<;>first|exact wj _ _ _ omq|omega
theorem iJ {g:E→Nat}:∀{l:List E} {n:Nat},jZ g l n≤60→n≤60∧(∀x∈l,g x≤60)
 | [],n,h=>⟨h,fun x hx=>absurd hx List.not_mem_nil⟩
 | x :: r,n,h=>by
  unfold jZ at h
  split at h
  ·omega
  ·rename_i hn
   obtain⟨h1,h2⟩:=iJ h
   exact⟨omq,fun y hy=>by rcases List.mem_cons.1 hy with rfl|hy;·omega
                          ·exact h2 y hy⟩
theorem qB {g:E→Nat}:∀(l:List E) (n:Nat),n≤mM g l n
 | [],n=>Nat.le_refl _
 | x :: r,n=>by
  unfold mM
  split
  ·exact Nat.le_trans (Nat.le_add_right _ _) (qB r _)
  ·exact Nat.le_refl _
theorem lw {g:E→Nat}:∀{l:List E} {n:Nat},mM g l n≤60→n≤60∧(∀x∈l,g x≤60)
 | [],n,h=>⟨h,fun x hx=>absurd hx List.not_mem_nil⟩
 | x :: r,n,h=>by
  unfold mM at h
  split at h
  ·rename_i hn
   have h0:=qB r (n+g x) (g:=g)
   obtain⟨h1,h2⟩:=lw h
   exact⟨hn,fun y hy=>by rcases List.mem_cons.1 hy with rfl|hy;·omega
                         ·exact h2 y hy⟩
  ·omega
theorem sa {g h:E→Nat}:∀{l:List E} (n:Nat),(∀x∈l,g x≤60→h x=g x)→jZ g l n≤60→mM h l n=jZ g l n
 | [],n,_,_=>rfl
 | x :: r,n,hx,hs=>by
  have h0:=(iJ hs).1
  have h1:=(iJ hs).2 x List.mem_cons_self
  unfold jZ at hs ⊢
  unfold mM
  rw [if_pos h0,hx x List.mem_cons_self h1]
  split at hs
  ·omega
  ·rename_i hn;rw [if_neg hn];exact sa _ (fun y hy=>hx y (List.mem_cons_of_mem _ hy)) hs
theorem sum_same' {g h:E→Nat}:∀{l:List E} (n:Nat),(∀x∈l,h x≤60→g x=h x)→mM h l n≤60→jZ g l n=mM h l n
 | [],n,_,_=>rfl
 | x :: r,n,hx,hs=>by
  have h0:=(lw hs).1
  have h1:=(lw hs).2 x List.mem_cons_self
  unfold mM at hs ⊢
  unfold jZ
  rw [if_pos h0] at hs ⊢
  have h2:=qB r (n+h x) (g:=h)
  rw [hx x List.mem_cons_self h1,if_neg omq]
  exact sum_same' _ (fun y hy=>hx y (List.mem_cons_of_mem _ hy)) hs
theorem y8 {e:E}(h1:fu e.rk e.rs e.rl=true)(h2:(e.rl.all fun x=>!(x.rk==e.rk&&!gc e.rk))=true):mq e=true:=by
 unfold mq
 rw [h1,Bool.true_and,Bool.not_eq_true',Bool.and_eq_false_iff]
 by_cases hk:(e.rk==4||e.rk==5)=true
 ·right
  rw [Bool.eq_false_iff]
  intro h
  obtain⟨x,hx,hxk⟩:=List.any_eq_true.1 h
  have:=List.all_eq_true.1 h2 x hx
  rw [hxk] at this
  have h3:gc e.rk=false:=by
   unfold gc
   rcases Bool.or_eq_true_iff.1 hk with hk|hk<;>rw [eq_of_beq hk]<;>rfl
  rw [h3] at this
  cases this
 ·left;simpa using hk
theorem qC {e:E}(h:mq e=true):fu e.rk e.rs e.rl=true∧(e.rl.all fun x=>!(x.rk==e.rk&&!gc e.rk))=true:=by
 unfold mq at h
 rw [Bool.and_eq_true] at h
 refine⟨h.1,List.all_eq_true.2 fun x hx=>?_⟩
 rw [Bool.not_eq_true',Bool.eq_false_iff]
 intro hc
 rw [Bool.and_eq_true,Bool.not_eq_true'] at hc
 have h2:=h.2
 rw [Bool.not_eq_true',Bool.and_eq_false_iff] at h2
 have hk:(e.rl.any fun y=>y.rk==e.rk)=true:=List.any_eq_true.2 ⟨x,hx,hc.1⟩
 rcases h2 with h2|h2
 ·have h1:=h.1
  unfold fu at h1
  by_cases k4:e.rk=4
  ·rw [k4] at h2;cases h2
  by_cases k5:e.rk=5
  ·rw [k5] at h2;cases h2
  have hl:¬e.rl.length=0:=fun h0=>by rw [List.length_eq_zero_iff.1 h0] at hx;exact absurd hx List.not_mem_nil
  have hlk:¬(e.rk=6∨e.rk=7∨e.rk=8):=fun h0=>by
   have:=hc.2
   unfold gc at this
   rcases h0 with h0|h0|h0<;>rw [h0] at this<;>cases this
  have hl':(e.rl.length==0)=false:=by simpa using hl
  simp only [hl',Bool.and_false,hlk,if_false,k4,k5,or_self] at h1
  split at h1<;>(try cases h1)
  split at h1<;>(try cases h1)
  split at h1<;>cases h1
 ·rw [hk] at h2;cases h2
theorem sb (f:Nat):∀e:E,(bJ f e≤60↔dk f e≤60∧okS f e=true)∧(bJ f e≤60→dk f e=bJ f e):=by
 induction f with
 | zero=>intro e;simp [bJ,dk,okS]
 | succ f ih =>
  intro e
  have key:bJ (f+1) e≤60→dk (f+1) e=bJ (f+1) e∧okS (f+1) e=true:=by
   intro h
   unfold bJ at h ⊢
   split at h
   ·rename_i hh
    rw [if_pos hh]
    have h1:=(iJ h).2
    refine⟨?_,?_⟩
    ·unfold dk
     exact sa _ (fun x hx hp=>(ih x).2 hp) h
    ·unfold okS
     obtain⟨h3,h4⟩:=qC hh
     rw [h3,Bool.and_true]
     refine List.all_eq_true.2 fun x hx=>?_
     rw [((ih x).1.1 (h1 x hx)).2,Bool.true_and]
     exact List.all_eq_true.1 h4 x hx
   ·omega
  refine⟨⟨fun h=>⟨by rw [(key h).1];exact h,(key h).2⟩,fun ⟨h1,h2⟩=>?_⟩,fun h=>(key h).1⟩
  unfold okS at h2
  rw [Bool.and_eq_true] at h2
  have hall:=List.all_eq_true.1 h2.1
  have hh:mq e=true:=y8 h2.2 (List.all_eq_true.2 fun x hx=>(Bool.and_eq_true_iff.1 (hall x hx)).2)
  unfold bJ
  rw [if_pos hh]
  unfold dk at h1
  have h3:=(lw h1).2
  rw [sum_same' (h:=dk f) _ (fun x hx hp=>?_) h1]
  ·exact h1
  ·exact ((ih x).2 ((ih x).1.2 ⟨hp,(Bool.and_eq_true_iff.1 (hall x hx)).1⟩)).symm
theorem tp (e:E):eh e=lu e:=by
 unfold eh lu
 have h:=(sb 6 e).1
 by_cases h1:bJ 6 e≤60
 ·have:=h.1 h1
  simp [h1,this]
 ·have h2:¬(dk 6 e≤60∧okS 6 e=true):=fun q=>h1 (h.2 q)
  simp only [h1,decide_false]
  by_cases h3:dk 6 e≤60
  ·have:okS 6 e=false:=by simpa using fun q=>h2 ⟨h3,q⟩
   simp [this]
  ·simp [h3]
end Go.Proofs.YtomolhbkdhjofaaGreatDoor
