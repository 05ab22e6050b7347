/- T -/
import Derived.Test.YtomolhbkdhjofaaGreatDoorExAO
set_option maxHeartbeats 0
set_option maxRecDepth 100000
namespace Go.Proofs.YtomolhbkdhjofaaGreatDoor
open Go.RowKit Go.Proofs.Tryz
theorem og {k:Int}:∀{l:List E},(∀x∈l,Can x)→Can (jP k l)
 | [],h=>Can.mk _ _ _ h
 | [x],h=>h x List.mem_cons_self
 | x :: y :: r,h=>Can.mk _ _ _ h
theorem kI:Can cN:=Can.mk _ _ _ fun _ h=>absurd h List.not_mem_nil
theorem xO (k:Int)(s:ByteArray):Can (cL k s []):=Can.mk _ _ _ fun _ h=>absurd h List.not_mem_nil
section
variable {s:ByteArray}
theorem vt {alt:PS→E×PS}(h:∀p,Can (alt p).1)(p:PS):Can (jd s alt p).1:=by
 unfold jd dZ
 dsimp only
 repeat' split
 all_goals first|exact xO _ _|exact kI|exact h _
theorem vu {f:PS→E×PS}(h:∀p,Can (f p).1)(p:PS):Can (jQ s f p).1:=by
 unfold jQ
 have h1:∀k,Can (cL k ByteArray.empty [(f p).1]):=fun k=>Can.mk _ _ _ fun x hx=>by
  rw [List.mem_singleton] at hx;rw [hx];exact h p
 dsimp only
 repeat' split
 all_goals first|exact h1 _|exact h _
theorem jE {f:PS→E×PS}(h:∀p,Can (f p).1):∀(n:Nat) (l:List E) (p:PS),(∀x∈l,Can x)→∀x∈(bP s f n l p).1,Can x
 | 0,l,p,hl=>hl
 | n+1,l,p,hl=>by
  unfold bP
  split
  ·refine jE h n _ _ fun x hx=>?_
   rcases List.mem_append.1 hx with hx|hx
   ·exact hl x hx
   ·rw [List.mem_singleton] at hx;rw [hx];exact h p
  ·exact hl
theorem xP {f:PS→E×PS}(h:∀p,Can (f p).1)(p:PS):Can (sV s f p).1:=by
 unfold sV
 simp only
 split
 ·exact kI
 ·exact og (jE h _ _ _ fun _ h=>absurd h List.not_mem_nil)
theorem jF {f:PS→E×PS}(h:∀p,Can (f p).1):∀(n:Nat) (l:List E) (p:PS),(∀x∈l,Can x)→∀x∈(cB s f n l p).1,Can x
 | 0,l,p,hl=>hl
 | n+1,l,p,hl=>by
  unfold cB
  split
  ·refine jF h n _ _ fun x hx=>?_
   rcases List.mem_append.1 hx with hx|hx
   ·exact hl x hx
   ·rw [List.mem_singleton] at hx;rw [hx];exact h _
  ·exact hl
theorem xQ (f:Nat):∀p,Can (sW s f p).1:=by
 induction f with
 | zero=>exact fun p=>kI
 | succ f ih =>
  intro p
  unfold sW xJ
  have hc:=xP (s:=s) (vu (s:=s) (vt (s:=s) ih))
  exact og (jF hc _ _ _ fun x hx=>by rw [List.mem_singleton] at hx;rw [hx];exact hc _)
end
theorem l4 {g:E→ByteArray}{b:ByteArray}{c:E→Nat}(hb:b.size≤1):∀{l:List E} {n:Nat},(∀x∈l,(g x).size+3≤16*c x)→jx c l n≤60→(cO g b l).size+16*n≤16*jx c l n
 | [],n,_,_=>by unfold cO jx;rw [iI];omega
 | x :: r,n,h,hs=>by
  have h1:=h x List.mem_cons_self
  unfold jx at hs ⊢
  split at hs
  ·omega
  ·rename_i hn
   rw [if_neg hn]
   have h2:=l4 hb (n:=n+c x) (fun y hy=>h y (List.mem_cons_of_mem _ hy)) hs
   have h3:(brk g x).size≤(g x).size+2:=by
    unfold brk
    split
    ·simp only [bD];show 1+_+1≤_;omega
    ·omega
   unfold cO
   simp only [bD]
   omega
theorem l6 (f:Nat):∀e,bF f e≤60→(aO f e).size+3≤16*bF f e:=by
 induction f with
 | zero=>intro e h;simp [bF] at h
 | succ f ih =>
  intro e h
  unfold bF at h ⊢
  split at h
  ·rename_i hh
   rw [if_pos hh]
   have hd:=(pG hh).1
   have hk:=(im h).2
   have h1:1≤jx (bF f) e.rl 1:=by
    have:∀(l:List E) (n:Nat),jx (bF f) l n≤60→n≤jx (bF f) l n:=by
     intro l
     induction l with
     | nil=>intro n _;exact Nat.le_refl _
     | cons x r ihl =>
      intro n hn
      unfold jx at hn ⊢
      split at hn
      ·omega
      ·rename_i hc
       rw [if_neg hc]
       have:=ihl _ hn
       omega
    exact this _ _ h
   unfold aO
   rcases cZ hd with ⟨k,q1,q2,q3⟩|⟨k,q1,q3⟩|⟨k,q1,q3⟩|⟨k,q1,q2,q3⟩|⟨k,q1,x,q2,q3⟩
   ·rw [if_pos k,q1];omega
   ·rw [k]
    have:e.rs.size≤10:=by
     unfold ga at q1
     simp only [Bool.and_eq_true,decide_eq_true_iff] at q1
     exact q1.2.2
    show (ByteArray.mk #[91]++e.rs++ByteArray.mk #[93]).size+3≤_
    simp only [bD]
    show 1+e.rs.size+1+3≤_
    omega
   ·rcases k with k|k|k|k<;>rw [k]
    ·show 1+3≤_;omega
    ·show 2+3≤_;omega
    ·show 1+3≤_;omega
    ·show 1+3≤_;omega
   ·have key:∀b:ByteArray,b.size≤1→(dN (aO f) b e.rl).size+3≤16*jx (bF f) e.rl 1:=by
     intro b hb
     have h3:=l4 (g:=aO f) (b:=b) (c:=bF f) hb (fun x hx=>ih x (hk x hx)) h
     have h4:(dN (aO f) b e.rl).size≤(cO (aO f) b e.rl).size:=by
      cases e.rl with
      | nil=>exact Nat.le_refl _
      | cons x r=>unfold dN;conv=>rhs;unfold cO
                  simp only [bD];omega
     omega
    rcases k with k|k<;>rw [k]
    ·exact key ByteArray.empty (by rw [iI];omega)
    ·exact key ⟨#[124]⟩ (Nat.le_refl 1)
   ·have h3:=ih x (hk x (by rw [q2];exact List.mem_cons_self))
    rw [q2] at h h1 ⊢
    have h5:jx (bF f) [x] 1=1+bF f x:=by
     unfold jx at h ⊢
     split at h
     ·omega
     ·rename_i hc;rw [if_neg hc];rfl
    have h6:(ia (aO f) x).size≤(aO f x).size+2:=by
     unfold ia
     split
     ·simp only [bD];show 1+_+1≤_;omega
     ·omega
    rw [h5]
    rcases k with k|k|k<;>rw [k]
    ·show (ia (aO f) x++ByteArray.mk #[42]).size+3≤_
     rw [bD];show (ia (aO f) x).size+1+3≤_;omega
    ·show (ia (aO f) x++ByteArray.mk #[43]).size+3≤_
     rw [bD];show (ia (aO f) x).size+1+3≤_;omega
    ·show (ia (aO f) x++ByteArray.mk #[63]).size+3≤_
     rw [bD];show (ia (aO f) x).size+1+3≤_;omega
  ·omega
def jS (e:E):ByteArray:=if dQ e then aO 6 e else ByteArray.empty
def p00:PS:=⟨0,0,false⟩
def fo (s:ByteArray):E×PS:=sW s (s.size+8) p00
def kJ (s:ByteArray):E×PS:=hZ s (s.size+8) p00
def qZ (s:ByteArray):Bool:=!(fo s).2.b&&((fo s).2.a==s.size)&&dQ (fo s).1&&(jS (fo s).1).toList==s.toList
def vv (s:ByteArray):Bool:=decide (s.size≤1000)&&!(kJ s).2.b&&((kJ s).2.a==s.size)&&(jS (kJ s).1).toList==s.toList
theorem toList_inj {a b:ByteArray}(h:a.toList=b.toList):a=b:=by
 rw [ByteArray.toList_eq,ByteArray.toList_eq] at h
 exact ByteArray.ext (Array.toList_inj.1 h)
theorem vw (s:ByteArray):Here s 0 s:=⟨omq,fun j hj=>by rw [Nat.zero_add]⟩
theorem zvQ {s:ByteArray}(h:vv s=true):qZ s=true∧fo s=kJ s:=by
 unfold vv at h
 simp only [Bool.and_eq_true,Bool.not_eq_true',decide_eq_true_iff] at h
 obtain⟨⟨⟨h0,h1⟩,h2⟩,h3⟩:=h
 have e:fo s=kJ s:=(qV (s.size+8) p00 rfl (by decide) h1).1
 refine⟨?_,e⟩
 unfold qZ
 rw [e,h1,h2,h3]
 have:dQ (kJ s).1=true:=by
  cases hk:dQ (kJ s).1 with
  | true=>rfl
  | false =>
   have ht:jS (kJ s).1=ByteArray.empty:=by unfold jS;rw [hk];rfl
   rw [ht] at h3
   have hs:=toList_inj (eq_of_beq h3)
   rw [←hs] at h1
   exact absurd h1 (by decide)
 rw [this];rfl
theorem xR {s:ByteArray}(h:qZ s=true):vv s=true:=by
 unfold qZ at h
 simp only [Bool.and_eq_true,Bool.not_eq_true'] at h
 obtain⟨⟨⟨h1,h2⟩,h3⟩,h4⟩:=h
 have ht:jS (fo s).1=aO 6 (fo s).1:=by unfold jS;rw [h3];rfl
 have hs:aO 6 (fo s).1=s:=ht▸toList_inj (eq_of_beq h4)
 have hp:bF 6 (fo s).1≤60:=by unfold dQ at h3;exact of_decide_eq_true h3
 have hok:okS 6 (fo s).1=true:=((qU 6 _).1.1 hp).2
 have hsz:=l6 6 _ hp
 rw [hs] at hsz
 have hb:=xN s (s.size+8) 6 omq (fo s).1 (xQ _ _) hok p00 rfl (by decide) (by rw [hs];exact vw s) (.inl (by rw [hs];show s.size≤0+s.size;omega))
 rw [hs] at hb
 have e:kJ s=((fo s).1,p00.go s.size):=hb
 unfold vv
 rw [e]
 simp only
 rw [h4]
 have:decide (s.size≤1000)=true:=by simp;omega
 rw [this]
 simp [PS.go,p00]
theorem q6 (s:ByteArray):qZ s=vv s:=by
 cases h:vv s with
 | true=>exact (zvQ h).1
 | false =>
  cases h2:qZ s with
  | false=>rfl
  | true=>rw [xR h2] at h;cases h
def xS (s:ByteArray):E:=if qZ s then (fo s).1 else cN
theorem zc4 (s:ByteArray):xS s=if vv s then (kJ s).1 else cN:=by
 unfold xS
 rw [q6]
 cases h:vv s with
 | true=>rw [if_pos rfl,if_pos rfl,(zvQ h).2]
 | false=>rfl
inductive Fine:E→Prop
 | mk (k:Int) (s:ByteArray) (l:List E) (hk:0≤k∧k≤11) (hs:s.size≤1073741824) (hl:∀x∈l,Fine x):Fine (cL k s l)
theorem Fine.ty {e:E}(h:Fine e):e.Ty prog 112∧e.enc.length=3:=by
 induction h with
 | mk k s l hk hs hl ih =>
  refine⟨E.Ty.mk_agg underlying112 (E.TyF.mk_cons ?_ (E.TyF.mk_cons ?_ (E.TyF.mk_cons (E.Ty.mk_lst underlying110 (by kernel_rfl) (fun x hx=>(ih x hx).1) fun x hx=>(ih x hx).2) E.TyF.mk_nil))),rfl⟩
  ·simp only [E.Ty]
   refine⟨underlying3,?_⟩
   have e1:IntKind.i64.min = -9223372036854775808:=rfl
   have e2:IntKind.i64.max=9223372036854775807:=rfl
   simp only [Lit.wf,decide_eq_true_iff,Bool.and_eq_true,e1,e2]
   omega
  ·simp only [E.Ty]
   exact⟨underlying9,by unfold maxLen;omega⟩
theorem Fine.leaf {k:Int}{s:ByteArray}(hk:0≤k∧k≤11)(hs:s.size≤1073741824):Fine (cL k s []):=.mk k s [] hk hs fun _ h=>absurd h List.not_mem_nil
theorem Fine.zero:Fine cN:=Fine.leaf ⟨omq,omq⟩ (by show (0:Nat)≤_;omega)
theorem ji (k:Int)(s:ByteArray)(l:List E):(cL k s l).sz=s.size+(l.length+E.szL l):=by
 simp only [cL,E.sz,E.szL];omega
theorem j5:cN.sz=0:=rfl
structure Good (s:ByteArray)(p:PS)(r:E×PS)(lo k m:Nat):Prop where
 fine:Fine r.1
 ge:p.a+lo≤r.2.a
 le:r.2.a≤s.size
 d:r.2.d=p.d
 sz:r.1.sz+k+2*p.a≤2*r.2.a+m
section
variable {s:ByteArray}(hs:s.size≤1048576)
theorem pI {c:Nat}:∀(f a:Nat),a≤s.size→a≤dV s c f a∧dV s c f a≤s.size
 | 0,a,h=>⟨Nat.le_refl _,h⟩
 | f+1,a,h=>by
  unfold dV
  split
  ·rename_i h2
   have:=pI (c:=c) f (a+1) omq
   omega
  ·exact⟨Nat.le_refl _,h⟩
include hs
theorem l7 {alt:PS→E×PS}{p:PS}(hp:p.a<s.size)(ha:Good s (p.go 1) (alt (p.go 1)) 0 0 1):Good s p (jd s alt p) 1 1 0:=by
 have e0:ByteArray.empty.size=0:=rfl
 have h1:(p.go 1).a=p.a+1:=rfl
 have h2:(p.go 1).d=p.d:=rfl
 have leaf:∀(k:Int) (t:ByteArray),0≤k∧k≤11→t.size≤1→Good s p (cL k t [],p.go 1) 1 1 0:=fun k t hk ht =>
  ⟨Fine.leaf hk (by show t.size≤_;omega),by show p.a+1≤p.a+1;omega,by show p.a+1≤_;omega,rfl,by
   show (cL k t []).sz+1+2*p.a≤2*(p.a+1)+0
   rw [ji];simp only [List.length_nil,E.szL];omega⟩
 unfold jd dZ
 split
 ·exact leaf 1 _ omq (by show (1:Nat)≤1;omega)
 split
 ·exact leaf 2 _ omq omq
 split
 ·exact leaf 10 _ omq omq
 split
 ·exact leaf 11 _ omq omq
 split
 ·have hu:=pI (s:=s) (c:=93) s.size (p.go 1).a omq
  dsimp only
  split
  ·rename_i hlt
   have hc:(bu s (p.go 1).a (dV s 93 s.size (p.go 1).a)).size≤dV s 93 s.size (p.go 1).a-(p.go 1).a:=by
    unfold bu;rw [ByteArray.size_extract];omega
   refine⟨Fine.leaf omq (by show (bu _ _ _).size≤_;omega),?_,?_,rfl,?_⟩
   ·show p.a+1≤dV s 93 s.size (p.go 1).a+1;omega
   ·show dV s 93 s.size (p.go 1).a+1≤s.size;omega
   ·show (cL 3 (bu s (p.go 1).a (dV s 93 s.size (p.go 1).a)) []).sz+1+2*p.a≤2*(dV s 93 s.size (p.go 1).a+1)+0
    rw [ji];simp only [List.length_nil,E.szL];omega
  ·exact⟨Fine.zero,by show p.a+1≤p.a+1;omega,by show p.a+1≤_;omega,rfl,by show cN.sz+1+2*p.a≤2*(p.a+1)+0;rw [j5];omega⟩
 split
 ·split
  ·rename_i h41
   have hl:(p.go 1).a<s.size:=cX (by rw [h41];decide)
   exact⟨Fine.leaf omq (by show (0:Nat)≤_;omega),by show p.a+1≤(p.go 1).a+1;omega,by show (p.go 1).a+1≤_;omega,rfl,by
    show (cL 9 ByteArray.empty []).sz+1+2*p.a≤2*((p.go 1).a+1)+0
    rw [ji];simp only [List.length_nil,E.szL];omega⟩
  ·obtain⟨g1,g2,g3,g4,g5⟩:=ha
   dsimp only
   split
   ·rename_i h41
    have hl:(alt (p.go 1)).2.a<s.size:=cX (by rw [h41];decide)
    exact⟨g1,by show p.a+1≤(alt (p.go 1)).2.a+1;omega,by show (alt (p.go 1)).2.a+1≤_;omega,by show (alt (p.go 1)).2.d=p.d;omega,by
     show (alt (p.go 1)).1.sz+1+2*p.a≤2*((alt (p.go 1)).2.a+1)+0;omega⟩
   ·exact⟨Fine.zero,by show p.a+1≤(alt (p.go 1)).2.a;omega,g3,by show (alt (p.go 1)).2.d=p.d;omega,by
     show cN.sz+1+2*p.a≤2*(alt (p.go 1)).2.a+0;rw [j5];omega⟩
 ·exact⟨Fine.zero,by show p.a+1≤p.a+1;omega,by show p.a+1≤_;omega,rfl,by show cN.sz+1+2*p.a≤2*(p.a+1)+0;rw [j5];omega⟩
omit hs in
theorem jj {atom:PS→E×PS}{p:PS}(ha:Good s p (atom p) 1 1 0):Good s p (jQ s atom p) 1 1 0:=by
 obtain⟨g1,g2,g3,g4,g5⟩:=ha
 have e0:ByteArray.empty.size=0:=rfl
 have star:∀k:Int,0≤k∧k≤11→(atom p).2.a<s.size→Good s p (cL k ByteArray.empty [(atom p).1],(atom p).2.go 1) 1 1 0:=fun k hk hl =>
  ⟨.mk k _ _ hk omq (fun x hx=>by obtain rfl:=List.mem_singleton.1 hx;exact g1),by show p.a+1≤(atom p).2.a+1;omega,by show (atom p).2.a+1≤_;omega,g4,by
   show (cL k ByteArray.empty [(atom p).1]).sz+1+2*p.a≤2*((atom p).2.a+1)+0
   rw [ji];simp only [List.length_cons,List.length_nil,E.szL];omega⟩
 unfold jQ
 dsimp only
 split
 ·rename_i h;exact star 6 omq (cX (by rw [h];decide))
 split
 ·rename_i h;exact star 7 omq (cX (by rw [h];decide))
 split
 ·rename_i h;exact star 8 omq (cX (by rw [h];decide))
 ·exact⟨g1,g2,g3,g4,g5⟩
omit hs in
theorem gW (x:E):∀l:List E,E.szL (l++[x])=E.szL l+x.sz
 | []=>by simp only [List.nil_append,E.szL];omega
 | y :: r=>by have:=gW x r;simp only [List.cons_append,E.szL];omega
structure GoodL (s:ByteArray)(p0:PS)(l:List E)(q:PS)(m:Nat):Prop where
 fine:∀x∈l,Fine x
 ge:p0.a≤q.a
 le:q.a≤s.size
 d:q.d=p0.d
 len:l.length+p0.a≤q.a+1
 sz:E.szL l+l.length+2*p0.a≤2*q.a+m
omit hs in
theorem zwQ {p:PS}(h:goI s p=true):p.b=false∧p.a<s.size∧bAt s p.a≠0:=by
 unfold goI at h
 simp only [Bool.and_eq_true,Bool.not_eq_true',beq_eq_false_iff_ne] at h
 exact⟨h.1.1.1,cX h.1.1.2,h.1.1.2⟩
omit hs in
theorem iL {item:PS→E×PS}{p0:PS}(hi:∀p,p.a<s.size→p.d=p0.d→p0.a≤p.a→Good s p (item p) 1 1 0):∀(n:Nat) (l:List E) (p:PS),GoodL s p0 l p 0→GoodL s p0 (bP s item n l p).1 (bP s item n l p).2 0
 | 0,l,p,h=>h
 | n+1,l,p,h=>by
  unfold bP
  split
  ·rename_i hg
   obtain⟨hb,hlt,-⟩:=zwQ hg
   obtain⟨g1,g2,g3,g4,g5⟩:=hi p hlt h.d h.ge
   obtain⟨k1,k2,k3,k4,k5,k6⟩:=h
   refine iL hi n _ _ ⟨fun x hx=>?_,omq,g3,omq,?_,?_⟩
   ·rcases List.mem_append.1 hx with hx|hx
    ·exact k1 x hx
    ·obtain rfl:=List.mem_singleton.1 hx;exact g1
   ·rw [List.length_append,List.length_singleton];omega
   ·rw [gW,List.length_append,List.length_singleton];omega
  ·exact h
omit hs in
theorem jk {k:Int}(hk:0≤k∧k≤11){l:List E}(h:∀x∈l,Fine x):Fine (jP k l)∧(jP k l).sz≤E.szL l+l.length:=by
 match l,h with
 | [x],h=>exact⟨h x (List.mem_singleton.2 rfl),by show x.sz≤E.szL [x]+1;simp only [E.szL];omega⟩
 | [],h=>exact⟨.mk _ _ _ hk (by show (0:Nat)≤_;omega) h,by show (cL k ByteArray.empty []).sz≤_;rw [ji];have:ByteArray.empty.size=0:=rfl;omega⟩
 | x :: y :: r,h=>exact⟨.mk _ _ _ hk (by show (0:Nat)≤_;omega) h,by show (cL k ByteArray.empty (x :: y :: r)).sz≤_;rw [ji];have:ByteArray.empty.size=0:=rfl;omega⟩
omit hs in
theorem oh {item:PS→E×PS}{p:PS}(hp:p.a≤s.size)(hi:∀q,q.a<s.size→q.d=p.d→p.a≤q.a→Good s q (item q) 1 1 0):Good s p (sV s item p) 0 0 0:=by
 have hL:=iL (p0:=p) hi (s.size+2) [] p ⟨fun _ h=>absurd h List.not_mem_nil,Nat.le_refl _,hp,rfl,by simp,by simp [E.szL]⟩
 obtain⟨k1,k2,k3,k4,k5,k6⟩:=hL
 unfold sV
 dsimp only
 split
 ·exact⟨Fine.zero,by show p.a+0≤(bP s item (s.size+2) [] p).2.a;omega,k3,k4,by show cN.sz+0+2*p.a≤2*(bP s item (s.size+2) [] p).2.a+0;rw [j5];omega⟩
 ·obtain⟨f1,f2⟩:=jk (k:=4) omq k1
  refine⟨f1,?_,k3,k4,?_⟩<;>dsimp only at *<;>omega
omit hs in
theorem zn1 {p:PS}(h:wM s p=true):p.b=false∧p.a<s.size:=by
 unfold wM at h
 simp only [Bool.and_eq_true,Bool.not_eq_true',beq_iff_eq] at h
 exact⟨h.1,cX (by rw [h.2];decide)⟩
omit hs in
theorem iM {cat:PS→E×PS}{p0:PS}(hc:∀p,p.a≤s.size→p.d=p0.d→p0.a≤p.a→Good s p (cat p) 0 0 0):∀(n:Nat) (l:List E) (p:PS),GoodL s p0 l p 1→GoodL s p0 (cB s cat n l p).1 (cB s cat n l p).2 1
 | 0,l,p,h=>h
 | n+1,l,p,h=>by
  unfold cB
  split
  ·rename_i hg
   obtain⟨hb,hlt⟩:=zn1 hg
   obtain⟨k1,k2,k3,k4,k5,k6⟩:=h
   have e1:(p.go 1).a=p.a+1:=rfl
   have e2:(p.go 1).d=p.d:=rfl
   obtain⟨g1,g2,g3,g4,g5⟩:=hc (p.go 1) omq omq omq
   refine iM hc n _ _ ⟨fun x hx=>?_,omq,g3,omq,?_,?_⟩
   ·rcases List.mem_append.1 hx with hx|hx
    ·exact k1 x hx
    ·obtain rfl:=List.mem_singleton.1 hx;exact g1
   ·rw [List.length_append,List.length_singleton];omega
   ·rw [gW,List.length_append,List.length_singleton];omega
  ·exact h
omit hs in
theorem vx {cat:PS→E×PS}{p:PS}(hp:p.a≤s.size)(hc:∀q,q.a≤s.size→q.d=p.d+1→p.a≤q.a→Good s q (cat q) 0 0 0):Good s p (xJ s cat p) 0 0 1:=by
 obtain⟨q0,hq0⟩:∃q0:PS,q0=⟨p.a,p.d+1,p.b||decide (40<p.d+1)⟩:=⟨_,rfl⟩
 have e1:q0.a=p.a:=by rw [hq0]
 have e2:q0.d=p.d+1:=by rw [hq0]
 obtain⟨g1,g2,g3,g4,g5⟩:=hc q0 omq e2 omq
 have hL:=iM (p0:=q0) (fun q h1 h2 h3=>hc q h1 omq omq) (s.size+1) [(cat q0).1] (cat q0).2
  ⟨fun x hx=>by obtain rfl:=List.mem_singleton.1 hx;exact g1,omq,g3,g4,by simp only [List.length_singleton];omega,by simp only [E.szL,List.length_singleton];omega⟩
 obtain⟨k1,k2,k3,k4,k5,k6⟩:=hL
 obtain⟨f1,f2⟩:=jk (k:=5) omq k1
 unfold xJ
 rw [←hq0]
 refine⟨f1,?_,k3,?_,?_⟩<;>dsimp only at *<;>omega
theorem kK (f:Nat):∀p:PS,p.a≤s.size→s.size+1≤p.a+f→Good s p (sW s f p) 0 0 1:=by
 induction f with
 | zero=>intro p h1 h2;omega
 | succ f ih =>
  intro p h1 h2
  exact vx h1 fun q hq hqd hqa=>oh hq fun r hr hrd hra=>jj (l7 hs hr (ih _ (by show r.a+1≤_;omega) (by show s.size+1≤r.a+1+f;omega)))
end
theorem aP {e:E}(h:e.Ty prog 112):∃(x0:Int) (x1:ByteArray) (x2A:Option Addr) (x2c:Nat) (x2l:List E),e=(E.agg [.int .i64 x0,.str x1,.lst 3 112 x2A x2c x2l])∧((Lit.int .i64 x0).wf=true)∧(x1.size≤9223372036854775807)∧((∀y∈x2l,y.Ty prog 112)∧(∀y∈x2l,y.enc.length=3))∧True:=by
 obtain⟨fs,rfl,q0⟩:=h.agg_ underlying112
 change E.TyF _ _ [3,9,110] at q0
 obtain⟨e0,r0,rfl,h0,q1⟩:=q0.cons_
 obtain⟨e1,r1,rfl,h1,q2⟩:=q1.cons_
 obtain⟨e2,r2,rfl,h2,q3⟩:=q2.cons_
 obtain rfl:=q3.nil_
 obtain⟨x0,rfl,gx0⟩:=h0.int_ underlying3
 obtain⟨x1,rfl,gx1⟩:=h1.str_ underlying9
 obtain⟨x2A,x2c,x2l,rfl,gx2,gx2'⟩:=h2.lst_ underlying110 (k:=3) (by kernel_rfl)
 exact⟨x0,x1,x2A,x2c,x2l,rfl,gx0,gx1,⟨gx2,gx2'⟩,trivial⟩
theorem vy {l:List E}(hl:∀e∈l,e.Ty prog 112)(hk:∀e∈l,e.enc.length=3)(hlen:l.length≤1073741824){b:List AC}(hb:bi b=true)(p:E→Bool)(f:FuncId)(hc:∀x∈l,Ctr prog f (.ag (acE x) :: [.c (.pt 0 0)]) [b] (.c (.v (.bool (p x)))) [b]):Ctr prog 182 [.c (.ro l.length 3 (acL l)),.c (.fn f [.pt 0 0])] [b] (.c (.v (.int .i64 (oW p l)))) [b]:=by
 refine av func182 rfl rfl ?_
 repeat (first|refine ac ?_|refine ah ?_|refine aj ?_|refine aA ?_|refine am ?_|refine aa fun C=>?_|refine ar (by kernel_rfl) (by kernel_rfl) fun C=>?_|refine ab ?_|refine b9 ?_|refine gt ?_|refine gg ?_|refine gu ?_|refine x_mv ?_|refine fh ?_|refine x_sk0 ?_|refine gv ?_|refine dj ?_|refine x_sto ?_|refine dk ?_|refine x_app0 ?_|refine gx ?_)
 refine a8 (fun k:Nat=>⟨eX [(0,.c (.ro l.length 3 (acL l))),(1,.c (.fn f [.pt 0 0])),(7,.c (.v (.int .i64 l.length))),(8,.c (.v (.int .i64 k)))],eJ [(0,0,⟨0,0,0,true,b⟩)],1,[0],19⟩)
  (fun N k=>k+N=l.length∧∀j y,j<k→l[j]? = some y→p y=false) l.length 0 ⟨omq,omq⟩ ?_ ?_
 ·refine aM _ _ rfl rfl ?_ ?_;(repeat' (first|exact TmOk.nil|exact RwOk.nil|refine TmOk.cons ?_ ?_|refine RwOk.cons ?_ ?_|rfl|(refine rnV_id' rfl ?_;exact byc)|(refine cV ?_;first|rfl|omega|(rw [bM omq omq];omega))|(refine bq rfl ?_;exact byc)|exact d5 rfl rfl|(refine rw_mid (by rfl) (by rfl) ?_ ?_<;>exact byc)|(refine rw_rn' rfl rfl ?_;simp;done)));refine bq rfl hb
 rintro N k ⟨hN,hno⟩
 repeat (first|refine ac ?_|refine ah ?_|refine aj ?_|refine aA ?_|refine am ?_|refine aa fun C=>?_|refine ar (by kernel_rfl) (by kernel_rfl) fun C=>?_|refine ab ?_|refine b9 ?_|refine gt ?_|refine gg ?_|refine gu ?_|refine x_mv ?_|refine fh ?_|refine x_sk0 ?_|refine gv ?_|refine dj ?_|refine x_sto ?_|refine dk ?_|refine x_app0 ?_|refine gx ?_)
 refine cS (by rfl) (fun h1=>?_) fun h1=>?_
 ·have hk':k<l.length:=by simpa using h1
  obtain⟨x,hx⟩:∃x,l[k]? = some x:=⟨_,List.getElem?_eq_getElem hk'⟩
  have hxt:=hl x (List.mem_of_getElem? hx)
  have hcc:=hc x (List.mem_of_getElem? hx)
  obtain⟨y0,y1,y2A,y2c,y2l,rfl,gy0,gy1,gy2,-⟩:=aP hxt
  repeat (first|refine ac ?_|refine ah ?_|refine aj ?_|refine aA ?_|refine am ?_|refine aa fun C=>?_|refine ar (by kernel_rfl) (by kernel_rfl) fun C=>?_|refine ab ?_|refine b9 ?_|refine gt ?_|refine gg ?_|refine gu ?_|refine x_mv ?_|refine fh ?_|refine x_sk0 ?_|refine gv ?_|refine dj ?_|refine x_sto ?_|refine dk ?_|refine x_app0 ?_|refine gx ?_)
  refine x_cad 0 hcc ?_ (hl:=bz (by rfl) hb)
  repeat (first|refine ac ?_|refine ah ?_|refine aj ?_|refine aA ?_|refine am ?_|refine aa fun C=>?_|refine ar (by kernel_rfl) (by kernel_rfl) fun C=>?_|refine ab ?_|refine b9 ?_|refine gt ?_|refine gg ?_|refine gu ?_|refine x_mv ?_|refine fh ?_|refine x_sk0 ?_|refine gv ?_|refine dj ?_|refine x_sto ?_|refine dk ?_|refine x_app0 ?_|refine gx ?_)
  refine cS (by rfl) (fun h2=>?_) fun h2=>?_
  ·repeat (first|refine ac ?_|refine ah ?_|refine aj ?_|refine aA ?_|refine am ?_|refine aa fun C=>?_|refine ar (by kernel_rfl) (by kernel_rfl) fun C=>?_|refine ab ?_|refine b9 ?_|refine gt ?_|refine gg ?_|refine gu ?_|refine x_mv ?_|refine fh ?_|refine x_sk0 ?_|refine gv ?_|refine dj ?_|refine x_sto ?_|refine dk ?_|refine x_app0 ?_|refine gx ?_)
   refine dw (x:=.c (.v (.int .i64 k))) (rw:=⟨0,0,0,true,b⟩) rfl rfl rfl hb rfl ⟨?_,rfl⟩
   rw [pk hno hx h2]
  ·repeat (first|refine ac ?_|refine ah ?_|refine aj ?_|refine aA ?_|refine am ?_|refine aa fun C=>?_|refine ar (by kernel_rfl) (by kernel_rfl) fun C=>?_|refine ab ?_|refine b9 ?_|refine gt ?_|refine gg ?_|refine gu ?_|refine x_mv ?_|refine fh ?_|refine x_sk0 ?_|refine gv ?_|refine dj ?_|refine x_sto ?_|refine dk ?_|refine x_app0 ?_|refine gx ?_)
   refine⟨N-1,k+1,omq,⟨omq,fun j z hj hz=>?_⟩,?_⟩
   ·by_cases e:j=k
    ·rw [e,hx] at hz;injection hz with hz;subst hz;exact h2
    ·exact hno j z omq hz
   ·refine aM _ _ rfl rfl ?_ ?_;(repeat' (first|exact TmOk.nil|exact RwOk.nil|refine TmOk.cons ?_ ?_|refine RwOk.cons ?_ ?_|rfl|(refine rnV_id' rfl ?_;exact byc)|(refine cV ?_;first|rfl|omega|(rw [bM omq omq];omega))|(refine bq rfl ?_;exact byc)|exact d5 rfl rfl|(refine rw_mid (by rfl) (by rfl) ?_ ?_<;>exact byc)|(refine rw_rn' rfl rfl ?_;simp;done)));refine bq rfl hb
 ·have hk':¬k<l.length:=by simpa using h1
  repeat (first|refine ac ?_|refine ah ?_|refine aj ?_|refine aA ?_|refine am ?_|refine aa fun C=>?_|refine ar (by kernel_rfl) (by kernel_rfl) fun C=>?_|refine ab ?_|refine b9 ?_|refine gt ?_|refine gg ?_|refine gu ?_|refine x_mv ?_|refine fh ?_|refine x_sk0 ?_|refine gv ?_|refine dj ?_|refine x_sto ?_|refine dk ?_|refine x_app0 ?_|refine gx ?_)
  refine dw (x:=.c (.v (.int .i64 (-1)))) (rw:=⟨0,0,0,true,b⟩) rfl rfl rfl hb rfl ⟨?_,rfl⟩
  rw [iD fun j y hj hy=>hno j y omq hy]
theorem vz {l:List E}(hl:∀e∈l,e.Ty prog 112)(hk:∀e∈l,e.enc.length=3)(hlen:l.length≤1073741824){b:List AC}(hb:bi b=true)(p:E→Bool)(f:FuncId)(hc:∀x∈l,Ctr prog f (.ag (acE x) :: [.c (.pt 0 0)]) [b] (.c (.v (.bool (p x)))) [b]):Ctr prog 171 [.c (.ro l.length 3 (acL l)),.c (.fn f [.pt 0 0])] [b] (.c (.v (.bool (l.any p)))) [b]:=by
 refine av func171 rfl rfl ?_
 have hcc:=vy hl hk hlen hb p f hc
 repeat (first|refine ac ?_|refine ah ?_|refine aj ?_|refine aA ?_|refine am ?_|refine aa fun C=>?_|refine ar (by kernel_rfl) (by kernel_rfl) fun C=>?_|refine ab ?_|refine b9 ?_|refine gt ?_|refine gg ?_|refine gu ?_|refine x_mv ?_|refine fh ?_|refine x_sk0 ?_|refine gv ?_|refine dj ?_|refine x_sto ?_|refine dk ?_|refine x_app0 ?_|refine gx ?_)
 refine x_cad 0 hcc ?_ (hl:=bz (by rfl) hb)
 repeat (first|refine ac ?_|refine ah ?_|refine aj ?_|refine aA ?_|refine am ?_|refine aa fun C=>?_|refine ar (by kernel_rfl) (by kernel_rfl) fun C=>?_|refine ab ?_|refine b9 ?_|refine gt ?_|refine gg ?_|refine gu ?_|refine x_mv ?_|refine fh ?_|refine x_sk0 ?_|refine gv ?_|refine dj ?_|refine x_sto ?_|refine dk ?_|refine x_app0 ?_|refine gx ?_)
 refine dw (x:=.c (.v (.bool (decide (oW p l ≥ 0))))) (rw:=⟨0,0,0,true,b⟩) rfl rfl rfl hb rfl ⟨?_,rfl⟩
 rw [mH]
theorem zd4:∀c:Fin 256,decide (0≤Lib.indexByte [32,95,45,44,58] (UInt8.ofNat c.1))=(c.1==32||c.1==95||c.1==45||c.1==44||c.1==58):=by decide
theorem kL {c:Nat}(hc:c<256):Ctr prog 169 [.c (.v (.int .u8 (c:Int)))] [] (.c (.v (.bool (kC c)))) []:=by
 have h1:=eQ ⟨#[32,95,45,44,58]⟩ hc
 have h2:=eN c
 have h3:decide (0≤Lib.indexByte (ByteArray.mk #[32,95,45,44,58]).data.toList (UInt8.ofNat c))=(c==32||c==95||c==45||c==44||c==58):=zd4 ⟨c,hc⟩
 refine av func169 rfl rfl ?_
 repeat' (first|refine ac ?_|refine aa fun C=>?_|refine ab ?_|(refine xk ?_ ?_<;>intro hG<;>(try cases hG))|refine b9 ?_|refine fh ?_|refine lD h1 ?_|refine lD h2 ?_)
 all_goals
  (first|refine am ?_|skip);refine bv rfl aH ⟨?_,rfl⟩;refine congrArg (fun s=>AV.c (AC.v (Value.bool s))) ?_
  clear h1 h2
  have h3':=congrArg (·= true) h3
  simp only [decide_eq_true_iff,eq_iff_iff] at h3'
  clear h3
  unfold kC
  simp only [cR,ge_iff_le,Bool.or_eq_true,Bool.and_eq_true,decide_eq_true_iff,beq_iff_eq,Bool.and_eq_false_iff,decide_eq_false_iff_not] at *
  (rw [Bool.eq_iff_iff];(try simp only [Bool.and_eq_true,Bool.or_eq_true,Bool.not_eq_true',decide_eq_true_iff,decide_eq_false_iff_not,beq_iff_eq,Bool.and_eq_false_iff,Bool.or_eq_false_iff,bne_iff_ne,ne_eq,Bool.true_eq_false,Bool.false_eq_true,true_iff,false_iff,iff_true,iff_false] at *);first|omega|(simp at *;omega))
theorem ol {s:ByteArray}(h:∀j,j<s.size→dY s j=true):ga s=(decide (1≤s.size)&&decide (s.size≤10)):=by
 unfold ga
 rw [show (List.range s.size).all (dY s)=true from List.all_eq_true.2 fun j hj=>h j (List.mem_range.1 hj),Bool.true_and]
theorem j6 {s:ByteArray}{j:Nat}(h:j<s.size)(h2:dY s j=false):ga s=false:=by
 unfold ga
 rw [show (List.range s.size).all (dY s)=false from List.all_eq_false.2 ⟨j,List.mem_range.2 h,by simp [h2]⟩,Bool.false_and]
theorem zo1 {s:ByteArray}(hs:s.size≤1073741824):Ctr prog 170 [.c (.v (.string s))] [] (.c (.v (.bool (ga s)))) []:=by
 refine av func170 rfl rfl ?_
 repeat' (first|refine ac ?_|refine ah ?_|refine aa fun C=>?_|refine ab ?_|refine b9 ?_)
 refine a8 (fun k:Nat=>⟨eX [(0,.c (.v (.string s))),(3,.c (.v (.int .i64 k)))],eJ [],0,[],32⟩) (fun N k=>k+N=s.size∧∀j,j<k→dY s j=true) s.size 0 ⟨omq,fun j hj=>by omega⟩ ?_ ?_
 ·(refine aM _ _ rfl rfl ?_ ?_<;>exact tdy0)
 rintro N k ⟨hN,hall⟩
 repeat' (first|refine ac ?_|refine aa fun C=>?_|refine ab ?_|refine b9 ?_)
 refine cS (by rfl) (fun h1=>?_) fun h1=>?_
 ·have hk:k<s.size:=by simpa using h1
  have hl:=kL (dm s k)
  have fin:∀b,dY s k=b→True:=fun _ _=>trivial
  cases k with
  | zero =>
   repeat' (first|refine ac ?_|refine ah ?_|refine aj ?_|refine aa fun C=>?_|refine ar (by kernel_rfl) (by kernel_rfl) fun C=>?_|refine ab ?_|(refine xk ?_ ?_<;>intro hG<;>(try cases hG))|refine x_six ?_|refine nS ?_|refine b9 ?_|refine fh ?_|refine lD hl ?_|(refine cS (by rfl) ?_ ?_<;>intro hC<;>(try cases hC)))
   all_goals first
    | (exfalso;revert hG;simp;done)
    | (refine am ?_
       refine bv (x:=.c (.v (.bool false))) rfl aH ⟨?_,rfl⟩
       rw [j6 hk (by unfold dY;simp_all)])
    | (refine⟨N-1,1,omq,⟨omq,fun j hj=>?_⟩,?_⟩
       ·obtain rfl:j=0:=by omega
        unfold dY;simp_all
       ·(refine aM _ _ rfl rfl ?_ ?_<;>(repeat' (first|exact TmOk.nil|exact RwOk.nil|refine TmOk.cons ?_ ?_|refine RwOk.cons ?_ ?_|rfl|(refine rnV_id' rfl ?_;exact byc)|(refine cV ?_;first|rfl|omega|(rw [bM omq omq];omega))|(refine bq rfl ?_;exact byc)|exact d5 rfl rfl|(refine rw_mid (by rfl) (by rfl) ?_ ?_<;>exact byc)|(refine rw_rn' rfl rfl ?_;simp;done)))))
  | succ m =>
   have hm:((m+1:Nat):Int)-1=(m:Int):=by omega
   repeat' (first|refine ac ?_|refine ah ?_|refine aj ?_|refine aa fun C=>?_|refine ar (by kernel_rfl) (by kernel_rfl) fun C=>?_|refine ab ?_|(refine xk ?_ ?_<;>intro hG<;>(try cases hG))|refine x_six ?_|refine nS ?_|refine b9 ?_|refine fh ?_|refine lD hl ?_|(refine cS (by rfl) ?_ ?_<;>intro hC<;>(try cases hC)))
   all_goals first
    | (refine am ?_
       refine bv (x:=.c (.v (.bool false))) rfl aH ⟨?_,rfl⟩
       rw [j6 hk (by unfold dY;simp_all;try omega)])
    | (refine⟨N-1,m+2,omq,⟨omq,fun j hj=>?_⟩,?_⟩
       ·rcases Nat.lt_or_ge j (m+1) with h|h
        ·exact hall j h
        ·obtain rfl:j=m+1:=by omega
         unfold dY;simp_all;try omega
       ·(refine aM _ _ rfl rfl ?_ ?_<;>(repeat' (first|exact TmOk.nil|exact RwOk.nil|refine TmOk.cons ?_ ?_|refine RwOk.cons ?_ ?_|rfl|(refine rnV_id' rfl ?_;exact byc)|(refine cV ?_;first|rfl|omega|(rw [bM omq omq];omega))|(refine bq rfl ?_;exact byc)|exact d5 rfl rfl|(refine rw_mid (by rfl) (by rfl) ?_ ?_<;>exact byc)|(refine rw_rn' rfl rfl ?_;simp;done)))))
    | skip
 ·repeat' (first|refine ac ?_|refine aA ?_|refine aa fun C=>?_|refine ab ?_|refine b9 ?_|refine lD (gR _ _ _) ?_)
  refine am ?_
  refine bv rfl aH ⟨?_,rfl⟩
  rw [ol fun j hj=>hall j (by simp at h1;omega)]
  refine congrArg (fun s=>AV.c (AC.v (Value.bool s))) ?_
  unfold inR
  (rw [Bool.eq_iff_iff];(try simp only [Bool.and_eq_true,Bool.or_eq_true,Bool.not_eq_true',decide_eq_true_iff,decide_eq_false_iff_not,beq_iff_eq,Bool.and_eq_false_iff,Bool.or_eq_false_iff,bne_iff_ne,ne_eq,Bool.true_eq_false,Bool.false_eq_true,true_iff,false_iff,iff_true,iff_false] at *);first|omega|(simp at *;omega))
theorem xT {x:E}(hx:x.Ty prog 112):Ctr prog 173 [.ag (acE x)] [] (.c (.v (.bool (fE x.rk)))) []:=by
 obtain⟨y0,y1,y2A,y2c,y2l,rfl,gy0,gy1,gy2,-⟩:=aP hx
 refine av func173 rfl rfl ?_
 repeat' (first|(apply ay;first|refine bX ?_|(refine aR ?_ ?_<;>intro hG<;>(try cases hG))|refine ai ?_|refine bj ?_|refine aI ?_|refine ao ?_|refine aB ?_|refine cA ?_)|refine ak ?_|refine ab ?_|refine aa fun C=>?_|refine ac ?_)
 all_goals
  (first|refine am ?_|skip);refine bv rfl aH ⟨?_,rfl⟩;refine congrArg (fun s=>AV.c (AC.v (Value.bool s))) ?_
  simp only [E.rk]
  unfold fE
  (rw [Bool.eq_iff_iff];(try simp only [Bool.and_eq_true,Bool.or_eq_true,Bool.not_eq_true',decide_eq_true_iff,decide_eq_false_iff_not,beq_iff_eq,Bool.and_eq_false_iff,Bool.or_eq_false_iff,bne_iff_ne,ne_eq,Bool.true_eq_false,Bool.false_eq_true,true_iff,false_iff,iff_true,iff_false] at *);first|omega|(simp at *;omega))
theorem xU {x:E}(hx:x.Ty prog 112)(k:Int){c1 c2:AC}(h1:clo c1=true)(h2:clo c2=true):Ctr prog 172 [.ag (acE x),.c (.pt 0 0)] [[.v (.int .i64 k),c1,c2]] (.c (.v (.bool (x.rk==k)))) [[.v (.int .i64 k),c1,c2]]:=by
 obtain⟨y0,y1,y2A,y2c,y2l,rfl,gy0,gy1,gy2,-⟩:=aP hx
 refine av func172 rfl rfl ?_
 repeat' (first|(apply ay;first|refine ai ?_|refine bj ?_|refine aI ?_|refine ao ?_|refine cA ?_)|refine ak ?_|refine ab ?_|refine aa fun C=>?_|refine ac ?_)
 refine am ?_
 exact dw (x:=.c (.v (.bool (y0==k)))) (rw:=⟨0,0,0,true,[.v (.int .i64 k),c1,c2]⟩) rfl rfl rfl (by simp [bi,clo,h1,h2]) rfl ⟨rfl,rfl⟩
theorem mT {s:ByteArray}:(s.toList==(ByteArray.mk #[]).toList)=(s.size==0):=by
 rw [Bool.eq_iff_iff]
 simp only [beq_iff_eq]
 exact⟨fun h=>by have:=toList_inj h;rw [this];rfl,fun h=>by rw [iJ h];rfl⟩
theorem ib0 {n:Nat}:((n:Int)==0)=(n==0):=by rw [Bool.eq_iff_iff];simp only [beq_iff_eq];omega
theorem ib1 {n:Nat}:((n:Int)==1)=(n==1):=by rw [Bool.eq_iff_iff];simp only [beq_iff_eq];omega
theorem xV {n:Nat}:inR (n:Int) 2 8=(decide (2≤n)&&decide (n≤8)):=by
 unfold inR
 rw [Bool.eq_iff_iff];simp only [Bool.and_eq_true,decide_eq_true_iff];omega
theorem mU {x0:Int}{x1:ByteArray}{A:Option Addr}{c:Nat}{l:List E}:lG (E.agg [.int .i64 x0,.str x1,.lst 3 112 A c l])=(eT x0 x1 l&&!((x0==4||x0==5)&&l.any fun x=>x.rk==x0)):=rfl
end Go.Proofs.YtomolhbkdhjofaaGreatDoor
