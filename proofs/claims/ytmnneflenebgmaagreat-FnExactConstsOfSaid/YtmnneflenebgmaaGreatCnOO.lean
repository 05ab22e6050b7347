/- T -/
import Derived.Shelf.Lays
import Derived.Shelf.Strings.BuilderX
import Derived.Shelf.Small.Strs
import Derived.Shelf.Strings.OnBuilder
import Derived.Test.YtmnneflenebgmaaGreatCnON
set_option maxHeartbeats 0
set_option maxRecDepth 100000
namespace Go.Proofs.YtmnneflenebgmaaGreat
open Go.RowKit Go.Proofs.Tryz
theorem nX {k:Int}:∀{l:List E},(∀x∈l,Can x)→Can (jB k l)
 | [],h=>Can.mk _ _ _ h
 | [x],h=>h x List.mem_cons_self
 | x :: y :: r,h=>Can.mk _ _ _ h
theorem kw:Can cV:=Can.mk _ _ _ fun _ h=>absurd h List.not_mem_nil
theorem xB (k:Int)(s:ByteArray):Can (cU k s []):=Can.mk _ _ _ fun _ h=>absurd h List.not_mem_nil
section
variable {s:ByteArray}
theorem uV {alt:PS→E×PS}(h:∀p,Can (alt p).1)(p:PS):Can (iV s alt p).1:=by
 unfold iV d7
 dsimp only
 repeat' split
 all_goals first|exact xB _ _|exact kw|exact h _
theorem uW {f:PS→E×PS}(h:∀p,Can (f p).1)(p:PS):Can (jC s f p).1:=by
 unfold jC
 have h1:∀k,Can (cU k ByteArray.empty [(f p).1]):=fun k=>Can.mk _ _ _ fun x hx=>by
  rw [List.mem_singleton] at hx;rw [hx];exact h p
 dsimp only
 repeat' split
 all_goals first|exact h1 _|exact h _
theorem jr {f:PS→E×PS}(h:∀p,Can (f p).1):∀(n:Nat) (l:List E) (p:PS),(∀x∈l,Can x)→∀x∈(bX s f n l p).1,Can x
 | 0,l,p,hl=>hl
 | n+1,l,p,hl=>by
  unfold bX
  split
  ·refine jr h n _ _ fun x hx=>?_
   rcases List.mem_append.1 hx with hx|hx
   ·exact hl x hx
   ·rw [List.mem_singleton] at hx;rw [hx];exact h p
  ·exact hl
theorem xC {f:PS→E×PS}(h:∀p,Can (f p).1)(p:PS):Can (sS s f p).1:=by
 unfold sS
 simp only
 split
 ·exact kw
 ·exact nX (jr h _ _ _ fun _ h=>absurd h List.not_mem_nil)
theorem js {f:PS→E×PS}(h:∀p,Can (f p).1):∀(n:Nat) (l:List E) (p:PS),(∀x∈l,Can x)→∀x∈(cJ s f n l p).1,Can x
 | 0,l,p,hl=>hl
 | n+1,l,p,hl=>by
  unfold cJ
  split
  ·refine js h n _ _ fun x hx=>?_
   rcases List.mem_append.1 hx with hx|hx
   ·exact hl x hx
   ·rw [List.mem_singleton] at hx;rw [hx];exact h _
  ·exact hl
theorem xD (f:Nat):∀p,Can (sU s f p).1:=by
 induction f with
 | zero=>exact fun p=>kw
 | succ f ih =>
  intro p
  unfold sU xv
  have hc:=xC (s:=s) (uW (s:=s) (uV (s:=s) ih))
  exact nX (js hc _ _ _ fun x hx=>by rw [List.mem_singleton] at hx;rw [hx];exact hc _)
end
theorem lS {g:E→ByteArray}{b:ByteArray}{c:E→Nat}(hb:b.size≤1):∀{l:List E} {n:Nat},(∀x∈l,(g x).size+3≤16*c x)→jk c l n≤60→(cX g b l).size+16*n≤16*jk c l n
 | [],n,_,_=>by unfold cX jk;rw [iu];omega
 | x :: r,n,h,hs=>by
  have h1:=h x List.mem_cons_self
  unfold jk at hs ⊢
  split at hs
  ·omega
  ·rename_i hn
   rw [if_neg hn]
   have h2:=lS hb (n:=n+c x) (fun y hy=>h y (List.mem_cons_of_mem _ hy)) hs
   have h3:(brk g x).size≤(g x).size+2:=by
    unfold brk
    split
    ·simp only [bE];show 1+_+1≤_;omega
    ·omega
   unfold cX
   simp only [bE]
   omega
theorem lT (f:Nat):∀e,bM f e≤60→(aV f e).size+3≤16*bM f e:=by
 induction f with
 | zero=>intro e h;simp [bM] at h
 | succ f ih =>
  intro e h
  unfold bM at h ⊢
  split at h
  ·rename_i hh
   rw [if_pos hh]
   have hd:=(uM hh).1
   have hk:=(iU h).2
   have h1:1≤jk (bM f) e.rl 1:=by
    have:∀(l:List E) (n:Nat),jk (bM f) l n≤60→n≤jk (bM f) l n:=by
     intro l
     induction l with
     | nil=>intro n _;exact Nat.le_refl _
     | cons x r ihl =>
      intro n hn
      unfold jk at hn ⊢
      split at hn
      ·omega
      ·rename_i hc
       rw [if_neg hc]
       have:=ihl _ hn
       omega
    exact this _ _ h
   unfold aV
   rcases du hd with ⟨k,q1,q2,q3⟩|⟨k,q1,q3⟩|⟨k,q1,q3⟩|⟨k,q1,q2,q3⟩|⟨k,q1,x,q2,q3⟩
   ·rw [if_pos k,q1];omega
   ·rw [k]
    have:e.rs.size≤10:=by
     unfold gu at q1
     simp only [Bool.and_eq_true,decide_eq_true_iff] at q1
     exact q1.2.2
    show (ByteArray.mk #[91]++e.rs++ByteArray.mk #[93]).size+3≤_
    simp only [bE]
    show 1+e.rs.size+1+3≤_
    omega
   ·rcases k with k|k|k|k<;>rw [k]
    ·show 1+3≤_;omega
    ·show 2+3≤_;omega
    ·show 1+3≤_;omega
    ·show 1+3≤_;omega
   ·have key:∀b:ByteArray,b.size≤1→(eg (aV f) b e.rl).size+3≤16*jk (bM f) e.rl 1:=by
     intro b hb
     have h3:=lS (g:=aV f) (b:=b) (c:=bM f) hb (fun x hx=>ih x (hk x hx)) h
     have h4:(eg (aV f) b e.rl).size≤(cX (aV f) b e.rl).size:=by
      cases e.rl with
      | nil=>exact Nat.le_refl _
      | cons x r=>unfold eg;conv=>rhs;unfold cX
                  simp only [bE];omega
     omega
    rcases k with k|k<;>rw [k]
    ·exact key ByteArray.empty (by rw [iu];omega)
    ·exact key ⟨#[124]⟩ (Nat.le_refl 1)
   ·have h3:=ih x (hk x (by rw [q2];exact List.mem_cons_self))
    rw [q2] at h h1 ⊢
    have h5:jk (bM f) [x] 1=1+bM f x:=by
     unfold jk at h ⊢
     split at h
     ·omega
     ·rename_i hc;rw [if_neg hc];rfl
    have h6:(iM (aV f) x).size≤(aV f x).size+2:=by
     unfold iM
     split
     ·simp only [bE];show 1+_+1≤_;omega
     ·omega
    rw [h5]
    rcases k with k|k|k<;>rw [k]
    ·show (iM (aV f) x++ByteArray.mk #[42]).size+3≤_
     rw [bE];show (iM (aV f) x).size+1+3≤_;omega
    ·show (iM (aV f) x++ByteArray.mk #[43]).size+3≤_
     rw [bE];show (iM (aV f) x).size+1+3≤_;omega
    ·show (iM (aV f) x++ByteArray.mk #[63]).size+3≤_
     rw [bE];show (iM (aV f) x).size+1+3≤_;omega
  ·omega
def jO (e:E):ByteArray:=if d6 e then aV 6 e else ByteArray.empty
def p00:PS:=⟨0,0,false⟩
def fB (s:ByteArray):E×PS:=sU s (s.size+8) p00
def ky (s:ByteArray):E×PS:=gP s (s.size+8) p00
def rW (s:ByteArray):Bool:=!(fB s).2.b&&((fB s).2.a==s.size)&&d6 (fB s).1&&(jO (fB s).1).toList==s.toList
def uX (s:ByteArray):Bool:=decide (s.size≤1000)&&!(ky s).2.b&&((ky s).2.a==s.size)&&(jO (ky s).1).toList==s.toList
theorem toList_inj {a b:ByteArray}(h:a.toList=b.toList):a=b:=by
 rw [ByteArray.toList_eq,ByteArray.toList_eq] at h
 exact ByteArray.ext (Array.toList_inj.1 h)
theorem uY (s:ByteArray):Here s 0 s:=⟨omq,fun j hj=>by rw [Nat.zero_add]⟩
theorem zlQ {s:ByteArray}(h:uX s=true):rW s=true∧fB s=ky s:=by
 unfold uX at h
 simp only [Bool.and_eq_true,Bool.not_eq_true',decide_eq_true_iff] at h
 obtain⟨⟨⟨h0,h1⟩,h2⟩,h3⟩:=h
 have e:fB s=ky s:=(qM (s.size+8) p00 rfl (by decide) h1).1
 refine⟨?_,e⟩
 unfold rW
 rw [e,h1,h2,h3]
 have:d6 (ky s).1=true:=by
  cases hk:d6 (ky s).1 with
  | true=>rfl
  | false =>
   have ht:jO (ky s).1=ByteArray.empty:=by unfold jO;rw [hk];rfl
   rw [ht] at h3
   have hs:=toList_inj (eq_of_beq h3)
   rw [←hs] at h1
   exact absurd h1 (by decide)
 rw [this];rfl
theorem xE {s:ByteArray}(h:rW s=true):uX s=true:=by
 unfold rW at h
 simp only [Bool.and_eq_true,Bool.not_eq_true'] at h
 obtain⟨⟨⟨h1,h2⟩,h3⟩,h4⟩:=h
 have ht:jO (fB s).1=aV 6 (fB s).1:=by unfold jO;rw [h3];rfl
 have hs:aV 6 (fB s).1=s:=ht▸toList_inj (eq_of_beq h4)
 have hp:bM 6 (fB s).1≤60:=by unfold d6 at h3;exact of_decide_eq_true h3
 have hok:okS 6 (fB s).1=true:=((qL 6 _).1.1 hp).2
 have hsz:=lT 6 _ hp
 rw [hs] at hsz
 have hb:=xz s (s.size+8) 6 omq (fB s).1 (xD _ _) hok p00 rfl (by decide) (by rw [hs];exact uY s) (.inl (by rw [hs];show s.size≤0+s.size;omega))
 rw [hs] at hb
 have e:ky s=((fB s).1,p00.go s.size):=hb
 unfold uX
 rw [e]
 simp only
 rw [h4]
 have:decide (s.size≤1000)=true:=by simp;omega
 rw [this]
 simp [PS.go,p00]
theorem qQ (s:ByteArray):rW s=uX s:=by
 cases h:uX s with
 | true=>exact (zlQ h).1
 | false =>
  cases h2:rW s with
  | false=>rfl
  | true=>rw [xE h2] at h;cases h
def xF (s:ByteArray):E:=if rW s then (fB s).1 else cV
theorem zs3 (s:ByteArray):xF s=if uX s then (ky s).1 else cV:=by
 unfold xF
 rw [qQ]
 cases h:uX s with
 | true=>rw [if_pos rfl,if_pos rfl,(zlQ h).2]
 | false=>rfl
inductive Fine:E→Prop
 | mk (k:Int) (s:ByteArray) (l:List E) (hk:0≤k∧k≤11) (hs:s.size≤1073741824) (hl:∀x∈l,Fine x):Fine (cU k s l)
theorem Fine.ty {e:E}(h:Fine e):e.Ty prog 39∧e.enc.length=3:=by
 induction h with
 | mk k s l hk hs hl ih =>
  refine⟨E.Ty.mk_agg underlying39 (E.TyF.mk_cons ?_ (E.TyF.mk_cons ?_ (E.TyF.mk_cons (E.Ty.mk_lst underlying37 (by kernel_rfl) (fun x hx=>(ih x hx).1) fun x hx=>(ih x hx).2) E.TyF.mk_nil))),rfl⟩
  ·simp only [E.Ty]
   refine⟨underlying3,?_⟩
   have e1:IntKind.i64.min = -9223372036854775808:=rfl
   have e2:IntKind.i64.max=9223372036854775807:=rfl
   simp only [Lit.wf,decide_eq_true_iff,Bool.and_eq_true,e1,e2]
   omega
  ·simp only [E.Ty]
   exact⟨underlying9,by unfold maxLen;omega⟩
theorem Fine.leaf {k:Int}{s:ByteArray}(hk:0≤k∧k≤11)(hs:s.size≤1073741824):Fine (cU k s []):=.mk k s [] hk hs fun _ h=>absurd h List.not_mem_nil
theorem Fine.zero:Fine cV:=Fine.leaf ⟨omq,omq⟩ (by show (0:Nat)≤_;omega)
theorem i4 (k:Int)(s:ByteArray)(l:List E):(cU k s l).sz=s.size+(l.length+E.szL l):=by
 simp only [cU,E.sz,E.szL];omega
theorem jP:cV.sz=0:=rfl
structure Good (s:ByteArray)(p:PS)(r:E×PS)(lo k m:Nat):Prop where
 fine:Fine r.1
 ge:p.a+lo≤r.2.a
 le:r.2.a≤s.size
 d:r.2.d=p.d
 sz:r.1.sz+k+2*p.a≤2*r.2.a+m
section
variable {s:ByteArray}(hs:s.size≤1048576)
theorem pn {c:Nat}:∀(f a:Nat),a≤s.size→a≤dY s c f a∧dY s c f a≤s.size
 | 0,a,h=>⟨Nat.le_refl _,h⟩
 | f+1,a,h=>by
  unfold dY
  split
  ·rename_i h2
   have:=pn (c:=c) f (a+1) omq
   omega
  ·exact⟨Nat.le_refl _,h⟩
include hs
theorem lU {alt:PS→E×PS}{p:PS}(hp:p.a<s.size)(ha:Good s (p.go 1) (alt (p.go 1)) 0 0 1):Good s p (iV s alt p) 1 1 0:=by
 have e0:ByteArray.empty.size=0:=rfl
 have h1:(p.go 1).a=p.a+1:=rfl
 have h2:(p.go 1).d=p.d:=rfl
 have leaf:∀(k:Int) (t:ByteArray),0≤k∧k≤11→t.size≤1→Good s p (cU k t [],p.go 1) 1 1 0:=fun k t hk ht =>
  ⟨Fine.leaf hk (by show t.size≤_;omega),by show p.a+1≤p.a+1;omega,by show p.a+1≤_;omega,rfl,by
   show (cU k t []).sz+1+2*p.a≤2*(p.a+1)+0
   rw [i4];simp only [List.length_nil,E.szL];omega⟩
 unfold iV d7
 split
 ·exact leaf 1 _ omq (by show (1:Nat)≤1;omega)
 split
 ·exact leaf 2 _ omq omq
 split
 ·exact leaf 10 _ omq omq
 split
 ·exact leaf 11 _ omq omq
 split
 ·have hu:=pn (s:=s) (c:=93) s.size (p.go 1).a omq
  dsimp only
  split
  ·rename_i hlt
   have hc:(eV s (p.go 1).a (dY s 93 s.size (p.go 1).a)).size≤dY s 93 s.size (p.go 1).a-(p.go 1).a:=by
    unfold eV;rw [ByteArray.size_extract];omega
   refine⟨Fine.leaf omq (by show (eV _ _ _).size≤_;omega),?_,?_,rfl,?_⟩
   ·show p.a+1≤dY s 93 s.size (p.go 1).a+1;omega
   ·show dY s 93 s.size (p.go 1).a+1≤s.size;omega
   ·show (cU 3 (eV s (p.go 1).a (dY s 93 s.size (p.go 1).a)) []).sz+1+2*p.a≤2*(dY s 93 s.size (p.go 1).a+1)+0
    rw [i4];simp only [List.length_nil,E.szL];omega
  ·exact⟨Fine.zero,by show p.a+1≤p.a+1;omega,by show p.a+1≤_;omega,rfl,by show cV.sz+1+2*p.a≤2*(p.a+1)+0;rw [jP];omega⟩
 split
 ·split
  ·rename_i h41
   have hl:(p.go 1).a<s.size:=da (by rw [h41];decide)
   exact⟨Fine.leaf omq (by show (0:Nat)≤_;omega),by show p.a+1≤(p.go 1).a+1;omega,by show (p.go 1).a+1≤_;omega,rfl,by
    show (cU 9 ByteArray.empty []).sz+1+2*p.a≤2*((p.go 1).a+1)+0
    rw [i4];simp only [List.length_nil,E.szL];omega⟩
  ·obtain⟨g1,g2,g3,g4,g5⟩:=ha
   dsimp only
   split
   ·rename_i h41
    have hl:(alt (p.go 1)).2.a<s.size:=da (by rw [h41];decide)
    exact⟨g1,by show p.a+1≤(alt (p.go 1)).2.a+1;omega,by show (alt (p.go 1)).2.a+1≤_;omega,by show (alt (p.go 1)).2.d=p.d;omega,by
     show (alt (p.go 1)).1.sz+1+2*p.a≤2*((alt (p.go 1)).2.a+1)+0;omega⟩
   ·exact⟨Fine.zero,by show p.a+1≤(alt (p.go 1)).2.a;omega,g3,by show (alt (p.go 1)).2.d=p.d;omega,by
     show cV.sz+1+2*p.a≤2*(alt (p.go 1)).2.a+0;rw [jP];omega⟩
 ·exact⟨Fine.zero,by show p.a+1≤p.a+1;omega,by show p.a+1≤_;omega,rfl,by show cV.sz+1+2*p.a≤2*(p.a+1)+0;rw [jP];omega⟩
omit hs in
theorem i5 {atom:PS→E×PS}{p:PS}(ha:Good s p (atom p) 1 1 0):Good s p (jC s atom p) 1 1 0:=by
 obtain⟨g1,g2,g3,g4,g5⟩:=ha
 have e0:ByteArray.empty.size=0:=rfl
 have star:∀k:Int,0≤k∧k≤11→(atom p).2.a<s.size→Good s p (cU k ByteArray.empty [(atom p).1],(atom p).2.go 1) 1 1 0:=fun k hk hl =>
  ⟨.mk k _ _ hk omq (fun x hx=>by obtain rfl:=List.mem_singleton.1 hx;exact g1),by show p.a+1≤(atom p).2.a+1;omega,by show (atom p).2.a+1≤_;omega,g4,by
   show (cU k ByteArray.empty [(atom p).1]).sz+1+2*p.a≤2*((atom p).2.a+1)+0
   rw [i4];simp only [List.length_cons,List.length_nil,E.szL];omega⟩
 unfold jC
 dsimp only
 split
 ·rename_i h;exact star 6 omq (da (by rw [h];decide))
 split
 ·rename_i h;exact star 7 omq (da (by rw [h];decide))
 split
 ·rename_i h;exact star 8 omq (da (by rw [h];decide))
 ·exact⟨g1,g2,g3,g4,g5⟩
omit hs in
theorem iy (x:E):∀l:List E,E.szL (l++[x])=E.szL l+x.sz
 | []=>by simp only [List.nil_append,E.szL];omega
 | y :: r=>by have:=iy x r;simp only [List.cons_append,E.szL];omega
structure GoodL (s:ByteArray)(p0:PS)(l:List E)(q:PS)(m:Nat):Prop where
 fine:∀x∈l,Fine x
 ge:p0.a≤q.a
 le:q.a≤s.size
 d:q.d=p0.d
 len:l.length+p0.a≤q.a+1
 sz:E.szL l+l.length+2*p0.a≤2*q.a+m
omit hs in
theorem zm {p:PS}(h:goI s p=true):p.b=false∧p.a<s.size∧bAt s p.a≠0:=by
 unfold goI at h
 simp only [Bool.and_eq_true,Bool.not_eq_true',beq_eq_false_iff_ne] at h
 exact⟨h.1.1.1,da h.1.1.2,h.1.1.2⟩
omit hs in
theorem iz {item:PS→E×PS}{p0:PS}(hi:∀p,p.a<s.size→p.d=p0.d→p0.a≤p.a→Good s p (item p) 1 1 0):∀(n:Nat) (l:List E) (p:PS),GoodL s p0 l p 0→GoodL s p0 (bX s item n l p).1 (bX s item n l p).2 0
 | 0,l,p,h=>h
 | n+1,l,p,h=>by
  unfold bX
  split
  ·rename_i hg
   obtain⟨hb,hlt,-⟩:=zm hg
   obtain⟨g1,g2,g3,g4,g5⟩:=hi p hlt h.d h.ge
   obtain⟨k1,k2,k3,k4,k5,k6⟩:=h
   refine iz hi n _ _ ⟨fun x hx=>?_,omq,g3,omq,?_,?_⟩
   ·rcases List.mem_append.1 hx with hx|hx
    ·exact k1 x hx
    ·obtain rfl:=List.mem_singleton.1 hx;exact g1
   ·rw [List.length_append,List.length_singleton];omega
   ·rw [iy,List.length_append,List.length_singleton];omega
  ·exact h
omit hs in
theorem i6 {k:Int}(hk:0≤k∧k≤11){l:List E}(h:∀x∈l,Fine x):Fine (jB k l)∧(jB k l).sz≤E.szL l+l.length:=by
 match l,h with
 | [x],h=>exact⟨h x (List.mem_singleton.2 rfl),by show x.sz≤E.szL [x]+1;simp only [E.szL];omega⟩
 | [],h=>exact⟨.mk _ _ _ hk (by show (0:Nat)≤_;omega) h,by show (cU k ByteArray.empty []).sz≤_;rw [i4];have:ByteArray.empty.size=0:=rfl;omega⟩
 | x :: y :: r,h=>exact⟨.mk _ _ _ hk (by show (0:Nat)≤_;omega) h,by show (cU k ByteArray.empty (x :: y :: r)).sz≤_;rw [i4];have:ByteArray.empty.size=0:=rfl;omega⟩
omit hs in
theorem nY {item:PS→E×PS}{p:PS}(hp:p.a≤s.size)(hi:∀q,q.a<s.size→q.d=p.d→p.a≤q.a→Good s q (item q) 1 1 0):Good s p (sS s item p) 0 0 0:=by
 have hL:=iz (p0:=p) hi (s.size+2) [] p ⟨fun _ h=>absurd h List.not_mem_nil,Nat.le_refl _,hp,rfl,by simp,by simp [E.szL]⟩
 obtain⟨k1,k2,k3,k4,k5,k6⟩:=hL
 unfold sS
 dsimp only
 split
 ·exact⟨Fine.zero,by show p.a+0≤(bX s item (s.size+2) [] p).2.a;omega,k3,k4,by show cV.sz+0+2*p.a≤2*(bX s item (s.size+2) [] p).2.a+0;rw [jP];omega⟩
 ·obtain⟨f1,f2⟩:=i6 (k:=4) omq k1
  refine⟨f1,?_,k3,k4,?_⟩<;>dsimp only at *<;>omega
omit hs in
theorem zmQ {p:PS}(h:wE s p=true):p.b=false∧p.a<s.size:=by
 unfold wE at h
 simp only [Bool.and_eq_true,Bool.not_eq_true',beq_iff_eq] at h
 exact⟨h.1,da (by rw [h.2];decide)⟩
omit hs in
theorem iA {cat:PS→E×PS}{p0:PS}(hc:∀p,p.a≤s.size→p.d=p0.d→p0.a≤p.a→Good s p (cat p) 0 0 0):∀(n:Nat) (l:List E) (p:PS),GoodL s p0 l p 1→GoodL s p0 (cJ s cat n l p).1 (cJ s cat n l p).2 1
 | 0,l,p,h=>h
 | n+1,l,p,h=>by
  unfold cJ
  split
  ·rename_i hg
   obtain⟨hb,hlt⟩:=zmQ hg
   obtain⟨k1,k2,k3,k4,k5,k6⟩:=h
   have e1:(p.go 1).a=p.a+1:=rfl
   have e2:(p.go 1).d=p.d:=rfl
   obtain⟨g1,g2,g3,g4,g5⟩:=hc (p.go 1) omq omq omq
   refine iA hc n _ _ ⟨fun x hx=>?_,omq,g3,omq,?_,?_⟩
   ·rcases List.mem_append.1 hx with hx|hx
    ·exact k1 x hx
    ·obtain rfl:=List.mem_singleton.1 hx;exact g1
   ·rw [List.length_append,List.length_singleton];omega
   ·rw [iy,List.length_append,List.length_singleton];omega
  ·exact h
omit hs in
theorem uZ {cat:PS→E×PS}{p:PS}(hp:p.a≤s.size)(hc:∀q,q.a≤s.size→q.d=p.d+1→p.a≤q.a→Good s q (cat q) 0 0 0):Good s p (xv s cat p) 0 0 1:=by
 obtain⟨q0,hq0⟩:∃q0:PS,q0=⟨p.a,p.d+1,p.b||decide (40<p.d+1)⟩:=⟨_,rfl⟩
 have e1:q0.a=p.a:=by rw [hq0]
 have e2:q0.d=p.d+1:=by rw [hq0]
 obtain⟨g1,g2,g3,g4,g5⟩:=hc q0 omq e2 omq
 have hL:=iA (p0:=q0) (fun q h1 h2 h3=>hc q h1 omq omq) (s.size+1) [(cat q0).1] (cat q0).2
  ⟨fun x hx=>by obtain rfl:=List.mem_singleton.1 hx;exact g1,omq,g3,g4,by simp only [List.length_singleton];omega,by simp only [E.szL,List.length_singleton];omega⟩
 obtain⟨k1,k2,k3,k4,k5,k6⟩:=hL
 obtain⟨f1,f2⟩:=i6 (k:=5) omq k1
 unfold xv
 rw [←hq0]
 refine⟨f1,?_,k3,?_,?_⟩<;>dsimp only at *<;>omega
theorem kz (f:Nat):∀p:PS,p.a≤s.size→s.size+1≤p.a+f→Good s p (sU s f p) 0 0 1:=by
 induction f with
 | zero=>intro p h1 h2;omega
 | succ f ih =>
  intro p h1 h2
  exact uZ h1 fun q hq hqd hqa=>nY hq fun r hr hrd hra=>i5 (lU hs hr (ih _ (by show r.a+1≤_;omega) (by show s.size+1≤r.a+1+f;omega)))
end
end Go.Proofs.YtmnneflenebgmaaGreat
namespace Go.Proofs.YtmnneflenebgmaaGreat
open Go.RowKit Go.Shelf Go.Proofs.Tryz
def po:Go.Shelf.Ren:=⟨fun|137=>202|217=>235|266=>252|n=>n,fun|9=>9|5=>5|3=>3|n=>n,fun|n=>n⟩
theorem zn:Go.Proofs.Lays.n137 prog po:={
 mixed:=by kernel_rfl
 f137:=func202.trans (congrArg some (by kernel_rfl))
 f217:=func235.trans (congrArg some (by kernel_rfl))
 f266:=func252.trans (congrArg some (by kernel_rfl))
 t3:=underlying3
 a3:=Tryz.isAgg3
 z3:=Tryz.sizeOf3
 v3:=Tryz.zeroValue3
 t5:=underlying5
 a5:=Tryz.isAgg5
 z5:=Tryz.sizeOf5
 v5:=Tryz.zeroValue5
 t9:=underlying9
 a9:=Tryz.isAgg9
 z9:=Tryz.sizeOf9
 v9:=Tryz.zeroValue9 }
end Go.Proofs.YtmnneflenebgmaaGreat
namespace Go.Proofs.YtmnneflenebgmaaGreat
open Go.RowKit Go.Shelf Go.Proofs.Tryz
def kA:Go.Shelf.Ren:=⟨fun|156=>166|165=>204|166=>205|169=>206|240=>236|241=>237|276=>253|277=>254|n=>n,fun|31=>31|9=>9|3=>3|4=>4|0=>0|20=>20|72=>216|76=>220|70=>214|37=>22|75=>219|127=>249|164=>260|5=>5|80=>222|n=>n,fun|n=>n⟩
theorem u6:Go.Proofs.Lays.n156 prog kA:={
 mixed:=by kernel_rfl
 f156:=func166.trans (congrArg some (by kernel_rfl))
 f165:=func204.trans (congrArg some (by kernel_rfl))
 f166:=func205.trans (congrArg some (by kernel_rfl))
 f169:=func206.trans (congrArg some (by kernel_rfl))
 f240:=func236.trans (congrArg some (by kernel_rfl))
 f241:=func237.trans (congrArg some (by kernel_rfl))
 f276:=func253.trans (congrArg some (by kernel_rfl))
 f277:=func254.trans (congrArg some (by kernel_rfl))
 t0:=underlying0
 a0:=Tryz.isAgg0
 z0:=Tryz.sizeOf0
 v0:=Tryz.zeroValue0
 t3:=underlying3
 a3:=Tryz.isAgg3
 z3:=Tryz.sizeOf3
 v3:=Tryz.zeroValue3
 t4:=underlying4
 a4:=Tryz.isAgg4
 z4:=Tryz.sizeOf4
 v4:=Tryz.zeroValue4
 t9:=underlying9
 a9:=Tryz.isAgg9
 z9:=Tryz.sizeOf9
 v9:=Tryz.zeroValue9
 t20:=underlying20
 a20:=Tryz.isAgg20
 z20:=Tryz.sizeOf20
 v20:=Tryz.zeroValue20
 t31:=underlying31
 a31:=Tryz.isAgg31
 z31:=Tryz.sizeOf31
 v31:=Tryz.zeroValue31
 t37:=underlying22
 a37:=Tryz.isAgg22
 z37:=Tryz.sizeOf22
 v37:=Tryz.zeroValue22
 t70:=underlying214
 a70:=Tryz.isAgg214
 z70:=Tryz.sizeOf214
 v70:=Tryz.zeroValue214
 t72:=underlying216
 a72:=Tryz.isAgg216
 z72:=Tryz.sizeOf216
 v72:=Tryz.zeroValue216
 t75:=underlying219
 a75:=Tryz.isAgg219
 z75:=Tryz.sizeOf219
 v75:=Tryz.zeroValue219
 t76:=underlying220
 a76:=Tryz.isAgg220
 z76:=Tryz.sizeOf220
 v76:=Tryz.zeroValue220
 t127:=underlying249
 a127:=Tryz.isAgg249
 z127:=Tryz.sizeOf249
 v127:=Tryz.zeroValue249
 t164:=underlying260
 a164:=Tryz.isAgg260
 z164:=Tryz.sizeOf260
 v164:=Tryz.zeroValue260 }
theorem Builder_Extra_156:Builder.Extra prog kA:={
 sizeBuilder:=by kernel_rfl
 liesBuilder:=by kernel_rfl
 t5:=underlying5
 a5:=Tryz.isAgg5
 z5:=Tryz.sizeOf5
 v5:=Tryz.zeroValue5
 infoByte:=by kernel_rfl
 cellsByte:=by kernel_rfl
 sizeByte:=by kernel_rfl
 neB5:=by decide }
end Go.Proofs.YtmnneflenebgmaaGreat
namespace Go.Proofs.YtmnneflenebgmaaGreat
open Go.RowKit Go.Proofs.Tryz
theorem iB {P:Program}{f:FuncId}{ins:List AV}{v:Value}(he:zT P f=true)(hv:oY v=true)
 (hc:∀(w:World) (St:Nat→Prop) (φ:Nat→Lc) (K:Nat→Prop) (us:List Value),VRL w St φ K ins us→Calls P f us.toArray w fun e w'=>e=.returned v∧Below w.heap.size w w'):Ctr P f ins [] (.c (.v v)) []:=by
 refine⟨he,fun w St φ F us' hent=>?_⟩
 refine (hc w St φ _ us' hent.args).mono ?_
 rintro e w' ⟨rfl,hb⟩
 refine⟨_,_,v,fun _=>False,fun _=>[],[],⟨rfl,rfl⟩,rfl,⟨⟨hb.os,hb.tape,hb.output,hb.size,fun b hlt _=>.inl (hb.block b hlt)⟩,?_,by simp,rfl,fun i cs hi=>by simp at hi,fun i hi=>by simp at hi,fun i hi=>by simp at hi,fun i j hi=>by simp at hi,fun i b lo hi=>by simp at hi,fun b hb=>by simp at hb,fun b hb=>hb.elim⟩⟩
 simp only [VRF,CR]
 exact⟨trivial,hv,trivial⟩
theorem kB (s:ByteArray){c:Nat}(_hc:c<256):Ctr prog 202 [.c (.v (.string s)),.c (.v (.int .u8 (c:Int)))] [] (.c (.v (.int .i64 (Lib.indexByte s.data.toList (UInt8.ofNat c))))) []:=by
 refine iB (by kernel_rfl) rfl fun w St φ K us h=>?_
 simp only [VRL,VR,CR] at h
 obtain⟨u,us1,rfl,⟨rfl,-⟩,u2,us2,rfl,⟨rfl,-⟩,rfl⟩:=h
 refine (Go.Proofs.Any.strings_IndexByte zn s (c:Int) w).mono ?_
 rintro e w' ⟨rfl,rfl⟩
 exact⟨rfl,Below.refl _ _⟩
def jt:E→ByteArray
 | .str s=>s
 | _=>ByteArray.empty
theorem u7 {w:World}{St:Nat→Prop}{φ:Nat→Lc}{K:Nat→Prop}:∀{l:List E} {us:List Value} {fp:List Nat},(∀e∈l,∃s,e=.str s)→CRL w St φ K (acL l) us fp→us=l.map fun e=>.string (jt e)
 | [],us,fp,_,h=>by
  simp only [acL,CRL] at h
  exact h.1
 | e :: r,us,fp,he,h=>by
  obtain⟨s,rfl⟩:=he e List.mem_cons_self
  have h':CRL w St φ K (.v (.string s) :: acL r) us fp:=h
  simp only [CRL] at h'
  obtain⟨u,us',f1,f2,rfl,rfl,h1,h2⟩:=h'
  simp only [CR] at h1
  obtain⟨rfl,-⟩:=h1
  rw [u7 (fun e he'=>he e (List.mem_cons_of_mem _ he')) h2]
  rfl
def nZ (l:List E)(sep:ByteArray):ByteArray:=⟨(Lib.join (l.map fun e=>(jt e).data.toList) sep.data.toList).toArray⟩
theorem zt3 {l:List E}(hl:∀e∈l,∃s,e=.str s)(sep:ByteArray)(hn:l.length≤1073741824)(hsz:(nZ l sep).size≤140737488355328):Ctr prog 166 [.c (.ro l.length 1 (acL l)),.c (.v (.string sep))] [] (.c (.v (.string (nZ l sep)))) []:=by
 refine iB (by kernel_rfl) rfl fun w St φ K us h=>?_
 simp only [VRL,VR,CR] at h
 obtain⟨u,us1,rfl,⟨-,A,c,rfl,⟨h1,h2,h3⟩,h4,h5⟩,u2,us2,rfl,⟨rfl,-⟩,rfl⟩:=h
 cases l with
 | nil=>exact (Go.Proofs.Any.strings_Join_none u6 Builder_Extra_156 A c sep w).mono fun e w' ⟨he,hw⟩=>⟨he,hw▸Below.refl _ _⟩
 | cons x r =>
  obtain⟨b,o,us,rfl,-,hb,hc,hcr⟩:=h5 (by simp)
  have hus:=u7 hl hcr
  have e1:(x :: r).length=((x :: r).map jt).length:=by simp
  have e2:nZ (x :: r) sep=⟨(Lib.join (((x :: r).map jt).map (·.data.toList)) sep.data.toList).toArray⟩:=by unfold nZ;rw [List.map_map];rfl
  rw [e2] at hsz ⊢
  rw [e1] at hn h1 ⊢
  refine Go.Proofs.Any.strings_Join u6 Builder_Extra_156 b o c ((x :: r).map jt) sep w (fun j y hy=>hc j _ ?_) hb omq h1 ?_
  ·rw [hus,List.getElem?_map]
   rw [List.getElem?_map] at hy
   cases hq:(x :: r)[j]? with
   | none=>rw [hq] at hy;cases hy
   | some e=>rw [hq] at hy;simp at hy;simp [hy]
  ·have:(ByteArray.mk (Lib.join (((x :: r).map jt).map (·.data.toList)) sep.data.toList).toArray).size=(Lib.join (((x :: r).map jt).map (·.data.toList)) sep.data.toList).length:=by show (List.toArray _).size=_;rw [List.size_toArray]
   rw [this] at hsz
   exact hsz
end Go.Proofs.YtmnneflenebgmaaGreat
