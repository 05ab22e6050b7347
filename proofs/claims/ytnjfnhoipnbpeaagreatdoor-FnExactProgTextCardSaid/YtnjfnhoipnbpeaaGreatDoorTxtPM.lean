/- Regular expressions: both sides read the same. -/
import Derived.Shelf.Lays
import Derived.Shelf.Strings.BuilderX
import Derived.Shelf.Small.Strs
import Derived.Shelf.Strings.OnBuilder
import Derived.Test.YtnjfnhoipnbpeaaGreatDoorTxtPL
namespace Go.Proofs.YtnjfnhoipnbpeaaGreatDoor
open Go.RowKit
set_option maxRecDepth 100000
theorem zo15 {k:Int}:∀{l:List E},(∀x∈l,Can x)→Can (oneOr k l)
 | [],h=>Can.mk _ _ _ h
 | [x],h=>h x List.mem_cons_self
 | x :: y :: r,h=>Can.mk _ _ _ h
theorem zx10:Can zeroR:=Can.mk _ _ _ fun _ h=>absurd h List.not_mem_nil
theorem leaf_can (k:Int)(s:ByteArray):Can (rexE k s []):=Can.mk _ _ _ fun _ h=>absurd h List.not_mem_nil
section
variable {s:ByteArray}
theorem atomI_can {alt:PS→E×PS}(h:∀p,Can (alt p).1)(p:PS):Can (atomI s alt p).1:=by
 unfold atomI atomIc
 dsimp only
 repeat' split
 all_goals first|exact leaf_can _ _|exact zx10|exact h _
theorem itemI_can {f:PS→E×PS}(h:∀p,Can (f p).1)(p:PS):Can (itemI s f p).1:=by
 unfold itemI
 have h1:∀k,Can (rexE k ByteArray.empty [(f p).1]):=fun k=>Can.mk _ _ _ fun x hx=>by
  rw [List.mem_singleton] at hx;rw [hx];exact h p
 dsimp only
 repeat' split
 all_goals first|exact h1 _|exact h _
theorem zk9 {f:PS→E×PS}(h:∀p,Can (f p).1):∀(n:Nat) (l:List E) (p:PS),(∀x∈l,Can x)→∀x∈(catLoopI s f n l p).1,Can x
 | 0,l,p,hl=>hl
 | n+1,l,p,hl=>by
  unfold catLoopI
  split
  ·refine zk9 h n _ _ fun x hx=>?_
   rcases List.mem_append.1 hx with hx|hx
   ·exact hl x hx
   ·rw [List.mem_singleton] at hx;rw [hx];exact h p
  ·exact hl
theorem catI_can {f:PS→E×PS}(h:∀p,Can (f p).1)(p:PS):Can (catI s f p).1:=by
 unfold catI
 simp only
 split
 ·exact zx10
 ·exact zo15 (zk9 h _ _ _ fun _ h=>absurd h List.not_mem_nil)
theorem zl9 {f:PS→E×PS}(h:∀p,Can (f p).1):∀(n:Nat) (l:List E) (p:PS),(∀x∈l,Can x)→∀x∈(altLoopI s f n l p).1,Can x
 | 0,l,p,hl=>hl
 | n+1,l,p,hl=>by
  unfold altLoopI
  split
  ·refine zl9 h n _ _ fun x hx=>?_
   rcases List.mem_append.1 hx with hx|hx
   ·exact hl x hx
   ·rw [List.mem_singleton] at hx;rw [hx];exact h _
  ·exact hl
theorem altI_can (f:Nat):∀p,Can (altI s f p).1:=by
 induction f with
 | zero=>exact fun p=>zx10
 | succ f ih =>
  intro p
  unfold altI altB
  have hc:=catI_can (s:=s) (itemI_can (s:=s) (atomI_can (s:=s) ih))
  exact zo15 (zl9 hc _ _ _ fun x hx=>by rw [List.mem_singleton] at hx;rw [hx];exact hc _)
end
theorem zq12 {g:E→ByteArray}{b:ByteArray}{c:E→Nat}(hb:b.size≤1):∀{l:List E} {n:Nat},(∀x∈l,(g x).size+3≤16*c x)→sumI c l n≤60→(tailT g b l).size+16*n≤16*sumI c l n
 | [],n,_,_=>by unfold tailT sumI;rw [zt7];omega
 | x :: r,n,h,hs=>by
  have h1:=h x List.mem_cons_self
  unfold sumI at hs ⊢
  split at hs
  ·omega
  ·rename_i hn
   rw [if_neg hn]
   have h2:=zq12 hb (n:=n+c x) (fun y hy=>h y (List.mem_cons_of_mem _ hy)) hs
   have h3:(brk g x).size≤(g x).size+2:=by
    unfold brk
    split
    ·simp only [zo2];show 1+_+1≤_;omega
    ·omega
   unfold tailT
   simp only [zo2]
   omega
theorem zr12 (f:Nat):∀e,partsI f e≤60→(textS f e).size+3≤16*partsI f e:=by
 induction f with
 | zero=>intro e h;simp [partsI] at h
 | succ f ih =>
  intro e h
  unfold partsI at h ⊢
  split at h
  ·rename_i hh
   rw [if_pos hh]
   have hd:=(head_of hh).1
   have hk:=(zn8 h).2
   have h1:1≤sumI (partsI f) e.rl 1:=by
    have:∀(l:List E) (n:Nat),sumI (partsI f) l n≤60→n≤sumI (partsI f) l n:=by
     intro l
     induction l with
     | nil=>intro n _;exact Nat.le_refl _
     | cons x r ihl =>
      intro n hn
      unfold sumI at hn ⊢
      split at hn
      ·omega
      ·rename_i hc
       rw [if_neg hc]
       have:=ihl _ hn
       omega
    exact this _ _ h
   unfold textS
   rcases zb4 hd with ⟨k,q1,q2,q3⟩|⟨k,q1,q3⟩|⟨k,q1,q3⟩|⟨k,q1,q2,q3⟩|⟨k,q1,x,q2,q3⟩
   ·rw [if_pos k,q1];omega
   ·rw [k]
    have:e.rs.size≤10:=by
     unfold setOkB at q1
     simp only [Bool.and_eq_true,decide_eq_true_iff] at q1
     exact q1.2.2
    show (ByteArray.mk #[91]++e.rs++ByteArray.mk #[93]).size+3≤_
    simp only [zo2]
    show 1+e.rs.size+1+3≤_
    omega
   ·rcases k with k|k|k|k<;>rw [k]
    ·show 1+3≤_;omega
    ·show 2+3≤_;omega
    ·show 1+3≤_;omega
    ·show 1+3≤_;omega
   ·have key:∀b:ByteArray,b.size≤1→(joinT (textS f) b e.rl).size+3≤16*sumI (partsI f) e.rl 1:=by
     intro b hb
     have h3:=zq12 (g:=textS f) (b:=b) (c:=partsI f) hb (fun x hx=>ih x (hk x hx)) h
     have h4:(joinT (textS f) b e.rl).size≤(tailT (textS f) b e.rl).size:=by
      cases e.rl with
      | nil=>exact Nat.le_refl _
      | cons x r=>unfold joinT;conv=>rhs;unfold tailT
                  simp only [zo2];omega
     omega
    rcases k with k|k<;>rw [k]
    ·exact key ByteArray.empty (by rw [zt7];omega)
    ·exact key ⟨#[124]⟩ (Nat.le_refl 1)
   ·have h3:=ih x (hk x (by rw [q2];exact List.mem_cons_self))
    rw [q2] at h h1 ⊢
    have h5:sumI (partsI f) [x] 1=1+partsI f x:=by
     unfold sumI at h ⊢
     split at h
     ·omega
     ·rename_i hc;rw [if_neg hc];rfl
    have h6:(oneT (textS f) x).size≤(textS f x).size+2:=by
     unfold oneT
     split
     ·simp only [zo2];show 1+_+1≤_;omega
     ·omega
    rw [h5]
    rcases k with k|k|k<;>rw [k]
    ·show (oneT (textS f) x++ByteArray.mk #[42]).size+3≤_
     rw [zo2];show (oneT (textS f) x).size+1+3≤_;omega
    ·show (oneT (textS f) x++ByteArray.mk #[43]).size+3≤_
     rw [zo2];show (oneT (textS f) x).size+1+3≤_;omega
    ·show (oneT (textS f) x++ByteArray.mk #[63]).size+3≤_
     rw [zo2];show (oneT (textS f) x).size+1+3≤_;omega
  ·omega
def rexT (e:E):ByteArray:=if rexOkI e then textS 6 e else ByteArray.empty
def p00:PS:=⟨0,0,false⟩
def readI (s:ByteArray):E×PS:=altI s (s.size+8) p00
def readS (s:ByteArray):E×PS:=altS s (s.size+8) p00
def parI (s:ByteArray):Bool:=!(readI s).2.b&&((readI s).2.a==s.size)&&rexOkI (readI s).1&&(rexT (readI s).1).toList==s.toList
def parS (s:ByteArray):Bool:=decide (s.size≤1000)&&!(readS s).2.b&&((readS s).2.a==s.size)&&(rexT (readS s).1).toList==s.toList
theorem toList_inj {a b:ByteArray}(h:a.toList=b.toList):a=b:=by
 rw [ByteArray.toList_eq,ByteArray.toList_eq] at h
 exact ByteArray.ext (Array.toList_inj.1 h)
theorem here_self (s:ByteArray):Here s 0 s:=⟨by omega,fun j hj=>by rw [Nat.zero_add]⟩
theorem par_to {s:ByteArray}(h:parS s=true):parI s=true∧readI s=readS s:=by
 unfold parS at h
 simp only [Bool.and_eq_true,Bool.not_eq_true',decide_eq_true_iff] at h
 obtain⟨⟨⟨h0,h1⟩,h2⟩,h3⟩:=h
 have e:readI s=readS s:=(zs19 (s.size+8) p00 rfl (by decide) h1).1
 refine⟨?_,e⟩
 unfold parI
 rw [e,h1,h2,h3]
 have:rexOkI (readS s).1=true:=by
  cases hk:rexOkI (readS s).1 with
  | true=>rfl
  | false =>
   have ht:rexT (readS s).1=ByteArray.empty:=by unfold rexT;rw [hk];rfl
   rw [ht] at h3
   have hs:=toList_inj (eq_of_beq h3)
   rw [←hs] at h1
   exact absurd h1 (by decide)
 rw [this];rfl
theorem par_back {s:ByteArray}(h:parI s=true):parS s=true:=by
 unfold parI at h
 simp only [Bool.and_eq_true,Bool.not_eq_true'] at h
 obtain⟨⟨⟨h1,h2⟩,h3⟩,h4⟩:=h
 have ht:rexT (readI s).1=textS 6 (readI s).1:=by unfold rexT;rw [h3];rfl
 have hs:textS 6 (readI s).1=s:=ht▸toList_inj (eq_of_beq h4)
 have hp:partsI 6 (readI s).1≤60:=by unfold rexOkI at h3;exact of_decide_eq_true h3
 have hok:okS 6 (readI s).1=true:=((zr19 6 _).1.1 hp).2
 have hsz:=zr12 6 _ hp
 rw [hs] at hsz
 have hb:=alt_back s (s.size+8) 6 (by omega) (readI s).1 (altI_can _ _) hok p00 rfl (by decide) (by rw [hs];exact here_self s) (.inl (by rw [hs];show s.size≤0+s.size;omega))
 rw [hs] at hb
 have e:readS s=((readI s).1,p00.go s.size):=hb
 unfold parS
 rw [e]
 simp only
 rw [h4]
 have:decide (s.size≤1000)=true:=by simp;omega
 rw [this]
 simp [PS.go,p00]
theorem zw19 (s:ByteArray):parI s=parS s:=by
 cases h:parS s with
 | true=>exact (par_to h).1
 | false =>
  cases h2:parI s with
  | false=>rfl
  | true=>rw [par_back h2] at h;cases h
def rexR (s:ByteArray):E:=if parI s then (readI s).1 else zeroR
theorem rexR_S (s:ByteArray):rexR s=if parS s then (readS s).1 else zeroR:=by
 unfold rexR
 rw [zw19]
 cases h:parS s with
 | true=>rw [if_pos rfl,if_pos rfl,(par_to h).2]
 | false=>rfl
inductive Fine:E→Prop
 | mk (k:Int) (s:ByteArray) (l:List E) (hk:0≤k∧k≤11) (hs:s.size≤1073741824) (hl:∀x∈l,Fine x):Fine (rexE k s l)
theorem Fine.ty {e:E}(h:Fine e):e.Ty Tryz.prog 140∧e.enc.length=3:=by
 induction h with
 | mk k s l hk hs hl ih =>
  refine⟨E.Ty.mk_agg Tryz.underlying140 (E.TyF.mk_cons ?_ (E.TyF.mk_cons ?_ (E.TyF.mk_cons (E.Ty.mk_lst Tryz.underlying138 (by kernel_rfl) (fun x hx=>(ih x hx).1) fun x hx=>(ih x hx).2) E.TyF.mk_nil))),rfl⟩
  ·simp only [E.Ty]
   refine⟨Tryz.underlying3,?_⟩
   have e1:IntKind.i64.min = -9223372036854775808:=rfl
   have e2:IntKind.i64.max=9223372036854775807:=rfl
   simp only [Lit.wf,decide_eq_true_iff,Bool.and_eq_true,e1,e2]
   omega
  ·simp only [E.Ty]
   exact⟨Tryz.underlying9,by unfold maxLen;omega⟩
theorem Fine.leaf {k:Int}{s:ByteArray}(hk:0≤k∧k≤11)(hs:s.size≤1073741824):Fine (rexE k s []):=.mk k s [] hk hs fun _ h=>absurd h List.not_mem_nil
theorem Fine.zero:Fine zeroR:=Fine.leaf ⟨by omega,by omega⟩ (by show (0:Nat)≤_;omega)
theorem zs8 (k:Int)(s:ByteArray)(l:List E):(rexE k s l).sz=s.size+(l.length+E.szL l):=by
 simp only [rexE,E.sz,E.szL];omega
theorem zw9:zeroR.sz=0:=rfl
structure Good (s:ByteArray)(p:PS)(r:E×PS)(lo k m:Nat):Prop where
 fine:Fine r.1
 ge:p.a+lo≤r.2.a
 le:r.2.a≤s.size
 d:r.2.d=p.d
 sz:r.1.sz+k+2*p.a≤2*r.2.a+m
section
variable {s:ByteArray}(hs:s.size≤1048576)
theorem zp17 {c:Nat}:∀(f a:Nat),a≤s.size→a≤untB s c f a∧untB s c f a≤s.size
 | 0,a,h=>⟨Nat.le_refl _,h⟩
 | f+1,a,h=>by
  unfold untB
  split
  ·rename_i h2
   have:=zp17 (c:=c) f (a+1) (by omega)
   omega
  ·exact⟨Nat.le_refl _,h⟩
include hs
theorem zs12 {alt:PS→E×PS}{p:PS}(hp:p.a<s.size)(ha:Good s (p.go 1) (alt (p.go 1)) 0 0 1):Good s p (atomI s alt p) 1 1 0:=by
 have e0:ByteArray.empty.size=0:=rfl
 have h1:(p.go 1).a=p.a+1:=rfl
 have h2:(p.go 1).d=p.d:=rfl
 have leaf:∀(k:Int) (t:ByteArray),0≤k∧k≤11→t.size≤1→Good s p (rexE k t [],p.go 1) 1 1 0:=fun k t hk ht =>
  ⟨Fine.leaf hk (by show t.size≤_;omega),by show p.a+1≤p.a+1;omega,by show p.a+1≤_;omega,rfl,by
   show (rexE k t []).sz+1+2*p.a≤2*(p.a+1)+0
   rw [zs8];simp only [List.length_nil,E.szL];omega⟩
 unfold atomI atomIc
 split
 ·exact leaf 1 _ (by omega) (by show (1:Nat)≤1;omega)
 split
 ·exact leaf 2 _ (by omega) (by omega)
 split
 ·exact leaf 10 _ (by omega) (by omega)
 split
 ·exact leaf 11 _ (by omega) (by omega)
 split
 ·have hu:=zp17 (s:=s) (c:=93) s.size (p.go 1).a (by omega)
  dsimp only
  split
  ·rename_i hlt
   have hc:(cutB s (p.go 1).a (untB s 93 s.size (p.go 1).a)).size≤untB s 93 s.size (p.go 1).a-(p.go 1).a:=by
    unfold cutB;rw [ByteArray.size_extract];omega
   refine⟨Fine.leaf (by omega) (by show (cutB _ _ _).size≤_;omega),?_,?_,rfl,?_⟩
   ·show p.a+1≤untB s 93 s.size (p.go 1).a+1;omega
   ·show untB s 93 s.size (p.go 1).a+1≤s.size;omega
   ·show (rexE 3 (cutB s (p.go 1).a (untB s 93 s.size (p.go 1).a)) []).sz+1+2*p.a≤2*(untB s 93 s.size (p.go 1).a+1)+0
    rw [zs8];simp only [List.length_nil,E.szL];omega
  ·exact⟨Fine.zero,by show p.a+1≤p.a+1;omega,by show p.a+1≤_;omega,rfl,by show zeroR.sz+1+2*p.a≤2*(p.a+1)+0;rw [zw9];omega⟩
 split
 ·split
  ·rename_i h41
   have hl:(p.go 1).a<s.size:=zq3 (by rw [h41];decide)
   exact⟨Fine.leaf (by omega) (by show (0:Nat)≤_;omega),by show p.a+1≤(p.go 1).a+1;omega,by show (p.go 1).a+1≤_;omega,rfl,by
    show (rexE 9 ByteArray.empty []).sz+1+2*p.a≤2*((p.go 1).a+1)+0
    rw [zs8];simp only [List.length_nil,E.szL];omega⟩
  ·obtain⟨g1,g2,g3,g4,g5⟩:=ha
   dsimp only
   split
   ·rename_i h41
    have hl:(alt (p.go 1)).2.a<s.size:=zq3 (by rw [h41];decide)
    exact⟨g1,by show p.a+1≤(alt (p.go 1)).2.a+1;omega,by show (alt (p.go 1)).2.a+1≤_;omega,by show (alt (p.go 1)).2.d=p.d;omega,by
     show (alt (p.go 1)).1.sz+1+2*p.a≤2*((alt (p.go 1)).2.a+1)+0;omega⟩
   ·exact⟨Fine.zero,by show p.a+1≤(alt (p.go 1)).2.a;omega,g3,by show (alt (p.go 1)).2.d=p.d;omega,by
     show zeroR.sz+1+2*p.a≤2*(alt (p.go 1)).2.a+0;rw [zw9];omega⟩
 ·exact⟨Fine.zero,by show p.a+1≤p.a+1;omega,by show p.a+1≤_;omega,rfl,by show zeroR.sz+1+2*p.a≤2*(p.a+1)+0;rw [zw9];omega⟩
omit hs in
theorem zt8 {atom:PS→E×PS}{p:PS}(ha:Good s p (atom p) 1 1 0):Good s p (itemI s atom p) 1 1 0:=by
 obtain⟨g1,g2,g3,g4,g5⟩:=ha
 have e0:ByteArray.empty.size=0:=rfl
 have star:∀k:Int,0≤k∧k≤11→(atom p).2.a<s.size→Good s p (rexE k ByteArray.empty [(atom p).1],(atom p).2.go 1) 1 1 0:=fun k hk hl =>
  ⟨.mk k _ _ hk (by omega) (fun x hx=>by obtain rfl:=List.mem_singleton.1 hx;exact g1),by show p.a+1≤(atom p).2.a+1;omega,by show (atom p).2.a+1≤_;omega,g4,by
   show (rexE k ByteArray.empty [(atom p).1]).sz+1+2*p.a≤2*((atom p).2.a+1)+0
   rw [zs8];simp only [List.length_cons,List.length_nil,E.szL];omega⟩
 unfold itemI
 dsimp only
 split
 ·rename_i h;exact star 6 (by omega) (zq3 (by rw [h];decide))
 split
 ·rename_i h;exact star 7 (by omega) (zq3 (by rw [h];decide))
 split
 ·rename_i h;exact star 8 (by omega) (zq3 (by rw [h];decide))
 ·exact⟨g1,g2,g3,g4,g5⟩
omit hs in
theorem zw7 (x:E):∀l:List E,E.szL (l++[x])=E.szL l+x.sz
 | []=>by simp only [List.nil_append,E.szL];omega
 | y :: r=>by have:=zw7 x r;simp only [List.cons_append,E.szL];omega
structure GoodL (s:ByteArray)(p0:PS)(l:List E)(q:PS)(m:Nat):Prop where
 fine:∀x∈l,Fine x
 ge:p0.a≤q.a
 le:q.a≤s.size
 d:q.d=p0.d
 len:l.length+p0.a≤q.a+1
 sz:E.szL l+l.length+2*p0.a≤2*q.a+m
omit hs in
theorem goI_lt {p:PS}(h:goI s p=true):p.b=false∧p.a<s.size∧bAt s p.a≠0:=by
 unfold goI at h
 simp only [Bool.and_eq_true,Bool.not_eq_true',beq_eq_false_iff_ne] at h
 exact⟨h.1.1.1,zq3 h.1.1.2,h.1.1.2⟩
omit hs in
theorem zx7 {item:PS→E×PS}{p0:PS}(hi:∀p,p.a<s.size→p.d=p0.d→p0.a≤p.a→Good s p (item p) 1 1 0):∀(n:Nat) (l:List E) (p:PS),GoodL s p0 l p 0→GoodL s p0 (catLoopI s item n l p).1 (catLoopI s item n l p).2 0
 | 0,l,p,h=>h
 | n+1,l,p,h=>by
  unfold catLoopI
  split
  ·rename_i hg
   obtain⟨hb,hlt,-⟩:=goI_lt hg
   obtain⟨g1,g2,g3,g4,g5⟩:=hi p hlt h.d h.ge
   obtain⟨k1,k2,k3,k4,k5,k6⟩:=h
   refine zx7 hi n _ _ ⟨fun x hx=>?_,by omega,g3,by omega,?_,?_⟩
   ·rcases List.mem_append.1 hx with hx|hx
    ·exact k1 x hx
    ·obtain rfl:=List.mem_singleton.1 hx;exact g1
   ·rw [List.length_append,List.length_singleton];omega
   ·rw [zw7,List.length_append,List.length_singleton];omega
  ·exact h
omit hs in
theorem zu8 {k:Int}(hk:0≤k∧k≤11){l:List E}(h:∀x∈l,Fine x):Fine (oneOr k l)∧(oneOr k l).sz≤E.szL l+l.length:=by
 match l,h with
 | [x],h=>exact⟨h x (List.mem_singleton.2 rfl),by show x.sz≤E.szL [x]+1;simp only [E.szL];omega⟩
 | [],h=>exact⟨.mk _ _ _ hk (by show (0:Nat)≤_;omega) h,by show (rexE k ByteArray.empty []).sz≤_;rw [zs8];have:ByteArray.empty.size=0:=rfl;omega⟩
 | x :: y :: r,h=>exact⟨.mk _ _ _ hk (by show (0:Nat)≤_;omega) h,by show (rexE k ByteArray.empty (x :: y :: r)).sz≤_;rw [zs8];have:ByteArray.empty.size=0:=rfl;omega⟩
omit hs in
theorem zp15 {item:PS→E×PS}{p:PS}(hp:p.a≤s.size)(hi:∀q,q.a<s.size→q.d=p.d→p.a≤q.a→Good s q (item q) 1 1 0):Good s p (catI s item p) 0 0 0:=by
 have hL:=zx7 (p0:=p) hi (s.size+2) [] p ⟨fun _ h=>absurd h List.not_mem_nil,Nat.le_refl _,hp,rfl,by simp,by simp [E.szL]⟩
 obtain⟨k1,k2,k3,k4,k5,k6⟩:=hL
 unfold catI
 dsimp only
 split
 ·exact⟨Fine.zero,by show p.a+0≤(catLoopI s item (s.size+2) [] p).2.a;omega,k3,k4,by show zeroR.sz+0+2*p.a≤2*(catLoopI s item (s.size+2) [] p).2.a+0;rw [zw9];omega⟩
 ·obtain⟨f1,f2⟩:=zu8 (k:=4) (by omega) k1
  refine⟨f1,?_,k3,k4,?_⟩<;>dsimp only at *<;>omega
omit hs in
theorem barI_lt {p:PS}(h:barI s p=true):p.b=false∧p.a<s.size:=by
 unfold barI at h
 simp only [Bool.and_eq_true,Bool.not_eq_true',beq_iff_eq] at h
 exact⟨h.1,zq3 (by rw [h.2];decide)⟩
omit hs in
theorem zy7 {cat:PS→E×PS}{p0:PS}(hc:∀p,p.a≤s.size→p.d=p0.d→p0.a≤p.a→Good s p (cat p) 0 0 0):∀(n:Nat) (l:List E) (p:PS),GoodL s p0 l p 1→GoodL s p0 (altLoopI s cat n l p).1 (altLoopI s cat n l p).2 1
 | 0,l,p,h=>h
 | n+1,l,p,h=>by
  unfold altLoopI
  split
  ·rename_i hg
   obtain⟨hb,hlt⟩:=barI_lt hg
   obtain⟨k1,k2,k3,k4,k5,k6⟩:=h
   have e1:(p.go 1).a=p.a+1:=rfl
   have e2:(p.go 1).d=p.d:=rfl
   obtain⟨g1,g2,g3,g4,g5⟩:=hc (p.go 1) (by omega) (by omega) (by omega)
   refine zy7 hc n _ _ ⟨fun x hx=>?_,by omega,g3,by omega,?_,?_⟩
   ·rcases List.mem_append.1 hx with hx|hx
    ·exact k1 x hx
    ·obtain rfl:=List.mem_singleton.1 hx;exact g1
   ·rw [List.length_append,List.length_singleton];omega
   ·rw [zw7,List.length_append,List.length_singleton];omega
  ·exact h
omit hs in
theorem altB_good {cat:PS→E×PS}{p:PS}(hp:p.a≤s.size)(hc:∀q,q.a≤s.size→q.d=p.d+1→p.a≤q.a→Good s q (cat q) 0 0 0):Good s p (altB s cat p) 0 0 1:=by
 obtain⟨q0,hq0⟩:∃q0:PS,q0=⟨p.a,p.d+1,p.b||decide (40<p.d+1)⟩:=⟨_,rfl⟩
 have e1:q0.a=p.a:=by rw [hq0]
 have e2:q0.d=p.d+1:=by rw [hq0]
 obtain⟨g1,g2,g3,g4,g5⟩:=hc q0 (by omega) e2 (by omega)
 have hL:=zy7 (p0:=q0) (fun q h1 h2 h3=>hc q h1 (by omega) (by omega)) (s.size+1) [(cat q0).1] (cat q0).2
  ⟨fun x hx=>by obtain rfl:=List.mem_singleton.1 hx;exact g1,by omega,g3,g4,by simp only [List.length_singleton];omega,by simp only [E.szL,List.length_singleton];omega⟩
 obtain⟨k1,k2,k3,k4,k5,k6⟩:=hL
 obtain⟨f1,f2⟩:=zu8 (k:=5) (by omega) k1
 unfold altB
 rw [←hq0]
 refine⟨f1,?_,k3,?_,?_⟩<;>dsimp only at *<;>omega
theorem zy10 (f:Nat):∀p:PS,p.a≤s.size→s.size+1≤p.a+f→Good s p (altI s f p) 0 0 1:=by
 induction f with
 | zero=>intro p h1 h2;omega
 | succ f ih =>
  intro p h1 h2
  exact altB_good h1 fun q hq hqd hqa=>zp15 hq fun r hr hrd hra=>zt8 (zs12 hs hr (ih _ (by show r.a+1≤_;omega) (by show s.size+1≤r.a+1+f;omega)))
end
end Go.Proofs.YtnjfnhoipnbpeaaGreatDoor
namespace Go.Proofs.YtnjfnhoipnbpeaaGreatDoor
open Go.RowKit Go.Shelf
set_option maxRecDepth 100000
def lays137_ren:Go.Shelf.Ren:=⟨fun|137=>162|217=>167|266=>168|n=>n,fun|9=>9|5=>5|3=>3|n=>n,fun|n=>n⟩
theorem lays137:Go.Proofs.Lays.n137 Tryz.prog lays137_ren:={
 mixed:=by kernel_rfl
 f137:=Tryz.func162.trans (congrArg some (by kernel_rfl))
 f217:=Tryz.func167.trans (congrArg some (by kernel_rfl))
 f266:=Tryz.func168.trans (congrArg some (by kernel_rfl))
 t3:=Tryz.underlying3
 a3:=Tryz.isAgg3
 z3:=Tryz.sizeOf3
 v3:=Tryz.zeroValue3
 t5:=Tryz.underlying5
 a5:=Tryz.isAgg5
 z5:=Tryz.sizeOf5
 v5:=Tryz.zeroValue5
 t9:=Tryz.underlying9
 a9:=Tryz.isAgg9
 z9:=Tryz.sizeOf9
 v9:=Tryz.zeroValue9 }
end Go.Proofs.YtnjfnhoipnbpeaaGreatDoor
namespace Go.Proofs.YtnjfnhoipnbpeaaGreatDoor
open Go.RowKit Go.Shelf
set_option maxRecDepth 100000
def lays156_ren:Go.Shelf.Ren:=⟨fun|156=>17|165=>39|166=>40|169=>41|240=>68|241=>69|276=>93|277=>94|n=>n,fun|31=>38|9=>9|3=>3|4=>4|0=>0|20=>20|72=>81|76=>85|70=>78|37=>79|75=>84|127=>105|164=>120|5=>5|80=>87|n=>n,fun|n=>n⟩
theorem lays156:Go.Proofs.Lays.n156 Tryz.prog lays156_ren:={
 mixed:=by kernel_rfl
 f156:=Tryz.func17.trans (congrArg some (by kernel_rfl))
 f165:=Tryz.func39.trans (congrArg some (by kernel_rfl))
 f166:=Tryz.func40.trans (congrArg some (by kernel_rfl))
 f169:=Tryz.func41.trans (congrArg some (by kernel_rfl))
 f240:=Tryz.func68.trans (congrArg some (by kernel_rfl))
 f241:=Tryz.func69.trans (congrArg some (by kernel_rfl))
 f276:=Tryz.func93.trans (congrArg some (by kernel_rfl))
 f277:=Tryz.func94.trans (congrArg some (by kernel_rfl))
 t0:=Tryz.underlying0
 a0:=Tryz.isAgg0
 z0:=Tryz.sizeOf0
 v0:=Tryz.zeroValue0
 t3:=Tryz.underlying3
 a3:=Tryz.isAgg3
 z3:=Tryz.sizeOf3
 v3:=Tryz.zeroValue3
 t4:=Tryz.underlying4
 a4:=Tryz.isAgg4
 z4:=Tryz.sizeOf4
 v4:=Tryz.zeroValue4
 t9:=Tryz.underlying9
 a9:=Tryz.isAgg9
 z9:=Tryz.sizeOf9
 v9:=Tryz.zeroValue9
 t20:=Tryz.underlying20
 a20:=Tryz.isAgg20
 z20:=Tryz.sizeOf20
 v20:=Tryz.zeroValue20
 t31:=Tryz.underlying38
 a31:=Tryz.isAgg38
 z31:=Tryz.sizeOf38
 v31:=Tryz.zeroValue38
 t37:=Tryz.underlying79
 a37:=Tryz.isAgg79
 z37:=Tryz.sizeOf79
 v37:=Tryz.zeroValue79
 t70:=Tryz.underlying78
 a70:=Tryz.isAgg78
 z70:=Tryz.sizeOf78
 v70:=Tryz.zeroValue78
 t72:=Tryz.underlying81
 a72:=Tryz.isAgg81
 z72:=Tryz.sizeOf81
 v72:=Tryz.zeroValue81
 t75:=Tryz.underlying84
 a75:=Tryz.isAgg84
 z75:=Tryz.sizeOf84
 v75:=Tryz.zeroValue84
 t76:=Tryz.underlying85
 a76:=Tryz.isAgg85
 z76:=Tryz.sizeOf85
 v76:=Tryz.zeroValue85
 t127:=Tryz.underlying105
 a127:=Tryz.isAgg105
 z127:=Tryz.sizeOf105
 v127:=Tryz.zeroValue105
 t164:=Tryz.underlying120
 a164:=Tryz.isAgg120
 z164:=Tryz.sizeOf120
 v164:=Tryz.zeroValue120 }
theorem Builder_Extra_156:Builder.Extra Tryz.prog lays156_ren:={
 sizeBuilder:=by kernel_rfl
 liesBuilder:=by kernel_rfl
 t5:=Tryz.underlying5
 a5:=Tryz.isAgg5
 z5:=Tryz.sizeOf5
 v5:=Tryz.zeroValue5
 infoByte:=by kernel_rfl
 cellsByte:=by kernel_rfl
 sizeByte:=by kernel_rfl
 neB5:=by decide }
end Go.Proofs.YtnjfnhoipnbpeaaGreatDoor
namespace Go.Proofs.YtnjfnhoipnbpeaaGreatDoor
open Go.RowKit
set_option maxRecDepth 100000
theorem zz7 {P:Program}{f:FuncId}{ins:List AV}{v:Value}(he:entB P f=true)(hv:scal v=true)
 (hc:∀(w:World) (St:Nat→Prop) (φ:Nat→Lc) (K:Nat→Prop) (us:List Value),VRL w St φ K ins us→Calls P f us.toArray w fun e w'=>e=.returned v∧Below w.heap.size w w'):Ctr P f ins [] (.c (.v v)) []:=by
 refine⟨he,fun w St φ F us' hent=>?_⟩
 refine (hc w St φ _ us' hent.args).mono ?_
 rintro e w' ⟨rfl,hb⟩
 refine⟨_,_,v,fun _=>False,fun _=>[],[],⟨rfl,rfl⟩,rfl,⟨⟨hb.os,hb.tape,hb.output,hb.size,fun b hlt _=>.inl (hb.block b hlt)⟩,?_,by simp,rfl,fun i cs hi=>by simp at hi,fun i hi=>by simp at hi,fun i hi=>by simp at hi,fun i j hi=>by simp at hi,fun i b lo hi=>by simp at hi,fun b hb=>by simp at hb,fun b hb=>hb.elim⟩⟩
 simp only [VRF,CR]
 exact⟨trivial,hv,trivial⟩
theorem zz10 (s:ByteArray){c:Nat}(_hc:c<256):Ctr Tryz.prog 162 [.c (.v (.string s)),.c (.v (.int .u8 (c:Int)))] [] (.c (.v (.int .i64 (Lib.indexByte s.data.toList (UInt8.ofNat c))))) []:=by
 refine zz7 (by kernel_rfl) rfl fun w St φ K us h=>?_
 simp only [VRL,VR,CR] at h
 obtain⟨u,us1,rfl,⟨rfl,-⟩,u2,us2,rfl,⟨rfl,-⟩,rfl⟩:=h
 refine (Go.Proofs.Any.strings_IndexByte lays137 s (c:Int) w).mono ?_
 rintro e w' ⟨rfl,rfl⟩
 exact⟨rfl,Below.refl _ _⟩
def strB:E→ByteArray
 | .str s=>s
 | _=>ByteArray.empty
theorem crl_str {w:World}{St:Nat→Prop}{φ:Nat→Lc}{K:Nat→Prop}:∀{l:List E} {us:List Value} {fp:List Nat},(∀e∈l,∃s,e=.str s)→CRL w St φ K (acL l) us fp→us=l.map fun e=>.string (strB e)
 | [],us,fp,_,h=>by
  simp only [acL,CRL] at h
  exact h.1
 | e :: r,us,fp,he,h=>by
  obtain⟨s,rfl⟩:=he e List.mem_cons_self
  have h':CRL w St φ K (.v (.string s) :: acL r) us fp:=h
  simp only [CRL] at h'
  obtain⟨u,us',f1,f2,rfl,rfl,h1,h2⟩:=h'
  simp only [CR] at h1
  obtain⟨rfl,-⟩:=h1
  rw [crl_str (fun e he'=>he e (List.mem_cons_of_mem _ he')) h2]
  rfl
def joinB (l:List E)(sep:ByteArray):ByteArray:=⟨(Lib.join (l.map fun e=>(strB e).data.toList) sep.data.toList).toArray⟩
theorem join_c {l:List E}(hl:∀e∈l,∃s,e=.str s)(sep:ByteArray)(hn:l.length≤1073741824)(hsz:(joinB l sep).size≤140737488355328):Ctr Tryz.prog 17 [.c (.ro l.length 1 (acL l)),.c (.v (.string sep))] [] (.c (.v (.string (joinB l sep)))) []:=by
 refine zz7 (by kernel_rfl) rfl fun w St φ K us h=>?_
 simp only [VRL,VR,CR] at h
 obtain⟨u,us1,rfl,⟨-,A,c,rfl,⟨h1,h2,h3⟩,h4,h5⟩,u2,us2,rfl,⟨rfl,-⟩,rfl⟩:=h
 cases l with
 | nil=>exact (Go.Proofs.Any.strings_Join_none lays156 Builder_Extra_156 A c sep w).mono fun e w' ⟨he,hw⟩=>⟨he,hw▸Below.refl _ _⟩
 | cons x r =>
  obtain⟨b,o,us,rfl,-,hb,hc,hcr⟩:=h5 (by simp)
  have hus:=crl_str hl hcr
  have e1:(x :: r).length=((x :: r).map strB).length:=by simp
  have e2:joinB (x :: r) sep=⟨(Lib.join (((x :: r).map strB).map (·.data.toList)) sep.data.toList).toArray⟩:=by unfold joinB;rw [List.map_map];rfl
  rw [e2] at hsz ⊢
  rw [e1] at hn h1 ⊢
  refine Go.Proofs.Any.strings_Join lays156 Builder_Extra_156 b o c ((x :: r).map strB) sep w (fun j y hy=>hc j _ ?_) hb (by omega) h1 ?_
  ·rw [hus,List.getElem?_map]
   rw [List.getElem?_map] at hy
   cases hq:(x :: r)[j]? with
   | none=>rw [hq] at hy;cases hy
   | some e=>rw [hq] at hy;simp at hy;simp [hy]
  ·have:(ByteArray.mk (Lib.join (((x :: r).map strB).map (·.data.toList)) sep.data.toList).toArray).size=(Lib.join (((x :: r).map strB).map (·.data.toList)) sep.data.toList).length:=by show (List.toArray _).size=_;rw [List.size_toArray]
   rw [this] at hsz
   exact hsz
set_option maxRecDepth 100000 in
set_option maxHeartbeats 1000000 in
theorem szStringS_all' (A:Option Addr)(c:Nat)(l:List E)(ht:∀y∈l,y.Ty Tryz.prog 9):Sz 49 (.lst 1 9 A c l):=by
 intro left w hr h0 h1
 have hs:=hr.sl
 have hlen:=hs.len_le
 have HSZ:Hid ((E.lst 1 9 A c l).sz=l.length+E.szL l):=rfl
 change Calls _ _ #[.slice A l.length c,.int .i64 left] w _
 by_cases hneg:left-l.length<0
 ·go_enter Tryz.func49,Tryz.ntmps49
  go_wp2
  go_ret
  exact⟨-1,rfl,.inl (by omega),by omega,by exact by0⟩
 go_enter Tryz.func49,Tryz.ntmps49
 go_wp2
 go_loopw [1,5] (fun v i wr=>∃(k:Nat) (cur:Int),k≤l.length∧i=.int .i64 k∧v=.int .i64 cur∧0≤cur∧cur≤left∧Hid (cur+E.szL (l.take k)+l.length=left)∧Below w.heap.size w wr) (fun _ i _=>l.length-(intOf i).toNat)
 case atStart=>exact⟨0,_,Nat.zero_le _,rfl,rfl,by omega,by omega,(by show _=_;simp [E.szL]),Below.refl _ _⟩
 case round =>
  obtain⟨k,cur,hk,rfl,rfl,hc0,hc1,HQ,hb⟩:=hrel
  have hzb:=hb.size
  by_cases hlt:k<l.length
  ·have hs':=hs.below hb (Nat.le_refl _)
   have HT:=Lib.hid (E.szL_take l k hlt)
   obtain⟨b,o,rfl,_,hc⟩:=hs'.at_ hlt
   obtain⟨s,ex,gs⟩:=(ht _ (List.getElem_mem hlt)).str_ Tryz.underlying9
   rw [ex] at hc
   have c0:=hc 0 _ rfl
   rw [Nat.add_zero,Nat.mul_one] at c0
   clear hc
   have HEX:=Lib.hid ex
   clear ex
   by_cases hn:cur-s.size<0
   ·go_wp2
    go_ret
    exact⟨-1,rfl,.inl (by omega),by omega,by exact by0⟩
   ·go_wp2
    go_roundw
    case rel=>exact⟨k+1,_,by omega,by go_num,rfl,by omega,by omega,(by show _=_;have e1:=HQ.out;have e2:=HT.out;rw [HEX.out] at e2;simp only [E.sz] at e2;omega),by exact by0⟩
    case measure=>simp [intOf];omega
  ·have hk':k=l.length:=by omega
   subst hk'
   go_wp2
   go_ret
   refine⟨_,rfl,.inr ?_,by omega,hb⟩
   show _=_
   have e1:=HQ.out
   rw [List.take_length] at e1
   rw [HSZ.out]
   push_cast
   omega
theorem zx13 {e:E}(ht:e.Ty Tryz.prog 38):Sz 49 e:=by
 obtain⟨A,c,l,rfl,h1,_⟩:=ht.lst_ Tryz.underlying38 (k:=1) (by kernel_rfl)
 exact szStringS_all' A c l h1
theorem zq15:(Tryz.prog.info? 9).map (fun i=>(i.zero,i.size,i.bytes))=some (some (.string ByteArray.empty),1,16):=by kernel_rfl
set_option maxRecDepth 100000 in
set_option maxHeartbeats 1000000 in
theorem zy13 {e:E}(ht:e.Ty Tryz.prog 38):To 58 38 e:=by
 obtain⟨A,c,l,rfl,h1,h2⟩:=ht.lst_ Tryz.underlying38 (k:=1) (by kernel_rfl)
 intro w hr hsz
 have hs:=hr.sl
 have hn:l.length≤1048576:=by have e:(E.lst 1 9 A c l).sz=l.length+E.szL l:=rfl;omega
 have hmk:=zu22 Tryz.underlying38 zq15 l.length (by omega) (by omega)
 have hF:=Fill.new w 9 #[.string ByteArray.empty] l.length (E.encL l)
 have hxs:=E.encL_len h2
 rw [Nat.mul_one] at hxs
 have HX:=Lib.hid hxs
 have H1:=Lib.hid h1
 have H2:=Lib.hid h2
 clear hxs h1 h2
 change Calls _ _ #[.slice A l.length c] w _
 go_enter Tryz.func58,Tryz.ntmps58
 go_wp2
 go_loopw [4] (fun i wr=>∃(k:Nat),k≤l.length∧i=.int .i64 k∧Fill wr w.heap.size 9 l.length k (E.encL l)∧Below w.heap.size w wr) (fun i _=>l.length-(intOf i).toNat)
 case atStart=>exact⟨0,Nat.zero_le _,rfl,hF,by exact by0⟩
 case round =>
  obtain⟨k,hk,rfl,hf,hb⟩:=hrel
  by_cases hlt:k<l.length
  ·have hs':=hs.below hb (Nat.le_refl _)
   obtain⟨b,o,rfl,_,hcell⟩:=hs'.at1 hlt
   have hx:=E.encL_at H2.out k hlt 0 (by omega)
   obtain⟨n,ex,gn⟩:=(H1.out _ (List.getElem_mem hlt)).str_ Tryz.underlying9
   have hcell:=hcell _ (by rw [ex];rfl)
   obtain⟨u,hc2⟩:=hf.cell hlt
   have hf2:=hf.frozen k
   rw [Nat.mul_one,Nat.add_zero,ex] at hx
   have R:=(hf.set hlt hx)
   clear hx hf ex
   go_wp2
   go_roundw
   case rel=>exact⟨k+1,by omega,by go_num,R,hb.setCell (Nat.le_refl _) _⟩
   case measure=>simp [intOf];omega
  ·have hk':k=l.length:=by omega
   subst hk'
   go_wp2
   go_ret
   have hfl:∀e∈l,e.fp=[]:=fun e he=>by
    obtain⟨n,rfl,_⟩:=(H1.out e he).str_ Tryz.underlying9
    rfl
   refine⟨.lst 1 9 (some ⟨w.heap.size,0,none⟩) l.length l,rfl,zw11.2 rfl,E.Ty.mk_lst Tryz.underlying38 (by kernel_rfl) H1.out H2.out,E.Ho.mk (Ow.of_owns (hf.owns (Nat.le_refl _) (Nat.mul_one _).symm HX.out (by unfold maxLen;omega)) (Nat.le_refl _)) H2.out (fun e he=>?_),?_,hb⟩
   ·obtain⟨n,rfl,_⟩:=(H1.out e he).str_ Tryz.underlying9
    trivial
   ·simp only [E.fp,E.fpL_nil hfl];simp
set_option maxRecDepth 100000 in
set_option maxHeartbeats 1000000 in
theorem eqStringS_all' (A B:Option Addr)(c c':Nat)(l m:List E)(h1:∀y∈l,y.Ty Tryz.prog 9)(h2:∀y∈m,y.Ty Tryz.prog 9):Eq 75 (.lst 1 9 A c l) (.lst 1 9 B c' m):=by
 intro hd w hr hr'
 rw [zw11] at hd
 have hs:=hr.sl
 have hs':=hr'.sl
 have hml:=zy22 hd
 have HD:=Lib.hid hd
 clear hd
 have hlen:=hs.len_le
 change Calls _ _ #[.slice A l.length c,.slice B m.length c'] w _
 obtain⟨N,HN⟩:∃N,Hid (m.length=N):=⟨_,rfl⟩
 have hN:N=l.length:=by have:=HN.out;omega
 subst hN
 rw [HN.out]
 clear hml
 go_enter Tryz.func75,Tryz.ntmps75
 go_wp2
 go_loopw [5] (fun i wr=>∃(k:Nat),k≤l.length∧i=.int .i64 k∧Below w.heap.size w wr) (fun i _=>l.length-(intOf i).toNat)
 case atStart=>exact⟨0,Nat.zero_le _,rfl,Below.refl _ _⟩
 case round =>
  obtain⟨k,hk,rfl,hb⟩:=hrel
  by_cases hlt:k<l.length
  ·have hltm:k<m.length:=by have:=HN.out;omega
   have hsb:=hs.below hb (Nat.le_refl _)
   have hsb':=hs'.below hb (Nat.le_refl _)
   have hdk:=d_at HD.out hlt hltm
   obtain⟨b,o,rfl,_,hc⟩:=hsb.at_ hlt
   obtain⟨b',o',rfl,_,hd⟩:=hsb'.at_ hltm
   obtain⟨a,ea,ga⟩:=(h1 _ (List.getElem_mem hlt)).str_ Tryz.underlying9
   obtain⟨a2,eb,gb⟩:=(h2 _ (List.getElem_mem hltm)).str_ Tryz.underlying9
   rw [ea,eb] at hdk
   simp only [E.d,E.int.injEq,E.str.injEq,true_and] at hdk
   subst hdk
   rw [ea] at hc
   rw [eb] at hd
   clear ea eb
   have c0:=hc 0 _ rfl
   have d0:=hd 0 _ rfl
   rw [Nat.add_zero,Nat.mul_one] at c0 d0
   clear hc hd
   go_wp2
   go_quiet (fail)
   go_wp2
   go_roundw
   case rel=>exact⟨k+1,by omega,by go_num,by exact by0⟩
   case measure=>simp [intOf];omega
  ·go_wp2
   go_ret
   exact⟨rfl,hb⟩
theorem zz13 {e e':E}(ht:e.Ty Tryz.prog 38)(ht':e'.Ty Tryz.prog 38):Eq 75 e e':=by
 obtain⟨A,c,l,rfl,h1,_⟩:=ht.lst_ Tryz.underlying38 (k:=1) (by kernel_rfl)
 obtain⟨B,c',m,rfl,h2,_⟩:=ht'.lst_ Tryz.underlying38 (k:=1) (by kernel_rfl)
 exact eqStringS_all' A B c c' l m h1 h2
theorem zu1 {e:E}(h:e.Ty Tryz.prog 140):∃(x0:Int) (x1:ByteArray) (x2A:Option Addr) (x2c:Nat) (x2l:List E),e=(E.agg [.int .i64 x0,.str x1,.lst 3 140 x2A x2c x2l])∧((Lit.int .i64 x0).wf=true)∧(x1.size≤9223372036854775807)∧((∀y∈x2l,y.Ty Tryz.prog 140)∧(∀y∈x2l,y.enc.length=3))∧True:=by
 obtain⟨fs,rfl,q0⟩:=h.agg_ Tryz.underlying140
 change E.TyF _ _ [3,9,138] at q0
 obtain⟨e0,r0,rfl,h0,q1⟩:=q0.cons_
 obtain⟨e1,r1,rfl,h1,q2⟩:=q1.cons_
 obtain⟨e2,r2,rfl,h2,q3⟩:=q2.cons_
 obtain rfl:=q3.nil_
 obtain⟨x0,rfl,gx0⟩:=h0.int_ Tryz.underlying3
 obtain⟨x1,rfl,gx1⟩:=h1.str_ Tryz.underlying9
 obtain⟨x2A,x2c,x2l,rfl,gx2,gx2'⟩:=h2.lst_ Tryz.underlying138 (k:=3) (by kernel_rfl)
 exact⟨x0,x1,x2A,x2c,x2l,rfl,gx0,gx1,⟨gx2,gx2'⟩,trivial⟩
end Go.Proofs.YtnjfnhoipnbpeaaGreatDoor
