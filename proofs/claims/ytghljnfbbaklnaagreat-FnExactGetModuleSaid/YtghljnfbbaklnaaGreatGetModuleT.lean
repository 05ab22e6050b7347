/- Regular expressions: both sides read the same. -/
import Derived.Test.YtghljnfbbaklnaaGreatGetModuleS
namespace Go.Proofs.YtghljnfbbaklnaaGreat
open Go.RowKit
set_option maxRecDepth 100000
theorem zx15 {k:Int}:∀{l:List E},(∀x∈l,Can x)→Can (oneOr k l)
 | [],h=>Can.mk _ _ _ h
 | [x],h=>h x List.mem_cons_self
 | x :: y :: r,h=>Can.mk _ _ _ h
theorem ze11:Can zeroR:=Can.mk _ _ _ fun _ h=>absurd h List.not_mem_nil
theorem leaf_can (k:Int)(s:ByteArray):Can (rexE k s []):=Can.mk _ _ _ fun _ h=>absurd h List.not_mem_nil
section
variable {s:ByteArray}
theorem atomI_can {alt:PS→E×PS}(h:∀p,Can (alt p).1)(p:PS):Can (atomI s alt p).1:=by
 unfold atomI atomIc
 dsimp only
 repeat' split
 all_goals first|exact leaf_can _ _|exact ze11|exact h _
theorem itemI_can {f:PS→E×PS}(h:∀p,Can (f p).1)(p:PS):Can (itemI s f p).1:=by
 unfold itemI
 have h1:∀k,Can (rexE k ByteArray.empty [(f p).1]):=fun k=>Can.mk _ _ _ fun x hx=>by
  rw [List.mem_singleton] at hx;rw [hx];exact h p
 dsimp only
 repeat' split
 all_goals first|exact h1 _|exact h _
theorem zl9 {f:PS→E×PS}(h:∀p,Can (f p).1):∀(n:Nat) (l:List E) (p:PS),(∀x∈l,Can x)→∀x∈(catLoopI s f n l p).1,Can x
 | 0,l,p,hl=>hl
 | n+1,l,p,hl=>by
  unfold catLoopI
  split
  ·refine zl9 h n _ _ fun x hx=>?_
   rcases List.mem_append.1 hx with hx|hx
   ·exact hl x hx
   ·rw [List.mem_singleton] at hx;rw [hx];exact h p
  ·exact hl
theorem catI_can {f:PS→E×PS}(h:∀p,Can (f p).1)(p:PS):Can (catI s f p).1:=by
 unfold catI
 simp only
 split
 ·exact ze11
 ·exact zx15 (zl9 h _ _ _ fun _ h=>absurd h List.not_mem_nil)
theorem zm9 {f:PS→E×PS}(h:∀p,Can (f p).1):∀(n:Nat) (l:List E) (p:PS),(∀x∈l,Can x)→∀x∈(altLoopI s f n l p).1,Can x
 | 0,l,p,hl=>hl
 | n+1,l,p,hl=>by
  unfold altLoopI
  split
  ·refine zm9 h n _ _ fun x hx=>?_
   rcases List.mem_append.1 hx with hx|hx
   ·exact hl x hx
   ·rw [List.mem_singleton] at hx;rw [hx];exact h _
  ·exact hl
theorem altI_can (f:Nat):∀p,Can (altI s f p).1:=by
 induction f with
 | zero=>exact fun p=>ze11
 | succ f ih =>
  intro p
  unfold altI altB
  have hc:=catI_can (s:=s) (itemI_can (s:=s) (atomI_can (s:=s) ih))
  exact zx15 (zm9 hc _ _ _ fun x hx=>by rw [List.mem_singleton] at hx;rw [hx];exact hc _)
end
theorem zv12 {g:E→ByteArray}{b:ByteArray}{c:E→Nat}(hb:b.size≤1):∀{l:List E} {n:Nat},(∀x∈l,(g x).size+3≤16*c x)→sumI c l n≤60→(tailT g b l).size+16*n≤16*sumI c l n
 | [],n,_,_=>by unfold tailT sumI;rw [zy7];omega
 | x :: r,n,h,hs=>by
  have h1:=h x List.mem_cons_self
  unfold sumI at hs ⊢
  split at hs
  ·omega
  ·rename_i hn
   rw [if_neg hn]
   have h2:=zv12 hb (n:=n+c x) (fun y hy=>h y (List.mem_cons_of_mem _ hy)) hs
   have h3:(brk g x).size≤(g x).size+2:=by
    unfold brk
    split
    ·simp only [zi2];show 1+_+1≤_;omega
    ·omega
   unfold tailT
   simp only [zi2]
   omega
theorem zw12 (f:Nat):∀e,partsI f e≤60→(textS f e).size+3≤16*partsI f e:=by
 induction f with
 | zero=>intro e h;simp [partsI] at h
 | succ f ih =>
  intro e h
  unfold partsI at h ⊢
  split at h
  ·rename_i hh
   rw [if_pos hh]
   have hd:=(head_of hh).1
   have hk:=(zp8 h).2
   have h1:1≤sumI (partsI f) e.rl 1:=by
    have:∀(l:List E) (n:Nat),sumI (partsI f) l n≤60→n≤sumI (partsI f) l n:=by
     intro l
     induction l with
     | nil=>intro n _;exact Nat.le_refl _
     | cons x r ihl =>
      intro n hn
      unfold sumI at hn ⊢
      split at hn
      ·omega
      ·rename_i hc
       rw [if_neg hc]
       have:=ihl _ hn
       omega
    exact this _ _ h
   unfold textS
   rcases zu3 hd with ⟨k,q1,q2,q3⟩|⟨k,q1,q3⟩|⟨k,q1,q3⟩|⟨k,q1,q2,q3⟩|⟨k,q1,x,q2,q3⟩
   ·rw [if_pos k,q1];omega
   ·rw [k]
    have:e.rs.size≤10:=by
     unfold setOkB at q1
     simp only [Bool.and_eq_true,decide_eq_true_iff] at q1
     exact q1.2.2
    show (ByteArray.mk #[91]++e.rs++ByteArray.mk #[93]).size+3≤_
    simp only [zi2]
    show 1+e.rs.size+1+3≤_
    omega
   ·rcases k with k|k|k|k<;>rw [k]
    ·show 1+3≤_;omega
    ·show 2+3≤_;omega
    ·show 1+3≤_;omega
    ·show 1+3≤_;omega
   ·have key:∀b:ByteArray,b.size≤1→(joinT (textS f) b e.rl).size+3≤16*sumI (partsI f) e.rl 1:=by
     intro b hb
     have h3:=zv12 (g:=textS f) (b:=b) (c:=partsI f) hb (fun x hx=>ih x (hk x hx)) h
     have h4:(joinT (textS f) b e.rl).size≤(tailT (textS f) b e.rl).size:=by
      cases e.rl with
      | nil=>exact Nat.le_refl _
      | cons x r=>unfold joinT;conv=>rhs;unfold tailT
                  simp only [zi2];omega
     omega
    rcases k with k|k<;>rw [k]
    ·exact key ByteArray.empty (by rw [zy7];omega)
    ·exact key ⟨#[124]⟩ (Nat.le_refl 1)
   ·have h3:=ih x (hk x (by rw [q2];exact List.mem_cons_self))
    rw [q2] at h h1 ⊢
    have h5:sumI (partsI f) [x] 1=1+partsI f x:=by
     unfold sumI at h ⊢
     split at h
     ·omega
     ·rename_i hc;rw [if_neg hc];rfl
    have h6:(oneT (textS f) x).size≤(textS f x).size+2:=by
     unfold oneT
     split
     ·simp only [zi2];show 1+_+1≤_;omega
     ·omega
    rw [h5]
    rcases k with k|k|k<;>rw [k]
    ·show (oneT (textS f) x++ByteArray.mk #[42]).size+3≤_
     rw [zi2];show (oneT (textS f) x).size+1+3≤_;omega
    ·show (oneT (textS f) x++ByteArray.mk #[43]).size+3≤_
     rw [zi2];show (oneT (textS f) x).size+1+3≤_;omega
    ·show (oneT (textS f) x++ByteArray.mk #[63]).size+3≤_
     rw [zi2];show (oneT (textS f) x).size+1+3≤_;omega
  ·omega
def rexT (e:E):ByteArray:=if rexOkI e then textS 6 e else ByteArray.empty
def p00:PS:=⟨0,0,false⟩
def readI (s:ByteArray):E×PS:=altI s (s.size+8) p00
def readS (s:ByteArray):E×PS:=altS s (s.size+8) p00
def parI (s:ByteArray):Bool:=!(readI s).2.b&&((readI s).2.a==s.size)&&rexOkI (readI s).1&&(rexT (readI s).1).toList==s.toList
def parS (s:ByteArray):Bool:=decide (s.size≤1000)&&!(readS s).2.b&&((readS s).2.a==s.size)&&(rexT (readS s).1).toList==s.toList
theorem toList_inj {a b:ByteArray}(h:a.toList=b.toList):a=b:=by
 rw [ByteArray.toList_eq,ByteArray.toList_eq] at h
 exact ByteArray.ext (Array.toList_inj.1 h)
theorem here_self (s:ByteArray):Here s 0 s:=⟨by omega,fun j hj=>by rw [Nat.zero_add]⟩
theorem par_to {s:ByteArray}(h:parS s=true):parI s=true∧readI s=readS s:=by
 unfold parS at h
 simp only [Bool.and_eq_true,Bool.not_eq_true',decide_eq_true_iff] at h
 obtain⟨⟨⟨h0,h1⟩,h2⟩,h3⟩:=h
 have e:readI s=readS s:=(zm19 (s.size+8) p00 rfl (by decide) h1).1
 refine⟨?_,e⟩
 unfold parI
 rw [e,h1,h2,h3]
 have:rexOkI (readS s).1=true:=by
  cases hk:rexOkI (readS s).1 with
  | true=>rfl
  | false =>
   have ht:rexT (readS s).1=ByteArray.empty:=by unfold rexT;rw [hk];rfl
   rw [ht] at h3
   have hs:=toList_inj (eq_of_beq h3)
   rw [←hs] at h1
   exact absurd h1 (by decide)
 rw [this];rfl
theorem par_back {s:ByteArray}(h:parI s=true):parS s=true:=by
 unfold parI at h
 simp only [Bool.and_eq_true,Bool.not_eq_true'] at h
 obtain⟨⟨⟨h1,h2⟩,h3⟩,h4⟩:=h
 have ht:rexT (readI s).1=textS 6 (readI s).1:=by unfold rexT;rw [h3];rfl
 have hs:textS 6 (readI s).1=s:=ht▸toList_inj (eq_of_beq h4)
 have hp:partsI 6 (readI s).1≤60:=by unfold rexOkI at h3;exact of_decide_eq_true h3
 have hok:okS 6 (readI s).1=true:=((zl19 6 _).1.1 hp).2
 have hsz:=zw12 6 _ hp
 rw [hs] at hsz
 have hb:=alt_back s (s.size+8) 6 (by omega) (readI s).1 (altI_can _ _) hok p00 rfl (by decide) (by rw [hs];exact here_self s) (.inl (by rw [hs];show s.size≤0+s.size;omega))
 rw [hs] at hb
 have e:readS s=((readI s).1,p00.go s.size):=hb
 unfold parS
 rw [e]
 simp only
 rw [h4]
 have:decide (s.size≤1000)=true:=by simp;omega
 rw [this]
 simp [PS.go,p00]
theorem zq19 (s:ByteArray):parI s=parS s:=by
 cases h:parS s with
 | true=>exact (par_to h).1
 | false =>
  cases h2:parI s with
  | false=>rfl
  | true=>rw [par_back h2] at h;cases h
def rexR (s:ByteArray):E:=if parI s then (readI s).1 else zeroR
theorem rexR_S (s:ByteArray):rexR s=if parS s then (readS s).1 else zeroR:=by
 unfold rexR
 rw [zq19]
 cases h:parS s with
 | true=>rw [if_pos rfl,if_pos rfl,(par_to h).2]
 | false=>rfl
inductive Fine:E→Prop
 | mk (k:Int) (s:ByteArray) (l:List E) (hk:0≤k∧k≤11) (hs:s.size≤1073741824) (hl:∀x∈l,Fine x):Fine (rexE k s l)
theorem Fine.ty {e:E}(h:Fine e):e.Ty Tryz.prog 208∧e.enc.length=3:=by
 induction h with
 | mk k s l hk hs hl ih =>
  refine⟨E.Ty.mk_agg Tryz.underlying208 (E.TyF.mk_cons ?_ (E.TyF.mk_cons ?_ (E.TyF.mk_cons (E.Ty.mk_lst Tryz.underlying206 (by kernel_rfl) (fun x hx=>(ih x hx).1) fun x hx=>(ih x hx).2) E.TyF.mk_nil))),rfl⟩
  ·simp only [E.Ty]
   refine⟨Tryz.underlying3,?_⟩
   have e1:IntKind.i64.min = -9223372036854775808:=rfl
   have e2:IntKind.i64.max=9223372036854775807:=rfl
   simp only [Lit.wf,decide_eq_true_iff,Bool.and_eq_true,e1,e2]
   omega
  ·simp only [E.Ty]
   exact⟨Tryz.underlying9,by unfold maxLen;omega⟩
theorem Fine.leaf {k:Int}{s:ByteArray}(hk:0≤k∧k≤11)(hs:s.size≤1073741824):Fine (rexE k s []):=.mk k s [] hk hs fun _ h=>absurd h List.not_mem_nil
theorem Fine.zero:Fine zeroR:=Fine.leaf ⟨by omega,by omega⟩ (by show (0:Nat)≤_;omega)
theorem zu8 (k:Int)(s:ByteArray)(l:List E):(rexE k s l).sz=s.size+(l.length+E.szL l):=by
 simp only [rexE,E.sz,E.szL];omega
theorem zz9:zeroR.sz=0:=rfl
structure Good (s:ByteArray)(p:PS)(r:E×PS)(lo k m:Nat):Prop where
 fine:Fine r.1
 ge:p.a+lo≤r.2.a
 le:r.2.a≤s.size
 d:r.2.d=p.d
 sz:r.1.sz+k+2*p.a≤2*r.2.a+m
section
variable {s:ByteArray}(hs:s.size≤1048576)
theorem zr17 {c:Nat}:∀(f a:Nat),a≤s.size→a≤untB s c f a∧untB s c f a≤s.size
 | 0,a,h=>⟨Nat.le_refl _,h⟩
 | f+1,a,h=>by
  unfold untB
  split
  ·rename_i h2
   have:=zr17 (c:=c) f (a+1) (by omega)
   omega
  ·exact⟨Nat.le_refl _,h⟩
include hs
theorem zx12 {alt:PS→E×PS}{p:PS}(hp:p.a<s.size)(ha:Good s (p.go 1) (alt (p.go 1)) 0 0 1):Good s p (atomI s alt p) 1 1 0:=by
 have e0:ByteArray.empty.size=0:=rfl
 have h1:(p.go 1).a=p.a+1:=rfl
 have h2:(p.go 1).d=p.d:=rfl
 have leaf:∀(k:Int) (t:ByteArray),0≤k∧k≤11→t.size≤1→Good s p (rexE k t [],p.go 1) 1 1 0:=fun k t hk ht =>
  ⟨Fine.leaf hk (by show t.size≤_;omega),by show p.a+1≤p.a+1;omega,by show p.a+1≤_;omega,rfl,by
   show (rexE k t []).sz+1+2*p.a≤2*(p.a+1)+0
   rw [zu8];simp only [List.length_nil,E.szL];omega⟩
 unfold atomI atomIc
 split
 ·exact leaf 1 _ (by omega) (by show (1:Nat)≤1;omega)
 split
 ·exact leaf 2 _ (by omega) (by omega)
 split
 ·exact leaf 10 _ (by omega) (by omega)
 split
 ·exact leaf 11 _ (by omega) (by omega)
 split
 ·have hu:=zr17 (s:=s) (c:=93) s.size (p.go 1).a (by omega)
  dsimp only
  split
  ·rename_i hlt
   have hc:(cutB s (p.go 1).a (untB s 93 s.size (p.go 1).a)).size≤untB s 93 s.size (p.go 1).a-(p.go 1).a:=by
    unfold cutB;rw [ByteArray.size_extract];omega
   refine⟨Fine.leaf (by omega) (by show (cutB _ _ _).size≤_;omega),?_,?_,rfl,?_⟩
   ·show p.a+1≤untB s 93 s.size (p.go 1).a+1;omega
   ·show untB s 93 s.size (p.go 1).a+1≤s.size;omega
   ·show (rexE 3 (cutB s (p.go 1).a (untB s 93 s.size (p.go 1).a)) []).sz+1+2*p.a≤2*(untB s 93 s.size (p.go 1).a+1)+0
    rw [zu8];simp only [List.length_nil,E.szL];omega
  ·exact⟨Fine.zero,by show p.a+1≤p.a+1;omega,by show p.a+1≤_;omega,rfl,by show zeroR.sz+1+2*p.a≤2*(p.a+1)+0;rw [zz9];omega⟩
 split
 ·split
  ·rename_i h41
   have hl:(p.go 1).a<s.size:=zj3 (by rw [h41];decide)
   exact⟨Fine.leaf (by omega) (by show (0:Nat)≤_;omega),by show p.a+1≤(p.go 1).a+1;omega,by show (p.go 1).a+1≤_;omega,rfl,by
    show (rexE 9 ByteArray.empty []).sz+1+2*p.a≤2*((p.go 1).a+1)+0
    rw [zu8];simp only [List.length_nil,E.szL];omega⟩
  ·obtain⟨g1,g2,g3,g4,g5⟩:=ha
   dsimp only
   split
   ·rename_i h41
    have hl:(alt (p.go 1)).2.a<s.size:=zj3 (by rw [h41];decide)
    exact⟨g1,by show p.a+1≤(alt (p.go 1)).2.a+1;omega,by show (alt (p.go 1)).2.a+1≤_;omega,by show (alt (p.go 1)).2.d=p.d;omega,by
     show (alt (p.go 1)).1.sz+1+2*p.a≤2*((alt (p.go 1)).2.a+1)+0;omega⟩
   ·exact⟨Fine.zero,by show p.a+1≤(alt (p.go 1)).2.a;omega,g3,by show (alt (p.go 1)).2.d=p.d;omega,by
     show zeroR.sz+1+2*p.a≤2*(alt (p.go 1)).2.a+0;rw [zz9];omega⟩
 ·exact⟨Fine.zero,by show p.a+1≤p.a+1;omega,by show p.a+1≤_;omega,rfl,by show zeroR.sz+1+2*p.a≤2*(p.a+1)+0;rw [zz9];omega⟩
omit hs in
theorem zv8 {atom:PS→E×PS}{p:PS}(ha:Good s p (atom p) 1 1 0):Good s p (itemI s atom p) 1 1 0:=by
 obtain⟨g1,g2,g3,g4,g5⟩:=ha
 have e0:ByteArray.empty.size=0:=rfl
 have star:∀k:Int,0≤k∧k≤11→(atom p).2.a<s.size→Good s p (rexE k ByteArray.empty [(atom p).1],(atom p).2.go 1) 1 1 0:=fun k hk hl =>
  ⟨.mk k _ _ hk (by omega) (fun x hx=>by obtain rfl:=List.mem_singleton.1 hx;exact g1),by show p.a+1≤(atom p).2.a+1;omega,by show (atom p).2.a+1≤_;omega,g4,by
   show (rexE k ByteArray.empty [(atom p).1]).sz+1+2*p.a≤2*((atom p).2.a+1)+0
   rw [zu8];simp only [List.length_cons,List.length_nil,E.szL];omega⟩
 unfold itemI
 dsimp only
 split
 ·rename_i h;exact star 6 (by omega) (zj3 (by rw [h];decide))
 split
 ·rename_i h;exact star 7 (by omega) (zj3 (by rw [h];decide))
 split
 ·rename_i h;exact star 8 (by omega) (zj3 (by rw [h];decide))
 ·exact⟨g1,g2,g3,g4,g5⟩
omit hs in
theorem zb8 (x:E):∀l:List E,E.szL (l++[x])=E.szL l+x.sz
 | []=>by simp only [List.nil_append,E.szL];omega
 | y :: r=>by have:=zb8 x r;simp only [List.cons_append,E.szL];omega
structure GoodL (s:ByteArray)(p0:PS)(l:List E)(q:PS)(m:Nat):Prop where
 fine:∀x∈l,Fine x
 ge:p0.a≤q.a
 le:q.a≤s.size
 d:q.d=p0.d
 len:l.length+p0.a≤q.a+1
 sz:E.szL l+l.length+2*p0.a≤2*q.a+m
omit hs in
theorem goI_lt {p:PS}(h:goI s p=true):p.b=false∧p.a<s.size∧bAt s p.a≠0:=by
 unfold goI at h
 simp only [Bool.and_eq_true,Bool.not_eq_true',beq_eq_false_iff_ne] at h
 exact⟨h.1.1.1,zj3 h.1.1.2,h.1.1.2⟩
omit hs in
theorem zc8 {item:PS→E×PS}{p0:PS}(hi:∀p,p.a<s.size→p.d=p0.d→p0.a≤p.a→Good s p (item p) 1 1 0):∀(n:Nat) (l:List E) (p:PS),GoodL s p0 l p 0→GoodL s p0 (catLoopI s item n l p).1 (catLoopI s item n l p).2 0
 | 0,l,p,h=>h
 | n+1,l,p,h=>by
  unfold catLoopI
  split
  ·rename_i hg
   obtain⟨hb,hlt,-⟩:=goI_lt hg
   obtain⟨g1,g2,g3,g4,g5⟩:=hi p hlt h.d h.ge
   obtain⟨k1,k2,k3,k4,k5,k6⟩:=h
   refine zc8 hi n _ _ ⟨fun x hx=>?_,by omega,g3,by omega,?_,?_⟩
   ·rcases List.mem_append.1 hx with hx|hx
    ·exact k1 x hx
    ·obtain rfl:=List.mem_singleton.1 hx;exact g1
   ·rw [List.length_append,List.length_singleton];omega
   ·rw [zb8,List.length_append,List.length_singleton];omega
  ·exact h
omit hs in
theorem zw8 {k:Int}(hk:0≤k∧k≤11){l:List E}(h:∀x∈l,Fine x):Fine (oneOr k l)∧(oneOr k l).sz≤E.szL l+l.length:=by
 match l,h with
 | [x],h=>exact⟨h x (List.mem_singleton.2 rfl),by show x.sz≤E.szL [x]+1;simp only [E.szL];omega⟩
 | [],h=>exact⟨.mk _ _ _ hk (by show (0:Nat)≤_;omega) h,by show (rexE k ByteArray.empty []).sz≤_;rw [zu8];have:ByteArray.empty.size=0:=rfl;omega⟩
 | x :: y :: r,h=>exact⟨.mk _ _ _ hk (by show (0:Nat)≤_;omega) h,by show (rexE k ByteArray.empty (x :: y :: r)).sz≤_;rw [zu8];have:ByteArray.empty.size=0:=rfl;omega⟩
omit hs in
theorem zy15 {item:PS→E×PS}{p:PS}(hp:p.a≤s.size)(hi:∀q,q.a<s.size→q.d=p.d→p.a≤q.a→Good s q (item q) 1 1 0):Good s p (catI s item p) 0 0 0:=by
 have hL:=zc8 (p0:=p) hi (s.size+2) [] p ⟨fun _ h=>absurd h List.not_mem_nil,Nat.le_refl _,hp,rfl,by simp,by simp [E.szL]⟩
 obtain⟨k1,k2,k3,k4,k5,k6⟩:=hL
 unfold catI
 dsimp only
 split
 ·exact⟨Fine.zero,by show p.a+0≤(catLoopI s item (s.size+2) [] p).2.a;omega,k3,k4,by show zeroR.sz+0+2*p.a≤2*(catLoopI s item (s.size+2) [] p).2.a+0;rw [zz9];omega⟩
 ·obtain⟨f1,f2⟩:=zw8 (k:=4) (by omega) k1
  refine⟨f1,?_,k3,k4,?_⟩<;>dsimp only at *<;>omega
omit hs in
theorem barI_lt {p:PS}(h:barI s p=true):p.b=false∧p.a<s.size:=by
 unfold barI at h
 simp only [Bool.and_eq_true,Bool.not_eq_true',beq_iff_eq] at h
 exact⟨h.1,zj3 (by rw [h.2];decide)⟩
omit hs in
theorem zd8 {cat:PS→E×PS}{p0:PS}(hc:∀p,p.a≤s.size→p.d=p0.d→p0.a≤p.a→Good s p (cat p) 0 0 0):∀(n:Nat) (l:List E) (p:PS),GoodL s p0 l p 1→GoodL s p0 (altLoopI s cat n l p).1 (altLoopI s cat n l p).2 1
 | 0,l,p,h=>h
 | n+1,l,p,h=>by
  unfold altLoopI
  split
  ·rename_i hg
   obtain⟨hb,hlt⟩:=barI_lt hg
   obtain⟨k1,k2,k3,k4,k5,k6⟩:=h
   have e1:(p.go 1).a=p.a+1:=rfl
   have e2:(p.go 1).d=p.d:=rfl
   obtain⟨g1,g2,g3,g4,g5⟩:=hc (p.go 1) (by omega) (by omega) (by omega)
   refine zd8 hc n _ _ ⟨fun x hx=>?_,by omega,g3,by omega,?_,?_⟩
   ·rcases List.mem_append.1 hx with hx|hx
    ·exact k1 x hx
    ·obtain rfl:=List.mem_singleton.1 hx;exact g1
   ·rw [List.length_append,List.length_singleton];omega
   ·rw [zb8,List.length_append,List.length_singleton];omega
  ·exact h
omit hs in
theorem altB_good {cat:PS→E×PS}{p:PS}(hp:p.a≤s.size)(hc:∀q,q.a≤s.size→q.d=p.d+1→p.a≤q.a→Good s q (cat q) 0 0 0):Good s p (altB s cat p) 0 0 1:=by
 obtain⟨q0,hq0⟩:∃q0:PS,q0=⟨p.a,p.d+1,p.b||decide (40<p.d+1)⟩:=⟨_,rfl⟩
 have e1:q0.a=p.a:=by rw [hq0]
 have e2:q0.d=p.d+1:=by rw [hq0]
 obtain⟨g1,g2,g3,g4,g5⟩:=hc q0 (by omega) e2 (by omega)
 have hL:=zd8 (p0:=q0) (fun q h1 h2 h3=>hc q h1 (by omega) (by omega)) (s.size+1) [(cat q0).1] (cat q0).2
  ⟨fun x hx=>by obtain rfl:=List.mem_singleton.1 hx;exact g1,by omega,g3,g4,by simp only [List.length_singleton];omega,by simp only [E.szL,List.length_singleton];omega⟩
 obtain⟨k1,k2,k3,k4,k5,k6⟩:=hL
 obtain⟨f1,f2⟩:=zw8 (k:=5) (by omega) k1
 unfold altB
 rw [←hq0]
 refine⟨f1,?_,k3,?_,?_⟩<;>dsimp only at *<;>omega
theorem zf11 (f:Nat):∀p:PS,p.a≤s.size→s.size+1≤p.a+f→Good s p (altI s f p) 0 0 1:=by
 induction f with
 | zero=>intro p h1 h2;omega
 | succ f ih =>
  intro p h1 h2
  exact altB_good h1 fun q hq hqd hqa=>zy15 hq fun r hr hrd hra=>zv8 (zx12 hs hr (ih _ (by show r.a+1≤_;omega) (by show s.size+1≤r.a+1+f;omega)))
end
theorem zg1 {e:E}(h:e.Ty Tryz.prog 208):∃(x0:Int) (x1:ByteArray) (x2A:Option Addr) (x2c:Nat) (x2l:List E),e=(E.agg [.int .i64 x0,.str x1,.lst 3 208 x2A x2c x2l])∧((Lit.int .i64 x0).wf=true)∧(x1.size≤9223372036854775807)∧((∀y∈x2l,y.Ty Tryz.prog 208)∧(∀y∈x2l,y.enc.length=3))∧True:=by
 obtain⟨fs,rfl,q0⟩:=h.agg_ Tryz.underlying208
 change E.TyF _ _ [3,9,206] at q0
 obtain⟨e0,r0,rfl,h0,q1⟩:=q0.cons_
 obtain⟨e1,r1,rfl,h1,q2⟩:=q1.cons_
 obtain⟨e2,r2,rfl,h2,q3⟩:=q2.cons_
 obtain rfl:=q3.nil_
 obtain⟨x0,rfl,gx0⟩:=h0.int_ Tryz.underlying3
 obtain⟨x1,rfl,gx1⟩:=h1.str_ Tryz.underlying9
 obtain⟨x2A,x2c,x2l,rfl,gx2,gx2'⟩:=h2.lst_ Tryz.underlying206 (k:=3) (by kernel_rfl)
 exact⟨x0,x1,x2A,x2c,x2l,rfl,gx0,gx1,⟨gx2,gx2'⟩,trivial⟩
theorem idx1Rex_c {l:List E}(hl:∀e∈l,e.Ty Tryz.prog 208)(hk:∀e∈l,e.enc.length=3)(hlen:l.length≤1073741824){b:List AC}(hb:cloL b=true)(p:E→Bool)(f:FuncId)(hc:∀x∈l,Ctr Tryz.prog f (.ag (acE x) :: [.c (.pt 0 0)]) [b] (.c (.v (.bool (p x)))) [b]):Ctr Tryz.prog 230 [.c (.ro l.length 3 (acL l)),.c (.fn f [.pt 0 0])] [b] (.c (.v (.int .i64 (idxF p l)))) [b]:=by
 refine zi1 Tryz.func230 rfl rfl ?_
 repeat (first|refine zd ?_|refine zg ?_|refine zk ?_|refine zw ?_|refine zi ?_|refine za fun C=>?_|refine zp (by kernel_rfl) (by kernel_rfl) fun C=>?_|refine zc ?_|refine zm2 ?_|refine x_bs ?_|refine x_gr ?_|refine x_st ?_|refine x_mv ?_|refine x_sk ?_|refine zf3 ?_|refine x_ix ?_|refine zd3 ?_|refine zg3 ?_|refine ze3 ?_|refine zo2 ?_|refine x_ld ?_)
 refine zt1 (fun k:Nat=>⟨tmsF [(0,.c (.ro l.length 3 (acL l))),(1,.c (.fn f [.pt 0 0])),(7,.c (.v (.int .i64 l.length))),(8,.c (.v (.int .i64 k)))],hpsF [(0,0,⟨0,0,0,true,b⟩)],1,[0],19⟩)
  (fun N k=>k+N=l.length∧∀j y,j<k→l[j]? = some y→p y=false) l.length 0 ⟨by omega,by omega⟩ ?_ ?_
 ·refine zk1 _ _ rfl rfl ?_ ?_;(repeat' (first|exact TmOk.nil|exact RwOk.nil|refine TmOk.cons ?_ ?_|refine RwOk.cons ?_ ?_|rfl|(refine rnV_id' rfl ?_;exact byc)|(refine zo1 ?_;first|rfl|omega|(rw [za1 (by omega) (by omega)];omega))|(refine zv rfl ?_;exact byc)|exact zg2 rfl rfl|(refine zp1 (by rfl) (by rfl) ?_ ?_<;>exact byc)|(refine rw_rn' rfl rfl ?_;simp;done)));refine zv rfl hb
 rintro N k ⟨hN,hno⟩
 repeat (first|refine zd ?_|refine zg ?_|refine zk ?_|refine zw ?_|refine zi ?_|refine za fun C=>?_|refine zp (by kernel_rfl) (by kernel_rfl) fun C=>?_|refine zc ?_|refine zm2 ?_|refine x_bs ?_|refine x_gr ?_|refine x_st ?_|refine x_mv ?_|refine x_sk ?_|refine zf3 ?_|refine x_ix ?_|refine zd3 ?_|refine zg3 ?_|refine ze3 ?_|refine zo2 ?_|refine x_ld ?_)
 refine zy2 (by rfl) (fun h1=>?_) fun h1=>?_
 ·have hk':k<l.length:=by simpa using h1
  obtain⟨x,hx⟩:∃x,l[k]? = some x:=⟨_,List.getElem?_eq_getElem hk'⟩
  have hxt:=hl x (List.mem_of_getElem? hx)
  have hcc:=hc x (List.mem_of_getElem? hx)
  obtain⟨y0,y1,y2A,y2c,y2l,rfl,gy0,gy1,gy2,-⟩:=zg1 hxt
  repeat (first|refine zd ?_|refine zg ?_|refine zk ?_|refine zw ?_|refine zi ?_|refine za fun C=>?_|refine zp (by kernel_rfl) (by kernel_rfl) fun C=>?_|refine zc ?_|refine zm2 ?_|refine x_bs ?_|refine x_gr ?_|refine x_st ?_|refine x_mv ?_|refine x_sk ?_|refine zf3 ?_|refine x_ix ?_|refine zd3 ?_|refine zg3 ?_|refine ze3 ?_|refine zo2 ?_|refine x_ld ?_)
  refine x_cad 0 hcc ?_ (hl:=zq4 (by rfl) hb)
  repeat (first|refine zd ?_|refine zg ?_|refine zk ?_|refine zw ?_|refine zi ?_|refine za fun C=>?_|refine zp (by kernel_rfl) (by kernel_rfl) fun C=>?_|refine zc ?_|refine zm2 ?_|refine x_bs ?_|refine x_gr ?_|refine x_st ?_|refine x_mv ?_|refine x_sk ?_|refine zf3 ?_|refine x_ix ?_|refine zd3 ?_|refine zg3 ?_|refine ze3 ?_|refine zo2 ?_|refine x_ld ?_)
  refine zy2 (by rfl) (fun h2=>?_) fun h2=>?_
  ·repeat (first|refine zd ?_|refine zg ?_|refine zk ?_|refine zw ?_|refine zi ?_|refine za fun C=>?_|refine zp (by kernel_rfl) (by kernel_rfl) fun C=>?_|refine zc ?_|refine zm2 ?_|refine x_bs ?_|refine x_gr ?_|refine x_st ?_|refine x_mv ?_|refine x_sk ?_|refine zf3 ?_|refine x_ix ?_|refine zd3 ?_|refine zg3 ?_|refine ze3 ?_|refine zo2 ?_|refine x_ld ?_)
   refine ret1 (x:=.c (.v (.int .i64 k))) (rw:=⟨0,0,0,true,b⟩) rfl rfl rfl hb rfl ⟨?_,rfl⟩
   rw [zr10 hno hx h2]
  ·repeat (first|refine zd ?_|refine zg ?_|refine zk ?_|refine zw ?_|refine zi ?_|refine za fun C=>?_|refine zp (by kernel_rfl) (by kernel_rfl) fun C=>?_|refine zc ?_|refine zm2 ?_|refine x_bs ?_|refine x_gr ?_|refine x_st ?_|refine x_mv ?_|refine x_sk ?_|refine zf3 ?_|refine x_ix ?_|refine zd3 ?_|refine zg3 ?_|refine ze3 ?_|refine zo2 ?_|refine x_ld ?_)
   refine⟨N-1,k+1,by omega,⟨by omega,fun j z hj hz=>?_⟩,?_⟩
   ·by_cases e:j=k
    ·rw [e,hx] at hz;injection hz with hz;subst hz;exact h2
    ·exact hno j z (by omega) hz
   ·refine zk1 _ _ rfl rfl ?_ ?_;(repeat' (first|exact TmOk.nil|exact RwOk.nil|refine TmOk.cons ?_ ?_|refine RwOk.cons ?_ ?_|rfl|(refine rnV_id' rfl ?_;exact byc)|(refine zo1 ?_;first|rfl|omega|(rw [za1 (by omega) (by omega)];omega))|(refine zv rfl ?_;exact byc)|exact zg2 rfl rfl|(refine zp1 (by rfl) (by rfl) ?_ ?_<;>exact byc)|(refine rw_rn' rfl rfl ?_;simp;done)));refine zv rfl hb
 ·have hk':¬k<l.length:=by simpa using h1
  repeat (first|refine zd ?_|refine zg ?_|refine zk ?_|refine zw ?_|refine zi ?_|refine za fun C=>?_|refine zp (by kernel_rfl) (by kernel_rfl) fun C=>?_|refine zc ?_|refine zm2 ?_|refine x_bs ?_|refine x_gr ?_|refine x_st ?_|refine x_mv ?_|refine x_sk ?_|refine zf3 ?_|refine x_ix ?_|refine zd3 ?_|refine zg3 ?_|refine ze3 ?_|refine zo2 ?_|refine x_ld ?_)
  refine ret1 (x:=.c (.v (.int .i64 (-1)))) (rw:=⟨0,0,0,true,b⟩) rfl rfl rfl hb rfl ⟨?_,rfl⟩
  rw [zt5 fun j y hj hy=>hno j y (by omega) hy]
theorem con1Rex_c {l:List E}(hl:∀e∈l,e.Ty Tryz.prog 208)(hk:∀e∈l,e.enc.length=3)(hlen:l.length≤1073741824){b:List AC}(hb:cloL b=true)(p:E→Bool)(f:FuncId)(hc:∀x∈l,Ctr Tryz.prog f (.ag (acE x) :: [.c (.pt 0 0)]) [b] (.c (.v (.bool (p x)))) [b]):Ctr Tryz.prog 218 [.c (.ro l.length 3 (acL l)),.c (.fn f [.pt 0 0])] [b] (.c (.v (.bool (l.any p)))) [b]:=by
 refine zi1 Tryz.func218 rfl rfl ?_
 have hcc:=idx1Rex_c hl hk hlen hb p f hc
 repeat (first|refine zd ?_|refine zg ?_|refine zk ?_|refine zw ?_|refine zi ?_|refine za fun C=>?_|refine zp (by kernel_rfl) (by kernel_rfl) fun C=>?_|refine zc ?_|refine zm2 ?_|refine x_bs ?_|refine x_gr ?_|refine x_st ?_|refine x_mv ?_|refine x_sk ?_|refine zf3 ?_|refine x_ix ?_|refine zd3 ?_|refine zg3 ?_|refine ze3 ?_|refine zo2 ?_|refine x_ld ?_)
 refine x_cad 0 hcc ?_ (hl:=zq4 (by rfl) hb)
 repeat (first|refine zd ?_|refine zg ?_|refine zk ?_|refine zw ?_|refine zi ?_|refine za fun C=>?_|refine zp (by kernel_rfl) (by kernel_rfl) fun C=>?_|refine zc ?_|refine zm2 ?_|refine x_bs ?_|refine x_gr ?_|refine x_st ?_|refine x_mv ?_|refine x_sk ?_|refine zf3 ?_|refine x_ix ?_|refine zd3 ?_|refine zg3 ?_|refine ze3 ?_|refine zo2 ?_|refine x_ld ?_)
 refine ret1 (x:=.c (.v (.bool (decide (idxF p l ≥ 0))))) (rw:=⟨0,0,0,true,b⟩) rfl rfl rfl hb rfl ⟨?_,rfl⟩
 rw [zx7]
theorem idxLit:∀c:Fin 256,decide (0≤Lib.indexByte [32,95,45,44,58] (UInt8.ofNat c.1))=(c.1==32||c.1==95||c.1==45||c.1==44||c.1==58):=by decide
theorem zg11 {c:Nat}(hc:c<256):Ctr Tryz.prog 216 [.c (.v (.int .u8 (c:Int)))] [] (.c (.v (.bool (litB c)))) []:=by
 have h1:=zt10 ⟨#[32,95,45,44,58]⟩ hc
 have h2:=isDigit_c c
 have h3:decide (0≤Lib.indexByte (ByteArray.mk #[32,95,45,44,58]).data.toList (UInt8.ofNat c))=(c==32||c==95||c==45||c==44||c==58):=idxLit ⟨c,hc⟩
 refine zi1 Tryz.func216 rfl rfl ?_
 repeat' (first|refine zd ?_|refine za fun C=>?_|refine zc ?_|(refine x_gm ?_ ?_<;>intro hG<;>(try cases hG))|refine zm2 ?_|refine x_sk ?_|refine zd6 h1 ?_|refine zd6 h2 ?_)
 all_goals
  (first|refine zi ?_|skip);refine ret0 rfl zy ⟨?_,rfl⟩;refine congrArg (fun s=>AV.c (AC.v (Value.bool s))) ?_
  clear h1 h2
  have h3':=congrArg (·= true) h3
  simp only [decide_eq_true_iff,eq_iff_iff] at h3'
  clear h3
  unfold litB
  simp only [digB,ge_iff_le,Bool.or_eq_true,Bool.and_eq_true,decide_eq_true_iff,beq_iff_eq,Bool.and_eq_false_iff,decide_eq_false_iff_not] at *
  (rw [Bool.eq_iff_iff];(try simp only [Bool.and_eq_true,Bool.or_eq_true,Bool.not_eq_true',decide_eq_true_iff,decide_eq_false_iff_not,beq_iff_eq,Bool.and_eq_false_iff,Bool.or_eq_false_iff,bne_iff_ne,ne_eq,Bool.true_eq_false,Bool.false_eq_true,true_iff,false_iff,iff_true,iff_false] at *);first|omega|(simp at *;omega))
theorem zz15 {s:ByteArray}(h:∀j,j<s.size→setAtB s j=true):setOkB s=(decide (1≤s.size)&&decide (s.size≤10)):=by
 unfold setOkB
 rw [show (List.range s.size).all (setAtB s)=true from List.all_eq_true.2 fun j hj=>h j (List.mem_range.1 hj),Bool.true_and]
theorem za10 {s:ByteArray}{j:Nat}(h:j<s.size)(h2:setAtB s j=false):setOkB s=false:=by
 unfold setOkB
 rw [show (List.range s.size).all (setAtB s)=false from List.all_eq_false.2 ⟨j,List.mem_range.2 h,by simp [h2]⟩,Bool.false_and]
theorem setOk_c {s:ByteArray}(hs:s.size≤1073741824):Ctr Tryz.prog 217 [.c (.v (.string s))] [] (.c (.v (.bool (setOkB s)))) []:=by
 refine zi1 Tryz.func217 rfl rfl ?_
 repeat' (first|refine zd ?_|refine zg ?_|refine za fun C=>?_|refine zc ?_|refine zm2 ?_)
 refine zt1 (fun k:Nat=>⟨tmsF [(0,.c (.v (.string s))),(3,.c (.v (.int .i64 k)))],hpsF [],0,[],32⟩) (fun N k=>k+N=s.size∧∀j,j<k→setAtB s j=true) s.size 0 ⟨by omega,fun j hj=>by omega⟩ ?_ ?_
 ·(refine zk1 _ _ rfl rfl ?_ ?_<;>(repeat' (first|exact TmOk.nil|exact RwOk.nil|refine TmOk.cons ?_ ?_|refine RwOk.cons ?_ ?_|rfl|(refine rnV_id' rfl ?_;exact byc)|(refine zo1 ?_;first|rfl|omega|(rw [za1 (by omega) (by omega)];omega))|(refine zv rfl ?_;exact byc)|exact zg2 rfl rfl|(refine zp1 (by rfl) (by rfl) ?_ ?_<;>exact byc)|(refine rw_rn' rfl rfl ?_;simp;done))))
 rintro N k ⟨hN,hall⟩
 repeat' (first|refine zd ?_|refine za fun C=>?_|refine zc ?_|refine zm2 ?_)
 refine zy2 (by rfl) (fun h1=>?_) fun h1=>?_
 ·have hk:k<s.size:=by simpa using h1
  have hl:=zg11 (zo7 s k)
  have fin:∀b,setAtB s k=b→True:=fun _ _=>trivial
  cases k with
  | zero =>
   repeat' (first|refine zd ?_|refine zg ?_|refine zk ?_|refine za fun C=>?_|refine zp (by kernel_rfl) (by kernel_rfl) fun C=>?_|refine zc ?_|(refine x_gm ?_ ?_<;>intro hG<;>(try cases hG))|refine x_six ?_|refine zj17 ?_|refine zm2 ?_|refine x_sk ?_|refine zd6 hl ?_|(refine zy2 (by rfl) ?_ ?_<;>intro hC<;>(try cases hC)))
   all_goals first
    | (exfalso;revert hG;simp;done)
    | (refine zi ?_
       refine ret0 (x:=.c (.v (.bool false))) rfl zy ⟨?_,rfl⟩
       rw [za10 hk (by unfold setAtB;simp_all)])
    | (refine⟨N-1,1,by omega,⟨by omega,fun j hj=>?_⟩,?_⟩
       ·obtain rfl:j=0:=by omega
        unfold setAtB;simp_all
       ·(refine zk1 _ _ rfl rfl ?_ ?_<;>(repeat' (first|exact TmOk.nil|exact RwOk.nil|refine TmOk.cons ?_ ?_|refine RwOk.cons ?_ ?_|rfl|(refine rnV_id' rfl ?_;exact byc)|(refine zo1 ?_;first|rfl|omega|(rw [za1 (by omega) (by omega)];omega))|(refine zv rfl ?_;exact byc)|exact zg2 rfl rfl|(refine zp1 (by rfl) (by rfl) ?_ ?_<;>exact byc)|(refine rw_rn' rfl rfl ?_;simp;done)))))
  | succ m =>
   have hm:((m+1:Nat):Int)-1=(m:Int):=by omega
   repeat' (first|refine zd ?_|refine zg ?_|refine zk ?_|refine za fun C=>?_|refine zp (by kernel_rfl) (by kernel_rfl) fun C=>?_|refine zc ?_|(refine x_gm ?_ ?_<;>intro hG<;>(try cases hG))|refine x_six ?_|refine zj17 ?_|refine zm2 ?_|refine x_sk ?_|refine zd6 hl ?_|(refine zy2 (by rfl) ?_ ?_<;>intro hC<;>(try cases hC)))
   all_goals first
    | (refine zi ?_
       refine ret0 (x:=.c (.v (.bool false))) rfl zy ⟨?_,rfl⟩
       rw [za10 hk (by unfold setAtB;simp_all;try omega)])
    | (refine⟨N-1,m+2,by omega,⟨by omega,fun j hj=>?_⟩,?_⟩
       ·rcases Nat.lt_or_ge j (m+1) with h|h
        ·exact hall j h
        ·obtain rfl:j=m+1:=by omega
         unfold setAtB;simp_all;try omega
       ·(refine zk1 _ _ rfl rfl ?_ ?_<;>(repeat' (first|exact TmOk.nil|exact RwOk.nil|refine TmOk.cons ?_ ?_|refine RwOk.cons ?_ ?_|rfl|(refine rnV_id' rfl ?_;exact byc)|(refine zo1 ?_;first|rfl|omega|(rw [za1 (by omega) (by omega)];omega))|(refine zv rfl ?_;exact byc)|exact zg2 rfl rfl|(refine zp1 (by rfl) (by rfl) ?_ ?_<;>exact byc)|(refine rw_rn' rfl rfl ?_;simp;done)))))
    | skip
 ·repeat' (first|refine zd ?_|refine zw ?_|refine za fun C=>?_|refine zc ?_|refine zm2 ?_|refine zd6 (zw4 _ _ _) ?_)
  refine zi ?_
  refine ret0 rfl zy ⟨?_,rfl⟩
  rw [zz15 fun j hj=>hall j (by simp at h1;omega)]
  refine congrArg (fun s=>AV.c (AC.v (Value.bool s))) ?_
  unfold inR
  (rw [Bool.eq_iff_iff];(try simp only [Bool.and_eq_true,Bool.or_eq_true,Bool.not_eq_true',decide_eq_true_iff,decide_eq_false_iff_not,beq_iff_eq,Bool.and_eq_false_iff,Bool.or_eq_false_iff,bne_iff_ne,ne_eq,Bool.true_eq_false,Bool.false_eq_true,true_iff,false_iff,iff_true,iff_false] at *);first|omega|(simp at *;omega))
theorem isLoop_c {x:E}(hx:x.Ty Tryz.prog 208):Ctr Tryz.prog 220 [.ag (acE x)] [] (.c (.v (.bool (loopK x.rk)))) []:=by
 obtain⟨y0,y1,y2A,y2c,y2l,rfl,gy0,gy1,gy2,-⟩:=zg1 hx
 refine zi1 Tryz.func220 rfl rfl ?_
 repeat' (first|(apply f_wo;first|(apply f_gs;refine n_sk ?_)|(apply f_mv;(refine zs1 ?_ ?_<;>intro hG<;>(try cases hG)))|(apply f_as;refine zu (v:=.c _) ?_)|(apply f_fa;refine n_fa ?_)|(apply f_ld;refine zn1 ?_)|(apply zx1;refine zb1 ?_)|(apply f_pk;refine zr1 (v:=.c _) ?_)|refine n_bo ?_)|(apply f_w;first|refine zo ?_|refine zc ?_)|refine za fun C=>?_|refine zd ?_)
 all_goals
  (first|refine zi ?_|skip);refine ret0 rfl zy ⟨?_,rfl⟩;refine congrArg (fun s=>AV.c (AC.v (Value.bool s))) ?_
  simp only [E.rk]
  unfold loopK
  (rw [Bool.eq_iff_iff];(try simp only [Bool.and_eq_true,Bool.or_eq_true,Bool.not_eq_true',decide_eq_true_iff,decide_eq_false_iff_not,beq_iff_eq,Bool.and_eq_false_iff,Bool.or_eq_false_iff,bne_iff_ne,ne_eq,Bool.true_eq_false,Bool.false_eq_true,true_iff,false_iff,iff_true,iff_false] at *);first|omega|(simp at *;omega))
theorem cloRex_c {x:E}(hx:x.Ty Tryz.prog 208)(k:Int){c1 c2:AC}(h1:clo c1=true)(h2:clo c2=true):Ctr Tryz.prog 219 [.ag (acE x),.c (.pt 0 0)] [[.v (.int .i64 k),c1,c2]] (.c (.v (.bool (x.rk==k)))) [[.v (.int .i64 k),c1,c2]]:=by
 obtain⟨y0,y1,y2A,y2c,y2l,rfl,gy0,gy1,gy2,-⟩:=zg1 hx
 refine zi1 Tryz.func219 rfl rfl ?_
 repeat' (first|(apply f_wo;first|(apply f_as;refine zu (v:=.c _) ?_)|(apply f_fa;refine n_fa ?_)|(apply f_ld;refine zn1 ?_)|(apply zx1;refine zb1 ?_)|refine n_bo ?_)|(apply f_w;first|refine zo ?_|refine zc ?_)|refine za fun C=>?_|refine zd ?_)
 refine zi ?_
 exact ret1 (x:=.c (.v (.bool (y0==k)))) (rw:=⟨0,0,0,true,[.v (.int .i64 k),c1,c2]⟩) rfl rfl rfl (by simp [cloL,clo,h1,h2]) rfl ⟨rfl,rfl⟩
theorem zf14 {s:ByteArray}:(s.toList==(ByteArray.mk #[]).toList)=(s.size==0):=by
 rw [Bool.eq_iff_iff]
 simp only [beq_iff_eq]
 exact⟨fun h=>by have:=toList_inj h;rw [this];rfl,fun h=>by rw [zz7 h];rfl⟩
theorem ib0 {n:Nat}:((n:Int)==0)=(n==0):=by rw [Bool.eq_iff_iff];simp only [beq_iff_eq];omega
theorem ib1 {n:Nat}:((n:Int)==1)=(n==1):=by rw [Bool.eq_iff_iff];simp only [beq_iff_eq];omega
theorem inR28 {n:Nat}:inR (n:Int) 2 8=(decide (2≤n)&&decide (n≤8)):=by
 unfold inR
 rw [Bool.eq_iff_iff];simp only [Bool.and_eq_true,decide_eq_true_iff];omega
theorem zg14 {x0:Int}{x1:ByteArray}{A:Option Addr}{c:Nat}{l:List E}:headI (E.agg [.int .i64 x0,.str x1,.lst 3 208 A c l])=(headR x0 x1 l&&!((x0==4||x0==5)&&l.any fun x=>x.rk==x0)):=rfl
end Go.Proofs.YtghljnfbbaklnaaGreat
