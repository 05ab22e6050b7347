/- Regular expressions read: of the reference's reader, what comes back is of its type, and the reader's place moves on. -/
import Derived.Test.YtghljnfbbaklnaaGreatPutModuleY
namespace Go.Proofs.YtghljnfbbaklnaaGreat
open Go.RowKit
set_option maxRecDepth 100000
structure GoodS (s:ByteArray)(p:PS)(r:E×PS):Prop where
 fine:Fine r.1
 ge:p.a≤r.2.a
 le:r.2.a≤s.size
 dg:p.d≤r.2.d
 dl:r.2.d≤9
 nb:r.2.b=false→p.b=false∧r.2.d=p.d
def Pre (s:ByteArray)(p:PS):Prop:=p.a≤s.size∧p.d≤9∧(p.b=false→p.d≤8)
section
variable {s:ByteArray}(hs:s.size≤1048576)
theorem zx10 {c:Nat}{p:PS}(h:isB s c p=true):p.b=false∧p.a<s.size∧bAt s p.a=c:=by
 unfold isB at h
 simp only [Bool.and_eq_true,Bool.not_eq_true',decide_eq_true_iff,beq_iff_eq] at h
 exact⟨h.1.1,h.1.2,h.2⟩
theorem GoodS.bad {p q:PS}(hp:Pre s p)(h1:p.a≤q.a)(h2:q.a≤s.size)(h3:p.d≤q.d)(h4:q.d≤9):GoodS s p (zeroR,q.bad):=⟨Fine.zero,h1,h2,h3,h4,fun h=>by cases h⟩
theorem zk12 {alt:PS→E×PS}{q:PS}(hq:Pre s q)(hb:q.b=false)(ha:q.d≤7→GoodS s ⟨q.a,q.d+1,q.b⟩ (alt ⟨q.a,q.d+1,q.b⟩)):GoodS s q (groupS s alt q):=by
 obtain⟨h1,h2,h3⟩:=hq
 have h3:=h3 hb
 unfold groupS
 split
 ·rename_i h
  obtain⟨i1,i2,i3⟩:=zx10 h
  exact⟨Fine.leaf (by omega) (by show (0:Nat)≤_;omega),by show q.a≤q.a+1;omega,by show q.a+1≤_;omega,Nat.le_refl _,h2,fun _=>⟨hb,rfl⟩⟩
 split
 ·exact⟨Fine.zero,Nat.le_refl _,h1,by show q.d≤q.d+1;omega,by show q.d+1≤9;omega,fun h=>by cases h⟩
 ·obtain⟨g1,g2,g3,g4,g5,g6⟩:=ha (by omega)
  dsimp only at g2 g4 ⊢
  split
  ·rename_i h
   obtain⟨i1,i2,i3⟩:=zx10 h
   dsimp only at i1 i2
   obtain⟨j1,j2⟩:=g6 i1
   exact⟨g1,by show q.a≤(alt ⟨q.a,q.d+1,q.b⟩).2.a+1;omega,by show (alt ⟨q.a,q.d+1,q.b⟩).2.a+1≤_;omega,by show q.d≤(alt ⟨q.a,q.d+1,q.b⟩).2.d-1;omega,by show (alt ⟨q.a,q.d+1,q.b⟩).2.d-1≤9;omega,fun _=>⟨hb,by show (alt ⟨q.a,q.d+1,q.b⟩).2.d-1=q.d;dsimp only at j2;omega⟩⟩
  ·exact⟨Fine.zero,g2,g3,by show q.d≤(alt ⟨q.a,q.d+1,q.b⟩).2.d-1;omega,by show (alt ⟨q.a,q.d+1,q.b⟩).2.d-1≤9;omega,fun h=>by cases h⟩
include hs
theorem zw13 {alt:PS→E×PS}{p:PS}(hp:Pre s p)(ha:p.b=false→p.a<s.size→p.d≤7→GoodS s ⟨p.a+1,p.d+1,p.b⟩ (alt ⟨p.a+1,p.d+1,p.b⟩)):GoodS s p (atomS s alt p)∧((atomS s alt p).2.b=false→p.a<(atomS s alt p).2.a):=by
 obtain⟨h1,h2,h3⟩:=hp
 unfold atomS
 split
 ·exact⟨GoodS.bad ⟨h1,h2,h3⟩ (Nat.le_refl _) h1 (Nat.le_refl _) h2,fun h=>by cases h⟩
 ·rename_i hn
  simp only [not_or,Bool.not_eq_true,Nat.not_le] at hn
  obtain⟨hb,hlt⟩:=hn
  have up:∀r:E×PS,GoodS s (p.go 1) r→GoodS s p r∧(r.2.b=false→p.a<r.2.a):=fun r g =>
   ⟨⟨g.fine,by have:=g.ge;have e:(p.go 1).a=p.a+1:=rfl;omega,g.le,g.dg,g.dl,g.nb⟩,fun _=>by have:=g.ge;have e:(p.go 1).a=p.a+1:=rfl;omega⟩
  have hq:Pre s (p.go 1):=⟨by show p.a+1≤_;omega,h2,h3⟩
  apply up
  have leaf:∀(k:Int) (t:ByteArray),0≤k∧k≤11→t.size≤1→GoodS s (p.go 1) (rexE k t [],p.go 1):=fun k t hk ht=>⟨Fine.leaf hk (by omega),Nat.le_refl _,hq.1,Nat.le_refl _,hq.2.1,fun h=>⟨h,rfl⟩⟩
  have e0:ByteArray.empty.size=0:=rfl
  unfold atomSc
  split
  ·exact leaf 2 _ (by omega) (by omega)
  split
  ·exact leaf 10 _ (by omega) (by omega)
  split
  ·exact leaf 11 _ (by omega) (by omega)
  split
  ·exact zk12 hq hb fun h=>ha hb hlt h
  split
  ·exact leaf 1 _ (by omega) (by show (1:Nat)≤1;omega)
  split
  ·exact GoodS.bad hq (Nat.le_refl _) hq.1 (Nat.le_refl _) hq.2.1
  ·obtain⟨u1,u2⟩:=zh18 (s:=s) (c:=93) s.size (p.go 1).a hq.1
   dsimp only
   split
   ·rename_i h
    obtain⟨i1,i2,i3⟩:=zx10 h
    dsimp only at i2
    refine⟨Fine.leaf (by omega) (by show (cutB _ _ _).size≤_;unfold cutB;rw [ByteArray.size_extract];omega),?_,?_,Nat.le_refl _,hq.2.1,fun h=>⟨h,rfl⟩⟩
    ·show (p.go 1).a≤untB s 93 s.size (p.go 1).a+1;omega
    ·show untB s 93 s.size (p.go 1).a+1≤_;omega
   ·exact GoodS.bad hq u1 u2 (Nat.le_refl _) hq.2.1
omit hs in
theorem zh10 {atom:PS→E×PS}{p:PS}(ha:GoodS s p (atom p)∧((atom p).2.b=false→p.a<(atom p).2.a)):GoodS s p (itemS s atom p)∧((itemS s atom p).2.b=false→p.a<(itemS s atom p).2.a):=by
 obtain⟨⟨g1,g2,g3,g4,g5,g6⟩,g7⟩:=ha
 have star:∀k:Int,0≤k∧k≤11→(atom p).2.a<s.size→GoodS s p (rexE k ByteArray.empty [(atom p).1],(atom p).2.go 1)∧(((atom p).2.go 1).b=false→p.a<((atom p).2.go 1).a):=fun k hk hl =>
  ⟨⟨.mk k _ _ hk (by show (0:Nat)≤_;omega) (fun x hx=>by obtain rfl:=List.mem_singleton.1 hx;exact g1),by show p.a≤(atom p).2.a+1;omega,by show (atom p).2.a+1≤_;omega,g4,g5,g6⟩,fun _=>by show p.a<(atom p).2.a+1;omega⟩
 unfold itemS
 dsimp only
 split
 ·rename_i h;exact star 6 (by omega) (zx10 h).2.1
 split
 ·rename_i h;exact star 7 (by omega) (zx10 h).2.1
 split
 ·rename_i h;exact star 8 (by omega) (zx10 h).2.1
 ·exact⟨⟨g1,g2,g3,g4,g5,g6⟩,g7⟩
omit hs in
structure GoodLS (s:ByteArray)(p0:PS)(l:List E)(q:PS):Prop where
 fine:∀x∈l,Fine x
 ge:p0.a≤q.a
 le:q.a≤s.size
 dg:p0.d≤q.d
 dl:q.d≤9
 nb:q.b=false→p0.b=false∧q.d=p0.d
 len:l.length+p0.a≤q.a+2∧(q.b=false→l.length+p0.a≤q.a+1)
 ne:0<l.length
omit hs in
theorem goS_to {p:PS}(h:goS s p=true):p.b=false∧p.a<s.size∧bAt s p.a≠124∧bAt s p.a≠41:=by
 unfold goS at h
 simp only [Bool.and_eq_true,Bool.not_eq_true',decide_eq_true_iff,beq_eq_false_iff_ne] at h
 exact⟨h.1.1.1,h.1.1.2,h.1.2,h.2⟩
omit hs in
theorem GoodLS.pre {p0 q:PS}{l:List E}(h:GoodLS s p0 l q)(hp:Pre s p0):Pre s q:=⟨h.le,h.dl,fun hb=>by obtain⟨h1,h2⟩:=h.nb hb;have:=hp.2.2 h1;omega⟩
omit hs in
theorem GoodLS.step {p0 q:PS}{l:List E}{r:E×PS}(h:GoodLS s p0 l q)(hb:q.b=false)(hr:GoodS s q r∧(r.2.b=false→q.a<r.2.a)):GoodLS s p0 (l++[r.1]) r.2:=by
 obtain⟨k1,k2,k3,k4,k5,k6,k7,k8⟩:=h
 obtain⟨⟨g1,g2,g3,g4,g5,g6⟩,g7⟩:=hr
 have k7:=k7.2 hb
 refine⟨fun x hx=>?_,by omega,g3,by omega,g5,fun h=>?_,⟨?_,fun h=>?_⟩,?_⟩
 ·rcases List.mem_append.1 hx with hx|hx
  ·exact k1 x hx
  ·obtain rfl:=List.mem_singleton.1 hx;exact g1
 ·exact⟨(k6 hb).1,by have:=(g6 h).2;have:=(k6 hb).2;omega⟩
 ·rw [List.length_append,List.length_singleton];omega
 ·have:=g7 h;rw [List.length_append,List.length_singleton];omega
 ·rw [List.length_append,List.length_singleton];omega
omit hs in
theorem GoodLS.one {p0:PS}{r:E×PS}(hr:GoodS s p0 r):GoodLS s p0 [r.1] r.2:=by
 obtain⟨g1,g2,g3,g4,g5,g6⟩:=hr
 exact⟨fun x hx=>by obtain rfl:=List.mem_singleton.1 hx;exact g1,g2,g3,g4,g5,g6,⟨by rw [List.length_singleton];omega,fun _=>by rw [List.length_singleton];omega⟩,by simp⟩
omit hs in
theorem zq9 {item:PS→E×PS}{p0:PS}(hp0:Pre s p0)(hi:∀p,Pre s p→p0.a≤p.a→p.d≤p0.d∨p.b=true→GoodS s p (item p)∧((item p).2.b=false→p.a<(item p).2.a)):∀(n:Nat) (l:List E) (p:PS),GoodLS s p0 l p→GoodLS s p0 (catLoopS s item n l p).1 (catLoopS s item n l p).2
 | 0,l,p,h=>h
 | n+1,l,p,h=>by
  unfold catLoopS
  split
  ·rename_i hg
   obtain⟨hb,hlt,-⟩:=goS_to hg
   exact zq9 hp0 hi n _ _ (h.step hb (hi p (h.pre hp0) h.ge (.inl (by have:=(h.nb hb).2;omega))))
  ·exact h
omit hs in
theorem GoodLS.fin {p0 q:PS}{l:List E}{k:Int}(hk:0≤k∧k≤11)(h:GoodLS s p0 l q):GoodS s p0 (oneOr k l,q):=⟨(zg10 hk h.fine).1,h.ge,h.le,h.dg,h.dl,h.nb⟩
omit hs in
theorem zw16 {item:PS→E×PS}{p:PS}(hp:Pre s p)(hi:∀q,Pre s q→p.a≤q.a→GoodS s q (item q)∧((item q).2.b=false→q.a<(item q).2.a)):GoodS s p (catS s item p) :=
 (zq9 hp (fun q h1 h2 _=>hi q h1 h2) (s.size+1) _ _ (GoodLS.one (hi p hp (Nat.le_refl _)).1)).fin (by omega)
omit hs in
theorem zr9 {cat:PS→E×PS}{p0:PS}(hp0:Pre s p0)(hc:∀q,Pre s q→p0.a≤q.a→GoodS s q (cat q)):∀(n:Nat) (l:List E) (p:PS),GoodLS s p0 l p→GoodLS s p0 (altLoopS s cat n l p).1 (altLoopS s cat n l p).2
 | 0,l,p,h=>h
 | n+1,l,p,h=>by
  unfold altLoopS
  split
  ·rename_i hg
   obtain⟨hb,hlt,-⟩:=zx10 hg
   have hpre:=h.pre hp0
   have e1:(p.go 1).a=p.a+1:=rfl
   have hge:=h.ge
   have hgd:=hc (p.go 1) ⟨by omega,hpre.2.1,hpre.2.2⟩ (by omega)
   refine zr9 hp0 hc n _ _ (h.step hb ⟨⟨hgd.fine,by have:=hgd.ge;omega,hgd.le,hgd.dg,hgd.dl,hgd.nb⟩,fun _=>by have:=hgd.ge;omega⟩)
  ·exact h
omit hs in
theorem altC_good {cat:PS→E×PS}{p:PS}(hp:Pre s p)(hc:∀q,Pre s q→p.a≤q.a→GoodS s q (cat q)):GoodS s p (altC s cat p) :=
 (zr9 hp hc (s.size+1) _ _ (GoodLS.one (hc p hp (Nat.le_refl _)))).fin (by omega)
theorem zx16 (f:Nat):∀p:PS,Pre s p→s.size+1≤p.a+f→GoodS s p (altS s f p):=by
 induction f with
 | zero=>intro p h1 h2;have:=h1.1;omega
 | succ f ih =>
  intro p h1 h2
  exact altC_good h1 fun q hq hqa=>zw16 hq fun r hr hra=>zh10 (zw13 hs hr fun hb hlt hd=>ih _ ⟨by show r.a+1≤_;omega,by show r.d+1≤9;omega,fun _=>by show r.d+1≤8;omega⟩ (by show s.size+1≤r.a+1+f;omega))
end
end Go.Proofs.YtghljnfbbaklnaaGreat
