/- T -/
import Derived.Test.YtomolhbkdhjofaaGreatDoorExRAA
set_option maxHeartbeats 0
set_option maxRecDepth 100000
namespace Go.Proofs.YtomolhbkdhjofaaGreatDoor
open Go.RowKit Go.Proofs.Tryz
section
variable {L:List T3}
theorem oM {r:RS}{k:Int}{s:ByteArray}(h:gF L r k s=true):r.b.toNat=0∧r.a<L.length∧(tAt L r.a).1=k∧(tAt L r.a).2.2=s:=by
 unfold gF at h
 simp only [baq,bnt,dqt] at h
 exact⟨by rw [h.1];rfl,h.2⟩
theorem tg {r:RS}(s:ByteArray)(ha:r.a≤L.length):(mkS L r s).a+(mkS L r s).b.toNat=r.a+1∧r.b.toNat≤(mkS L r s).b.toNat∧(mkS L r s).a≤L.length∧(mkS L r s).d=r.d:=by
 unfold mkS
 have hb:=ed r.b
 by_cases h:gF L r 5 s=true
 ·rw [if_pos h]
  obtain⟨h1,h2,-⟩:=oM h
  have e1:r.up.a=r.a+1:=rfl
  have e2:r.up.b.toNat=r.b.toNat:=rfl
  exact⟨omq,omq,omq,rfl⟩
 ·rw [if_neg h]
  have e1:r.bd.a=r.a:=rfl
  have e2:r.bd.b.toNat=1:=rfl
  exact⟨omq,omq,omq,rfl⟩
theorem is_f (L:List T3)(r:RS)(k:Int)(s:ByteArray):((isS L r k s).1=true→r.b.toNat=0∧(isS L r k s).2.b.toNat=0∧(isS L r k s).2.a=r.a+1∧(isS L r k s).2.a≤L.length)∧((isS L r k s).1=false→(isS L r k s).2=r)∧(isS L r k s).2.d=r.d:=by
 unfold isS
 by_cases h:gF L r k s=true
 ·rw [if_pos h]
  obtain⟨h1,h2,-⟩:=oM h
  have e1:r.up.a=r.a+1:=rfl
  have e2:r.up.b.toNat=r.b.toNat:=rfl
  refine⟨fun _=>by dsimp only;omega,by simp,rfl⟩
 ·rw [if_neg h]
  exact⟨by simp,fun _=>rfl,rfl⟩
theorem ii (hL:okL L){r:RS}(k:Int)(ha:r.a≤L.length):(bQ L r k).2.a+(bQ L r k).2.b.toNat=r.a+1∧r.b.toNat≤(bQ L r k).2.b.toNat∧(bQ L r k).2.a≤L.length∧(bQ L r k).2.d=r.d∧(bQ L r k).1.2.2.size≤200∧0≤(bQ L r k).1.2.1∧(bQ L r k).1.2.1≤2147483647:=by
 unfold bQ
 have hbb:=ed r.b
 by_cases h:r.b=true∨¬r.a<L.length∨(tAt L r.a).1≠k
 ·rw [if_pos h]
  have e1:r.bd.a=r.a:=rfl
  have e2:r.bd.b.toNat=1:=rfl
  have e3:ByteArray.empty.size=0:=rfl
  dsimp only
  exact⟨omq,omq,omq,rfl,omq,omq,omq⟩
 ·rw [if_neg h]
  have hz:=tc hL r.a
  have hb:r.b.toNat=0:=by
   have:r.b=false:=by cases hb:r.b with
    | false=>rfl
    | true=>exact absurd (.inl hb) h
   rw [this];rfl
  have ha:r.a<L.length:=Classical.byContradiction fun q=>h (.inr (.inl q))
  have e1:r.up.a=r.a+1:=rfl
  have e2:r.up.b.toNat=r.b.toNat:=rfl
  dsimp only
  exact⟨omq,omq,omq,rfl,hz.1,hz.2.1,hz.2.2.1⟩
theorem zs8 (hL:okL L){r:RS}(ha:r.a≤L.length):r.a≤(gG L r).2.a∧r.a+1≤(gG L r).2.a+(gG L r).2.b.toNat∧r.b.toNat≤(gG L r).2.b.toNat∧(gG L r).2.a≤L.length∧(gG L r).2.a≤r.a+1∧(gG L r).2.d=r.d∧(gG L r).1.size≤200:=by
 have h:=ii hL 2 ha
 unfold gG
 dsimp only
 have hb:=ed (bQ L r 2).2.b
 split
 ·exact⟨omq,omq,omq,omq,omq,h.2.2.2.1,h.2.2.2.2.1⟩
 ·have e1:(bQ L r 2).2.bd.a=(bQ L r 2).2.a:=rfl
  have e2:(bQ L r 2).2.bd.b.toNat=1:=rfl
  exact⟨omq,omq,omq,omq,omq,h.2.2.2.1,h.2.2.2.2.1⟩
structure PS' (L:List T3)(f:Nat)(r:RS)(e:E)(r':RS):Prop where
 fine:FnX e
 n:r.a≤r'.a∧r'.a≤L.length∧r.b.toNat≤r'.b.toNat∧(r'.b.toNat=0→r'.d=r.d∧e.sz+1+250*r.a≤250*r'.a)∧r.d≤r'.d∧r'.d≤r.d+f+1∧(r.b.toNat=1→r'.d≤r.d+1)
def GS (L:List T3)(f:Nat)(g:RS→E×RS):Prop:=∀r:RS,r.a≤L.length→PS' L f r (g r).1 (g r).2
variable {g:RS→E×RS}{f:Nat}
theorem ze3 (hg:GS L f g):∀(n:Nat) (l:List E) (r:RS),r.a≤L.length→(∀y∈l,FnX y)→(∀y∈(im L g n l r).1,FnX y)∧(r.a≤(im L g n l r).2.a∧(im L g n l r).2.a≤L.length∧((im L g n l r).2.b.toNat=0→r.b.toNat=0∧(im L g n l r).2.d=r.d∧E.szL (im L g n l r).1+(im L g n l r).1.length≤E.szL l+l.length+250*((im L g n l r).2.a-r.a))∧r.d≤(im L g n l r).2.d∧(im L g n l r).2.d≤r.d+f+1)
 | 0,l,r,ha,hl=>⟨hl,by
  have e1:(im L g 0 l r).2.a=r.a:=rfl
  have e2:(im L g 0 l r).2.b.toNat=1:=rfl
  have e3:(im L g 0 l r).2.d=r.d:=rfl
  omega⟩
 | n+1,l,r,ha,hl=>by
  unfold im
  by_cases hb:r.b=true
  ·rw [if_pos hb]
   have e2:r.b.toNat=1:=by rw [hb];rfl
   exact⟨hl,by dsimp only;omega⟩
  ·rw [if_neg hb]
   have hb0:r.b.toNat=0:=by
    have:r.b=false:=by cases h:r.b with
     | false=>rfl
     | true=>exact absurd h hb
    rw [this];rfl
   have hG:=hg r ha
   have h2:=hG.n
   have hi:=is_f L (g r).2 5 ⟨#[44]⟩
   by_cases hc:(isS L (g r).2 5 ⟨#[44]⟩).1=true
   ·rw [if_pos hc]
    have h3:=hi.1 hc
    have h4:=hi.2.2
    have ih:=ze3 hg n (l++[(g r).1]) (isS L (g r).2 5 ⟨#[44]⟩).2 omq (fun y hy=>by
     rcases List.mem_append.1 hy with hy|hy
     ·exact hl y hy
     ·obtain rfl:=List.mem_singleton.1 hy;exact hG.fine)
    refine⟨ih.1,?_⟩
    have h1:=ih.2
    rw [gx,lla,List.length_singleton] at h1
    have:=ed (g r).2.b
    omega
   ·rw [if_neg hc]
    refine⟨fun y hy=>?_,?_⟩
    ·rcases List.mem_append.1 hy with hy|hy
     ·exact hl y hy
     ·obtain rfl:=List.mem_singleton.1 hy;exact hG.fine
    ·dsimp only
     rw [gx,lla,List.length_singleton]
     omega
theorem or_f (r:RS)(c:Bool):(r.or c).a=r.a∧(r.or c).d=r.d∧((r.or c).b.toNat=0→r.b.toNat=0):=⟨rfl,rfl,fun h=>by
 unfold RS.or at h
 cases hb:r.b with
 | false=>rfl
 | true=>rw [hb] at h;simp at h⟩
theorem zq6 (hg:GS L f g)(m:Int){r:RS}(ha:r.a≤L.length):(∀y∈(cL L g m r).1,FnX y)∧(r.a≤(cL L g m r).2.a∧(cL L g m r).2.a≤L.length∧((cL L g m r).2.b.toNat=0→r.b.toNat=0∧(cL L g m r).2.d=r.d∧E.szL (cL L g m r).1+(cL L g m r).1.length≤250*((cL L g m r).2.a-r.a))∧r.d≤(cL L g m r).2.d∧(cL L g m r).2.d≤r.d+f+1):=by
 unfold cL
 have h1:=tg ⟨#[40]⟩ ha
 generalize mkS L r ⟨#[40]⟩=r1 at *
 have hb1:=ed r1.b
 have h2:=is_f L r1 5 ⟨#[41]⟩
 by_cases hc:(isS L r1 5 ⟨#[41]⟩).1=true
 ·rw [if_pos hc]
  have h3:=h2.1 hc
  have h4:=h2.2.2
  have h5:=or_f (isS L r1 5 ⟨#[41]⟩).2 (decide (0<m))
  refine⟨fun _ h=>absurd h List.not_mem_nil,?_⟩
  dsimp only
  simp only [E.szL,List.length_nil]
  omega
 ·rw [if_neg hc]
  have hl:=ze3 hg (L.length+1) [] r1 omq (fun _ h=>absurd h List.not_mem_nil)
  have h3:=tg ⟨#[41]⟩ hl.2.2.1
  have h5:=or_f (mkS L (im L g (L.length+1) [] r1).2 ⟨#[41]⟩) (decide (0≤m)&&decide (((im L g (L.length+1) [] r1).1.length:Int)≠m))
  refine⟨hl.1,?_⟩
  have h6:=hl.2
  simp only [E.szL,List.length_nil] at h6
  have:=ed (im L g (L.length+1) [] r1).2.b
  have:=ed (mkS L (im L g (L.length+1) [] r1).2 ⟨#[41]⟩).b
  dsimp only
  omega
theorem in_PS (hL:okL L)(hg:GS L f g){r:RS}(ha:r.a≤L.length)(h0:r.b.toNat=0):FnX (inS L g r).1∧(r.a≤(inS L g r).2.a∧(inS L g r).2.a≤L.length∧((inS L g r).2.b.toNat=0→(inS L g r).2.d=r.d∧(inS L g r).1.sz+1≤250*((inS L g r).2.a-r.a+1))∧r.d≤(inS L g r).2.d∧(inS L g r).2.d≤r.d+f+2):=by
 unfold inS
 have g1:=hg r ha
 have n1:=g1.n
 generalize g r=x1 at *
 have bx1:=ed x1.2.b
 have hu:x1.2.up.a=x1.2.a+1∧x1.2.up.b.toNat=x1.2.b.toNat∧x1.2.up.d=x1.2.d:=⟨rfl,rfl,rfl⟩
 have i1:=is_f L x1.2 2 ⟨#[105,110]⟩
 by_cases c1:(isS L x1.2 2 ⟨#[105,110]⟩).1=true
 ·have i2:=i1.1 c1
  rw [if_pos c1]
  dsimp only
  have e2:(isS L x1.2 2 ⟨#[105,110]⟩).2=x1.2.up:=by
   unfold isS at c1 ⊢
   split at c1
   ·rename_i hs;rw [if_pos hs]
   ·cases c1
  rw [e2] at i2
  have t3:=zs8 hL (r:=x1.2.up) omq
  generalize gG L x1.2.up=x3 at *
  have bx3:=ed x3.2.b
  have w6:=tg (L:=L) (r:=x3.2) ⟨#[41]⟩ omq
  generalize mkS L x3.2 ⟨#[41]⟩=r6 at *
  have b6:=ed r6.b
  refine⟨.one omq t3.2.2.2.2.2.2 g1.fine,?_⟩
  rw [fB,oK]
  simp only [List.length_cons,List.length_nil]
  omega
 ·rw [if_neg c1]
  have i3:=is_f L x1.2 5 ⟨#[126]⟩
  by_cases c2:(isS L x1.2 5 ⟨#[126]⟩).1=true
  ·have i2:=i3.1 c2
   rw [if_pos c2]
   dsimp only
   have e2:(isS L x1.2 5 ⟨#[126]⟩).2=x1.2.up:=by
    unfold isS at c2 ⊢
    split at c2
    ·rename_i hs;rw [if_pos hs]
    ·cases c2
   rw [e2] at i2
   have t3:=ii hL (r:=x1.2.up) 4 omq
   generalize bQ L x1.2.up 4=x3 at *
   have bx3:=ed x3.2.b
   have w6:=tg (L:=L) (r:=x3.2) ⟨#[41]⟩ omq
   generalize mkS L x3.2 ⟨#[41]⟩=r6 at *
   have b6:=ed r6.b
   refine⟨.one omq t3.2.2.2.2.1 g1.fine,?_⟩
   rw [fB,oK]
   simp only [List.length_cons,List.length_nil]
   omega
  ·rw [if_neg c2]
   dsimp only
   have t3:=ii hL (r:=x1.2) 5 omq
   generalize bQ L x1.2 5=x3 at *
   have bx3:=ed x3.2.b
   have g5:=hg x3.2 omq
   have n5:=g5.n
   generalize g x3.2=x5 at *
   have bx5:=ed x5.2.b
   have w6:=tg (L:=L) (r:=x5.2) ⟨#[41]⟩ omq
   generalize mkS L x5.2 ⟨#[41]⟩=r6 at *
   have b6:=ed r6.b
   refine⟨.two omq t3.2.2.2.2.1 g1.fine g5.fine,?_⟩
   rw [fB,szL_2]
   simp only [List.length_cons,List.length_nil]
   omega
theorem yb (hL:okL L)(hg:GS L f g){r:RS}(ha:r.a≤L.length):FnX (gg L g r).1∧(r.a≤(gg L g r).2.a∧(gg L g r).2.a≤L.length∧((gg L g r).2.b.toNat=0→r.b.toNat=0∧(gg L g r).2.d=r.d∧(gg L g r).1.sz+1≤250*((gg L g r).2.a-r.a))∧r.d≤(gg L g r).2.d∧(gg L g r).2.d≤r.d+f+2):=by
 unfold gg
 dsimp only
 have w1:=tg ⟨#[40]⟩ ha
 generalize mkS L r ⟨#[40]⟩=r1 at *
 have b1:=ed r1.b
 have g1:=hg r1 omq
 have n1:=g1.n
 generalize g r1=x1 at *
 have b2:=ed x1.2.b
 have w2:=tg (L:=L) (r:=x1.2) ⟨#[126]⟩ omq
 generalize mkS L x1.2 ⟨#[126]⟩=r2 at *
 have b3:=ed r2.b
 have t3:=ii hL (r:=r2) 4 omq
 generalize bQ L r2 4=x3 at *
 have b4:=ed x3.2.b
 have w4:=tg (L:=L) (r:=x3.2) ⟨#[44]⟩ omq
 generalize mkS L x3.2 ⟨#[44]⟩=r4 at *
 have b5:=ed r4.b
 have g5:=hg r4 omq
 have n5:=g5.n
 generalize g r4=x5 at *
 have b6:=ed x5.2.b
 have w6:=tg (L:=L) (r:=x5.2) ⟨#[41]⟩ omq
 generalize mkS L x5.2 ⟨#[41]⟩=r6 at *
 have b7:=ed r6.b
 refine⟨.two omq t3.2.2.2.2.1 g1.fine g5.fine,?_⟩
 rw [fB,szL_2]
 simp only [List.length_cons,List.length_nil]
 omega
theorem yd (hL:okL L)(hg:GS L f g){s:ByteArray}(hs:s.size≤200){r:RS}(ha:r.a≤L.length):FnX (cG L g s r).1∧(r.a≤(cG L g s r).2.a∧(cG L g s r).2.a≤L.length∧((cG L g s r).2.b.toNat=0→r.b.toNat=0∧(cG L g s r).2.d=r.d∧(cG L g s r).1.sz+1≤250*((cG L g s r).2.a-r.a)+250)∧r.d≤(cG L g s r).2.d∧(cG L g s r).2.d≤r.d+f+2):=by
 unfold cG
 have he:ByteArray.empty.size=0:=rfl
 have leaf:∀(k:Int) (t:ByteArray),0≤k∧k≤18→t.size≤200→FnX (xE k 0 t [])∧(r.a≤r.a∧r.a≤L.length∧(r.b.toNat=0→r.b.toNat=0∧r.d=r.d∧(xE k 0 t []).sz+1≤250*(r.a-r.a)+250)∧r.d≤r.d∧r.d≤r.d+f+2):=fun k t hk ht=>⟨.none_ hk omq ht,nlr _,ha,fun h=>⟨h,rfl,by
  rw [fB]
  simp only [List.length_nil,E.szL]
  omega⟩,nlr _,omq⟩
 have call:∀(k:Int) (t:ByteArray) (m:Int),0≤k∧k≤18→t.size≤200→FnX (xE k 0 t (cL L g m r).1)∧(r.a≤(cL L g m r).2.a∧(cL L g m r).2.a≤L.length∧((cL L g m r).2.b.toNat=0→r.b.toNat=0∧(cL L g m r).2.d=r.d∧(xE k 0 t (cL L g m r).1).sz+1≤250*((cL L g m r).2.a-r.a)+250)∧r.d≤(cL L g m r).2.d∧(cL L g m r).2.d≤r.d+f+2):=fun k t m hk ht=>by
  have h:=zq6 hg m ha
  refine⟨.mk _ _ _ _ hk omq ht h.1,?_⟩
  rw [fB]
  have h2:=h.2
  omega
 split
 ·exact leaf _ _ omq omq
 split
 ·exact leaf _ _ omq omq
 split
 ·exact call _ _ _ omq omq
 split
 ·exact call _ _ _ omq omq
 split
 ·exact call _ _ _ omq omq
 split
 ·exact call _ _ _ omq omq
 split
 ·have h:=yb hL hg ha
  exact⟨h.1,by have h2:=h.2;omega⟩
 split
 ·exact call _ _ _ omq hs
 split
 ·rename_i h
  obtain⟨h1,h2,-⟩:=oM h
  have hu:r.up.a=r.a+1∧r.up.b.toNat=r.b.toNat∧r.up.d=r.d:=⟨rfl,rfl,rfl⟩
  have g1:=hg r.up omq
  have n1:=g1.n
  generalize g r.up=x1 at *
  have b2:=ed x1.2.b
  have w6:=tg (L:=L) (r:=x1.2) ⟨#[93]⟩ omq
  dsimp only
  generalize mkS L x1.2 ⟨#[93]⟩=r6 at *
  have b7:=ed r6.b
  refine⟨.one omq hs g1.fine,?_⟩
  rw [fB,oK]
  simp only [List.length_cons,List.length_nil]
  omega
 ·exact leaf _ _ omq hs
theorem ye (hL:okL L)(hg:GS L f g){r:RS}(ha:r.a≤L.length)(hb:r.b.toNat=0):FnX (dW L g r).1∧(r.a≤(dW L g r).2.a∧(dW L g r).2.a≤L.length∧((dW L g r).2.b.toNat=0→(dW L g r).2.d=r.d∧(dW L g r).1.sz+1≤250*((dW L g r).2.a-r.a))∧r.d≤(dW L g r).2.d∧(dW L g r).2.d≤r.d+f+2):=by
 unfold dW
 have he:ByteArray.empty.size=0:=rfl
 have hu:r.up.a=r.a+1∧r.up.b.toNat=r.b.toNat∧r.up.d=r.d:=⟨rfl,rfl,rfl⟩
 have un:∀(k:Int),0≤k∧k≤18→r.a<L.length→FnX (xE k 0 ByteArray.empty [(g r.up).1])∧(r.a≤(g r.up).2.a∧(g r.up).2.a≤L.length∧((g r.up).2.b.toNat=0→(g r.up).2.d=r.d∧(xE k 0 ByteArray.empty [(g r.up).1]).sz+1≤250*((g r.up).2.a-r.a))∧r.d≤(g r.up).2.d∧(g r.up).2.d≤r.d+f+2):=fun k hk hlt=>by
  have g1:=hg r.up omq
  have n1:=g1.n
  refine⟨.one hk omq g1.fine,?_⟩
  rw [fB,oK]
  simp only [List.length_cons,List.length_nil]
  omega
 split
 ·rename_i h
  obtain⟨h1,h2,-⟩:=oM h
  have h3:=in_PS hL hg (r:=r.up) omq omq
  exact⟨h3.1,by have h4:=h3.2;omega⟩
 split
 ·rename_i h;exact un _ omq (oM h).2.1
 split
 ·rename_i h;exact un _ omq (oM h).2.1
 split
 ·rename_i h;exact un _ omq (oM h).2.1
 split
 ·have h:=ii hL 1 ha
  refine⟨.none_ omq ⟨h.2.2.2.2.2.1,h.2.2.2.2.2.2⟩ omq,?_⟩
  dsimp only
  rw [fB]
  simp only [List.length_nil,E.szL]
  have:=ed (bQ L r 1).2.b
  omega
 split
 ·have h:=ii hL 3 ha
  refine⟨.none_ omq omq h.2.2.2.2.1,?_⟩
  dsimp only
  rw [fB]
  simp only [List.length_nil,E.szL]
  have:=ed (bQ L r 3).2.b
  omega
 ·have h:=ii hL 2 ha
  have hb2:=ed (bQ L r 2).2.b
  have hw:=yd hL hg h.2.2.2.2.1 (r:=(bQ L r 2).2) omq
  exact⟨hw.1,by have h4:=hw.2;omega⟩
theorem th (hL:okL L):∀f:Nat,GS L f (exS L f)
 | 0,r,ha=>by
  have e1:(exS L 0 r).2.a=r.a:=rfl
  have e2:(exS L 0 r).2.b.toNat=1:=rfl
  have e3:(exS L 0 r).2.d=r.d:=rfl
  have:=ed r.b
  exact⟨.zero,omq⟩
 | f+1,r,ha=>by
  have ih:=th hL f
  unfold exS
  split
  ·have e1:(⟨r.a,true,r.d+1⟩:RS).a=r.a:=rfl
   have e2:(⟨r.a,true,r.d+1⟩:RS).b.toNat=1:=rfl
   have e3:(⟨r.a,true,r.d+1⟩:RS).d=r.d+1:=rfl
   have:=ed r.b
   exact⟨.zero,by dsimp only at e1 e2 e3 ⊢;omega⟩
  ·rename_i h
   have hb:r.b.toNat=0:=by
    have:r.b=false:=by cases hb:r.b with
     | false=>rfl
     | true=>exact absurd (.inr (.inl hb)) h
    rw [this];rfl
   have hp:=ye hL ih (r:=⟨r.a,r.b,r.d+1⟩) ha hb
   refine⟨hp.1,?_⟩
   have h2:=hp.2
   dsimp only at h2 ⊢
   have:=ed (dW L (exS L f) ⟨r.a,r.b,r.d+1⟩).2.b
   omega
end
def Qn (K:Act→World→Prop)(Q:Exit→Act→World→Prop):Exit→Act→World→Prop
 | .normal,a,w=>K a w
 | .exit l,a,w=>Q (.exit l) a w
 | .goto l,a,w=>Q (.goto l) a w
 | .ret,a,w=>Q .ret a w
 | .panic c,a,w=>Q (.panic c) a w
 | .outgrown,a,w=>Q .outgrown a w
section
variable {P:Program}{ops:Array Oper}{Q:Exit→Act→World→Prop}{C:Ctx}
theorem wp_Qn {o:Oper}{a:Act}{w:World}{K K':Act→World→Prop}(hh:o.wp P a w K (Qn K' Q)):o.wp P a w K Q:=by
 unfold Oper.wp at *
 generalize (execOp a.eval o).run P w=r at *
 cases r with
 | ok n w' =>
  cases n<;>simp only [Oper.upon] at hh ⊢ <;>
   first
    | exact hh
    | exact Calls.mono hh (fun e w'' he=>by cases e<;>exact he)
 | halt x w'=>cases x<;>simp only [Oper.upon] at hh ⊢<;>exact hh
theorem pZ {l2:List Nat}:∀(l1:List Nat) (a:Act) (w:World),wpOps P ops (Qn (wpOps P ops Q l2) Q) l1 a w→wpOps P ops Q (l1++l2) a w
 | [],_,_,h=>h
 | i :: r,a,w,h=>by
  rw [List.cons_append,wpOps_cons]
  rw [wpOps_cons] at h
  have h2:=wpOp_mono (fun a w h=>pZ r a w h) h
  unfold wpOp at h2 ⊢
  split
  ·rename_i ho
   simp only [ho] at h2
   exact h2
  ·rename_i o ho
   simp only [ho] at h2
   split
   ·rename_i hw
    simp only [hw,if_true] at h2
    exact h2.imp wp_Qn id
   ·rename_i hw
    simp only [hw] at h2
    exact h2
theorem ti {L:List Nat}{σ:AS}(hL:L.Pairwise (·< ·))(h:Walk P ops Q C false [] L σ){a:Act}{w:World}(hs:Sim C σ a w):wpOps P ops Q L a w:=by
 obtain⟨inf,_,h2,-⟩:=j4 hL (fun h hh=>absurd hh List.not_mem_nil) (fun h hh=>absurd hh List.not_mem_nil) List.Pairwise.nil h
 exact lR h2 hs
end
theorem hX {Q:Exit→AS→Prop}{P:Program}{id:Nat}{ops:Array Oper}{σ:AS}(l1 l2:List Nat)(hl:List.range ops.size=l1++l2)(h:∀C,Walk P ops (Qn (wpOps P ops (fun e a w=>∃σ',Q e σ'∧Sim C σ' a w) l2) (fun e a w=>∃σ',Q e σ'∧Sim C σ' a w)) C false [] l1 σ):AWp P (.region id ops false) Q σ:=fun C a w hs=>by
 refine wp_region ?_
 rw [hl]
 have hp:=ip ops.size
 rw [hl] at hp
 exact pZ l1 a w (ti (List.pairwise_append.1 hp).1 (h C) hs)
theorem lE {Q:Exit→AS→Prop}{P:Program}{ops:Array Oper}{C:Ctx}{l2:List Nat}{σ σ':AS}(hg:Gh σ σ')(hL:l2.Pairwise (·< ·))(h:Walk P ops (fun e a w=>∃σ',Q e σ'∧Sim C σ' a w) C false [] l2 σ'):Walk P ops (Qn (wpOps P ops (fun e a w=>∃σ',Q e σ'∧Sim C σ' a w) l2) (fun e a w=>∃σ',Q e σ'∧Sim C σ' a w)) C false [] [] σ:=fun a w hs=>ti hL h (hg C a w hs)
theorem kT {k:Int}{l:List E}:CtrT prog 43 [.c (.v (.int .i64 k)),.c .un] 1 26 4 l.length (owL l) (.ag (owE (xE k 0 ByteArray.empty l))) none:=by
 refine zz3 func43 rfl rfl rfl ?_
 unfold σT
 repeat' (first|(apply ay;first|refine ak ?_|refine bh ?_|refine bJ ?_|refine au ?_)|refine aj ?_|refine ab ?_|refine aa fun C=>?_|refine ac ?_)
 refine am ?_;refine bA rfl (bi (aO rfl (aO rfl (aO rfl (bE rfl rfl rfl cls0 aQ))))) ⟨?_,rfl⟩
 rfl
theorem ru {n:Int}:Ctr prog 91 [.c (.v (.int .i64 n))] [] (.ag (owE (xE 1 n ByteArray.empty []))) []:=by
 refine az func91 rfl rfl ?_
 repeat' (first|(apply ay;first|refine ak ?_|refine bh ?_|refine bJ ?_|refine au ?_)|refine aj ?_|refine ab ?_|refine aa fun C=>?_|refine ac ?_)
 refine bc (cR 90000 (i:=2) 26 4 rfl rfl (pre:=[_,_,_]) (post:=[]) rfl) ?_
 refine am ?_;refine bA rfl (bi (aO rfl (aO rfl (aO rfl (bE rfl rfl rfl cls0 aQ))))) ⟨?_,rfl⟩
 rfl
theorem yf {s:ByteArray}:Ctr prog 96 [.c (.v (.string s))] [] (.ag (owE (xE 3 0 s []))) []:=by
 refine az func96 rfl rfl ?_
 repeat' (first|(apply ay;first|refine ak ?_|refine bh ?_|refine bJ ?_|refine au ?_)|refine aj ?_|refine ab ?_|refine aa fun C=>?_|refine ac ?_)
 refine bc (cR 90000 (i:=2) 26 4 rfl rfl (pre:=[_,_,_]) (post:=[]) rfl) ?_
 refine am ?_;refine bA rfl (bi (aO rfl (aO rfl (aO rfl (bE rfl rfl rfl cls0 aQ))))) ⟨?_,rfl⟩
 rfl
theorem oN {L:List T3}{a:Nat}(h:a<L.length){k n:Int}{s:ByteArray}(e:tAt L a=(k,n,s)):(L.map T3.E)[a]? = some (.agg [.int .i64 k,.int .i64 n,.str s]):=by
 have:=t3_at h
 rwa [e] at this
theorem zf3 {L:List T3}(hL:L.length≤2000){r:RS}(k:Int)(s:ByteArray):Ctr prog 120 [.c (.pt 0 0),.c (.v (.int .i64 k)),.c (.v (.string s))] [df L r] (.c (.v (.bool (gF L r k s)))) [df L r]:=by
 obtain⟨a,b,d⟩:=r
 have hk:=tks_enc' (l:=L)
 have hlen:L.length=(L.map T3.E).length:=(List.length_map ..).symm
 unfold gF
 refine az func120 rfl rfl ?_
 unfold df
 dsimp only
 cases b with
 | true =>
  repeat' (first|(apply ay;refine ai ?_)|refine aj ?_|refine ab ?_|(apply da;first|refine fg ?_|(refine e7 ?_ ?_<;>intro hG<;>(try cases hG))|(apply dC;refine aD ?_)|(apply iu;refine aD ?_)|refine dZ ?_|refine bW ?_|refine aD ?_)|refine aj ?_|refine ab ?_|refine aa fun C=>?_|refine av krq krq fun C=>?_|refine ac ?_)
  refine am ?_;refine dO rfl aJ rfl clsR rfl ⟨?_,?_⟩<;>rfl
 | false =>
  by_cases h:a<L.length
  ·obtain⟨⟨k',n,u⟩,ht⟩:∃t,tAt L a=t:=⟨_,rfl⟩
   have hx:=oN h ht
   rw [ht,decide_eq_true h]
   have hlt:((a:Int)<((L.map T3.E).length:Int)):=by omega
   dsimp only
   by_cases hkk:k'=k
   ·subst hkk
    repeat' (first|(apply ay;refine ai ?_)|refine aj ?_|refine ab ?_|(apply da;first|refine fg ?_|(refine e7 ?_ ?_<;>intro hG<;>(try cases hG))|(apply dC;refine aD ?_)|(apply iu;refine aD ?_)|refine dZ ?_|refine ga ?_|refine bW ?_|refine d7 ?_|refine dt ?_|refine iY ?_|(apply fF;refine aD ?_)|refine aD ?_)|refine aj ?_|refine ab ?_|refine aa fun C=>?_|refine av krq krq fun C=>?_|refine ac ?_)
    all_goals first
     | (exfalso;simp only [dqn] at hG;exact hG hlt;done)
     | (exfalso;simp at hG;done)
     | (refine am ?_;refine dO rfl aJ rfl clsR rfl ⟨?_,?_⟩
        ·simp [nd]
        ·rfl)
   ·repeat' (first|(apply ay;refine ai ?_)|refine aj ?_|refine ab ?_|(apply da;first|refine fg ?_|(refine e7 ?_ ?_<;>intro hG<;>(try cases hG))|(apply dC;refine aD ?_)|(apply iu;refine aD ?_)|refine dZ ?_|refine ga ?_|refine bW ?_|refine d7 ?_|refine dt ?_|refine iY ?_|(apply fF;refine aD ?_)|refine aD ?_)|refine aj ?_|refine ab ?_|refine aa fun C=>?_|refine av krq krq fun C=>?_|refine ac ?_)
    all_goals first
     | (exfalso;simp only [dqn] at hG;exact hG hlt;done)
     | (exfalso;exact hkk (eq_of_beq hG))
     | (refine am ?_;refine dO rfl aJ rfl clsR rfl ⟨?_,?_⟩
        ·simp [hkk]
        ·rfl)
  ·rw [decide_eq_false h]
   repeat' (first|(apply ay;refine ai ?_)|refine aj ?_|refine ab ?_|(apply da;first|refine fg ?_|(refine e7 ?_ ?_<;>intro hG<;>(try cases hG))|(apply dC;refine aD ?_)|(apply iu;refine aD ?_)|refine dZ ?_|refine bW ?_|refine dt ?_|(apply fF;refine aD ?_)|refine aD ?_)|refine aj ?_|refine ab ?_|refine aa fun C=>?_|refine av krq krq fun C=>?_|refine ac ?_)
   all_goals first
    | (exfalso;simp only [dqt] at hG;omega;done)
    | (refine am ?_;refine dO rfl aJ rfl clsR rfl ⟨?_,?_⟩
       ·simp
       ·rfl)
theorem nf {L:List T3}(hL:L.length≤2000){r:RS}(k:Int)(s:ByteArray):Ctr prog 89 [.c (.pt 0 0),.c (.v (.int .i64 k)),.c (.v (.string s))] [df L r] (.c (.v (.bool (isS L r k s).1))) [df L (isS L r k s).2]:=by
 have c1:=zf3 hL (r:=r) k s
 unfold isS
 refine az func89 rfl rfl ?_
 cases h:gF L r k s with
 | true =>
  have hlt:=(oM h).2.1
  rw [if_pos rfl]
  rw [h] at c1
  obtain⟨a,b,d⟩:=r
  unfold df at *
  dsimp only [RS.up] at hlt c1 ⊢
  repeat' (first|(apply ay;first|refine ak ?_|refine ai ?_|refine bf ?_|refine aI ?_|refine aF 0 (c1) ?_|refine bh ?_|refine aw ?_|refine bI ?_|refine au ?_)|refine aj ?_|refine ab ?_|refine aa fun C=>?_|refine ac ?_|refine al ?_|refine ar rfl ?_)
  refine am ?_;refine dO rfl aJ rfl clsR rfl ⟨?_,?_⟩<;>rfl
 | false =>
  rw [if_neg (by simp)]
  rw [h] at c1
  obtain⟨a,b,d⟩:=r
  unfold df at *
  dsimp only at c1 ⊢
  repeat' (first|(apply ay;first|refine ak ?_|refine ai ?_|refine aF 0 (c1) ?_|refine bI ?_)|refine aj ?_|refine ab ?_|refine aa fun C=>?_|refine ac ?_|refine aq rfl ?_)
  refine am ?_;refine dO rfl aJ rfl clsR rfl ⟨?_,?_⟩<;>rfl
theorem fX {L:List T3}(hL:L.length≤2000){r:RS}(s:ByteArray):Ctr prog 122 [.c (.pt 0 0),.c (.v (.string s))] [df L r] (.tu []) [df L (mkS L r s)]:=by
 have c1:=nf hL (r:=r) 5 s
 unfold isS at c1
 unfold mkS
 refine az func122 rfl rfl ?_
 cases h:gF L r 5 s with
 | true =>
  rw [if_pos rfl]
  rw [h,if_pos rfl] at c1
  obtain⟨a,b,d⟩:=r
  unfold df at *
  dsimp only [RS.up] at c1 ⊢
  repeat' (first|(apply ay;first|refine ak ?_|refine aF 0 (c1) ?_|refine bI ?_)|refine aj ?_|refine ab ?_|refine aa fun C=>?_|refine ac ?_|refine al ?_|refine ar rfl ?_)
  exact dO (x:=.tu []) rfl rfl rfl eC rfl ⟨rfl,rfl⟩
 | false =>
  rw [if_neg (by simp)]
  rw [h,if_neg (by simp)] at c1
  obtain⟨a,b,d⟩:=r
  unfold df at *
  dsimp only [RS.bd] at c1 ⊢
  repeat' (first|(apply ay;first|refine ak ?_|refine bf ?_|refine aF 0 (c1) ?_|refine bh ?_|refine bI ?_|refine au ?_)|refine aj ?_|refine ab ?_|refine aa fun C=>?_|refine ac ?_|refine aq rfl ?_)
  exact dO (x:=.tu []) rfl rfl rfl eC rfl ⟨rfl,rfl⟩
theorem jq {L:List T3}(hL:L.length≤2000){r:RS}(k:Int):Ctr prog 92 [.c (.pt 0 0),.c (.v (.int .i64 k))] [df L r] (.ag [.v (.int .i64 (bQ L r k).1.1),.v (.int .i64 (bQ L r k).1.2.1),.v (.string (bQ L r k).1.2.2)]) [df L (bQ L r k).2]:=by
 obtain⟨a,b,d⟩:=r
 have hk:=tks_enc' (l:=L)
 have hlen:L.length=(L.map T3.E).length:=(List.length_map ..).symm
 unfold bQ
 refine az func92 rfl rfl ?_
 unfold df
 dsimp only
 cases b with
 | true =>
  rw [if_pos (.inl rfl)]
  dsimp only [RS.bd]
  repeat' (first|(apply ay;first|refine ak ?_|refine bf ?_|refine bh ?_|refine bJ ?_|refine au ?_)|refine aj ?_|refine ab ?_|(apply da;first|refine fg ?_|(refine e7 ?_ ?_<;>intro hG<;>(try cases hG))|(apply dC;refine aD ?_)|refine dZ ?_|refine bW ?_|refine aD ?_)|refine aj ?_|refine ab ?_|refine aa fun C=>?_|refine av krq krq fun C=>?_|refine ac ?_|refine aq rfl ?_)
  exact rtq5
 | false =>
  by_cases h:a<L.length
  ·obtain⟨⟨k',n,u⟩,ht⟩:∃t,tAt L a=t:=⟨_,rfl⟩
   have hx:=oN h ht
   have hz:((a:Int)+1)-1=((a:Nat):Int):=by omega
   have hz':(((a+1:Nat):Int))-1=((a:Nat):Int):=by omega
   have hlt:¬(((L.map T3.E).length:Int)≤(a:Int)):=by omega
   rw [ht]
   by_cases hkk:k'=k
   ·subst hkk
    rw [if_neg (by simp [h])]
    dsimp only [RS.up]
    repeat' (first|(apply ay;refine bJ ?_)|refine aj ?_|refine ab ?_|(apply da;first|refine fg ?_|(refine e7 ?_ ?_<;>intro hG<;>(try cases hG))|(apply dC;refine aD ?_)|refine dZ ?_|refine ga ?_|refine bW ?_|refine d7 ?_|refine dt ?_|refine iY ?_|(apply fF;refine aD ?_)|refine aD ?_)|refine aj ?_|refine ab ?_|refine aa fun C=>?_|refine av krq krq fun C=>?_|refine ac ?_)
    ·exfalso;simp only [dqt] at hG;exact hlt hG
    ·refine ae rqf (fun hC=>by exfalso;simp at hC) fun hC=>?_
     repeat' (first|(apply ay;first|refine ak ?_|refine bf ?_|refine aI ?_|refine bh ?_|refine aw ?_|refine au ?_)|refine aj ?_|refine ab ?_|(apply da;first|(apply dC;refine aD ?_)|refine dZ ?_|refine bW ?_|refine dQ ?_|refine li ?_|refine iY ?_|refine cS ?_|refine aD ?_)|refine aj ?_|refine ab ?_|refine aa fun C=>?_|refine av krq krq fun C=>?_|refine ac ?_|refine al ?_)
     exact rtq5
   ·rw [if_pos (.inr (.inr hkk))]
    dsimp only [RS.bd]
    repeat' (first|(apply ay;refine bJ ?_)|refine aj ?_|refine ab ?_|(apply da;first|refine fg ?_|(refine e7 ?_ ?_<;>intro hG<;>(try cases hG))|(apply dC;refine aD ?_)|refine dZ ?_|refine ga ?_|refine bW ?_|refine d7 ?_|refine dt ?_|refine iY ?_|(apply fF;refine aD ?_)|refine aD ?_)|refine aj ?_|refine ab ?_|refine aa fun C=>?_|refine av krq krq fun C=>?_|refine ac ?_)
    ·exfalso;simp only [dqt] at hG;exact hlt hG
    ·refine ae rqf (fun hC=>?_) fun hC=>by exfalso;simp at hC;exact hkk hC
     repeat' (first|(apply ay;first|refine ak ?_|refine bf ?_|refine bh ?_|refine au ?_)|refine aj ?_|refine ab ?_|refine aa fun C=>?_|refine ac ?_)
     exact rtq5
  ·rw [if_pos (.inr (.inl h))]
   dsimp only [RS.bd]
   repeat' (first|(apply ay;refine bJ ?_)|refine aj ?_|refine ab ?_|(apply da;first|refine fg ?_|(refine e7 ?_ ?_<;>intro hG<;>(try cases hG))|(apply dC;refine aD ?_)|refine dZ ?_|refine bW ?_|refine dt ?_|(apply fF;refine aD ?_)|refine aD ?_)|refine aj ?_|refine ab ?_|refine aa fun C=>?_|refine av krq krq fun C=>?_|refine ac ?_)
   ·refine aq rfl ?_
    repeat' (first|(apply ay;first|refine ak ?_|refine bf ?_|refine bh ?_|refine au ?_)|refine aj ?_|refine ab ?_|refine aa fun C=>?_|refine ac ?_)
    exact rtq5
   ·exfalso;simp only [dqn] at hG;omega
theorem zr6 {L:List T3}(hL:L.length≤2000)(hok:okL L){r:RS}(ha:r.a≤L.length):Ctr prog 121 [.c (.pt 0 0)] [df L r] (.c (.v (.string (gG L r).1))) [df L (gG L r).2]:=by
 have c1:=jq hL (r:=r) 2
 have hs:=(ii hok 2 ha).2.2.2.2.1
 have c2:=fA (s:=(bQ L r 2).1.2.2) omq
 unfold gG
 dsimp only
 generalize bQ L r 2=x at *
 obtain⟨⟨k,n,u⟩,⟨a,b,d⟩⟩:=x
 dsimp only at *
 refine az func121 rfl rfl ?_
 cases h:eu u with
 | true =>
  rw [if_pos rfl]
  rw [h] at c2
  unfold df at *
  dsimp only at c1 ⊢
  repeat' (first|(apply ay;first|refine ak ?_|refine ai ?_|refine aF 0 (c1) ?_|refine aH c2 ?_|refine bI ?_|refine au ?_)|refine aj ?_|refine ab ?_|refine aa fun C=>?_|refine ac ?_|refine al ?_|refine ar rfl ?_)
  refine am ?_;refine dO rfl aJ rfl clsR rfl ⟨?_,?_⟩<;>rfl
 | false =>
  rw [if_neg (by simp)]
  rw [h] at c2
  unfold df at *
  dsimp only [RS.bd] at c1 ⊢
  repeat' (first|(apply ay;first|refine ak ?_|refine ai ?_|refine bf ?_|refine aF 0 (c1) ?_|refine aH c2 ?_|refine bh ?_|refine bI ?_|refine au ?_)|refine aj ?_|refine ab ?_|refine aa fun C=>?_|refine ac ?_|refine aq rfl ?_)
  refine am ?_;refine dO rfl aJ rfl clsR rfl ⟨?_,?_⟩<;>rfl
theorem rtq4 {p:Prop}(h:p:=by refine am ?_;refine dO rfl (jg (bE rfl rfl rfl cls0 aQ)) rfl clsR rfl ⟨?_,?_⟩<;>rfl):p:=h
theorem tdy3 {p:Prop}(h:p:=by repeat' (first|exact TmOk.nil|exact RwOk.nil|refine TmOk.cons ?_ ?_|refine RwOk.cons ?_ ?_|rfl|exact fH rfl rfl (tf _ _)|exact fH rfl rfl cA|exact fH rfl rfl (pX _ _)|exact fH rfl rfl eC|(refine rnV_id' rfl ?_;exact byc)|(refine cK ?_;first|rfl|omega|(rw [bB omq omq];omega))|(refine bg rfl ?_;exact byc)|exact dP rfl rfl|(refine rw_mid rqf rqf ?_ ?_<;>exact byc)|(refine rw_rn' rfl rfl ?_;simp;done))):p:=h
def HS (L:List T3)(f:Nat)(g:RS→E×RS):Prop:=∀q:RS,q.a≤L.length→21≤f+q.d→1≤f→q.d≤60→Ctr prog 30 [.c (.pt 0 0)] [df L q] (.ag (owE (g q).1)) [df L (g q).2]
theorem yg {L:List T3}{r:RS}:bu (df L r)=true:=pX L r
theorem zuQ {L:List T3}{g:RS→E×RS}{n:Nat}{l:List E}{r:RS}(h:r.b=true):im L g n l r=(l,r):=by
 obtain⟨a,b,d⟩:=r
 have h:b=true:=h
 subst h
 cases n with
 | zero=>rfl
 | succ n=>unfold im;rw [if_pos rfl]
def lfin (L:List T3)(m:Int)(x:List E×RS):List E×RS:=(x.1,(mkS L x.2 ⟨#[41]⟩).or (decide (0≤m)&&decide ((x.1.length:Int)≠m)))
theorem mP {L:List T3}(hL:L.length≤2000){f:Nat}(hf:f≤21)(hf1:1≤f){g:RS→E×RS}(hg:GS L f g)(hi:HS L f g)(m:Int){r:RS}(ha:r.a≤L.length)(hd:21≤f+r.d)(hd2:r.d≤20) :
 Ctr prog 123 [.c (.pt 0 0),.c (.v (.int .i64 m))] [df L r] (.c (.ow 26 (cL L g m r).1.length 4 (owL (cL L g m r).1))) [df L (cL L g m r).2]:=by
 have hm1:=tg (L:=L) ⟨#[40]⟩ ha
 have c1:=fX hL (r:=r) ⟨#[40]⟩
 unfold cL
 generalize mkS L r ⟨#[40]⟩=r1 at *
 have c2:=nf hL (r:=r1) 5 ⟨#[41]⟩
 have hi2:=is_f L r1 5 ⟨#[41]⟩
 cases hc:(isS L r1 5 ⟨#[41]⟩).1 with
 | true =>
  have h3:=hi2.1 hc
  rw [if_pos rfl]
  rw [hc] at c2
  clear hg hi
  generalize (isS L r1 5 ⟨#[41]⟩).2=r2 at *
  obtain⟨a,b,d⟩:=r2
  have hb:b=false:=by cases b with
   | false=>rfl
   | true=>exact absurd (show (1:Nat)=0 from h3.2.1) (by decide)
  subst hb
  refine az func123 rfl rfl ?_
  unfold df RS.or at *
  dsimp only at c1 c2 ⊢
  repeat' (first|(apply ay;first|(refine aK ?_ ?_<;>intro hG<;>(try cases hG))|refine ak ?_|refine ai ?_|refine bf ?_|refine aI ?_|refine aF 0 (c1) ?_|refine aF 0 (c2) ?_|refine bh ?_|refine aX ?_|refine aB ?_|refine dT ?_|refine au ?_)|refine aj ?_|refine ab ?_|refine aa fun C=>?_|refine ac ?_|refine aq rfl ?_)
  exact rtq4
 | false =>
  have h3:=hi2.2.1 hc
  rw [if_neg (by simp)]
  rw [hc,h3] at c2
  have hn0:r1.a≤L.length:=by omega
  obtain⟨tot,htot⟩:∃t,im L g (L.length+1) [] r1=t:=⟨_,rfl⟩
  rw [htot]
  show Ctr prog 123 [.c (.pt 0 0),.c (.v (.int .i64 m))] [df L r] (.c (.ow 26 (lfin L m tot).1.length 4 (owL (lfin L m tot).1))) [df L (lfin L m tot).2]
  refine az func123 rfl rfl ?_
  repeat' (first|(apply ay;first|refine ak ?_|refine ai ?_|refine aF 0 (c1) ?_ (hl:=bF rqf yg)|refine aF 0 (c2) ?_ (hl:=bF rqf yg)|refine dT ?_)|refine aj ?_|refine ab ?_|refine aa fun C=>?_|refine ac ?_|refine ah ?_|refine al ?_|refine ar rfl ?_)
  refine aY (fun q:List E×RS×Bool=>⟨ft [(0,.c (.pt 0 0)),(1,.c (.v (.int .i64 m))),(5,.c (.sl 9 q.1.length)),(6,.c (.v (.bool q.2.2)))],eW [(0,0,⟨0,0,0,true,df L q.2.1⟩),(9,9,⟨26,4,q.1.length,false,owL q.1⟩)],1,[0,9],59⟩)
   (fun N q=>q.2.1.a≤L.length∧(q.2.2=true→L.length+1≤q.2.1.a+N∧im L g N q.1 q.2.1=tot∧(q.2.1.b=false→q.2.1.d=r1.d)∧q.1.length≤q.2.1.a)∧(q.2.2=false→(q.1,q.2.1)=tot)∧q.1.length≤q.2.1.a+1∧r1.d≤q.2.1.d) (L.length+1) ([],r1,true) ⟨hn0,fun _=>⟨by dsimp only;omega,htot,fun _=>rfl,Nat.zero_le _⟩,(fun h=>by cases h),Nat.zero_le _,nlr _⟩ ?_ ?_
  ·(refine eL (fun j=>if j=9 then 7 else j) _ _ rfl rfl ?_ ?_<;>exact tdy3)
  clear c1 c2 hi2 hc h3 htot
  rintro N ⟨l,q,again⟩ ⟨k1,k2,k3,k4,k5⟩
  dsimp only at k1 k2 k3 k4 k5 ⊢
  obtain⟨a,b,d⟩:=q
  dsimp only at k1 k2 k3 k4 k5 ⊢
  cases again with
  | false =>
   have hfin:=k3 rfl
   subst hfin
   unfold lfin
   dsimp only
   have cm:=fX hL (r:=⟨a,b,d⟩) ⟨#[41]⟩
   generalize mkS L ⟨a,b,d⟩ ⟨#[41]⟩=r3 at *
   obtain⟨a3,b3,d3⟩:=r3
   clear hi hg k1 k2 k3 k4 k5
   unfold df RS.or at *
   dsimp only at cm ⊢
   cases b3 with
   | true =>
    rw [Bool.true_or]
    repeat' (first|(apply ay;first|refine bH ?_|(refine aK ?_ ?_<;>intro hG<;>(try cases hG))|refine ak ?_|refine ai ?_|refine bf ?_|refine aI ?_|refine aF 0 (cm) ?_|refine bh ?_|refine aB ?_|refine au ?_)|refine aj ?_|refine ab ?_|refine aa fun C=>?_|refine ac ?_|refine aE ?_|refine ar rfl ?_)
    exact rtq4
   | false =>
    rw [Bool.false_or]
    by_cases h0:0≤m
    ·rw [decide_eq_true h0,Bool.true_and]
     by_cases hn:(l.length:Int)=m
     ·rw [decide_eq_false (by simpa using hn)]
      have hne:((l.length:Int) != m)=false:=by simpa using hn
      repeat' (first|(apply ay;first|refine bH ?_|(refine aK ?_ ?_<;>intro hG<;>(try cases hG))|refine ak ?_|refine ai ?_|refine bf ?_|refine aI ?_|refine aF 0 (cm) ?_|refine cJ ?_|refine bh ?_|refine aN ?_|refine bX ?_|refine aB ?_|refine au ?_)|refine aj ?_|refine ab ?_|refine aa fun C=>?_|refine ac ?_|refine aE ?_|refine ar rfl ?_)
      ·refine am ?_;refine dO rfl (jg (bE rfl rfl rfl cls0 aQ)) rfl clsR rfl ⟨?_,?_⟩
       ·rfl
       ·rw [hne];rfl
      ·exfalso;simp only [dqn] at hG;exact hG h0
     ·rw [decide_eq_true hn]
      have hne:((l.length:Int) != m)=true:=by simpa using hn
      repeat' (first|(apply ay;first|refine bH ?_|(refine aK ?_ ?_<;>intro hG<;>(try cases hG))|refine ak ?_|refine ai ?_|refine bf ?_|refine aI ?_|refine aF 0 (cm) ?_|refine cJ ?_|refine bh ?_|refine aN ?_|refine bX ?_|refine aB ?_|refine au ?_)|refine aj ?_|refine ab ?_|refine aa fun C=>?_|refine ac ?_|refine aE ?_|refine ar rfl ?_)
      ·refine am ?_;refine dO rfl (jg (bE rfl rfl rfl cls0 aQ)) rfl clsR rfl ⟨?_,?_⟩
       ·rfl
       ·rw [hne];rfl
      ·exfalso;simp only [dqn] at hG;exact hG h0
    ·rw [decide_eq_false h0,Bool.false_and]
     repeat' (first|(apply ay;first|refine bH ?_|(refine aK ?_ ?_<;>intro hG<;>(try cases hG))|refine ak ?_|refine ai ?_|refine bf ?_|refine aI ?_|refine aF 0 (cm) ?_|refine cJ ?_|refine bh ?_|refine aN ?_|refine bX ?_|refine aB ?_|refine au ?_)|refine aj ?_|refine ab ?_|refine aa fun C=>?_|refine ac ?_|refine aE ?_|refine ar rfl ?_)
     ·exfalso;simp only [dqt] at hG;exact h0 hG
     ·exact rtq4
  | true =>
   obtain⟨k6,k7,k8,k9⟩:=k2 rfl
   cases b with
   | true =>
    rw [zuQ rfl] at k7
    have hfin:=k7
    subst hfin
    unfold lfin
    dsimp only
    have cm:=fX hL (r:=⟨a,true,d⟩) ⟨#[41]⟩
    generalize mkS L ⟨a,true,d⟩ ⟨#[41]⟩=r3 at *
    obtain⟨a3,b3,d3⟩:=r3
    clear hi hg k1 k2 k3 k4 k5
    unfold df RS.or at *
    dsimp only at cm ⊢
    cases b3 with
    | true =>
     rw [Bool.true_or]
     repeat' (first|(apply ay;first|refine bH ?_|(refine aK ?_ ?_<;>intro hG<;>(try cases hG))|refine ak ?_|refine ai ?_|refine bf ?_|refine aI ?_|refine aF 0 (cm) ?_|refine bh ?_|refine bI ?_|refine aB ?_|refine au ?_)|refine aj ?_|refine ab ?_|refine aa fun C=>?_|refine ac ?_|refine aE ?_|refine ar rfl ?_)
     exact rtq4
    | false =>
     rw [Bool.false_or]
     by_cases h0:0≤m
     ·rw [decide_eq_true h0,Bool.true_and]
      by_cases hn:(l.length:Int)=m
      ·rw [decide_eq_false (by simpa using hn)]
       have hne:((l.length:Int) != m)=false:=by simpa using hn
       repeat' (first|(apply ay;first|refine bH ?_|(refine aK ?_ ?_<;>intro hG<;>(try cases hG))|refine ak ?_|refine ai ?_|refine bf ?_|refine aI ?_|refine aF 0 (cm) ?_|refine cJ ?_|refine bh ?_|refine aN ?_|refine bX ?_|refine bI ?_|refine aB ?_|refine au ?_)|refine aj ?_|refine ab ?_|refine aa fun C=>?_|refine ac ?_|refine aE ?_|refine ar rfl ?_)
       ·refine am ?_;refine dO rfl (jg (bE rfl rfl rfl cls0 aQ)) rfl clsR rfl ⟨?_,?_⟩
        ·rfl
        ·rw [hne];rfl
       ·exfalso;simp only [dqn] at hG;exact hG h0
      ·rw [decide_eq_true hn]
       have hne:((l.length:Int) != m)=true:=by simpa using hn
       repeat' (first|(apply ay;first|refine bH ?_|(refine aK ?_ ?_<;>intro hG<;>(try cases hG))|refine ak ?_|refine ai ?_|refine bf ?_|refine aI ?_|refine aF 0 (cm) ?_|refine cJ ?_|refine bh ?_|refine aN ?_|refine bX ?_|refine bI ?_|refine aB ?_|refine au ?_)|refine aj ?_|refine ab ?_|refine aa fun C=>?_|refine ac ?_|refine aE ?_|refine ar rfl ?_)
       ·refine am ?_;refine dO rfl (jg (bE rfl rfl rfl cls0 aQ)) rfl clsR rfl ⟨?_,?_⟩
        ·rfl
        ·rw [hne];rfl
       ·exfalso;simp only [dqn] at hG;exact hG h0
     ·rw [decide_eq_false h0,Bool.false_and]
      repeat' (first|(apply ay;first|refine bH ?_|(refine aK ?_ ?_<;>intro hG<;>(try cases hG))|refine ak ?_|refine ai ?_|refine bf ?_|refine aI ?_|refine aF 0 (cm) ?_|refine cJ ?_|refine bh ?_|refine aN ?_|refine bX ?_|refine bI ?_|refine aB ?_|refine au ?_)|refine aj ?_|refine ab ?_|refine aa fun C=>?_|refine ac ?_|refine aE ?_|refine ar rfl ?_)
      ·exfalso;simp only [dqt] at hG;exact h0 hG
      ·exact rtq4
   | false =>
    have hd1:=k8 rfl
    subst hd1
    obtain⟨M,rfl⟩:∃M,N=M+1:=⟨N-1,omq⟩
    have hgd:=hg ⟨a,false,r1.d⟩ k1
    have hic:=hi ⟨a,false,r1.d⟩ k1 (by dsimp only;omega) hf1 (by dsimp only;omega)
    have hst:im L g (M+1) l ⟨a,false,r1.d⟩=if (isS L (g ⟨a,false,r1.d⟩).2 5 ⟨#[44]⟩).1=true then im L g M (l++[(g ⟨a,false,r1.d⟩).1]) (isS L (g ⟨a,false,r1.d⟩).2 5 ⟨#[44]⟩).2 else (l++[(g ⟨a,false,r1.d⟩).1],(g ⟨a,false,r1.d⟩).2):=by
     conv=>lhs;unfold im
     rw [if_neg (by simp)]
    rw [hst] at k7
    clear hst k2 k3 hi hg
    generalize g ⟨a,false,r1.d⟩=x1 at *
    obtain⟨e,q2⟩:=x1
    dsimp only at hgd hic k7
    have hn:=hgd.n
    have hfe:=hgd.fine
    clear hgd
    dsimp only at hn
    have c3:=nf hL (r:=q2) 5 ⟨#[44]⟩
    have hi3:=is_f L q2 5 ⟨#[44]⟩
    obtain⟨⟨ag,q3⟩,hq3⟩:∃x,isS L q2 5 ⟨#[44]⟩=x:=⟨_,rfl⟩
    rw [hq3] at c3 hi3 k7
    dsimp only at c3 hi3 k7
    have bq:=ed q2.b
    cases hfe with
    | mk k n s w hk hn0 hs hw =>
    have hex:∃k',k'=M:=⟨M,rfl⟩
    have hinv:q3.a≤L.length∧(ag=true→L.length+1≤q3.a+M∧im L g M (l++[xE k n s w]) q3=tot∧(q3.b=false→q3.d=r1.d)∧(l++[xE k n s w]).length≤q3.a)∧(ag=false→(l++[xE k n s w],q3)=tot)∧(l++[xE k n s w]).length≤q3.a+1∧r1.d≤q3.d:=by
     cases ag with
     | true =>
      have h4:=hi3.1 rfl
      rw [if_pos rfl] at k7
      refine⟨omq,fun _=>⟨omq,k7,fun _=>by omega,by rw [lla,List.length_singleton];omega⟩,(fun h=>by cases h),?_,omq⟩
      rw [lla,List.length_singleton]
      omega
     | false =>
      have h4:=hi3.2.1 rfl
      rw [if_neg (by simp)] at k7
      subst h4
      refine⟨omq,(fun h=>by cases h),fun _=>k7,?_,omq⟩
      rw [lla,List.length_singleton]
      omega
    clear k7 hi3 hq3 hn bq
    unfold df at hic c3 ⊢
    dsimp only at hic c3 ⊢
    repeat' (first|(apply ay;first|(refine aK ?_ ?_<;>intro hG<;>(try cases hG))|refine ak ?_|refine ai ?_|refine bf ?_|refine aI ?_|refine aF 0 (hic) ?_|refine aF 0 (c3) ?_|refine dz ?_|refine bI ?_|refine aB ?_|refine dT ?_|refine au ?_)|refine aj ?_|refine ab ?_|refine aa fun C=>?_|refine ac ?_|refine ah ?_|refine al ?_|refine aq rfl ?_)
    refine⟨M,(l++[xE k n s w],q3,ag),omq,hinv,?_⟩
    dsimp only
    rw [lla,List.length_singleton]
    refine (dU (i:=36) (j:=3500) rfl rfl rfl (pre:=owL l++[.v (.int .i64 k),.v (.int .i64 n),.v (.string s)]) (post:=[]) (by rw [List.append_assoc];rfl)).trans ?_
    (refine eL (fun j=>if j=9 then 36 else j) _ _ rfl rfl ?_ ?_<;>(repeat' (first|exact TmOk.nil|exact RwOk.nil|refine TmOk.cons ?_ ?_|refine RwOk.cons ?_ ?_|rfl|exact fH rfl rfl (tf _ _)|exact fH rfl rfl cA|exact fH rfl rfl (pX _ _)|exact fH rfl rfl eC|(refine rnV_id' rfl ?_;exact byc)|(refine cK ?_;first|rfl|omega|(rw [bB omq omq];omega))|(refine bg rfl ?_;exact byc)|exact dP rfl rfl|(refine rw_mid rqf rqf ?_ ?_<;>exact byc)|(refine rw_rn' rfl rfl ?_;simp;done))))
    exact fH (r:=⟨26,4,l.length+1,false,(owL l++[.v (.int .i64 k),.v (.int .i64 n),.v (.string s)])++[.ow 26 w.length 4 (owL w)]⟩) rfl (by rw [fG,List.append_assoc];rfl) (by first|rfl|(simp [oS,bu,clo,bk,aM,bl,a8,aZ];done))
end Go.Proofs.YtomolhbkdhjofaaGreatDoor
