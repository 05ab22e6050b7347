/- T -/
import Derived.MapKept
import Derived.Test.YtomolhbkdhjofaaGreatDoorParXAG
set_option maxHeartbeats 0
set_option maxRecDepth 100000
namespace Go.Proofs.YtomolhbkdhjofaaGreatDoor
open Go.RowKit Go.Proofs.Tryz
theorem xB {s:ByteArray}{a:Nat}{rex:Bool}(ha:a<s.size)(h:(dQ s a rex).ok=true):good rex ((dQ s a rex).k,(dQ s a rex).n,(dQ s a rex).s):=by
 refine⟨h,fun h4=>?_,fun h5 hs=>?_⟩
 ·dsimp only at h4
  have hq3:(jY s a 3).k=4→False:=fun h=>by
   unfold jY at h
   split at h<;>(dsimp only at h;omega)
  unfold dQ at h4
  split at h4
  ·(dsimp only at h4;omega)
  ·split at h4
   ·(dsimp only at h4;omega)
   ·split at h4
    ·exact (hq3 h4).elim
    ·split at h4
     ·rename_i hh;exact hh.2
     ·split at h4<;>(dsimp only at h4;omega)
 ·dsimp only at h5 hs
  have hq:∀k:Int,k≠5→(jY s a k).k=5→False:=fun k hk h=>by
   unfold jY at h
   split at h
   ·(dsimp only at h;omega)
   ·exact hk h
  unfold dQ at h5 hs
  split at h5
  ·(dsimp only at h5;omega)
  ·rename_i n1
   rw [if_neg n1] at hs
   split at h5
   ·(dsimp only at h5;omega)
   ·rename_i n2
    rw [if_neg n2] at hs
    split at h5
    ·exact (hq 3 (by decide) h5).elim
    ·rename_i n3
     rw [if_neg n3] at hs
     split at h5
     ·exact (hq 4 (by decide) h5).elim
     ·rename_i n4
      rw [if_neg n4] at hs
      split at hs
      ·rename_i hh
       have hz:=bO (s:=s) (a:=a) (b:=a+2) omq omq
       have hs':bk s a (a+2)=⟨#[47]⟩:=hs
       rw [hs'] at hz
       have:(⟨#[47]⟩:ByteArray).size=1:=rfl
       omega
      ·have hs':bk s a (a+1)=⟨#[47]⟩:=hs
       have e:=dB (s:=s) (a:=a) (b:=a+1) (j:=0) omq omq
       rw [hs'] at e
       have e':bAt s a=47:=e.symm
       cases rex with
       | false=>rfl
       | true=>exact absurd ⟨e',rfl⟩ n4
theorem pB {s:ByteArray}:∀(f a:Nat) (rex:Bool) (out:List T3),ch false out rex→out.length≤2000 →
 ∃(l:List T3) (r':Bool),(qr s f a rex (out.map T3.E)).1=l.map T3.E∧ch false l r'∧l.length≤2000∧(((qr s f a rex (out.map T3.E)).2 = -1)∨(0≤(qr s f a rex (out.map T3.E)).2∧(qr s f a rex (out.map T3.E)).2<s.size∧l=[]))
 | 0,a,rex,out,hc,hl=>⟨out,rex,rfl,hc,hl,.inl rfl⟩
 | f+1,a,rex,out,hc,hl=>by
  unfold qr
  split
  ·rename_i ha
   split
   ·rename_i hh
    have hg:=xB ha hh.1
    have hm:=hh.2
    rw [List.length_map] at hm
    have:=pB (s:=s) f (fF s (s.size+1) (dQ s a rex).e) (ou (dQ s a rex).k (dQ s a rex).s) (out++[((dQ s a rex).k,(dQ s a rex).n,(dQ s a rex).s)]) (vZ hc hg) (by rw [List.length_append,List.length_singleton];omega)
    rw [List.map_append] at this
    exact this
   ·exact⟨[],false,rfl,rfl,Nat.zero_le _,.inr ⟨Int.natCast_nonneg _,by show (a:Int)<_;omega,rfl⟩⟩
  ·exact⟨out,rex,rfl,hc,hl,.inl rfl⟩
theorem pC (s:ByteArray):∃(l:List T3) (r':Bool),(iq s).1=l.map T3.E∧ch false l r'∧l.length≤2000∧((iq s).2 = -1∨(0≤(iq s).2∧(iq s).2<s.size∧l=[])) :=
 pB (s:=s) (s.size+1) (er s 0) false [] rfl (Nat.zero_le _)
theorem sD {k n:Int}{s:ByteArray}(h:bP k n s=true):s.size≤200∧0≤n∧n≤2147483647∧1≤k∧k≤5:=by
 unfold bP at h
 split at h
 ·simp only [Bool.and_eq_true,decide_eq_true_iff] at h;omega
 ·split at h
  ·simp only [dD,Bool.and_eq_true,decide_eq_true_iff] at h;omega
  ·split at h
   ·simp only [dj,Bool.and_eq_true,decide_eq_true_iff] at h;omega
   ·split at h
    ·simp only [dj,Bool.and_eq_true,decide_eq_true_iff] at h;omega
    ·split at h
     ·simp only [Bool.and_eq_true,decide_eq_true_iff] at h
      have h2:s.size≤2:=by
       have:=h.1
       simp only [dY,Bool.or_eq_true,Bool.and_eq_true,decide_eq_true_iff] at this
       omega
      omega
     ·cases h
theorem sE {x:Int}(h0 : -9223372036854775808≤x)(h1:x≤9223372036854775807):(Lit.int .i64 x).wf=true:=by
 have e1:IntKind.i64.min = -9223372036854775808:=by decide
 have e2:IntKind.i64.max=9223372036854775807:=by decide
 simp only [Lit.wf,Bool.and_eq_true,decide_eq_true_iff]
 rw [e1,e2]
 omega
theorem T3.Ty {t:T3}(h:bP t.1 t.2.1 t.2.2=true):t.E.Ty prog 63:=by
 have:=sD h
 refine E.Ty.mk_agg underlying63 (E.TyF.mk_cons ?_ (E.TyF.mk_cons ?_ (E.TyF.mk_cons ?_ E.TyF.mk_nil)))
 ·simp only [E.Ty];exact⟨underlying3,sE omq omq⟩
 ·simp only [E.Ty];exact⟨underlying3,sE omq omq⟩
 ·simp only [E.Ty];exact⟨underlying9,by unfold maxLen;omega⟩
def unT:E→T3
 | .agg [.int _ k,.int _ n,.str s]=>(k,n,s)
 | _=>(0,0,ByteArray.empty)
theorem unT_E (t:T3):unT t.E=t:=rfl
theorem od:∀l:List T3,(l.map T3.E).map unT=l
 | []=>rfl
 | t :: l=>by rw [List.map_cons,List.map_cons,od l,unT_E]
def gx (s:ByteArray):List T3:=(iq s).1.map unT
theorem db (s:ByteArray):okL (gx s)∧(iq s).1=(gx s).map T3.E:=by
 obtain⟨l,r',e,hc,-,-⟩:=pC s
 unfold gx
 rw [e,od]
 exact⟨v6 hc,rfl⟩
def rdS (s:ByteArray):E×RS:=exS (gx s) 21 ⟨0,false,0⟩
def rdI (s:ByteArray):E×RI:=exI (gx s) ((gx s).length+12) ⟨0,false⟩
def acS (s:ByteArray):Prop:=(iq s).2 = -1∧(rdS s).2.b=false∧(rdS s).2.a=(gx s).length∧fx (rdS s).1=true
def acI (s:ByteArray):Prop:=(rdI s).2.b=false∧fx (rdI s).1=true∧(iq (txE (rdI s).1)).2 = -1∧(iq s).2 = -1∧(iq (txE (rdI s).1)).1=(iq s).1
theorem xC {s:ByteArray}{e:E}(hb:fx e=true)(h:gx s=tkE e):rdS s=(ij e,⟨(gx s).length,false,0⟩)∧rdI s=(ij e,⟨(gx s).length,false⟩):=by
 have hok:=n8 hb
 have hc:kC 100 dv 10 e≤100:=by
  unfold fx at hb
  rw [Bool.and_eq_true,decide_eq_true_iff] at hb
  exact hb.1
 have h0:(gx s).drop 0=tkE e++[]:=by rw [List.drop_zero,List.append_nil];exact h
 constructor
 ·have:=sB (L:=gx s) 10 e hc hok 21 omq 0 omq ⟨0,false,0⟩ [] rfl rfl h0 (fun t r h=>by cases h)
  unfold rdS
  rw [this,←h]
  simp
 ·have:=sC (db s).1 10 e hc hok ((gx s).length+12) omq 0 [] h0 (fun t r h=>by cases h)
  unfold rdI
  rw [this,←h]
  simp
theorem zj2:∀{l m:List T3},l.map T3.E=m.map T3.E→l=m:=fun {l m} h=>by
 have:=congrArg (List.map unT) h
 rwa [od,od] at this
theorem pD (s:ByteArray):(acI s↔acS s)∧(acI s→(rdI s).1=(rdS s).1):=by
 have toS:acI s→acS s∧(rdI s).1=(rdS s).1:=fun ⟨h1,h2,h3,h4,h5⟩=>by
  obtain⟨q1,-⟩:=ze2 h2
  rw [q1,(db s).2] at h5
  have hL:gx s=tkE (rdI s).1:=(zj2 h5).symm
  obtain⟨r1,r2⟩:=xC h2 hL
  have e:(rdI s).1=(rdS s).1:=by
   have a1:=congrArg Prod.fst r1
   have a2:=congrArg Prod.fst r2
   exact a2.trans a1.symm
  refine⟨⟨h4,by rw [r1],by rw [r1],?_⟩,e⟩
  rw [←e];exact h2
 have toI:acS s→acI s:=fun ⟨h1,h2,h3,h4⟩=>by
  have hL:gx s=tkE (rdS s).1:=zp5 (db s).1 h2 h3
  obtain⟨r1,r2⟩:=xC h4 hL
  have e:(rdI s).1=(rdS s).1:=by
   have a1:=congrArg Prod.fst r1
   have a2:=congrArg Prod.fst r2
   exact a2.trans a1.symm
  obtain⟨q1,-⟩:=ze2 h4
  refine⟨by rw [r2],by rw [e];exact h4,by rw [e,q1],h1,?_⟩
  rw [e,q1,(db s).2,hL]
 exact⟨⟨fun h=>(toS h).1,toI⟩,fun h=>(toS h).2⟩
inductive FnX:E→Prop
 | mk (k n:Int) (s:ByteArray) (l:List E) (hk:0≤k∧k≤18) (hn:0≤n∧n≤2147483647) (hs:s.size≤200) (hl:∀y∈l,FnX y):FnX (xE k n s l)
theorem gy (k n:Int)(s:ByteArray)(l:List E):(xE k n s l).sz=s.size+(l.length+E.szL l):=by
 unfold xE
 simp only [E.sz,E.szL]
 omega
theorem pE (x:E):E.szL [x]=x.sz:=by simp only [E.szL];omega
theorem z8 (x y:E):E.szL [x,y]=x.sz+y.sz:=by simp only [E.szL];omega
theorem FnX.zero:FnX zE:=.mk 0 0 ByteArray.empty [] omq omq (by decide) (fun _ h=>absurd h List.not_mem_nil)
theorem FnX.one {k:Int}{s:ByteArray}{x:E}(hk:0≤k∧k≤18)(hs:s.size≤200)(hx:FnX x):FnX (xE k 0 s [x]):=.mk k 0 s [x] hk omq hs fun y hy=>by obtain rfl:=List.mem_singleton.1 hy;exact hx
theorem FnX.two {k:Int}{s:ByteArray}{x y:E}(hk:0≤k∧k≤18)(hs:s.size≤200)(hx:FnX x)(hy:FnX y):FnX (xE k 0 s [x,y]):=.mk k 0 s [x,y] hk omq hs fun z hz=>by
 rcases List.mem_cons.1 hz with rfl|hz
 ·exact hx
 ·obtain rfl:=List.mem_singleton.1 hz;exact hy
theorem FnX.none_ {k n:Int}{s:ByteArray}(hk:0≤k∧k≤18)(hn:0≤n∧n≤2147483647)(hs:s.size≤200):FnX (xE k n s []):=.mk k n s [] hk hn hs (fun _ h=>absurd h List.not_mem_nil)
theorem FnX.ty {e:E}(h:FnX e):e.Ty prog 26∧e.enc.length=4:=by
 induction h with
 | mk k n s l hk hn hs hl ih =>
  refine⟨?_,rfl⟩
  unfold xE
  refine E.Ty.mk_agg underlying26 (E.TyF.mk_cons ?_ (E.TyF.mk_cons ?_ (E.TyF.mk_cons (by simp only [E.Ty];exact⟨underlying9,by unfold maxLen;omega⟩) (E.TyF.mk_cons (E.Ty.mk_lst underlying24 (by kernel_rfl) (fun y hy=>(ih y hy).1) (fun y hy=>(ih y hy).2)) E.TyF.mk_nil))))
  ·simp only [E.Ty];exact⟨underlying3,sE omq omq⟩
  ·simp only [E.Ty];exact⟨underlying3,sE omq omq⟩
section
variable {L:List T3}
theorem sF (hL:okL L)(a:Nat):(tAt L a).2.2.size≤200∧0≤(tAt L a).2.1∧(tAt L a).2.1≤2147483647∧0≤(tAt L a).1∧(tAt L a).1≤5:=by
 by_cases h:a<L.length
 ·have:=sD (sx hL h)
  omega
 ·have e:tAt L a=(0,0,ByteArray.empty):=by
   unfold tAt
   rw [List.getD_eq_getElem?_getD,List.getElem?_eq_none omq];rfl
  rw [e]
  refine⟨?_,?_,?_,?_,?_⟩<;>decide
theorem qW {a:Nat}(h:(tAt L a).1≠0):a<L.length:=Classical.byContradiction fun q=>h (by
 unfold tAt
 rw [List.getD_eq_getElem?_getD,List.getElem?_eq_none omq];rfl)
theorem dJ (b:Bool):b.toNat≤1:=by cases b<;>decide
theorem lV {r:RI}{j:Nat}{s:ByteArray}(h:isI L r j s=true):r.a+j<L.length:=qW (L:=L) (a:=r.a+j) fun h0=>by
 unfold isI at h
 rw [h0] at h
 revert h
 simp
theorem ox (L:List T3)(r:RI)(s:ByteArray):(waI L r s).a=r.a+1∧((waI L r s).b.toNat=0→r.b.toNat=0∧r.a<L.length):=by
 refine⟨rfl,fun h=>?_⟩
 unfold waI at h
 cases hb:r.b with
 | true=>rw [hb] at h;simp at h
 | false =>
  rw [hb] at h
  cases hi:isI L r 0 s with
  | true=>exact⟨rfl,lV hi⟩
  | false=>rw [hi] at h;simp at h
theorem ta_f (hL:okL L)(r:RI){k:Int}(hk:k≠0):(taI L r k).2.a=r.a+1∧((taI L r k).2.b.toNat=0→r.b.toNat=0∧r.a<L.length)∧(taI L r k).1.2.2.size≤200:=by
 refine⟨rfl,fun h=>?_,(sF hL r.a).1⟩
 unfold taI at h
 cases hb:r.b with
 | true=>rw [hb] at h;simp at h
 | false =>
  rw [hb] at h
  by_cases h1:(tAt L r.a).1=k
  ·exact⟨rfl,qW (by rw [h1];exact hk)⟩
  ·simp [h1] at h
structure PI (L:List T3)(f:Nat)(r:RI)(e:E)(r':RI):Prop where
 fine:FnX e
 n:r.a≤r'.a∧r'.a≤max r.a L.length+6*f∧(r'.b.toNat=0→r'.a≤L.length∧r.b.toNat=0∧e.sz+1≤250*(r'.a-r.a))∧(r.b.toNat=1→r'.a=r.a∧r'.b.toNat=1)
def TI (L:List T3)(r:RI):Prop:=r.b.toNat=0→r.a≤L.length
def GI (L:List T3)(f:Nat)(g:RI→E×RI):Prop:=∀r,TI L r→PI L f r (g r).1 (g r).2
variable {g:RI→E×RI}{f:Nat}
structure PL (L:List T3)(f:Nat)(r:RI)(l l':List E)(r':RI):Prop where
 fine:∀y∈l',FnX y
 n:r.a≤r'.a∧r'.a≤max r.a L.length+6*f+1∧(r'.b.toNat=0→r'.a≤L.length∧r.b.toNat=0∧E.szL l'+l'.length≤E.szL l+l.length+250*(r'.a-r.a))∧(r.b.toNat=1→r'.a=r.a∧r'.b.toNat=1)
theorem ls_PL (hg:GI L f g)(en:ByteArray):∀(n:Nat) (l:List E) (r:RI),TI L r→(∀y∈l,FnX y)→PL L f r l (lsI L g en n l r).1 (lsI L g en n l r).2
 | 0,l,r,ht,hl=>⟨hl,by unfold TI at ht;have:=dJ r.b;show r.a≤r.a∧_;unfold lsI;dsimp only;omega⟩
 | n+1,l,r,ht,hl=>by
  unfold lsI
  by_cases hc:r.b=true∨isI L r 0 en=true
  ·rw [if_pos hc]
   exact⟨hl,by unfold TI at ht;have:=dJ r.b;dsimp only;omega⟩
  ·rw [if_neg hc]
   have hb:r.b.toNat=0:=by
    have:r.b=false:=by cases h:r.b with
     | false=>rfl
     | true=>exact absurd (.inl h) hc
    rw [this];rfl
   obtain⟨q,hq⟩:∃q,q=(if l=[] then r else waI L r ⟨#[44]⟩):=⟨_,rfl⟩
   rw [←hq]
   have hra:=ht hb
   have hqf:(q.a=r.a∧q.b.toNat=0)∨(q.a=r.a+1∧(q.b.toNat=0→r.a<L.length)):=by
    by_cases h0:l=[]
    ·rw [if_pos h0] at hq;subst hq;exact .inl ⟨rfl,hb⟩
    ·rw [if_neg h0] at hq;subst hq
     have:=ox L r ⟨#[44]⟩
     exact .inr ⟨this.1,fun h=>(this.2 h).2⟩
   have hG:=hg q (fun h=>by omega)
   have hT2:TI L (g q).2:=fun h=>(hG.n.2.2.1 h).1
   have ih:=ls_PL hg en n (l++[(g q).1]) (g q).2 hT2 (fun y hy=>by
    rcases List.mem_append.1 hy with hy|hy
    ·exact hl y hy
    ·obtain rfl:=List.mem_singleton.1 hy;exact hG.fine)
   refine⟨ih.fine,?_⟩
   have h1:=ih.n
   have h2:=hG.n
   rw [fP,List.length_append,List.length_singleton] at h1
   have:=dJ q.b;have:=dJ (g q).2.b;have:=dJ (lsI L g en n (l++[(g q).1]) (g q).2).2.b
   omega
theorem zt7 (hg:GI L f g)(en:ByteArray)(r:RI)(ht:TI L r):(∀y∈(ov L g en r).1,FnX y)∧(r.a+1≤(ov L g en r).2.a∧(ov L g en r).2.a≤max r.a L.length+6*f+2∧((ov L g en r).2.b.toNat=0→(ov L g en r).2.a≤L.length∧r.b.toNat=0∧E.szL (ov L g en r).1+(ov L g en r).1.length≤250*((ov L g en r).2.a-r.a-1))):=by
 have h:=ls_PL hg en (L.length+2) [] r ht (fun _ h=>absurd h List.not_mem_nil)
 have h1:=h.n
 have hw:=ox L (lsI L g en (L.length+2) [] r).2 en
 unfold ov
 dsimp only
 refine⟨h.fine,?_⟩
 simp only [E.szL,List.length_nil] at h1
 omega
theorem pF (hg:GI L f g){k:Int}(hk:0≤k∧k≤18){s:ByteArray}(hs:s.size≤200){r:RI}(hb:r.b.toNat=0)(hr:r.a<L.length):PI L (f+1) r (kI L g k s r).1 (kI L g k s r).2:=by
 have hw:=ox L r.up ⟨#[40]⟩
 have hu:r.up.a=r.a+1∧r.up.b.toNat=r.b.toNat:=⟨rfl,rfl⟩
 have h:=zt7 hg ⟨#[41]⟩ (waI L r.up ⟨#[40]⟩) (fun h=>by have:=hw.2 h;omega)
 unfold kI
 refine⟨.mk _ _ _ _ hk omq hs h.1,?_⟩
 dsimp only
 rw [gy]
 have h2:=h.2
 omega
theorem zt5 (hL:okL L)(hg:GI L f g){r0:RI}(hb:r0.b.toNat=0)(hr:r0.a<L.length):PI L (f+1) r0 (pA L g r0.up).1 (pA L g r0.up).2:=by
 have hu:r0.up.a=r0.a+1∧r0.up.b.toNat=r0.b.toNat:=⟨rfl,rfl⟩
 unfold pA
 dsimp only
 have w1:=ox L r0.up ⟨#[40]⟩
 generalize waI L r0.up ⟨#[40]⟩=r1 at *
 have g1:=hg r1 (fun h=>by have:=w1.2 h;omega)
 have n1:=g1.n
 generalize g r1=x1 at *
 have w2:=ox L x1.2 ⟨#[126]⟩
 generalize waI L x1.2 ⟨#[126]⟩=r2 at *
 have t3:=ta_f hL r2 (k:=4) (by decide)
 generalize taI L r2 4=x3 at *
 have w4:=ox L x3.2 ⟨#[44]⟩
 generalize waI L x3.2 ⟨#[44]⟩=r4 at *
 have g5:=hg r4 (fun h=>by have:=w4.2 h;omega)
 have n5:=g5.n
 generalize g r4=x5 at *
 have w6:=ox L x5.2 ⟨#[41]⟩
 generalize waI L x5.2 ⟨#[41]⟩=r6 at *
 refine⟨.two omq t3.2.2 g1.fine g5.fine,?_⟩
 rw [gy,z8]
 simp only [List.length_cons,List.length_nil]
 have:=dJ r1.b;have:=dJ r2.b;have:=dJ r4.b;have:=dJ r6.b;have:=dJ x1.2.b;have:=dJ x3.2.b;have:=dJ x5.2.b
 omega
theorem en_PI (hL:okL L)(hg:GI L f g){r0:RI}(hb:r0.b.toNat=0)(hr:r0.a<L.length):PI L (f+1) r0 (enI L g r0).1 (enI L g r0).2:=by
 unfold enI
 have w1:=ox L r0 ⟨#[40]⟩
 generalize waI L r0 ⟨#[40]⟩=r1 at *
 have g1:=hg r1 (fun h=>by have:=w1.2 h;omega)
 have n1:=g1.n
 generalize g r1=x1 at *
 have hu:x1.2.up.a=x1.2.a+1∧x1.2.up.b.toNat=x1.2.b.toNat:=⟨rfl,rfl⟩
 by_cases c1:isI L x1.2 0 ⟨#[105,110]⟩=true
 ·have i1:=lV c1
  rw [if_pos c1]
  dsimp only
  have t3:=ta_f hL x1.2.up (k:=2) (by decide)
  generalize taI L x1.2.up 2=x3 at *
  have w6:=ox L x3.2 ⟨#[41]⟩
  generalize waI L x3.2 ⟨#[41]⟩=r6 at *
  refine⟨.one omq t3.2.2 g1.fine,?_⟩
  rw [gy,pE]
  simp only [List.length_cons,List.length_nil]
  have:=dJ r1.b;have:=dJ r6.b;have:=dJ x1.2.b;have:=dJ x3.2.b
  omega
 ·rw [if_neg c1]
  by_cases c2:isI L x1.2 0 ⟨#[126]⟩=true
  ·have i1:=lV c2
   rw [if_pos c2]
   dsimp only
   have t3:=ta_f hL x1.2.up (k:=4) (by decide)
   generalize taI L x1.2.up 4=x3 at *
   have w6:=ox L x3.2 ⟨#[41]⟩
   generalize waI L x3.2 ⟨#[41]⟩=r6 at *
   refine⟨.one omq t3.2.2 g1.fine,?_⟩
   rw [gy,pE]
   simp only [List.length_cons,List.length_nil]
   have:=dJ r1.b;have:=dJ r6.b;have:=dJ x1.2.b;have:=dJ x3.2.b
   omega
  ·rw [if_neg c2]
   dsimp only
   have t3:=ta_f hL x1.2 (k:=5) (by decide)
   generalize taI L x1.2 5=x3 at *
   have g5:=hg x3.2 (fun h=>by have:=t3.2.1 h;omega)
   have n5:=g5.n
   generalize g x3.2=x5 at *
   have w6:=ox L x5.2 ⟨#[41]⟩
   generalize waI L x5.2 ⟨#[41]⟩=r6 at *
   refine⟨.two omq t3.2.2 g1.fine g5.fine,?_⟩
   rw [gy,z8]
   simp only [List.length_cons,List.length_nil]
   have:=dJ r1.b;have:=dJ r6.b;have:=dJ x1.2.b;have:=dJ x3.2.b;have:=dJ x5.2.b
   omega
theorem at_PI (hg:GI L f g){s:ByteArray}(hs:s.size≤200){r:RI}(hb:r.b.toNat=0)(hr:r.a+1<L.length):PI L (f+1) r (xE 4 0 s [(g r.up.up).1]) (waI L (g r.up.up).2 ⟨#[93]⟩):=by
 have hu:r.up.up.a=r.a+2∧r.up.up.b.toNat=r.b.toNat:=⟨rfl,rfl⟩
 have g1:=hg r.up.up (fun h=>by omega)
 have n1:=g1.n
 generalize g r.up.up=x1 at *
 have w6:=ox L x1.2 ⟨#[93]⟩
 generalize waI L x1.2 ⟨#[93]⟩=r6 at *
 refine⟨.one omq hs g1.fine,?_⟩
 rw [gy,pE]
 simp only [List.length_cons,List.length_nil]
 have:=dJ r6.b;have:=dJ x1.2.b
 omega
theorem lW {k n:Int}(hk:0≤k∧k≤18)(hn:0≤n∧n≤2147483647){s:ByteArray}(hs:s.size≤200){r:RI}(hb:r.b.toNat=0)(hr:r.a<L.length):PI L (f+1) r (xE k n s []) r.up:=by
 have hu:r.up.a=r.a+1∧r.up.b.toNat=r.b.toNat:=⟨rfl,rfl⟩
 refine⟨.none_ hk hn hs,?_⟩
 rw [gy]
 simp only [List.length_nil,E.szL]
 omega
theorem xD (hL:okL L)(hg:GI L f g){s:ByteArray}(hs:s.size≤200){r:RI}(hb:r.b.toNat=0)(hr:r.a<L.length):PI L (f+1) r (cC L g s r).1 (cC L g s r).2:=by
 unfold cC
 have he:ByteArray.empty.size≤200:=by decide
 split
 ·exact pF hg omq he hb hr
 split
 ·exact pF hg omq he hb hr
 split
 ·exact pF hg omq he hb hr
 split
 ·exact pF hg omq he hb hr
 split
 ·exact lW omq omq he hb hr
 split
 ·exact lW omq omq he hb hr
 split
 ·exact zt5 hL hg hb hr
 split
 ·exact pF hg omq hs hb hr
 split
 ·rename_i h
  exact at_PI hg hs hb (lV h)
 ·exact lW omq omq hs hb hr
theorem zaQ (s:ByteArray):0≤gf s∧gf s≤8:=by
 unfold gf
 split
 ·omega
 split
 ·omega
 split<;>omega
theorem pa_PI (hL:okL L)(hg:GI L f g){r:RI}(hb:r.b.toNat=0)(ht:TI L r):PI L (f+1) r (paI L g r).1 (paI L g r).2:=by
 have hz:=sF hL r.a
 have he:ByteArray.empty.size≤200:=by decide
 unfold paI
 split
 ·rename_i h
  exact lW omq ⟨hz.2.1,hz.2.2.1⟩ he hb (qW (by rw [h];decide))
 split
 ·rename_i h
  exact lW omq omq hz.1 hb (qW (by rw [h];decide))
 split
 ·rename_i h
  exact xD hL hg hz.1 hb (qW (by rw [h];decide))
 split
 ·rename_i h
  exact en_PI hL hg hb (lV h)
 split
 ·rename_i h
  have hr:r.a<L.length:=qW (by rw [h.1];decide)
  have hu:r.up.a=r.a+1∧r.up.b.toNat=r.b.toNat:=⟨rfl,rfl⟩
  have g1:=hg r.up (fun h=>by omega)
  have n1:=g1.n
  have hk:=zaQ (tAt L r.a).2.2
  refine⟨.one omq he g1.fine,?_⟩
  dsimp only
  rw [gy,pE]
  simp only [List.length_cons,List.length_nil]
  have e0:ByteArray.empty.size=0:=rfl
  have:=dJ (g r.up).2.b
  omega
 ·refine⟨.zero,?_⟩
  have h1:(⟨r.a,true⟩:RI).b.toNat=1:=rfl
  have h2:(⟨r.a,true⟩:RI).a=r.a:=rfl
  dsimp only at h1 h2 ⊢
  omega
theorem xF (hL:okL L):∀f:Nat,GI L f (exI L f)
 | 0,r,ht=>by
  refine⟨.zero,?_⟩
  have h1:(exI L 0 r).2.b.toNat=1:=rfl
  have h2:(exI L 0 r).2.a=r.a:=rfl
  omega
 | f+1,r,ht=>by
  have ih:=xF hL f
  unfold exI
  cases hb:r.b with
  | true =>
   rw [if_pos rfl]
   refine⟨.zero,?_⟩
   dsimp only
   rw [hb]
   have:(true).toNat=1:=rfl
   omega
  | false =>
   rw [if_neg (by simp)]
   exact pa_PI hL ih (by rw [hb];rfl) ht
end
def mpK:List (Value×Value):=[(.string ⟨#[36]⟩,.int .i64 5),(.string ⟨#[33]⟩,.int .i64 7),(.string ⟨#[45]⟩,.int .i64 8)]
section
variable {P:Program}{w:World}
theorem qX {mty kt et:TypeId}{r clock:Nat}{s:ByteArray}{val:Value}{es:Array MapEntry}(hm:P.underlying mty=some (.map kt et))(hk:P.underlying kt=some .string)(hb:w.heap[r]? = some (.map es clock))(hf:Instr.findNow .string (.string s) es.toList 0=some none) :
 (Instr.mapUpdate mty (.map (some r)) (.string s) val).run P w=.ok () { w with heap:=w.heap.setIfInBounds r (.map (es.push { key:=.string s,val:=val,born:=clock }) (clock+1)) }:=by
 have hc:(Instr.checkKey false 10000 kt (.string s)).run P w=.ok () w:=MapKept.run_checkKey (k:=.string s) hk (by simp [MapKept.IsKey]) false 9999
 simp [Instr.mapUpdate,run_underlying hm,MapKept.run_getObj_map hb,hc,MapKept.run_findKey hk hf,MapKept.run_setObj_map _ hb,Result.andThen]
theorem zbQ (s:ByteArray){es:List MapEntry}(h:es.map (fun e=>(e.key,e.val))=mpK):(∃j,Instr.findNow .string (.string s) es 0=some (some (j,.int .i64 (gf s)))∧0<gf s)∨(Instr.findNow .string (.string s) es 0=some none∧gf s=0):=by
 unfold mpK at h
 obtain⟨e1,r1,rfl,h1,h⟩:∃e r,es=e :: r∧(e.key,e.val)=((.string ⟨#[36]⟩,.int .i64 5):Value×Value)∧r.map (fun e=>(e.key,e.val))=[(.string ⟨#[33]⟩,.int .i64 7),(.string ⟨#[45]⟩,.int .i64 8)]:=by
  cases es with
  | nil=>cases h
  | cons e r=>rw [List.map_cons,List.cons.injEq] at h;exact⟨e,r,rfl,h.1,h.2⟩
 obtain⟨e2,r2,rfl,h2,h⟩:∃e r,r1=e :: r∧(e.key,e.val)=((.string ⟨#[33]⟩,.int .i64 7):Value×Value)∧r.map (fun e=>(e.key,e.val))=[(.string ⟨#[45]⟩,.int .i64 8)]:=by
  cases r1 with
  | nil=>cases h
  | cons e r=>rw [List.map_cons,List.cons.injEq] at h;exact⟨e,r,rfl,h.1,h.2⟩
 obtain⟨e3,r3,rfl,h3,h⟩:∃e r,r2=e :: r∧(e.key,e.val)=((.string ⟨#[45]⟩,.int .i64 8):Value×Value)∧r.map (fun e=>(e.key,e.val))=[]:=by
  cases r2 with
  | nil=>cases h
  | cons e r=>rw [List.map_cons,List.cons.injEq] at h;exact⟨e,r,rfl,h.1,h.2⟩
 obtain rfl:r3=[]:=List.map_eq_nil_iff.1 h
 obtain⟨k1,v1⟩:=Prod.mk.inj h1
 obtain⟨k2,v2⟩:=Prod.mk.inj h2
 obtain⟨k3,v3⟩:=Prod.mk.inj h3
 unfold gf
 have hb:∀t:ByteArray,(s==t)=decide (s=t):=fun t=>by
  rw [Bool.eq_iff_iff,MapKept.bytes_beq,decide_eq_true_iff]
 simp only [Instr.findNow,Instr.sameNow,k1,k2,k3,v1,v2,v3,hb]
 by_cases h1:s=⟨#[36]⟩
 ·left;refine⟨0,?_,?_⟩
  ·rw [decide_eq_true h1,if_pos h1]
  ·rw [if_pos h1];decide
 by_cases h2:s=⟨#[33]⟩
 ·left;refine⟨1,?_,?_⟩
  ·rw [decide_eq_false h1,decide_eq_true h2,if_neg h1,if_pos h2]
  ·rw [if_neg h1,if_pos h2];decide
 by_cases h3:s=⟨#[45]⟩
 ·left;refine⟨2,?_,?_⟩
  ·rw [decide_eq_false h1,decide_eq_false h2,decide_eq_true h3,if_neg h1,if_neg h2,if_pos h3]
  ·rw [if_neg h1,if_neg h2,if_pos h3];decide
 right
 rw [decide_eq_false h1,decide_eq_false h2,decide_eq_false h3,if_neg h1,if_neg h2,if_neg h3]
 exact⟨rfl,rfl⟩
theorem xG {mty kt et:TypeId}{r ck:Nat}{s:ByteArray}{es:Array MapEntry}(hm:P.underlying mty=some (.map kt et))(hk:P.underlying kt=some .string)(hz:(zeroValue et).run P w=.ok (.int .i64 0) w)(hb:w.heap[r]? = some (.map es ck))(he:es.toList.map (fun e=>(e.key,e.val))=mpK) :
 (Instr.lookup mty (.map (some r)) (.string s) false).run P w=.ok (.int .i64 (gf s)) w:=by
 have hc:(Instr.checkKey es.isEmpty 10000 kt (.string s)).run P w=.ok () w:=MapKept.run_checkKey (k:=.string s) hk (by simp [MapKept.IsKey]) _ 9999
 rcases zbQ s he with ⟨j,hf,-⟩|⟨hf,h0⟩
 ·simp [Instr.lookup,run_underlying hm,MapKept.run_getObj_map hb,hc,MapKept.run_findKey hk hf,Result.andThen]
 ·simp [Instr.lookup,run_underlying hm,MapKept.run_getObj_map hb,hc,MapKept.run_findKey hk hf,hz,h0,Result.andThen]
end
section
variable {C:Ctx}{φ:Nat→Lc}{F:Nat→List Nat}{St:Nat→Prop}{σ:AS}{a:Act}{w w':World}
theorem SimF.keepNew (h:SimF C φ F St σ a w)(hs:Stp none w w'):SimF C φ F (fun b=>St b∨b=w.heap.size) σ a w':=by
 have h':=h.keep hs
 have hS:∀b,St b→b<w'.heap.size→(St b∨b=w.heap.size)∧w'.heap[b]? = w'.heap[b]? := fun b hb _=>⟨.inl hb,rfl⟩
 have hK:∀i,σ.Kn i→σ.Kn i∧φ i=φ i:=fun i hi=>⟨hi,rfl⟩
 refine⟨h'.dfr,h'.len,fun t=>VR.mono hS (Nat.le_refl _) hK _ _ (h'.tms t),fun i r hi=>⟨(h'.row i r hi).1,(h'.row i r hi).2.mono hS (Nat.le_refl _) hK (fun _ _=>rfl) (fun _ _ _ _ _ hB=>hB)⟩,h'.nod,h'.dis,h'.bxF,h'.bxd,fun i r b hi hb hst=>?_,fun i r b lo hi e hst=>?_,h'.frm,h'.own,h'.par,h'.new,h'.gnN,fun b hst hl=>?_⟩
 ·rcases hst with hst|rfl
  ·exact h.stF i r b hi hb hst
  ·exact absurd ((h.row i r hi).2.lt _ hb) (Nat.lt_irrefl _)
 ·rcases hst with hst|rfl
  ·exact h.stB i r b lo hi e hst
  ·have h1:=(h.row i r hi).2
   rw [e] at h1
   obtain⟨_,us,_,hB⟩:=h1
   exact absurd hB.lt (Nat.lt_irrefl _)
 ·rcases hst with hst|rfl
  ·exact h.stS b hst hl
  ·exact absurd h.frm.size omq
end
theorem lX {P:Program}{ops:Array Oper}{Q:Exit→Act→World→Prop}{i:Nat}{rest:List Nat}{a:Act}{w w':World}{o:Oper}{v:Value}(hop:ops[i]? = some o)(hg:o.guard=none)(hr:(execOp a.eval o).run P w=.ok (.value v) w')(h:wpOps P ops Q rest (a.put o.dst v) w'):wpOps P ops Q (i :: rest) a w:=by
 rw [wpOps_cons]
 unfold wpOp
 rw [hop]
 have:Region.wanted o (yielded ops a.tmps)=true:=by unfold Region.wanted;rw [hg]
 simp only [this,if_true]
 refine .inl ?_
 unfold Oper.wp
 rw [hr]
 exact h
theorem lY {P:Program}{ops:Array Oper}{Q:Exit→Act→World→Prop}{i:Nat}{rest:List Nat}{a:Act}{w w':World}{o:Oper}(hop:ops[i]? = some o)(hg:o.guard=none)(hd:o.dst=none)(hr:(execOp a.eval o).run P w=.ok .skip w')(h:wpOps P ops Q rest a w'):wpOps P ops Q (i :: rest) a w:=by
 rw [wpOps_cons]
 unfold wpOp
 rw [hop]
 have:Region.wanted o (yielded ops a.tmps)=true:=by unfold Region.wanted;rw [hg]
 simp only [this,if_true]
 refine .inl ?_
 unfold Oper.wp
 rw [hr]
 show wpOps P ops Q rest (a.put o.dst undef) w'
 rw [hd]
 exact h
theorem lZ {P:Program}{o:Oper}{a:Act}{w:World}{x:Operand}(ho:o.op=.move x∨o.op=.assign x):(execOp a.eval o).run P w=.ok (.value (a.eval x)) w:=by
 unfold execOp
 rcases ho with ho|ho<;>rw [ho]<;>simp
theorem zu7 {P:Program}{o:Oper}{a:Act}{w:World}{T:TypeId}(ho:o.op=.makeMap T none):(execOp a.eval o).run P w=.ok (.value (.map (some w.heap.size))) (w.alloc (.map #[] 0)):=by
 unfold execOp
 rw [ho]
 simp [Instr.makeMap]
theorem qY {P:Program}{o:Oper}{a:Act}{w:World}{T kt et:TypeId}{r ck:Nat}{m:Operand}{s:ByteArray}{val:Value}{es:Array MapEntry}(ho:o.op=.insert T m (.const (.string s)) (.const val))(hm:P.underlying T=some (.map kt et))(hk:P.underlying kt=some .string)(hv:a.eval m=.map (some r))(hb:w.heap[r]? = some (.map es ck))(hf:Instr.findNow .string (.string s) es.toList 0=some none) :
 (execOp a.eval o).run P w=.ok .skip { w with heap:=w.heap.setIfInBounds r (.map (es.push { key:=.string s,val:=val,born:=ck }) (ck+1)) }:=by
 have h1:=qX (val:=val) hm hk hb hf
 unfold execOp
 rw [ho]
 dsimp only
 rw [hv]
 show ((do Instr.mapUpdate T (.map (some r)) (.string s) val;pure Next.skip:Sem Next)).run P w=_
 simp [Sem.run_bind,h1,Result.andThen]
section
variable {Q:Exit→AS→Prop}{id:Nat}{tm:Nat→AV}{hp:Nat→Option Row}{gn L:Nat}{us:List Nat}
theorem gg {t d1 d2:Nat}{y0 y1 y2 y3 y4 y5:TypeId}{p0 p1 p2 p3 p4 p5:String}{e0 e1 e2 e3 e4 e5:Array Edge}(ht:t<L)(hd1:d1<L)(hd2:d2<L)(h:Q .normal ⟨upd (upd (upd tm t (.c (.mp mpK))) d1 (.c (.mp mpK))) d2 (.c (.mp mpK)),hp,gn,us,L⟩) :
 AWp prog (.region id #[⟨some t,.makeMap 75 none,y0,p0,e0,none⟩,⟨none,.insert 75 (.tmp t) (.const (.string ⟨#[36]⟩)) (.const (.int .i64 5)),y1,p1,e1,none⟩,⟨none,.insert 75 (.tmp t) (.const (.string ⟨#[33]⟩)) (.const (.int .i64 7)),y2,p2,e2,none⟩,⟨none,.insert 75 (.tmp t) (.const (.string ⟨#[45]⟩)) (.const (.int .i64 8)),y3,p3,e3,none⟩,⟨some d1,.move (.tmp t),y4,p4,e4,none⟩,⟨some d2,.assign (.tmp d1),y5,p5,e5,none⟩] false) Q ⟨tm,hp,gn,us,L⟩:=fun C a w hs=>by
 obtain⟨φ,F,St,hs⟩:=hs
 obtain⟨n,hn⟩:∃n,n=w.heap.size:=⟨_,rfl⟩
 have hlen:a.tmps.size=L:=hs.len
 obtain⟨a1,ha1⟩:∃a1,a1=a.put (some t) (.map (some n)):=⟨_,rfl⟩
 have hev1:a1.eval (.tmp t)=.map (some n):=by
  subst ha1
  show (a.tmps.setIfInBounds t (.map (some n))).getD t undef=_
  simp [Array.getD,hlen,ht]
 have hm:prog.underlying 75=some (.map 9 3):=underlying75
 have hk:prog.underlying 9=some .string:=underlying9
 let m1:Array MapEntry:=#[{ key:=.string ⟨#[36]⟩,val:=.int .i64 5,born:=0 }]
 let m2:Array MapEntry:=m1.push { key:=.string ⟨#[33]⟩,val:=.int .i64 7,born:=1 }
 let m3:Array MapEntry:=m2.push { key:=.string ⟨#[45]⟩,val:=.int .i64 8,born:=2 }
 let w1:World:=w.alloc (.map #[] 0)
 let w2:World:={ w1 with heap:=w1.heap.setIfInBounds n (.map m1 1) }
 let w3:World:={ w2 with heap:=w2.heap.setIfInBounds n (.map m2 2) }
 let w4:World:={ w3 with heap:=w3.heap.setIfInBounds n (.map m3 3) }
 have z1:w1.heap.size=n+1:=by show (w.heap.push _).size=_;rw [Array.size_push,hn]
 have b1:w1.heap[n]? = some (.map #[] 0):=by show (w.heap.push _)[n]? = _;rw [hn];simp
 have b2:w2.heap[n]? = some (.map m1 1):=by show (w1.heap.setIfInBounds n _)[n]? = _;simp [z1]
 have z2:w2.heap.size=n+1:=by show (w1.heap.setIfInBounds n _).size=_;rw [Array.size_setIfInBounds,z1]
 have b3:w3.heap[n]? = some (.map m2 2):=by show (w2.heap.setIfInBounds n _)[n]? = _;simp [z2]
 have z3:w3.heap.size=n+1:=by show (w2.heap.setIfInBounds n _).size=_;rw [Array.size_setIfInBounds,z2]
 have b4:w4.heap[n]? = some (.map m3 3):=by show (w3.heap.setIfInBounds n _)[n]? = _;simp [z3]
 have z4:w4.heap.size=n+1:=by show (w3.heap.setIfInBounds n _).size=_;rw [Array.size_setIfInBounds,z3]
 have hst:Stp none w w4:=⟨rfl,rfl,rfl,omq,fun i hi _=>by
  have hne:n≠i:=by omega
  show (w3.heap.setIfInBounds n _)[i]? = _
  rw [Array.getElem?_setIfInBounds_ne hne]
  show (w2.heap.setIfInBounds n _)[i]? = _
  rw [Array.getElem?_setIfInBounds_ne hne]
  show (w1.heap.setIfInBounds n _)[i]? = _
  rw [Array.getElem?_setIfInBounds_ne hne]
  show (w.heap.push _)[i]? = _
  rw [Array.getElem?_push_lt hi,Array.getElem?_eq_getElem hi]⟩
 have hk4:=hs.keepNew hst
 have hvr:VR w4 (fun b=>St b∨b=w.heap.size) φ (AS.Kn ⟨tm,hp,gn,us,L⟩) (.c (.mp mpK)) (.map (some n)):=by
  simp only [VR,CR]
  exact⟨trivial,n,m3,3,rfl,.inr hn,omq,b4,rfl⟩
 have f1:=hk4.put (some t) hvr
 rw [dM ht] at f1
 have f2:=f1.put (some d1) hvr
 rw [dM hd1] at f2
 have hfin:=f2.put (some d2) hvr
 rw [dM hd2] at hfin
 refine wp_region ?_
 show wpOps _ _ _ [0,1,2,3,4,5] a w
 refine lX rfl rfl (zu7 rfl) ?_
 rw [←hn]
 show wpOps _ _ _ _ (a.put (some t) (.map (some n))) w1
 rw [←ha1]
 refine lY rfl rfl rfl (qY rfl hm hk hev1 b1 rfl) ?_
 refine lY rfl rfl rfl (w':=w3) (qY rfl hm hk hev1 b2 (by kernel_rfl)) ?_
 refine lY rfl rfl rfl (w':=w4) (qY rfl hm hk hev1 b3 (by kernel_rfl)) ?_
 refine lX rfl rfl (lZ (.inl rfl)) ?_
 rw [hev1]
 refine lX rfl rfl (lZ (.inr rfl)) ?_
 have hev2:(a1.put (some d1) (.map (some n))).eval (.tmp d1)=.map (some n):=by
  have:a1.tmps.size=L:=by subst ha1;show (a.tmps.setIfInBounds t _).size=_;rw [Array.size_setIfInBounds,hlen]
  show (a1.tmps.setIfInBounds d1 (.map (some n))).getD d1 undef=_
  simp [Array.getD,this,hd1]
 show wpOps _ _ _ [] ((a1.put (some d1) (.map (some n))).put (some d2) ((a1.put (some d1) (.map (some n))).eval (.tmp d1))) w4
 rw [hev2,ha1]
 exact⟨_,h,φ,F,_,hfin⟩
end
section
variable {ops:Array Oper}{Q:Exit→Act→World→Prop}{C:Ctx}{H:List (Nat×Oper×Inf)}{i:Nat}{r:List Nat}{dr:Bool}
variable {tm:Nat→AV}{hp:Nat→Option Row}{gn L:Nat}{us:List Nat}
theorem zv7 {P:Program}{o:Oper}{T kt et:TypeId}{xo yo:Operand}{s:ByteArray}{r ck:Nat}{es:Array MapEntry}(ho:o.op=.lookup T xo yo false)(hm:P.underlying T=some (.map kt et))(hk:P.underlying kt=some .string)(ev:Operand→Value)(w:World)(hz:(zeroValue et).run P w=.ok (.int .i64 0) w)(hx:ev xo=.map (some r))(hy:ev yo=.string s)(hb:w.heap[r]? = some (.map es ck))(he:es.toList.map (fun e=>(e.key,e.val))=mpK):(execOp ev o).run P w=.ok (.value (.int .i64 (gf s))) w:=by
 unfold execOp
 rw [ho]
 simp only [hx,hy]
 simp [Sem.run_bind,xG hm hk hz hb he,Result.andThen]
theorem o_lk {t:Nat}{gd:Option (Nat×Bool)}{ps:String}{af:Array Edge}{ty:TypeId}{xo yo:Operand}{s:ByteArray}(h:Walk prog ops Q C dr (bE dr (i,(⟨some t,.lookup 75 xo yo false,ty,ps,af,gd⟩:Oper),⟨fpO (AS.ev ⟨tm,hp,gn,us,L⟩) (⟨some t,.lookup 75 xo yo false,ty,ps,af,gd⟩:Oper),[],[],.c (.v (.int .i64 (gf s)))⟩) H) r ⟨upd tm t (.c (.v (.int .i64 (gf s)))),hp,gn,us,L⟩)
 (ht:Nat.blt t L=true:=by exact rfl) (hg:gw ops tm (⟨some t,.lookup 75 xo yo false,ty,ps,af,gd⟩:Oper)=some true:=by exact rfl) (hx:AS.ev ⟨tm,hp,gn,us,L⟩ xo=.c (.mp mpK):=by exact rfl) (hy:AS.ev ⟨tm,hp,gn,us,L⟩ yo=.c (.v (.string s)):=by exact rfl)
 (hc:chk dr ops i (⟨some t,.lookup 75 xo yo false,ty,ps,af,gd⟩:Oper) ⟨fpO (AS.ev ⟨tm,hp,gn,us,L⟩) (⟨some t,.lookup 75 xo yo false,ty,ps,af,gd⟩:Oper),[],[],.c (.v (.int .i64 (gf s)))⟩ H=true:=by first|(with_reducible exact bp)|kernel_rfl):WalkO prog ops Q C dr H i (⟨some t,.lookup 75 xo yo false,ty,ps,af,gd⟩:Oper) r ⟨tm,hp,gn,us,L⟩:=⟨fun hop=>by
 refine⟨_,_,hop,nJ (y:=.int .i64 (gf s)) hop hg rfl fun ev w he=>?_,fun n hn=>absurd hn List.not_mem_nil,d4 hc,cD ?_⟩
 ·obtain⟨St,φ,K,h1⟩:=he xo (by show xo∈#[xo,yo];simp)
  rw [hx] at h1
  simp only [VR,CR] at h1
  obtain⟨-,b,es,ck,h1,-,-,h4,h5⟩:=h1
  obtain⟨St,φ,K,h2⟩:=he yo (by show yo∈#[xo,yo];simp)
  rw [hy] at h2
  simp only [VR,CR] at h2
  exact zv7 (T:=75) rfl underlying75 underlying9 ev w (by kernel_rfl) h1 h2.1 h4 h5
 ·show Walk prog ops Q C dr _ r (AS.put _ (some t) _)
  rw [dM (by exact dK ht)];exact h⟩
theorem n_lk {t:Nat}{gd:Option (Nat×Bool)}{ps:String}{af:Array Edge}{ty:TypeId}{xo yo:Operand}{s:ByteArray}(h:Walk prog ops Q C false [] r ⟨upd tm t (.c (.v (.int .i64 (gf s)))),hp,gn,us,L⟩)(ht:Nat.blt t L=true:=by exact rfl)(hg:gw ops tm (⟨some t,.lookup 75 xo yo false,ty,ps,af,gd⟩:Oper)=some true:=by exact rfl)(hx:AS.ev ⟨tm,hp,gn,us,L⟩ xo=.c (.mp mpK):=by exact rfl)(hy:AS.ev ⟨tm,hp,gn,us,L⟩ yo=.c (.v (.string s)):=by exact rfl):WalkO prog ops Q C false [] i (⟨some t,.lookup 75 xo yo false,ty,ps,af,gd⟩:Oper) r ⟨tm,hp,gn,us,L⟩:=o_lk (dr:=false) (H:=[]) (h:=h) (ht:=ht) (hg:=hg) (hx:=hx) (hy:=hy)
end
end Go.Proofs.YtomolhbkdhjofaaGreatDoor
