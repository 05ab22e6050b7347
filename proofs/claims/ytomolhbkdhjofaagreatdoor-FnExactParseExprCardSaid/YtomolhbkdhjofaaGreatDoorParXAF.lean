/- T -/
import Derived.Test.YtomolhbkdhjofaaGreatDoorParXAE
set_option maxHeartbeats 0
set_option maxRecDepth 100000
namespace Go.Proofs.YtomolhbkdhjofaaGreatDoor
open Go.RowKit Go.Proofs.Tryz
structure RS where
 a:Nat
 b:Bool
 d:Nat
def RS.bd (r:RS):RS:=⟨r.a,true,r.d⟩
def RS.up (r:RS):RS:=⟨r.a+1,r.b,r.d⟩
def RS.or (r:RS)(c:Bool):RS:=⟨r.a,r.b||c,r.d⟩
def tAt (L:List T3)(a:Nat):T3:=L.getD a (0,0,ByteArray.empty)
def xE (k n:Int)(s:ByteArray)(l:List E):E:=.agg [.int .i64 k,.int .i64 n,.str s,.lst 4 26 none 0 l]
def zE:E:=xE 0 0 ByteArray.empty []
section
variable (L:List T3)
def fW (r:RS)(k:Int)(s:ByteArray):Bool:=!r.b&&(decide (r.a<L.length)&&(decide ((tAt L r.a).1=k)&&decide ((tAt L r.a).2.2=s)))
def isS (r:RS)(k:Int)(s:ByteArray):Bool×RS:=if fW L r k s=true then (true,r.up) else (false,r)
def mkS (r:RS)(s:ByteArray):RS:=if fW L r 5 s=true then r.up else r.bd
def bH (r:RS)(k:Int):T3×RS:=if r.b=true∨¬r.a<L.length∨(tAt L r.a).1≠k then ((0,0,ByteArray.empty),r.bd) else (tAt L r.a,r.up)
def fX (r:RS):ByteArray×RS:=((bH L r 2).1.2.2,if dT (bH L r 2).1.2.2=true then (bH L r 2).2 else (bH L r 2).2.bd)
variable (g:RS→E×RS)
def gJ:Nat→List E→RS→List E×RS
 | 0,l,r=>(l,r.bd)
 | n+1,l,r=>if r.b=true then (l,r) else if (isS L (g r).2 5 ⟨#[44]⟩).1=true then gJ n (l++[(g r).1]) (isS L (g r).2 5 ⟨#[44]⟩).2 else (l++[(g r).1],(g r).2)
def cv (m:Int)(r:RS):List E×RS :=
 if (isS L (mkS L r ⟨#[40]⟩) 5 ⟨#[41]⟩).1=true then ([],(isS L (mkS L r ⟨#[40]⟩) 5 ⟨#[41]⟩).2.or (decide (0<m)))
 else ((gJ L g (L.length+1) [] (mkS L r ⟨#[40]⟩)).1,(mkS L (gJ L g (L.length+1) [] (mkS L r ⟨#[40]⟩)).2 ⟨#[41]⟩).or (decide (0≤m)&&decide (((gJ L g (L.length+1) [] (mkS L r ⟨#[40]⟩)).1.length:Int)≠m)))
def inS (r:RS):E×RS :=
 if (isS L (g r).2 2 ⟨#[105,110]⟩).1=true then (xE 9 0 (fX L (g r).2.up).1 [(g r).1],mkS L (fX L (g r).2.up).2 ⟨#[41]⟩)
 else if (isS L (g r).2 5 ⟨#[126]⟩).1=true then (xE 10 0 (bH L (g r).2.up 4).1.2.2 [(g r).1],mkS L (bH L (g r).2.up 4).2 ⟨#[41]⟩)
 else (xE 6 0 (bH L (g r).2 5).1.2.2 [(g r).1,(g (bH L (g r).2 5).2).1],mkS L (g (bH L (g r).2 5).2).2 ⟨#[41]⟩)
def fH (r:RS):E×RS :=
 (xE 18 0 (bH L (mkS L (g (mkS L r ⟨#[40]⟩)).2 ⟨#[126]⟩) 4).1.2.2 [(g (mkS L r ⟨#[40]⟩)).1,(g (mkS L (bH L (mkS L (g (mkS L r ⟨#[40]⟩)).2 ⟨#[126]⟩) 4).2 ⟨#[44]⟩)).1],mkS L (g (mkS L (bH L (mkS L (g (mkS L r ⟨#[40]⟩)).2 ⟨#[126]⟩) 4).2 ⟨#[44]⟩)).2 ⟨#[41]⟩)
def cf (s:ByteArray)(r:RS):E×RS :=
 if s=⟨#[110,114]⟩ then (xE 14 0 ByteArray.empty [],r)
 else if s=⟨#[110,102]⟩ then (xE 15 0 ByteArray.empty [],r)
 else if s=⟨#[108,101,110,103,116,104]⟩ then (xE 12 0 ByteArray.empty (cv L g 1 r).1,(cv L g 1 r).2)
 else if s=⟨#[115,117,98,115,116,114]⟩ then (xE 13 0 ByteArray.empty (cv L g 3 r).1,(cv L g 3 r).2)
 else if s=⟨#[105,110,100,101,120]⟩ then (xE 16 0 ByteArray.empty (cv L g 2 r).1,(cv L g 2 r).2)
 else if s=⟨#[117,112,112,101,114]⟩ then (xE 17 0 ByteArray.empty (cv L g 1 r).1,(cv L g 1 r).2)
 else if s=⟨#[103,115,117,98]⟩ then fH L g r
 else if fW L r 5 ⟨#[40]⟩=true then (xE 11 0 s (cv L g (-1) r).1,(cv L g (-1) r).2)
 else if fW L r 5 ⟨#[91]⟩=true then (xE 4 0 s [(g r.up).1],mkS L (g r.up).2 ⟨#[93]⟩)
 else (xE 3 0 s [],r)
def dw (r:RS):E×RS :=
 if fW L r 5 ⟨#[40]⟩=true then inS L g r.up
 else if fW L r 5 ⟨#[36]⟩=true then (xE 5 0 ByteArray.empty [(g r.up).1],(g r.up).2)
 else if fW L r 5 ⟨#[33]⟩=true then (xE 7 0 ByteArray.empty [(g r.up).1],(g r.up).2)
 else if fW L r 5 ⟨#[45]⟩=true then (xE 8 0 ByteArray.empty [(g r.up).1],(g r.up).2)
 else if (tAt L r.a).1=1 then (xE 1 (bH L r 1).1.2.1 ByteArray.empty [],(bH L r 1).2)
 else if (tAt L r.a).1=3 then (xE 2 0 (bH L r 3).1.2.2 [],(bH L r 3).2)
 else cf L g (bH L r 2).1.2.2 (bH L r 2).2
end
def exS (L:List T3):Nat→RS→E×RS
 | 0,r=>(zE,r.bd)
 | f+1,r=>if 20<r.d+1∨r.b=true∨¬r.a<L.length then (zE,⟨r.a,true,r.d+1⟩) else ((dw L (exS L f) ⟨r.a,r.b,r.d+1⟩).1,⟨(dw L (exS L f) ⟨r.a,r.b,r.d+1⟩).2.a,(dw L (exS L f) ⟨r.a,r.b,r.d+1⟩).2.b,(dw L (exS L f) ⟨r.a,r.b,r.d+1⟩).2.d-1⟩)
def Con (L:List T3)(a:Nat)(l:List T3)(b:Nat):Prop:=L.drop a=l++L.drop b
theorem Con.trans {L:List T3}{a b c:Nat}{l m:List T3}(h:Con L a l b)(k:Con L b m c):Con L a (l++m) c:=by
 unfold Con at *
 rw [h,k,List.append_assoc]
theorem xp {L:List T3}{a:Nat}(h:a<L.length):Con L a [tAt L a] (a+1):=by
 unfold Con tAt
 rw [List.getD_eq_getElem?_getD,List.getElem?_eq_getElem h,Option.getD_some]
 exact List.drop_eq_getElem_cons h
def okL (L:List T3):Prop:=∀t∈L,bP t.1 t.2.1 t.2.2=true
theorem sx {L:List T3}(hL:okL L){a:Nat}(h:a<L.length):bP (tAt L a).1 (tAt L a).2.1 (tAt L a).2.2=true:=by
 unfold tAt
 rw [List.getD_eq_getElem?_getD,List.getElem?_eq_getElem h,Option.getD_some]
 exact hL _ (List.getElem_mem h)
theorem xq {k n:Int}{s:ByteArray}(h:bP k n s=true)(hk:k≠1):n=0:=by
 unfold bP at h
 rw [if_neg hk] at h
 split at h
 ·simp only [Bool.and_eq_true,decide_eq_true_iff] at h;exact h.2
 ·split at h
  ·simp only [Bool.and_eq_true,decide_eq_true_iff] at h;exact h.2
  ·split at h
   ·simp only [Bool.and_eq_true,decide_eq_true_iff] at h;exact h.2.2
   ·split at h
    ·simp only [Bool.and_eq_true,decide_eq_true_iff] at h;exact h.2
    ·cases h
theorem lR {L:List T3}(hL:okL L){r:RS}{k:Int}{s:ByteArray}(hk:k≠1)(h:fW L r k s=true):r.b=false∧Con L r.a [(k,0,s)] (r.a+1):=by
 unfold fW at h
 simp only [Bool.and_eq_true,Bool.not_eq_true',decide_eq_true_iff] at h
 obtain⟨h1,h2,h3,h4⟩:=h
 have h5:=xq (sx hL h2) (by rw [h3];exact hk)
 refine⟨h1,?_⟩
 have h6:=xp h2
 have e:tAt L r.a=(k,0,s):=by rw [←h3,←h5,←h4]
 rwa [e] at h6
theorem zT {L:List T3}(hL:okL L){r:RS}{k:Int}{s:ByteArray}(hk:k≠1)(h:(isS L r k s).1=true):r.b=false∧Con L r.a [(k,0,s)] (r.a+1)∧(isS L r k s).2=r.up:=by
 unfold isS at h ⊢
 split at h
 ·rename_i hs
  obtain⟨h1,h2⟩:=lR hL hk hs
  exact⟨h1,h2,by rw [if_pos hs]⟩
 ·cases h
theorem lS {L:List T3}(hL:okL L){r:RS}{s:ByteArray}(h:(mkS L r s).b=false):r.b=false∧Con L r.a [(5,0,s)] (mkS L r s).a∧(mkS L r s).d=r.d:=by
 unfold mkS at h ⊢
 split at h
 ·rename_i hs
  obtain⟨h1,h2⟩:=lR hL (by decide) hs
  rw [if_pos hs]
  exact⟨h1,h2,rfl⟩
 ·cases h
theorem qR {L:List T3}(hL:okL L){r:RS}{k:Int}(h:(bH L r k).2.b=false):r.b=false∧Con L r.a [(bH L r k).1] (bH L r k).2.a∧(bH L r k).1.1=k∧bP (bH L r k).1.1 (bH L r k).1.2.1 (bH L r k).1.2.2=true:=by
 unfold bH at h ⊢
 split at h
 ·cases h
 ·rename_i hs
  rw [if_neg hs]
  have h1:r.b=false:=h
  have h2:r.a<L.length:=Classical.byContradiction fun q=>hs (.inr (.inl q))
  have h3:(tAt L r.a).1=k:=Classical.byContradiction fun q=>hs (.inr (.inr q))
  exact⟨h1,xp h2,h3,sx hL h2⟩
theorem zl5 {L:List T3}(hL:okL L){r:RS}(h:(fX L r).2.b=false):r.b=false∧Con L r.a [(2,0,(fX L r).1)] (fX L r).2.a:=by
 unfold fX at h ⊢
 dsimp only at h ⊢
 split at h
 ·rename_i hs
  rw [if_pos hs]
  obtain⟨h1,h2,h3,h4⟩:=qR hL h
  refine⟨h1,?_⟩
  have h5:=xq h4 (by rw [h3];decide)
  have e:(bH L r 2).1=(2,0,(bH L r 2).1.2.2):=Prod.ext h3 (Prod.ext h5 rfl)
  rwa [e] at h2
 ·cases h
def GdS (L:List T3)(g:RS→E×RS):Prop:=∀r,(g r).2.b=false→r.b=false∧Con L r.a (tkE (g r).1) (g r).2.a
def jtk (l:List E):List T3:=bK (jnP (l.map pcE))
theorem gu (x:E){l:List E}(h:l≠[]):jtk (x :: l)=tkE x++(5,0,⟨#[44]⟩) :: jtk l:=by
 match l,h with
 | y :: r,_ =>
  show bK (pcE x++(mkP ⟨#[44]⟩ :: none :: jnP (pcE y :: r.map pcE)))=_
  rw [cQ]
  rfl
theorem mu (k n:Int)(s:ByteArray)(l:List E):tkE (xE k n s l)=bK (fG k n s (l.map pcE)):=by
 unfold tkE xE
 rw [ii]
theorem zf2 {L:List T3}(hL:okL L){g:RS→E×RS}(hg:GdS L g):∀(n:Nat) (l:List E) (r:RS),(gJ L g n l r).2.b=false→∃m:List E,m≠[]∧(gJ L g n l r).1=l++m∧r.b=false∧Con L r.a (jtk m) (gJ L g n l r).2.a
 | 0,l,r,h=>by cases h
 | n+1,l,r,h=>by
  unfold gJ at h ⊢
  by_cases hb:r.b=true
  ·rw [if_pos hb] at h
   rw [hb] at h;cases h
  ·rw [if_neg hb] at h ⊢
   have hb':r.b=false:=by cases hr:r.b with
    | false=>rfl
    | true=>exact absurd hr hb
   by_cases hi:(isS L (g r).2 5 ⟨#[44]⟩).1=true
   ·rw [if_pos hi] at h ⊢
    obtain⟨i1,i2,i3⟩:=zT hL (by decide) hi
    obtain⟨m,q1,q2,q3,q4⟩:=zf2 hL hg n _ _ h
    obtain⟨g1,g2⟩:=hg r i1
    refine⟨(g r).1 :: m,by simp,by rw [q2];simp,hb',?_⟩
    rw [gu _ q1]
    rw [i3] at q4 ⊢
    exact g2.trans (i2.trans q4)
   ·rw [if_neg hi] at h ⊢
    obtain⟨g1,g2⟩:=hg r h
    exact⟨[(g r).1],by simp,rfl,hb',g2⟩
theorem or_to {r:RS}{c:Bool}(h:(r.or c).b=false):r.b=false∧c=false:=by
 unfold RS.or at h
 simpa using h
theorem lT {L:List T3}(hL:okL L){g:RS→E×RS}(hg:GdS L g){m:Int}{r:RS}(h:(cv L g m r).2.b=false):r.b=false∧Con L r.a ((5,0,⟨#[40]⟩) :: (jtk (cv L g m r).1++[(5,0,⟨#[41]⟩)])) (cv L g m r).2.a:=by
 unfold cv at h ⊢
 by_cases hi:(isS L (mkS L r ⟨#[40]⟩) 5 ⟨#[41]⟩).1=true
 ·rw [if_pos hi] at h ⊢
  obtain⟨i1,i2,i3⟩:=zT hL (by decide) hi
  obtain⟨k1,k2,-⟩:=lS hL i1
  refine⟨k1,?_⟩
  dsimp only
  rw [i3]
  exact k2.trans i2
 ·rw [if_neg hi] at h ⊢
  obtain⟨h1,-⟩:=or_to h
  obtain⟨j1,j2,-⟩:=lS hL h1
  obtain⟨l,q1,q2,q3,q4⟩:=zf2 hL hg _ _ _ j1
  obtain⟨k1,k2,-⟩:=lS hL q3
  refine⟨k1,?_⟩
  dsimp only
  rw [q2,List.nil_append]
  exact k2.trans (q4.trans j2)
theorem px {L:List T3}(hL:okL L){r:RS}{k:Int}(hk:k≠1)(h:(bH L r k).2.b=false):r.b=false∧Con L r.a [(k,0,(bH L r k).1.2.2)] (bH L r k).2.a:=by
 obtain⟨h1,h2,h3,h4⟩:=qR hL h
 refine⟨h1,?_⟩
 have h5:=xq h4 (by rw [h3];exact hk)
 have e:(bH L r k).1=(k,0,(bH L r k).1.2.2):=Prod.ext h3 (Prod.ext h5 rfl)
 rwa [e] at h2
theorem tk_9 (s:ByteArray)(x:E):tkE (xE 9 0 s [x])=(5,0,⟨#[40]⟩) :: (tkE x++[(2,0,⟨#[105,110]⟩),(2,0,s),(5,0,⟨#[41]⟩)]):=by
 rw [mu]
 show (5,0,⟨#[40]⟩) :: bK (pcE x++[none,nmP ⟨#[105,110]⟩,none,nmP s,mkP ⟨#[41]⟩])=_
 rw [cQ];rfl
theorem tk_10 (s:ByteArray)(x:E):tkE (xE 10 0 s [x])=(5,0,⟨#[40]⟩) :: (tkE x++[(5,0,⟨#[126]⟩),(4,0,s),(5,0,⟨#[41]⟩)]):=by
 rw [mu]
 show (5,0,⟨#[40]⟩) :: bK (pcE x++[none,mkP ⟨#[126]⟩,none,rxP s,mkP ⟨#[41]⟩])=_
 rw [cQ];rfl
theorem tk_6 (s:ByteArray)(x y:E):tkE (xE 6 0 s [x,y])=(5,0,⟨#[40]⟩) :: (tkE x++((5,0,s) :: (tkE y++[(5,0,⟨#[41]⟩)]))):=by
 rw [mu]
 show (5,0,⟨#[40]⟩) :: bK (pcE x++(none :: mkP s :: none :: (pcE y++[mkP ⟨#[41]⟩])))=_
 rw [cQ]
 show (5,0,⟨#[40]⟩) :: (tkE x++((5,0,s) :: bK (pcE y++[mkP ⟨#[41]⟩])))=_
 rw [cQ];rfl
theorem tk_18 (s:ByteArray)(x y:E):tkE (xE 18 0 s [x,y])=(2,0,⟨#[103,115,117,98]⟩) :: (5,0,⟨#[40]⟩) :: (tkE x++((5,0,⟨#[126]⟩) :: (4,0,s) :: (5,0,⟨#[44]⟩) :: (tkE y++[(5,0,⟨#[41]⟩)]))):=by
 rw [mu]
 show (2,0,⟨#[103,115,117,98]⟩) :: (5,0,⟨#[40]⟩) :: bK (pcE x++(none :: mkP ⟨#[126]⟩ :: none :: rxP s :: mkP ⟨#[44]⟩ :: none :: (pcE y++[mkP ⟨#[41]⟩])))=_
 rw [cQ]
 show (2,0,⟨#[103,115,117,98]⟩) :: (5,0,⟨#[40]⟩) :: (tkE x++((5,0,⟨#[126]⟩) :: (4,0,s) :: (5,0,⟨#[44]⟩) :: bK (pcE y++[mkP ⟨#[41]⟩])))=_
 rw [cQ];rfl
theorem dZ (w:ByteArray)(l:List E):bK (nmP w :: mkP ⟨#[40]⟩ :: (jnP (l.map pcE)++[mkP ⟨#[41]⟩]))=(2,0,w) :: (5,0,⟨#[40]⟩) :: (jtk l++[(5,0,⟨#[41]⟩)]):=by
 show (2,0,w) :: (5,0,⟨#[40]⟩) :: bK (jnP (l.map pcE)++[mkP ⟨#[41]⟩])=_
 rw [cQ];rfl
theorem in_to {L:List T3}(hL:okL L){g:RS→E×RS}(hg:GdS L g){a0:Nat}{r:RS}(h0:Con L a0 [(5,0,⟨#[40]⟩)] r.a)(h:(inS L g r).2.b=false):r.b=false∧Con L a0 (tkE (inS L g r).1) (inS L g r).2.a:=by
 unfold inS at h ⊢
 by_cases h1:(isS L (g r).2 2 ⟨#[105,110]⟩).1=true
 ·rw [if_pos h1] at h ⊢
  obtain⟨i1,i2,-⟩:=zT hL (by decide) h1
  obtain⟨j1,j2,-⟩:=lS hL h
  obtain⟨k1,k2⟩:=zl5 hL j1
  obtain⟨g1,g2⟩:=hg r i1
  refine⟨g1,?_⟩
  dsimp only
  rw [tk_9]
  exact h0.trans (g2.trans (i2.trans (k2.trans j2)))
 rw [if_neg h1] at h ⊢
 by_cases h2:(isS L (g r).2 5 ⟨#[126]⟩).1=true
 ·rw [if_pos h2] at h ⊢
  obtain⟨i1,i2,-⟩:=zT hL (by decide) h2
  obtain⟨j1,j2,-⟩:=lS hL h
  obtain⟨k1,k2⟩:=px hL (by decide) j1
  obtain⟨g1,g2⟩:=hg r i1
  refine⟨g1,?_⟩
  dsimp only
  rw [tk_10]
  exact h0.trans (g2.trans (i2.trans (k2.trans j2)))
 ·rw [if_neg h2] at h ⊢
  obtain⟨j1,j2,-⟩:=lS hL h
  obtain⟨u1,u2⟩:=hg _ j1
  obtain⟨k1,k2⟩:=px hL (by decide) u1
  obtain⟨g1,g2⟩:=hg r k1
  refine⟨g1,?_⟩
  dsimp only
  rw [tk_6]
  exact h0.trans (g2.trans (k2.trans (u2.trans j2)))
theorem zm5 {L:List T3}(hL:okL L){g:RS→E×RS}(hg:GdS L g){r:RS}(h:(fH L g r).2.b=false):r.b=false∧∀a0,Con L a0 [(2,0,⟨#[103,115,117,98]⟩)] r.a→Con L a0 (tkE (fH L g r).1) (fH L g r).2.a:=by
 unfold fH at h ⊢
 obtain⟨a1,a2,-⟩:=lS hL h
 obtain⟨b1,b2⟩:=hg _ a1
 obtain⟨c1,c2,-⟩:=lS hL b1
 obtain⟨d1,d2⟩:=px hL (by decide) c1
 obtain⟨e1,e2,-⟩:=lS hL d1
 obtain⟨f1,f2⟩:=hg _ e1
 obtain⟨i1,i2,-⟩:=lS hL f1
 refine⟨i1,fun a0 h0=>?_⟩
 dsimp only
 rw [tk_18]
 exact h0.trans (i2.trans (f2.trans (e2.trans (d2.trans (c2.trans (b2.trans a2))))))
theorem zn5 {L:List T3}(hL:okL L){g:RS→E×RS}(hg:GdS L g){s:ByteArray}{r:RS}(h:(cf L g s r).2.b=false):r.b=false∧∀a0,Con L a0 [(2,0,s)] r.a→Con L a0 (tkE (cf L g s r).1) (cf L g s r).2.a:=by
 unfold cf at h ⊢
 by_cases w1:s=⟨#[110,114]⟩
 ·rw [if_pos w1] at h ⊢
  subst w1
  exact⟨h,fun a0 h0=>h0⟩
 rw [if_neg w1] at h ⊢
 by_cases w2:s=⟨#[110,102]⟩
 ·rw [if_pos w2] at h ⊢
  subst w2
  exact⟨h,fun a0 h0=>h0⟩
 rw [if_neg w2] at h ⊢
 by_cases w3:s=⟨#[108,101,110,103,116,104]⟩
 ·rw [if_pos w3] at h ⊢
  subst w3
  obtain⟨l1,l2⟩:=lT hL hg h
  refine⟨l1,fun a0 h0=>?_⟩
  dsimp only
  rw [mu]
  show Con L a0 (bK (nmP _ :: mkP ⟨#[40]⟩ :: (jnP (_)++[mkP ⟨#[41]⟩]))) _
  rw [dZ]
  exact h0.trans l2
 rw [if_neg w3] at h ⊢
 by_cases w4:s=⟨#[115,117,98,115,116,114]⟩
 ·rw [if_pos w4] at h ⊢
  subst w4
  obtain⟨l1,l2⟩:=lT hL hg h
  refine⟨l1,fun a0 h0=>?_⟩
  dsimp only
  rw [mu]
  show Con L a0 (bK (nmP _ :: mkP ⟨#[40]⟩ :: (jnP (_)++[mkP ⟨#[41]⟩]))) _
  rw [dZ]
  exact h0.trans l2
 rw [if_neg w4] at h ⊢
 by_cases w5:s=⟨#[105,110,100,101,120]⟩
 ·rw [if_pos w5] at h ⊢
  subst w5
  obtain⟨l1,l2⟩:=lT hL hg h
  refine⟨l1,fun a0 h0=>?_⟩
  dsimp only
  rw [mu]
  show Con L a0 (bK (nmP _ :: mkP ⟨#[40]⟩ :: (jnP (_)++[mkP ⟨#[41]⟩]))) _
  rw [dZ]
  exact h0.trans l2
 rw [if_neg w5] at h ⊢
 by_cases w6:s=⟨#[117,112,112,101,114]⟩
 ·rw [if_pos w6] at h ⊢
  subst w6
  obtain⟨l1,l2⟩:=lT hL hg h
  refine⟨l1,fun a0 h0=>?_⟩
  dsimp only
  rw [mu]
  show Con L a0 (bK (nmP _ :: mkP ⟨#[40]⟩ :: (jnP (_)++[mkP ⟨#[41]⟩]))) _
  rw [dZ]
  exact h0.trans l2
 rw [if_neg w6] at h ⊢
 by_cases w7:s=⟨#[103,115,117,98]⟩
 ·rw [if_pos w7] at h ⊢
  subst w7
  exact zm5 hL hg h
 rw [if_neg w7] at h ⊢
 by_cases w8:fW L r 5 ⟨#[40]⟩=true
 ·rw [if_pos w8] at h ⊢
  obtain⟨l1,l2⟩:=lT hL hg h
  refine⟨l1,fun a0 h0=>?_⟩
  dsimp only
  rw [mu]
  show Con L a0 (bK (nmP _ :: mkP ⟨#[40]⟩ :: (jnP (_)++[mkP ⟨#[41]⟩]))) _
  rw [dZ]
  exact h0.trans l2
 rw [if_neg w8] at h ⊢
 by_cases w9:fW L r 5 ⟨#[91]⟩=true
 ·rw [if_pos w9] at h ⊢
  obtain⟨a1,a2⟩:=lR hL (by decide) w9
  obtain⟨b1,b2,-⟩:=lS hL h
  obtain⟨g1,g2⟩:=hg _ b1
  refine⟨a1,fun a0 h0=>?_⟩
  dsimp only
  have e:tkE (xE 4 0 s [(g r.up).1])=(2,0,s) :: (5,0,⟨#[91]⟩) :: (tkE (g r.up).1++[(5,0,⟨#[93]⟩)]):=by
   rw [mu]
   show (2,0,s) :: (5,0,⟨#[91]⟩) :: bK (pcE (g r.up).1++[mkP ⟨#[93]⟩])=_
   rw [cQ];rfl
  rw [e]
  exact h0.trans (a2.trans (g2.trans b2))
 ·rw [if_neg w9] at h ⊢
  exact⟨h,fun a0 h0=>h0⟩
theorem zo5 {L:List T3}(hL:okL L){g:RS→E×RS}(hg:GdS L g):GdS L (dw L g):=fun r h=>by
 unfold dw at h ⊢
 by_cases w1:fW L r 5 ⟨#[40]⟩=true
 ·rw [if_pos w1] at h ⊢
  obtain⟨a1,a2⟩:=lR hL (by decide) w1
  exact⟨a1,(in_to hL hg (r:=r.up) a2 h).2⟩
 rw [if_neg w1] at h ⊢
 by_cases w2:fW L r 5 ⟨#[36]⟩=true
 ·rw [if_pos w2] at h ⊢
  obtain⟨a1,a2⟩:=lR hL (by decide) w2
  obtain⟨g1,g2⟩:=hg _ h
  refine⟨a1,?_⟩
  dsimp only
  have e:tkE (xE 5 0 ByteArray.empty [(g r.up).1])=(5,0,⟨#[36]⟩) :: tkE (g r.up).1:=by rw [mu];rfl
  rw [e]
  exact a2.trans g2
 rw [if_neg w2] at h ⊢
 by_cases w3:fW L r 5 ⟨#[33]⟩=true
 ·rw [if_pos w3] at h ⊢
  obtain⟨a1,a2⟩:=lR hL (by decide) w3
  obtain⟨g1,g2⟩:=hg _ h
  refine⟨a1,?_⟩
  dsimp only
  have e:tkE (xE 7 0 ByteArray.empty [(g r.up).1])=(5,0,⟨#[33]⟩) :: tkE (g r.up).1:=by rw [mu];rfl
  rw [e]
  exact a2.trans g2
 rw [if_neg w3] at h ⊢
 by_cases w4:fW L r 5 ⟨#[45]⟩=true
 ·rw [if_pos w4] at h ⊢
  obtain⟨a1,a2⟩:=lR hL (by decide) w4
  obtain⟨g1,g2⟩:=hg _ h
  refine⟨a1,?_⟩
  dsimp only
  have e:tkE (xE 8 0 ByteArray.empty [(g r.up).1])=(5,0,⟨#[45]⟩) :: tkE (g r.up).1:=by rw [mu];rfl
  rw [e]
  exact a2.trans g2
 rw [if_neg w4] at h ⊢
 by_cases w5:(tAt L r.a).1=1
 ·rw [if_pos w5] at h ⊢
  obtain⟨a1,a2,a3,a4⟩:=qR hL h
  refine⟨a1,?_⟩
  have h5:(bH L r 1).1.2.2=ByteArray.empty:=by
   rw [a3] at a4
   unfold bP at a4
   rw [if_pos rfl] at a4
   simp only [Bool.and_eq_true,decide_eq_true_iff] at a4
   exact gR a4.2.2 fun j hj=>absurd hj omq
  have e:(bH L r 1).1=(1,(bH L r 1).1.2.1,ByteArray.empty):=Prod.ext a3 (Prod.ext rfl h5)
  rw [e] at a2
  exact a2
 rw [if_neg w5] at h ⊢
 by_cases w6:(tAt L r.a).1=3
 ·rw [if_pos w6] at h ⊢
  obtain⟨a1,a2⟩:=px hL (by decide) h
  exact⟨a1,a2⟩
 rw [if_neg w6] at h ⊢
 obtain⟨b1,b2⟩:=zn5 hL hg h
 obtain⟨a1,a2⟩:=px hL (by decide) b1
 exact⟨a1,b2 _ a2⟩
theorem zg2 {L:List T3}(hL:okL L):∀f,GdS L (exS L f)
 | 0,r,h=>by cases h
 | f+1,r,h=>by
  unfold exS at h ⊢
  split at h
  ·cases h
  ·rename_i hs
   rw [if_neg hs]
   have hb:r.b=false:=by
    cases hr:r.b with
    | false=>rfl
    | true=>exact absurd (.inr (.inl hr)) hs
   obtain⟨-,h2⟩:=zo5 hL (zg2 hL f) ⟨r.a,r.b,r.d+1⟩ h
   exact⟨hb,h2⟩
theorem zp5 {L:List T3}(hL:okL L){f:Nat}(h:(exS L f ⟨0,false,0⟩).2.b=false)(ha:(exS L f ⟨0,false,0⟩).2.a=L.length):L=tkE (exS L f ⟨0,false,0⟩).1:=by
 have h1:=(zg2 hL f _ h).2
 rw [ha] at h1
 unfold Con at h1
 rw [List.drop_length,List.append_nil] at h1
 exact h1
def canF:Nat→E→E
 | 0,e=>e
 | f+1,e=>match e with
  | .agg [.int _ k,.int _ n,.str s,.lst _ _ _ _ l]=>xE k n s (l.map (canF f))
  | e=>e
def ij (e:E):E:=canF (e.sz+1) e
theorem qS:∀(n f:Nat) (e:E),e.sz<n→e.sz<f→canF f e=ij e
 | 0,_,_,h,_=>absurd h (Nat.not_lt_zero _)
 | n+1,0,_,_,h=>absurd h (Nat.not_lt_zero _)
 | n+1,f+1,e,h1,h2=>by
  have key:∀x∈dv e,canF f x=canF e.sz x:=fun x hx=>by
   have hs:=ei e x hx
   rw [qS n f x omq omq,qS n e.sz x omq hs]
  unfold ij
  unfold canF
  split
  ·rename_i k n' s T A c m l
   congr 1
   exact List.map_congr_left key
  ·rfl
theorem pz (i j:IntKind)(k n:Int)(s:ByteArray)(w:Nat)(T:TypeId)(A:Option Addr)(c:Nat)(l:List E):ij (.agg [.int i k,.int j n,.str s,.lst w T A c l])=xE k n s (l.map ij):=by
 show xE k n s (l.map (canF (E.sz (.agg [.int i k,.int j n,.str s,.lst w T A c l]))))=_
 congr 1
 refine List.map_congr_left fun x hx=>?_
 exact qS (x.sz+1) _ x omq (ei _ x hx)
section
variable {L:List T3}{r:RS}{t:T3}{rest:List T3}
theorem b9 (h:L.drop r.a=t :: rest):r.a<L.length∧tAt L r.a=t∧L.drop (r.a+1)=rest:=by
 have hlt:r.a<L.length:=Classical.byContradiction fun q=>by
  rw [List.drop_eq_nil_of_le omq] at h;cases h
 have h2:=List.drop_eq_getElem_cons hlt
 rw [h] at h2
 injection h2 with h3 h4
 refine⟨hlt,?_,h4.symm⟩
 unfold tAt
 rw [List.getD_eq_getElem?_getD,List.getElem?_eq_getElem hlt,Option.getD_some]
 exact h3.symm
theorem ke (h:L.drop r.a=t :: rest)(hb:r.b=false)(k:Int)(s:ByteArray):fW L r k s=(decide (t.1=k)&&decide (t.2.2=s)):=by
 obtain⟨h1,h2,-⟩:=b9 h
 unfold fW
 rw [hb,h2,decide_eq_true h1];rfl
theorem eX {k n:Int}{s:ByteArray}(h:L.drop r.a=(k,n,s) :: rest)(hb:r.b=false):fW L r k s=true:=by rw [ke h hb];simp
theorem iz {s:ByteArray}(h:L.drop r.a=(5,0,s) :: rest)(hb:r.b=false):mkS L r s=r.up:=by
 unfold mkS;rw [if_pos (eX h hb)]
theorem gv {k:Int}(h:L.drop r.a=t :: rest)(hb:r.b=false)(hk:t.1=k):bH L r k=(t,r.up):=by
 obtain⟨h1,h2,-⟩:=b9 h
 unfold bH
 rw [if_neg (by rintro (q|q|q);·rw [hb] at q;cases q
                ·exact q h1
                ·rw [h2] at q;exact q hk),h2]
theorem xr (h:L.drop r.a=[])(k:Int)(s:ByteArray):fW L r k s=false:=by
 have:¬r.a<L.length:=fun q=>by
  have:=List.drop_eq_getElem_cons q
  rw [h] at this;cases this
 unfold fW
 rw [decide_eq_false this];simp
end
def nfol (rest:List T3):Prop:=∀t r,rest=t :: r→¬(t.1=5∧(t.2.2=⟨#[40]⟩∨t.2.2=⟨#[91]⟩))
theorem zq5 {L:List T3}{r:RS}{rest:List T3}(h:L.drop r.a=rest)(hf:nfol rest)(hb:r.b=false):fW L r 5 ⟨#[40]⟩=false∧fW L r 5 ⟨#[91]⟩=false:=by
 cases rest with
 | nil=>exact⟨xr h _ _,xr h _ _⟩
 | cons t q =>
  have:=hf t q rfl
  rw [ke h hb,ke h hb]
  simp only [Bool.and_eq_false_iff,decide_eq_false_iff_not]
  constructor
  ·by_cases h5:t.1=5
   ·right;exact fun h=>this ⟨h5,.inl h⟩
   ·left;exact h5
  ·by_cases h5:t.1=5
   ·right;exact fun h=>this ⟨h5,.inr h⟩
   ·left;exact h5
def Bk (L:List T3)(g:RS→E×RS)(e:E)(d:Nat):Prop:=∀r rest,r.b=false→r.d=d→L.drop r.a=tkE e++rest→nfol rest→g r=(ij e,⟨r.a+(tkE e).length,false,d⟩)
def fstT (t:T3):Prop:=t.1≠5∨t.2.2=⟨#[40]⟩∨t.2.2=⟨#[36]⟩∨t.2.2=⟨#[33]⟩∨t.2.2=⟨#[45]⟩
theorem oa {e:E}(h:okX e=true):∃t l,tkE e=t :: l∧fstT t:=by
 obtain⟨-,h2⟩:=kH h
 unfold nW at h2
 split at h2
 ·rename_i i k j m s w T A c l
  unfold tkE
  rw [ii]
  rcases pq h2 with ⟨rfl,-,-⟩|rfl|rfl|⟨rfl|rfl,-⟩|⟨rfl|rfl|rfl|rfl|rfl,-⟩|⟨rfl,-⟩|⟨rfl,-⟩|⟨rfl,-⟩|rfl|rfl|rfl|rfl|rfl
  all_goals first
   | exact⟨_,_,rfl,.inl (by decide)⟩
   | exact⟨_,_,rfl,.inl (fun h=>by dsimp only at h;omega)⟩
   | exact⟨_,_,rfl,.inr (.inl rfl)⟩
   | exact⟨_,_,rfl,.inr (.inr (.inl rfl))⟩
   | exact⟨_,_,rfl,.inr (.inr (.inr (.inl rfl)))⟩
   | exact⟨_,_,rfl,.inr (.inr (.inr (.inr rfl)))⟩
 ·cases h2
theorem gW {m:ByteArray}{rest:List T3}(h1:m≠⟨#[40]⟩)(h2:m≠⟨#[91]⟩):nfol ((5,0,m) :: rest):=fun t r h=>by
 injection h with h3 h4
 subst h3
 rintro ⟨-,q|q⟩
 ·exact h1 q
 ·exact h2 q
theorem zs7 {k n:Int}{m:ByteArray}{rest:List T3}(h:k≠5):nfol ((k,n,m) :: rest):=fun t r hh=>by
 injection hh with h3 h4
 subst h3
 exact fun q=>h q.1
theorem cG {L:List T3}{a:Nat}{l rest:List T3}(h:L.drop a=l++rest):L.drop (a+l.length)=rest:=by
 rw [←List.drop_drop,h,List.drop_left]
theorem sA {L:List T3}{g:RS→E×RS}{d:Nat}:∀(l:List E) (n:Nat) (acc:List E) (r:RS) (rest:List T3),l≠[]→l.length≤n→(∀x∈l,Bk L g x d)→r.b=false→r.d=d→L.drop r.a=jtk l++(5,0,⟨#[41]⟩) :: rest→gJ L g n acc r=(acc++l.map ij,⟨r.a+(jtk l).length,false,d⟩)
 | [],_,_,_,_,h,_,_,_,_,_=>absurd rfl h
 | [x],n+1,acc,r,rest,_,_,hx,hb,hd,h=>by
  have h1:=hx x (List.mem_cons_self ..) r ((5,0,⟨#[41]⟩) :: rest) hb hd h (gW (by decide) (by decide))
  unfold gJ
  rw [if_neg (by rw [hb];simp),h1]
  have h2:L.drop (r.a+(tkE x).length)=(5,0,⟨#[41]⟩) :: rest:=cG h
  have h3:fW L ⟨r.a+(tkE x).length,false,d⟩ 5 ⟨#[44]⟩=false:=by
   rw [ke (r:=⟨r.a+(tkE x).length,false,d⟩) h2 rfl]
   decide
  have h4:(isS L ⟨r.a+(tkE x).length,false,d⟩ 5 ⟨#[44]⟩).1=false:=by unfold isS;rw [if_neg (by rw [h3];simp)]
  dsimp only
  rw [if_neg (by rw [h4];simp)]
  rfl
 | x :: y :: l,n+1,acc,r,rest,_,hn,hx,hb,hd,h=>by
  rw [gu x (by simp),List.append_assoc] at h
  have h1:=hx x (List.mem_cons_self ..) r _ hb hd h (gW (by decide) (by decide))
  have h2:L.drop (r.a+(tkE x).length)=(5,0,⟨#[44]⟩) :: (jtk (y :: l)++(5,0,⟨#[41]⟩) :: rest):=cG h
  have h3:fW L ⟨r.a+(tkE x).length,false,d⟩ 5 ⟨#[44]⟩=true:=eX (r:=⟨r.a+(tkE x).length,false,d⟩) h2 rfl
  have h5:=(b9 (r:=⟨r.a+(tkE x).length,false,d⟩) h2).2.2
  unfold gJ
  rw [if_neg (by rw [hb];simp),h1]
  dsimp only
  have h4:isS L ⟨r.a+(tkE x).length,false,d⟩ 5 ⟨#[44]⟩=(true,⟨r.a+(tkE x).length+1,false,d⟩):=by unfold isS;rw [if_pos h3];rfl
  rw [h4,if_pos rfl]
  rw [sA (y :: l) n _ ⟨r.a+(tkE x).length+1,false,d⟩ rest (by simp) (by simp only [List.length_cons] at hn ⊢;omega) (fun z hz=>hx z (List.mem_cons_of_mem _ hz)) rfl rfl h5]
  rw [gu x (by simp)]
  simp only [List.length_append,List.length_cons,List.map_cons,List.append_assoc,List.singleton_append,Prod.mk.injEq,RS.mk.injEq,and_true,true_and]
  omega
theorem qT:∀{l:List E},(∀x∈l,okX x=true)→l.length≤(jtk l).length
 | [],_=>Nat.zero_le _
 | [x],h=>by
  obtain⟨t,q,e,-⟩:=oa (h x (List.mem_cons_self ..))
  show 1≤(tkE x).length
  rw [e];simp
 | x :: y :: l,h=>by
  have h1:=qT (l:=y :: l) fun z hz=>h z (List.mem_cons_of_mem _ hz)
  rw [gu x (by simp),List.length_append,List.length_cons]
  simp only [List.length_cons] at h1 ⊢
  omega
theorem xt {l:List E}(h:∀x∈l,okX x=true)(hne:l≠[]):∃t q,jtk l=t :: q∧fstT t:=by
 match l,hne with
 | [x],_=>exact oa (h x (List.mem_cons_self ..))
 | x :: y :: l,_ =>
  obtain⟨t,q,e,hf⟩:=oa (h x (List.mem_cons_self ..))
  rw [gu x (by simp),e]
  exact⟨t,_,rfl,hf⟩
theorem xu {L:List T3}{g:RS→E×RS}{d:Nat}{l:List E}{m:Int}{r:RS}{rest:List T3}(hx:∀x∈l,Bk L g x d)(ho:∀x∈l,okX x=true)(hb:r.b=false)(hd:r.d=d)(h:L.drop r.a=(5,0,⟨#[40]⟩) :: (jtk l++(5,0,⟨#[41]⟩) :: rest))(hm:m<0∨(l.length:Int)=m):cv L g m r=(l.map ij,⟨r.a+((jtk l).length+2),false,d⟩):=by
 have h1:=iz h hb
 have h2:=(b9 h).2.2
 obtain⟨ra,rb,rd⟩:=r
 dsimp only at hb hd h h2
 subst hb hd
 unfold cv
 rw [h1]
 unfold RS.up
 dsimp only
 by_cases hl:l=[]
 ·subst hl
  have h3:isS L ⟨ra+1,false,rd⟩ 5 ⟨#[41]⟩=(true,⟨ra+2,false,rd⟩):=by unfold isS;rw [if_pos (eX (r:=⟨ra+1,false,rd⟩) h2 rfl)];rfl
  rw [h3,if_pos rfl]
  have:decide (0<m)=false:=by simp at hm ⊢;omega
  rw [this]
  rfl
 ·obtain⟨t,q,e,hf⟩:=xt ho hl
  have h3:(isS L ⟨ra+1,false,rd⟩ 5 ⟨#[41]⟩).1=false:=by
   unfold isS
   rw [if_neg]
   rw [e,List.cons_append] at h2
   rw [ke (r:=⟨ra+1,false,rd⟩) h2 rfl]
   simp only [Bool.and_eq_true,decide_eq_true_iff]
   rintro ⟨q1,q2⟩
   rcases hf with hf|hf|hf|hf|hf
   ·exact hf q1
   all_goals (rw [hf] at q2;revert q2;decide)
  rw [if_neg (by rw [h3];simp)]
  have hlen:l.length≤L.length+1:=by
   have a1:=qT ho
   have a2:(L.drop (ra+1)).length=(jtk l++(5,0,⟨#[41]⟩) :: rest).length:=by rw [h2]
   rw [List.length_drop,List.length_append] at a2
   omega
  rw [sA l (L.length+1) [] ⟨ra+1,false,rd⟩ rest hl hlen hx rfl rfl h2]
  have h4:L.drop (ra+1+(jtk l).length)=(5,0,⟨#[41]⟩) :: rest:=cG h2
  rw [iz (r:=⟨ra+1+(jtk l).length,false,rd⟩) h4 rfl]
  have h5:(decide (0≤m)&&decide ((([]++l.map ij).length:Int)≠m))=false:=by
   rw [List.nil_append,List.length_map]
   simp
   omega
  dsimp only
  rw [h5]
  unfold RS.up RS.or
  simp only [List.nil_append,Bool.or_false,Prod.mk.injEq,RS.mk.injEq,and_true,true_and]
  omega
theorem tR {s:ByteArray}(h:dT s=true):∀w∈([⟨#[110,114]⟩,⟨#[110,102]⟩,⟨#[108,101,110,103,116,104]⟩,⟨#[115,117,98,115,116,114]⟩,⟨#[105,110,100,101,120]⟩,⟨#[117,112,112,101,114]⟩,⟨#[103,115,117,98]⟩,⟨#[105,110]⟩]:List ByteArray),s≠w:=by
 intro w hw e
 subst e
 unfold dT at h
 rw [Bool.and_eq_true,Bool.not_eq_true'] at h
 have h2:=h.2
 have hB:∀s,lL kwL s=kwL.any fun e=>decide (s=mf e):=fun s=>by
  unfold lL
  congr 1
  funext e
  rw [bytes_beq]
 have h3:lL kwL s=true:=by
  rw [hB]
  simp only [List.mem_cons,List.not_mem_nil,or_false] at hw
  rcases hw with rfl|rfl|rfl|rfl|rfl|rfl|rfl|rfl<;>decide
 rw [h3] at h2
 cases h2
theorem dW {L:List T3}{r:RS}{t:T3}{rest:List T3}(h:L.drop r.a=t :: rest)(hb:r.b=false)(ht:t.1≠5)(s:ByteArray):¬fW L r 5 s=true:=by
 rw [ke h hb]
 simp [ht]
theorem ik {L:List T3}{g:RS→E×RS}{r:RS}{n:Int}{s:ByteArray}{rest:List T3}(h:L.drop r.a=(2,n,s) :: rest)(hb:r.b=false):dw L g r=cf L g s r.up:=by
 unfold dw
 have h2:=(b9 h).2.1
 rw [if_neg (dW h hb (show (2:Int)≠5 by decide) _),if_neg (dW h hb (show (2:Int)≠5 by decide) _),if_neg (dW h hb (show (2:Int)≠5 by decide) _),if_neg (dW h hb (show (2:Int)≠5 by decide) _),h2,if_neg (show ¬(2:Int)=1 by decide),if_neg (show ¬(2:Int)=3 by decide),gv h hb rfl]
theorem gX {L:List T3}{g:RS→E×RS}{d:Nat}{k m:Int}{w s:ByteArray}{l:List E}{r:RS}{rest:List T3}(hw:cf L g w r.up=(xE k 0 s (cv L g m r.up).1,(cv L g m r.up).2))(hx:∀x∈l,Bk L g x d)(ho:∀x∈l,okX x=true)(hb:r.b=false)(hd:r.d=d)(h:L.drop r.a=((2,0,w) :: (5,0,⟨#[40]⟩) :: (jtk l++[(5,0,⟨#[41]⟩)]))++rest)(hm:m<0∨(l.length:Int)=m):dw L g r=(xE k 0 s (l.map ij),⟨r.a+((2,0,w) :: (5,0,⟨#[40]⟩) :: (jtk l++[(5,0,⟨#[41]⟩)]):List T3).length,false,d⟩):=by
 rw [ik h hb,hw]
 have h2:L.drop r.up.a=(5,0,⟨#[40]⟩) :: (jtk l++(5,0,⟨#[41]⟩) :: rest):=by
  have:=(b9 h).2.2
  show L.drop (r.a+1)=_
  rw [this]
  show ((5,0,⟨#[40]⟩) :: (jtk l++[(5,0,⟨#[41]⟩)]))++rest=_
  simp
 rw [xu (r:=r.up) hx ho hb hd h2 hm]
 simp only [List.length_cons,List.length_append,List.length_nil,RS.up,Prod.mk.injEq,RS.mk.injEq,and_true,true_and]
 omega
theorem mw {s:ByteArray}(h:emB s=true):s=ByteArray.empty:=by
 unfold emB at h
 rw [bytes_beq,decide_eq_true_iff] at h
 exact h
theorem op_ne {s:ByteArray}(h:lL mV s=true):s≠⟨#[40]⟩∧s≠⟨#[91]⟩∧s≠⟨#[126]⟩:=by
 unfold lL at h
 rw [List.any_eq_true] at h
 obtain⟨o,ho,he⟩:=h
 unfold mV tE at ho
 obtain⟨t,ht,rfl⟩:=List.mem_map.1 ho
 rw [bytes_beq,decide_eq_true_iff] at he
 have he':s=t:=he
 subst he'
 clear he ho
 revert s
 decide
theorem is_no {L:List T3}{r:RS}{t:T3}{rest:List T3}(h:L.drop r.a=t :: rest)(hb:r.b=false){k:Int}{s:ByteArray}(ht:¬(t.1=k∧t.2.2=s)):¬(isS L r k s).1=true:=by
 unfold isS
 rw [if_neg]
 ·simp
 ·rw [ke h hb]
  simpa using ht
theorem zh2 {L:List T3}{r:RS}{k n:Int}{s:ByteArray}{rest:List T3}(h:L.drop r.a=(k,n,s) :: rest)(hb:r.b=false):isS L r k s=(true,r.up):=by
 unfold isS
 rw [if_pos (eX h hb)]
theorem lU {L:List T3}{r:RS}{n:Int}{m s:ByteArray}{rest:List T3}(h:L.drop r.a=(5,n,m) :: rest)(hb:r.b=false)(hm:m≠s):¬fW L r 5 s=true:=by
 rw [ke h hb]
 simp [hm]
section
variable {L:List T3}{g:RS→E×RS}{d:Nat}
theorem zU {x:E}{s:ByteArray}{r:RS}{rest:List T3}(hx:Bk L g x d)(hs:dT s=true)(hb:r.b=false)(hd:r.d=d)(h:L.drop r.a=(5,0,⟨#[40]⟩) :: (tkE x++(2,0,⟨#[105,110]⟩) :: (2,0,s) :: (5,0,⟨#[41]⟩) :: rest)):dw L g r=(xE 9 0 s [ij x],⟨r.a+((tkE x).length+4),false,d⟩):=by
 have h2:=(b9 h).2.2
 unfold dw
 rw [if_pos (eX h hb)]
 unfold inS
 rw [hx r.up _ hb hd h2 (zs7 (by decide))]
 have h3:L.drop (r.up.a+(tkE x).length)=(2,0,⟨#[105,110]⟩) :: (2,0,s) :: (5,0,⟨#[41]⟩) :: rest:=cG h2
 have h4:=(b9 (r:=⟨r.up.a+(tkE x).length,false,d⟩) h3).2.2
 have h5:=(b9 (r:=⟨r.up.a+(tkE x).length+1,false,d⟩) h4).2.2
 dsimp only
 rw [zh2 (r:=⟨r.up.a+(tkE x).length,false,d⟩) h3 rfl,if_pos rfl]
 unfold fX
 rw [show (RS.up ⟨r.up.a+(tkE x).length,false,d⟩)=⟨r.up.a+(tkE x).length+1,false,d⟩ from rfl,gv (r:=⟨r.up.a+(tkE x).length+1,false,d⟩) h4 rfl rfl]
 dsimp only
 rw [if_pos hs,show (RS.up ⟨r.up.a+(tkE x).length+1,false,d⟩)=⟨r.up.a+(tkE x).length+1+1,false,d⟩ from rfl,iz (r:=⟨r.up.a+(tkE x).length+1+1,false,d⟩) h5 rfl]
 simp only [RS.up,Prod.mk.injEq,RS.mk.injEq,and_true,true_and]
 omega
theorem xv {x:E}{s:ByteArray}{r:RS}{rest:List T3}(hx:Bk L g x d)(hb:r.b=false)(hd:r.d=d)(h:L.drop r.a=(5,0,⟨#[40]⟩) :: (tkE x++(5,0,⟨#[126]⟩) :: (4,0,s) :: (5,0,⟨#[41]⟩) :: rest)):dw L g r=(xE 10 0 s [ij x],⟨r.a+((tkE x).length+4),false,d⟩):=by
 have h2:=(b9 h).2.2
 unfold dw
 rw [if_pos (eX h hb)]
 unfold inS
 rw [hx r.up _ hb hd h2 (gW (by decide) (by decide))]
 have h3:L.drop (r.up.a+(tkE x).length)=(5,0,⟨#[126]⟩) :: (4,0,s) :: (5,0,⟨#[41]⟩) :: rest:=cG h2
 have h4:=(b9 (r:=⟨r.up.a+(tkE x).length,false,d⟩) h3).2.2
 have h5:=(b9 (r:=⟨r.up.a+(tkE x).length+1,false,d⟩) h4).2.2
 dsimp only
 rw [if_neg (is_no (r:=⟨r.up.a+(tkE x).length,false,d⟩) h3 rfl (by decide)),zh2 (r:=⟨r.up.a+(tkE x).length,false,d⟩) h3 rfl,if_pos rfl]
 rw [show (RS.up ⟨r.up.a+(tkE x).length,false,d⟩)=⟨r.up.a+(tkE x).length+1,false,d⟩ from rfl,gv (r:=⟨r.up.a+(tkE x).length+1,false,d⟩) h4 rfl rfl]
 dsimp only
 rw [show (RS.up ⟨r.up.a+(tkE x).length+1,false,d⟩)=⟨r.up.a+(tkE x).length+1+1,false,d⟩ from rfl,iz (r:=⟨r.up.a+(tkE x).length+1+1,false,d⟩) h5 rfl]
 simp only [RS.up,Prod.mk.injEq,RS.mk.injEq,and_true,true_and]
 omega
theorem zV {x y:E}{s:ByteArray}{r:RS}{rest:List T3}(hx:Bk L g x d)(hy:Bk L g y d)(hs:lL mV s=true)(hb:r.b=false)(hd:r.d=d)(h:L.drop r.a=(5,0,⟨#[40]⟩) :: (tkE x++(5,0,s) :: (tkE y++(5,0,⟨#[41]⟩) :: rest))):dw L g r=(xE 6 0 s [ij x,ij y],⟨r.a+((tkE x).length+(tkE y).length+3),false,d⟩):=by
 obtain⟨o1,o2,o3⟩:=op_ne hs
 have h2:=(b9 h).2.2
 unfold dw
 rw [if_pos (eX h hb)]
 unfold inS
 rw [hx r.up _ hb hd h2 (gW o1 o2)]
 have h3:L.drop (r.up.a+(tkE x).length)=(5,0,s) :: (tkE y++(5,0,⟨#[41]⟩) :: rest):=cG h2
 have h4:=(b9 (r:=⟨r.up.a+(tkE x).length,false,d⟩) h3).2.2
 have h5:L.drop (r.up.a+(tkE x).length+1+(tkE y).length)=(5,0,⟨#[41]⟩) :: rest:=cG h4
 dsimp only
 rw [if_neg (is_no (r:=⟨r.up.a+(tkE x).length,false,d⟩) h3 rfl (fun q=>absurd (show (5:Int)=2 from q.1) (by decide))),if_neg (is_no (r:=⟨r.up.a+(tkE x).length,false,d⟩) h3 rfl (fun q=>o3 q.2)),gv (r:=⟨r.up.a+(tkE x).length,false,d⟩) h3 rfl rfl]
 dsimp only
 rw [show (RS.up ⟨r.up.a+(tkE x).length,false,d⟩)=⟨r.up.a+(tkE x).length+1,false,d⟩ from rfl,hy ⟨r.up.a+(tkE x).length+1,false,d⟩ _ rfl rfl h4 (gW (by decide) (by decide))]
 dsimp only
 rw [iz (r:=⟨r.up.a+(tkE x).length+1+(tkE y).length,false,d⟩) h5 rfl]
 simp only [RS.up,Prod.mk.injEq,RS.mk.injEq,and_true,true_and]
 omega
end
end Go.Proofs.YtomolhbkdhjofaaGreatDoor
