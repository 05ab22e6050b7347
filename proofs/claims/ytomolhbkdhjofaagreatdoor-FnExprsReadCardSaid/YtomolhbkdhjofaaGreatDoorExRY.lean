/- T -/
import Derived.Test.YtomolhbkdhjofaaGreatDoorExRX
set_option maxHeartbeats 0
set_option maxRecDepth 100000
namespace Go.Proofs.YtomolhbkdhjofaaGreatDoor
open Go.RowKit Go.Proofs.Tryz
structure RS where
 a:Nat
 b:Bool
 d:Nat
def RS.bd (r:RS):RS:=⟨r.a,true,r.d⟩
def RS.up (r:RS):RS:=⟨r.a+1,r.b,r.d⟩
def RS.or (r:RS)(c:Bool):RS:=⟨r.a,r.b||c,r.d⟩
def tAt (L:List T3)(a:Nat):T3:=L.getD a (0,0,ByteArray.empty)
def xE (k n:Int)(s:ByteArray)(l:List E):E:=.agg [.int .i64 k,.int .i64 n,.str s,.lst 4 26 none 0 l]
def zE:E:=xE 0 0 ByteArray.empty []
section
variable (L:List T3)
def gF (r:RS)(k:Int)(s:ByteArray):Bool:=!r.b&&(decide (r.a<L.length)&&(decide ((tAt L r.a).1=k)&&decide ((tAt L r.a).2.2=s)))
def isS (r:RS)(k:Int)(s:ByteArray):Bool×RS:=if gF L r k s=true then (true,r.up) else (false,r)
def mkS (r:RS)(s:ByteArray):RS:=if gF L r 5 s=true then r.up else r.bd
def bQ (r:RS)(k:Int):T3×RS:=if r.b=true∨¬r.a<L.length∨(tAt L r.a).1≠k then ((0,0,ByteArray.empty),r.bd) else (tAt L r.a,r.up)
def gG (r:RS):ByteArray×RS:=((bQ L r 2).1.2.2,if eu (bQ L r 2).1.2.2=true then (bQ L r 2).2 else (bQ L r 2).2.bd)
variable (g:RS→E×RS)
def im:Nat→List E→RS→List E×RS
 | 0,l,r=>(l,r.bd)
 | n+1,l,r=>if r.b=true then (l,r) else if (isS L (g r).2 5 ⟨#[44]⟩).1=true then im n (l++[(g r).1]) (isS L (g r).2 5 ⟨#[44]⟩).2 else (l++[(g r).1],(g r).2)
def cL (m:Int)(r:RS):List E×RS :=
 if (isS L (mkS L r ⟨#[40]⟩) 5 ⟨#[41]⟩).1=true then ([],(isS L (mkS L r ⟨#[40]⟩) 5 ⟨#[41]⟩).2.or (decide (0<m)))
 else ((im L g (L.length+1) [] (mkS L r ⟨#[40]⟩)).1,(mkS L (im L g (L.length+1) [] (mkS L r ⟨#[40]⟩)).2 ⟨#[41]⟩).or (decide (0≤m)&&decide (((im L g (L.length+1) [] (mkS L r ⟨#[40]⟩)).1.length:Int)≠m)))
def inS (r:RS):E×RS :=
 if (isS L (g r).2 2 ⟨#[105,110]⟩).1=true then (xE 9 0 (gG L (g r).2.up).1 [(g r).1],mkS L (gG L (g r).2.up).2 ⟨#[41]⟩)
 else if (isS L (g r).2 5 ⟨#[126]⟩).1=true then (xE 10 0 (bQ L (g r).2.up 4).1.2.2 [(g r).1],mkS L (bQ L (g r).2.up 4).2 ⟨#[41]⟩)
 else (xE 6 0 (bQ L (g r).2 5).1.2.2 [(g r).1,(g (bQ L (g r).2 5).2).1],mkS L (g (bQ L (g r).2 5).2).2 ⟨#[41]⟩)
def gg (r:RS):E×RS :=
 (xE 18 0 (bQ L (mkS L (g (mkS L r ⟨#[40]⟩)).2 ⟨#[126]⟩) 4).1.2.2 [(g (mkS L r ⟨#[40]⟩)).1,(g (mkS L (bQ L (mkS L (g (mkS L r ⟨#[40]⟩)).2 ⟨#[126]⟩) 4).2 ⟨#[44]⟩)).1],mkS L (g (mkS L (bQ L (mkS L (g (mkS L r ⟨#[40]⟩)).2 ⟨#[126]⟩) 4).2 ⟨#[44]⟩)).2 ⟨#[41]⟩)
def cG (s:ByteArray)(r:RS):E×RS :=
 if s=⟨#[110,114]⟩ then (xE 14 0 ByteArray.empty [],r)
 else if s=⟨#[110,102]⟩ then (xE 15 0 ByteArray.empty [],r)
 else if s=⟨#[108,101,110,103,116,104]⟩ then (xE 12 0 ByteArray.empty (cL L g 1 r).1,(cL L g 1 r).2)
 else if s=⟨#[115,117,98,115,116,114]⟩ then (xE 13 0 ByteArray.empty (cL L g 3 r).1,(cL L g 3 r).2)
 else if s=⟨#[105,110,100,101,120]⟩ then (xE 16 0 ByteArray.empty (cL L g 2 r).1,(cL L g 2 r).2)
 else if s=⟨#[117,112,112,101,114]⟩ then (xE 17 0 ByteArray.empty (cL L g 1 r).1,(cL L g 1 r).2)
 else if s=⟨#[103,115,117,98]⟩ then gg L g r
 else if gF L r 5 ⟨#[40]⟩=true then (xE 11 0 s (cL L g (-1) r).1,(cL L g (-1) r).2)
 else if gF L r 5 ⟨#[91]⟩=true then (xE 4 0 s [(g r.up).1],mkS L (g r.up).2 ⟨#[93]⟩)
 else (xE 3 0 s [],r)
def dW (r:RS):E×RS :=
 if gF L r 5 ⟨#[40]⟩=true then inS L g r.up
 else if gF L r 5 ⟨#[36]⟩=true then (xE 5 0 ByteArray.empty [(g r.up).1],(g r.up).2)
 else if gF L r 5 ⟨#[33]⟩=true then (xE 7 0 ByteArray.empty [(g r.up).1],(g r.up).2)
 else if gF L r 5 ⟨#[45]⟩=true then (xE 8 0 ByteArray.empty [(g r.up).1],(g r.up).2)
 else if (tAt L r.a).1=1 then (xE 1 (bQ L r 1).1.2.1 ByteArray.empty [],(bQ L r 1).2)
 else if (tAt L r.a).1=3 then (xE 2 0 (bQ L r 3).1.2.2 [],(bQ L r 3).2)
 else cG L g (bQ L r 2).1.2.2 (bQ L r 2).2
end
def exS (L:List T3):Nat→RS→E×RS
 | 0,r=>(zE,r.bd)
 | f+1,r=>if 20<r.d+1∨r.b=true∨¬r.a<L.length then (zE,⟨r.a,true,r.d+1⟩) else ((dW L (exS L f) ⟨r.a,r.b,r.d+1⟩).1,⟨(dW L (exS L f) ⟨r.a,r.b,r.d+1⟩).2.a,(dW L (exS L f) ⟨r.a,r.b,r.d+1⟩).2.b,(dW L (exS L f) ⟨r.a,r.b,r.d+1⟩).2.d-1⟩)
def Con (L:List T3)(a:Nat)(l:List T3)(b:Nat):Prop:=L.drop a=l++L.drop b
theorem Con.trans {L:List T3}{a b c:Nat}{l m:List T3}(h:Con L a l b)(k:Con L b m c):Con L a (l++m) c:=by
 unfold Con at *
 rw [h,k,List.append_assoc]
theorem xP {L:List T3}{a:Nat}(h:a<L.length):Con L a [tAt L a] (a+1):=by
 unfold Con tAt
 rw [List.getD_eq_getElem?_getD,List.getElem?_eq_getElem h,Option.getD_some]
 exact List.drop_eq_getElem_cons h
def okL (L:List T3):Prop:=∀t∈L,bY t.1 t.2.1 t.2.2=true
theorem sX {L:List T3}(hL:okL L){a:Nat}(h:a<L.length):bY (tAt L a).1 (tAt L a).2.1 (tAt L a).2.2=true:=by
 unfold tAt
 rw [List.getD_eq_getElem?_getD,List.getElem?_eq_getElem h,Option.getD_some]
 exact hL _ (List.getElem_mem h)
theorem xQ {k n:Int}{s:ByteArray}(h:bY k n s=true)(hk:k≠1):n=0:=by
 unfold bY at h
 rw [if_neg hk] at h
 split at h
 ·simp only [baq,dqt] at h;exact h.2
 ·split at h
  ·simp only [baq,dqt] at h;exact h.2
  ·split at h
   ·simp only [baq,dqt] at h;exact h.2.2
   ·split at h
    ·simp only [baq,dqt] at h;exact h.2
    ·cases h
theorem mG {L:List T3}(hL:okL L){r:RS}{k:Int}{s:ByteArray}(hk:k≠1)(h:gF L r k s=true):r.b=false∧Con L r.a [(k,0,s)] (r.a+1):=by
 unfold gF at h
 simp only [baq,bnt,dqt] at h
 obtain⟨h1,h2,h3,h4⟩:=h
 have h5:=xQ (sX hL h2) (by rw [h3];exact hk)
 refine⟨h1,?_⟩
 have h6:=xP h2
 have e:tAt L r.a=(k,0,s):=by rw [←h3,←h5,←h4]
 rwa [e] at h6
theorem is_to {L:List T3}(hL:okL L){r:RS}{k:Int}{s:ByteArray}(hk:k≠1)(h:(isS L r k s).1=true):r.b=false∧Con L r.a [(k,0,s)] (r.a+1)∧(isS L r k s).2=r.up:=by
 unfold isS at h ⊢
 split at h
 ·rename_i hs
  obtain⟨h1,h2⟩:=mG hL hk hs
  exact⟨h1,h2,by rw [if_pos hs]⟩
 ·cases h
theorem mH {L:List T3}(hL:okL L){r:RS}{s:ByteArray}(h:(mkS L r s).b=false):r.b=false∧Con L r.a [(5,0,s)] (mkS L r s).a∧(mkS L r s).d=r.d:=by
 unfold mkS at h ⊢
 split at h
 ·rename_i hs
  obtain⟨h1,h2⟩:=mG hL (by decide) hs
  rw [if_pos hs]
  exact⟨h1,h2,rfl⟩
 ·cases h
theorem rg {L:List T3}(hL:okL L){r:RS}{k:Int}(h:(bQ L r k).2.b=false):r.b=false∧Con L r.a [(bQ L r k).1] (bQ L r k).2.a∧(bQ L r k).1.1=k∧bY (bQ L r k).1.1 (bQ L r k).1.2.1 (bQ L r k).1.2.2=true:=by
 unfold bQ at h ⊢
 split at h
 ·cases h
 ·rename_i hs
  rw [if_neg hs]
  have h1:r.b=false:=h
  have h2:r.a<L.length:=Classical.byContradiction fun q=>hs (.inr (.inl q))
  have h3:(tAt L r.a).1=k:=Classical.byContradiction fun q=>hs (.inr (.inr q))
  exact⟨h1,xP h2,h3,sX hL h2⟩
theorem zg6 {L:List T3}(hL:okL L){r:RS}(h:(gG L r).2.b=false):r.b=false∧Con L r.a [(2,0,(gG L r).1)] (gG L r).2.a:=by
 unfold gG at h ⊢
 dsimp only at h ⊢
 split at h
 ·rename_i hs
  rw [if_pos hs]
  obtain⟨h1,h2,h3,h4⟩:=rg hL h
  refine⟨h1,?_⟩
  have h5:=xQ h4 (by rw [h3];decide)
  have e:(bQ L r 2).1=(2,0,(bQ L r 2).1.2.2):=Prod.ext h3 (Prod.ext h5 rfl)
  rwa [e] at h2
 ·cases h
def GdS (L:List T3)(g:RS→E×RS):Prop:=∀r,(g r).2.b=false→r.b=false∧Con L r.a (tkE (g r).1) (g r).2.a
def jtk (l:List E):List T3:=bS (jnP (l.map pcE))
theorem hO (x:E){l:List E}(h:l≠[]):jtk (x :: l)=tkE x++(5,0,⟨#[44]⟩) :: jtk l:=by
 match l,h with
 | y :: r,_ =>
  show bS (pcE x++(mkP ⟨#[44]⟩ :: none :: jnP (pcE y :: r.map pcE)))=_
  rw [di]
  rfl
theorem m9 (k n:Int)(s:ByteArray)(l:List E):tkE (xE k n s l)=bS (gf k n s (l.map pcE)):=by
 unfold tkE xE
 rw [iU]
theorem zz2 {L:List T3}(hL:okL L){g:RS→E×RS}(hg:GdS L g):∀(n:Nat) (l:List E) (r:RS),(im L g n l r).2.b=false→∃m:List E,m≠[]∧(im L g n l r).1=l++m∧r.b=false∧Con L r.a (jtk m) (im L g n l r).2.a
 | 0,l,r,h=>by cases h
 | n+1,l,r,h=>by
  unfold im at h ⊢
  by_cases hb:r.b=true
  ·rw [if_pos hb] at h
   rw [hb] at h;cases h
  ·rw [if_neg hb] at h ⊢
   have hb':r.b=false:=by cases hr:r.b with
    | false=>rfl
    | true=>exact absurd hr hb
   by_cases hi:(isS L (g r).2 5 ⟨#[44]⟩).1=true
   ·rw [if_pos hi] at h ⊢
    obtain⟨i1,i2,i3⟩:=is_to hL (by decide) hi
    obtain⟨m,q1,q2,q3,q4⟩:=zz2 hL hg n _ _ h
    obtain⟨g1,g2⟩:=hg r i1
    refine⟨(g r).1 :: m,by simp,by rw [q2];simp,hb',?_⟩
    rw [hO _ q1]
    rw [i3] at q4 ⊢
    exact g2.trans (i2.trans q4)
   ·rw [if_neg hi] at h ⊢
    obtain⟨g1,g2⟩:=hg r h
    exact⟨[(g r).1],by simp,rfl,hb',g2⟩
theorem or_to {r:RS}{c:Bool}(h:(r.or c).b=false):r.b=false∧c=false:=by
 unfold RS.or at h
 simpa using h
theorem mI {L:List T3}(hL:okL L){g:RS→E×RS}(hg:GdS L g){m:Int}{r:RS}(h:(cL L g m r).2.b=false):r.b=false∧Con L r.a ((5,0,⟨#[40]⟩) :: (jtk (cL L g m r).1++[(5,0,⟨#[41]⟩)])) (cL L g m r).2.a:=by
 unfold cL at h ⊢
 by_cases hi:(isS L (mkS L r ⟨#[40]⟩) 5 ⟨#[41]⟩).1=true
 ·rw [if_pos hi] at h ⊢
  obtain⟨i1,i2,i3⟩:=is_to hL (by decide) hi
  obtain⟨k1,k2,-⟩:=mH hL i1
  refine⟨k1,?_⟩
  dsimp only
  rw [i3]
  exact k2.trans i2
 ·rw [if_neg hi] at h ⊢
  obtain⟨h1,-⟩:=or_to h
  obtain⟨j1,j2,-⟩:=mH hL h1
  obtain⟨l,q1,q2,q3,q4⟩:=zz2 hL hg _ _ _ j1
  obtain⟨k1,k2,-⟩:=mH hL q3
  refine⟨k1,?_⟩
  dsimp only
  rw [q2,List.nil_append]
  exact k2.trans (q4.trans j2)
theorem pQ {L:List T3}(hL:okL L){r:RS}{k:Int}(hk:k≠1)(h:(bQ L r k).2.b=false):r.b=false∧Con L r.a [(k,0,(bQ L r k).1.2.2)] (bQ L r k).2.a:=by
 obtain⟨h1,h2,h3,h4⟩:=rg hL h
 refine⟨h1,?_⟩
 have h5:=xQ h4 (by rw [h3];exact hk)
 have e:(bQ L r k).1=(k,0,(bQ L r k).1.2.2):=Prod.ext h3 (Prod.ext h5 rfl)
 rwa [e] at h2
theorem tk_9 (s:ByteArray)(x:E):tkE (xE 9 0 s [x])=(5,0,⟨#[40]⟩) :: (tkE x++[(2,0,⟨#[105,110]⟩),(2,0,s),(5,0,⟨#[41]⟩)]):=by
 rw [m9]
 show (5,0,⟨#[40]⟩) :: bS (pcE x++[none,nmP ⟨#[105,110]⟩,none,nmP s,mkP ⟨#[41]⟩])=_
 rw [di];rfl
theorem tk_10 (s:ByteArray)(x:E):tkE (xE 10 0 s [x])=(5,0,⟨#[40]⟩) :: (tkE x++[(5,0,⟨#[126]⟩),(4,0,s),(5,0,⟨#[41]⟩)]):=by
 rw [m9]
 show (5,0,⟨#[40]⟩) :: bS (pcE x++[none,mkP ⟨#[126]⟩,none,rxP s,mkP ⟨#[41]⟩])=_
 rw [di];rfl
theorem tk_6 (s:ByteArray)(x y:E):tkE (xE 6 0 s [x,y])=(5,0,⟨#[40]⟩) :: (tkE x++((5,0,s) :: (tkE y++[(5,0,⟨#[41]⟩)]))):=by
 rw [m9]
 show (5,0,⟨#[40]⟩) :: bS (pcE x++(none :: mkP s :: none :: (pcE y++[mkP ⟨#[41]⟩])))=_
 rw [di]
 show (5,0,⟨#[40]⟩) :: (tkE x++((5,0,s) :: bS (pcE y++[mkP ⟨#[41]⟩])))=_
 rw [di];rfl
theorem tk_18 (s:ByteArray)(x y:E):tkE (xE 18 0 s [x,y])=(2,0,⟨#[103,115,117,98]⟩) :: (5,0,⟨#[40]⟩) :: (tkE x++((5,0,⟨#[126]⟩) :: (4,0,s) :: (5,0,⟨#[44]⟩) :: (tkE y++[(5,0,⟨#[41]⟩)]))):=by
 rw [m9]
 show (2,0,⟨#[103,115,117,98]⟩) :: (5,0,⟨#[40]⟩) :: bS (pcE x++(none :: mkP ⟨#[126]⟩ :: none :: rxP s :: mkP ⟨#[44]⟩ :: none :: (pcE y++[mkP ⟨#[41]⟩])))=_
 rw [di]
 show (2,0,⟨#[103,115,117,98]⟩) :: (5,0,⟨#[40]⟩) :: (tkE x++((5,0,⟨#[126]⟩) :: (4,0,s) :: (5,0,⟨#[44]⟩) :: bS (pcE y++[mkP ⟨#[41]⟩])))=_
 rw [di];rfl
theorem eJ (w:ByteArray)(l:List E):bS (nmP w :: mkP ⟨#[40]⟩ :: (jnP (l.map pcE)++[mkP ⟨#[41]⟩]))=(2,0,w) :: (5,0,⟨#[40]⟩) :: (jtk l++[(5,0,⟨#[41]⟩)]):=by
 show (2,0,w) :: (5,0,⟨#[40]⟩) :: bS (jnP (l.map pcE)++[mkP ⟨#[41]⟩])=_
 rw [di];rfl
theorem in_to {L:List T3}(hL:okL L){g:RS→E×RS}(hg:GdS L g){a0:Nat}{r:RS}(h0:Con L a0 [(5,0,⟨#[40]⟩)] r.a)(h:(inS L g r).2.b=false):r.b=false∧Con L a0 (tkE (inS L g r).1) (inS L g r).2.a:=by
 unfold inS at h ⊢
 by_cases h1:(isS L (g r).2 2 ⟨#[105,110]⟩).1=true
 ·rw [if_pos h1] at h ⊢
  obtain⟨i1,i2,-⟩:=is_to hL (by decide) h1
  obtain⟨j1,j2,-⟩:=mH hL h
  obtain⟨k1,k2⟩:=zg6 hL j1
  obtain⟨g1,g2⟩:=hg r i1
  refine⟨g1,?_⟩
  dsimp only
  rw [tk_9]
  exact h0.trans (g2.trans (i2.trans (k2.trans j2)))
 rw [if_neg h1] at h ⊢
 by_cases h2:(isS L (g r).2 5 ⟨#[126]⟩).1=true
 ·rw [if_pos h2] at h ⊢
  obtain⟨i1,i2,-⟩:=is_to hL (by decide) h2
  obtain⟨j1,j2,-⟩:=mH hL h
  obtain⟨k1,k2⟩:=pQ hL (by decide) j1
  obtain⟨g1,g2⟩:=hg r i1
  refine⟨g1,?_⟩
  dsimp only
  rw [tk_10]
  exact h0.trans (g2.trans (i2.trans (k2.trans j2)))
 ·rw [if_neg h2] at h ⊢
  obtain⟨j1,j2,-⟩:=mH hL h
  obtain⟨u1,u2⟩:=hg _ j1
  obtain⟨k1,k2⟩:=pQ hL (by decide) u1
  obtain⟨g1,g2⟩:=hg r k1
  refine⟨g1,?_⟩
  dsimp only
  rw [tk_6]
  exact h0.trans (g2.trans (k2.trans (u2.trans j2)))
theorem zh6 {L:List T3}(hL:okL L){g:RS→E×RS}(hg:GdS L g){r:RS}(h:(gg L g r).2.b=false):r.b=false∧∀a0,Con L a0 [(2,0,⟨#[103,115,117,98]⟩)] r.a→Con L a0 (tkE (gg L g r).1) (gg L g r).2.a:=by
 unfold gg at h ⊢
 obtain⟨a1,a2,-⟩:=mH hL h
 obtain⟨b1,b2⟩:=hg _ a1
 obtain⟨c1,c2,-⟩:=mH hL b1
 obtain⟨d1,d2⟩:=pQ hL (by decide) c1
 obtain⟨e1,e2,-⟩:=mH hL d1
 obtain⟨f1,f2⟩:=hg _ e1
 obtain⟨i1,i2,-⟩:=mH hL f1
 refine⟨i1,fun a0 h0=>?_⟩
 dsimp only
 rw [tk_18]
 exact h0.trans (i2.trans (f2.trans (e2.trans (d2.trans (c2.trans (b2.trans a2))))))
theorem zi6 {L:List T3}(hL:okL L){g:RS→E×RS}(hg:GdS L g){s:ByteArray}{r:RS}(h:(cG L g s r).2.b=false):r.b=false∧∀a0,Con L a0 [(2,0,s)] r.a→Con L a0 (tkE (cG L g s r).1) (cG L g s r).2.a:=by
 unfold cG at h ⊢
 by_cases w1:s=⟨#[110,114]⟩
 ·rw [if_pos w1] at h ⊢
  subst w1
  exact⟨h,fun a0 h0=>h0⟩
 rw [if_neg w1] at h ⊢
 by_cases w2:s=⟨#[110,102]⟩
 ·rw [if_pos w2] at h ⊢
  subst w2
  exact⟨h,fun a0 h0=>h0⟩
 rw [if_neg w2] at h ⊢
 by_cases w3:s=⟨#[108,101,110,103,116,104]⟩
 ·rw [if_pos w3] at h ⊢
  subst w3
  obtain⟨l1,l2⟩:=mI hL hg h
  refine⟨l1,fun a0 h0=>?_⟩
  dsimp only
  rw [m9]
  show Con L a0 (bS (nmP _ :: mkP ⟨#[40]⟩ :: (jnP (_)++[mkP ⟨#[41]⟩]))) _
  rw [eJ]
  exact h0.trans l2
 rw [if_neg w3] at h ⊢
 by_cases w4:s=⟨#[115,117,98,115,116,114]⟩
 ·rw [if_pos w4] at h ⊢
  subst w4
  obtain⟨l1,l2⟩:=mI hL hg h
  refine⟨l1,fun a0 h0=>?_⟩
  dsimp only
  rw [m9]
  show Con L a0 (bS (nmP _ :: mkP ⟨#[40]⟩ :: (jnP (_)++[mkP ⟨#[41]⟩]))) _
  rw [eJ]
  exact h0.trans l2
 rw [if_neg w4] at h ⊢
 by_cases w5:s=⟨#[105,110,100,101,120]⟩
 ·rw [if_pos w5] at h ⊢
  subst w5
  obtain⟨l1,l2⟩:=mI hL hg h
  refine⟨l1,fun a0 h0=>?_⟩
  dsimp only
  rw [m9]
  show Con L a0 (bS (nmP _ :: mkP ⟨#[40]⟩ :: (jnP (_)++[mkP ⟨#[41]⟩]))) _
  rw [eJ]
  exact h0.trans l2
 rw [if_neg w5] at h ⊢
 by_cases w6:s=⟨#[117,112,112,101,114]⟩
 ·rw [if_pos w6] at h ⊢
  subst w6
  obtain⟨l1,l2⟩:=mI hL hg h
  refine⟨l1,fun a0 h0=>?_⟩
  dsimp only
  rw [m9]
  show Con L a0 (bS (nmP _ :: mkP ⟨#[40]⟩ :: (jnP (_)++[mkP ⟨#[41]⟩]))) _
  rw [eJ]
  exact h0.trans l2
 rw [if_neg w6] at h ⊢
 by_cases w7:s=⟨#[103,115,117,98]⟩
 ·rw [if_pos w7] at h ⊢
  subst w7
  exact zh6 hL hg h
 rw [if_neg w7] at h ⊢
 by_cases w8:gF L r 5 ⟨#[40]⟩=true
 ·rw [if_pos w8] at h ⊢
  obtain⟨l1,l2⟩:=mI hL hg h
  refine⟨l1,fun a0 h0=>?_⟩
  dsimp only
  rw [m9]
  show Con L a0 (bS (nmP _ :: mkP ⟨#[40]⟩ :: (jnP (_)++[mkP ⟨#[41]⟩]))) _
  rw [eJ]
  exact h0.trans l2
 rw [if_neg w8] at h ⊢
 by_cases w9:gF L r 5 ⟨#[91]⟩=true
 ·rw [if_pos w9] at h ⊢
  obtain⟨a1,a2⟩:=mG hL (by decide) w9
  obtain⟨b1,b2,-⟩:=mH hL h
  obtain⟨g1,g2⟩:=hg _ b1
  refine⟨a1,fun a0 h0=>?_⟩
  dsimp only
  have e:tkE (xE 4 0 s [(g r.up).1])=(2,0,s) :: (5,0,⟨#[91]⟩) :: (tkE (g r.up).1++[(5,0,⟨#[93]⟩)]):=by
   rw [m9]
   show (2,0,s) :: (5,0,⟨#[91]⟩) :: bS (pcE (g r.up).1++[mkP ⟨#[93]⟩])=_
   rw [di];rfl
  rw [e]
  exact h0.trans (a2.trans (g2.trans b2))
 ·rw [if_neg w9] at h ⊢
  exact⟨h,fun a0 h0=>h0⟩
theorem zj6 {L:List T3}(hL:okL L){g:RS→E×RS}(hg:GdS L g):GdS L (dW L g):=fun r h=>by
 unfold dW at h ⊢
 by_cases w1:gF L r 5 ⟨#[40]⟩=true
 ·rw [if_pos w1] at h ⊢
  obtain⟨a1,a2⟩:=mG hL (by decide) w1
  exact⟨a1,(in_to hL hg (r:=r.up) a2 h).2⟩
 rw [if_neg w1] at h ⊢
 by_cases w2:gF L r 5 ⟨#[36]⟩=true
 ·rw [if_pos w2] at h ⊢
  obtain⟨a1,a2⟩:=mG hL (by decide) w2
  obtain⟨g1,g2⟩:=hg _ h
  refine⟨a1,?_⟩
  dsimp only
  have e:tkE (xE 5 0 ByteArray.empty [(g r.up).1])=(5,0,⟨#[36]⟩) :: tkE (g r.up).1:=by rw [m9];rfl
  rw [e]
  exact a2.trans g2
 rw [if_neg w2] at h ⊢
 by_cases w3:gF L r 5 ⟨#[33]⟩=true
 ·rw [if_pos w3] at h ⊢
  obtain⟨a1,a2⟩:=mG hL (by decide) w3
  obtain⟨g1,g2⟩:=hg _ h
  refine⟨a1,?_⟩
  dsimp only
  have e:tkE (xE 7 0 ByteArray.empty [(g r.up).1])=(5,0,⟨#[33]⟩) :: tkE (g r.up).1:=by rw [m9];rfl
  rw [e]
  exact a2.trans g2
 rw [if_neg w3] at h ⊢
 by_cases w4:gF L r 5 ⟨#[45]⟩=true
 ·rw [if_pos w4] at h ⊢
  obtain⟨a1,a2⟩:=mG hL (by decide) w4
  obtain⟨g1,g2⟩:=hg _ h
  refine⟨a1,?_⟩
  dsimp only
  have e:tkE (xE 8 0 ByteArray.empty [(g r.up).1])=(5,0,⟨#[45]⟩) :: tkE (g r.up).1:=by rw [m9];rfl
  rw [e]
  exact a2.trans g2
 rw [if_neg w4] at h ⊢
 by_cases w5:(tAt L r.a).1=1
 ·rw [if_pos w5] at h ⊢
  obtain⟨a1,a2,a3,a4⟩:=rg hL h
  refine⟨a1,?_⟩
  have h5:(bQ L r 1).1.2.2=ByteArray.empty:=by
   rw [a3] at a4
   unfold bY at a4
   rw [if_pos rfl] at a4
   simp only [baq,dqt] at a4
   exact iw a4.2.2 fun j hj=>absurd hj omq
  have e:(bQ L r 1).1=(1,(bQ L r 1).1.2.1,ByteArray.empty):=Prod.ext a3 (Prod.ext rfl h5)
  rw [e] at a2
  exact a2
 rw [if_neg w5] at h ⊢
 by_cases w6:(tAt L r.a).1=3
 ·rw [if_pos w6] at h ⊢
  obtain⟨a1,a2⟩:=pQ hL (by decide) h
  exact⟨a1,a2⟩
 rw [if_neg w6] at h ⊢
 obtain⟨b1,b2⟩:=zi6 hL hg h
 obtain⟨a1,a2⟩:=pQ hL (by decide) b1
 exact⟨a1,b2 _ a2⟩
theorem za3 {L:List T3}(hL:okL L):∀f,GdS L (exS L f)
 | 0,r,h=>by cases h
 | f+1,r,h=>by
  unfold exS at h ⊢
  split at h
  ·cases h
  ·rename_i hs
   rw [if_neg hs]
   have hb:r.b=false:=by
    cases hr:r.b with
    | false=>rfl
    | true=>exact absurd (.inr (.inl hr)) hs
   obtain⟨-,h2⟩:=zj6 hL (za3 hL f) ⟨r.a,r.b,r.d+1⟩ h
   exact⟨hb,h2⟩
theorem zk6 {L:List T3}(hL:okL L){f:Nat}(h:(exS L f ⟨0,false,0⟩).2.b=false)(ha:(exS L f ⟨0,false,0⟩).2.a=L.length):L=tkE (exS L f ⟨0,false,0⟩).1:=by
 have h1:=(za3 hL f _ h).2
 rw [ha] at h1
 unfold Con at h1
 rw [List.drop_length,List.append_nil] at h1
 exact h1
def canF:Nat→E→E
 | 0,e=>e
 | f+1,e=>match e with
  | .agg [.int _ k,.int _ n,.str s,.lst _ _ _ _ l]=>xE k n s (l.map (canF f))
  | e=>e
def iV (e:E):E:=canF (e.sz+1) e
theorem rh:∀(n f:Nat) (e:E),e.sz<n→e.sz<f→canF f e=iV e
 | 0,_,_,h,_=>absurd h (Nat.not_lt_zero _)
 | n+1,0,_,_,h=>absurd h (Nat.not_lt_zero _)
 | n+1,f+1,e,h1,h2=>by
  have key:∀x∈dV e,canF f x=canF e.sz x:=fun x hx=>by
   have hs:=ey e x hx
   rw [rh n f x omq omq,rh n e.sz x omq hs]
  unfold iV
  unfold canF
  split
  ·rename_i k n' s T A c m l
   congr 1
   exact List.map_congr_left key
  ·rfl
theorem pR (i j:IntKind)(k n:Int)(s:ByteArray)(w:Nat)(T:TypeId)(A:Option Addr)(c:Nat)(l:List E):iV (.agg [.int i k,.int j n,.str s,.lst w T A c l])=xE k n s (l.map iV):=by
 show xE k n s (l.map (canF (E.sz (.agg [.int i k,.int j n,.str s,.lst w T A c l]))))=_
 congr 1
 refine List.map_congr_left fun x hx=>?_
 exact rh (x.sz+1) _ x omq (ey _ x hx)
section
variable {L:List T3}{r:RS}{t:T3}{rest:List T3}
theorem cF (h:L.drop r.a=t :: rest):r.a<L.length∧tAt L r.a=t∧L.drop (r.a+1)=rest:=by
 have hlt:r.a<L.length:=Classical.byContradiction fun q=>by
  rw [List.drop_eq_nil_of_le omq] at h;cases h
 have h2:=List.drop_eq_getElem_cons hlt
 rw [h] at h2
 injection h2 with h3 h4
 refine⟨hlt,?_,h4.symm⟩
 unfold tAt
 rw [List.getD_eq_getElem?_getD,List.getElem?_eq_getElem hlt,Option.getD_some]
 exact h3.symm
theorem kR (h:L.drop r.a=t :: rest)(hb:r.b=false)(k:Int)(s:ByteArray):gF L r k s=(decide (t.1=k)&&decide (t.2.2=s)):=by
 obtain⟨h1,h2,-⟩:=cF h
 unfold gF
 rw [hb,h2,decide_eq_true h1];rfl
theorem fJ {k n:Int}{s:ByteArray}(h:L.drop r.a=(k,n,s) :: rest)(hb:r.b=false):gF L r k s=true:=by rw [kR h hb];simp
theorem jd {s:ByteArray}(h:L.drop r.a=(5,0,s) :: rest)(hb:r.b=false):mkS L r s=r.up:=by
 unfold mkS;rw [if_pos (fJ h hb)]
theorem hQ {k:Int}(h:L.drop r.a=t :: rest)(hb:r.b=false)(hk:t.1=k):bQ L r k=(t,r.up):=by
 obtain⟨h1,h2,-⟩:=cF h
 unfold bQ
 rw [if_neg (by rintro (q|q|q);·rw [hb] at q;cases q
                ·exact q h1
                ·rw [h2] at q;exact q hk),h2]
theorem xR (h:L.drop r.a=[])(k:Int)(s:ByteArray):gF L r k s=false:=by
 have:¬r.a<L.length:=fun q=>by
  have:=List.drop_eq_getElem_cons q
  rw [h] at this;cases this
 unfold gF
 rw [decide_eq_false this];simp
end
def nfol (rest:List T3):Prop:=∀t r,rest=t :: r→¬(t.1=5∧(t.2.2=⟨#[40]⟩∨t.2.2=⟨#[91]⟩))
theorem zl6 {L:List T3}{r:RS}{rest:List T3}(h:L.drop r.a=rest)(hf:nfol rest)(hb:r.b=false):gF L r 5 ⟨#[40]⟩=false∧gF L r 5 ⟨#[91]⟩=false:=by
 cases rest with
 | nil=>exact⟨xR h _ _,xR h _ _⟩
 | cons t q =>
  have:=hf t q rfl
  rw [kR h hb,kR h hb]
  simp only [Bool.and_eq_false_iff,dqn]
  constructor
  ·by_cases h5:t.1=5
   ·right;exact fun h=>this ⟨h5,.inl h⟩
   ·left;exact h5
  ·by_cases h5:t.1=5
   ·right;exact fun h=>this ⟨h5,.inr h⟩
   ·left;exact h5
def Bk (L:List T3)(g:RS→E×RS)(e:E)(d:Nat):Prop:=∀r rest,r.b=false→r.d=d→L.drop r.a=tkE e++rest→nfol rest→g r=(iV e,⟨r.a+(tkE e).length,false,d⟩)
def fstT (t:T3):Prop:=t.1≠5∨t.2.2=⟨#[40]⟩∨t.2.2=⟨#[36]⟩∨t.2.2=⟨#[33]⟩∨t.2.2=⟨#[45]⟩
theorem oG {e:E}(h:okX e=true):∃t l,tkE e=t :: l∧fstT t:=by
 obtain⟨-,h2⟩:=lB h
 unfold oA at h2
 split at h2
 ·rename_i i k j m s w T A c l
  unfold tkE
  rw [iU]
  rcases mB h2 with ⟨rfl,-,-⟩|rfl|rfl|⟨rfl|rfl,-⟩|⟨rfl|rfl|rfl|rfl|rfl,-⟩|⟨rfl,-⟩|⟨rfl,-⟩|⟨rfl,-⟩|rfl|rfl|rfl|rfl|rfl
  all_goals first
   | exact⟨_,_,rfl,.inl (by decide)⟩
   | exact⟨_,_,rfl,.inl (fun h=>by dsimp only at h;omega)⟩
   | exact⟨_,_,rfl,.inr (.inl rfl)⟩
   | exact⟨_,_,rfl,.inr (.inr (.inl rfl))⟩
   | exact⟨_,_,rfl,.inr (.inr (.inr (.inl rfl)))⟩
   | exact⟨_,_,rfl,.inr (.inr (.inr (.inr rfl)))⟩
 ·cases h2
theorem iD {m:ByteArray}{rest:List T3}(h1:m≠⟨#[40]⟩)(h2:m≠⟨#[91]⟩):nfol ((5,0,m) :: rest):=fun t r h=>by
 injection h with h3 h4
 subst h3
 rintro ⟨-,q|q⟩
 ·exact h1 q
 ·exact h2 q
theorem zo8 {k n:Int}{m:ByteArray}{rest:List T3}(h:k≠5):nfol ((k,n,m) :: rest):=fun t r hh=>by
 injection hh with h3 h4
 subst h3
 exact fun q=>h q.1
theorem cY {L:List T3}{a:Nat}{l rest:List T3}(h:L.drop a=l++rest):L.drop (a+l.length)=rest:=by
 rw [←List.drop_drop,h,List.drop_left]
theorem sY {L:List T3}{g:RS→E×RS}{d:Nat}:∀(l:List E) (n:Nat) (acc:List E) (r:RS) (rest:List T3),l≠[]→l.length≤n→(∀x∈l,Bk L g x d)→r.b=false→r.d=d→L.drop r.a=jtk l++(5,0,⟨#[41]⟩) :: rest→im L g n acc r=(acc++l.map iV,⟨r.a+(jtk l).length,false,d⟩)
 | [],_,_,_,_,h,_,_,_,_,_=>absurd rfl h
 | [x],n+1,acc,r,rest,_,_,hx,hb,hd,h=>by
  have h1:=hx x (mcs ..) r ((5,0,⟨#[41]⟩) :: rest) hb hd h (iD (by decide) (by decide))
  unfold im
  rw [if_neg (by rw [hb];simp),h1]
  have h2:L.drop (r.a+(tkE x).length)=(5,0,⟨#[41]⟩) :: rest:=cY h
  have h3:gF L ⟨r.a+(tkE x).length,false,d⟩ 5 ⟨#[44]⟩=false:=by
   rw [kR (r:=⟨r.a+(tkE x).length,false,d⟩) h2 rfl]
   decide
  have h4:(isS L ⟨r.a+(tkE x).length,false,d⟩ 5 ⟨#[44]⟩).1=false:=by unfold isS;rw [if_neg (by rw [h3];simp)]
  dsimp only
  rw [if_neg (by rw [h4];simp)]
  rfl
 | x :: y :: l,n+1,acc,r,rest,_,hn,hx,hb,hd,h=>by
  rw [hO x (by simp),List.append_assoc] at h
  have h1:=hx x (mcs ..) r _ hb hd h (iD (by decide) (by decide))
  have h2:L.drop (r.a+(tkE x).length)=(5,0,⟨#[44]⟩) :: (jtk (y :: l)++(5,0,⟨#[41]⟩) :: rest):=cY h
  have h3:gF L ⟨r.a+(tkE x).length,false,d⟩ 5 ⟨#[44]⟩=true:=fJ (r:=⟨r.a+(tkE x).length,false,d⟩) h2 rfl
  have h5:=(cF (r:=⟨r.a+(tkE x).length,false,d⟩) h2).2.2
  unfold im
  rw [if_neg (by rw [hb];simp),h1]
  dsimp only
  have h4:isS L ⟨r.a+(tkE x).length,false,d⟩ 5 ⟨#[44]⟩=(true,⟨r.a+(tkE x).length+1,false,d⟩):=by unfold isS;rw [if_pos h3];rfl
  rw [h4,if_pos rfl]
  rw [sY (y :: l) n _ ⟨r.a+(tkE x).length+1,false,d⟩ rest (by simp) (by simp only [List.length_cons] at hn ⊢;omega) (fun z hz=>hx z (mco _ hz)) rfl rfl h5]
  rw [hO x (by simp)]
  simp only [lla,List.length_cons,List.map_cons,List.append_assoc,List.singleton_append,Prod.mk.injEq,RS.mk.injEq,and_true,true_and]
  omega
theorem ri:∀{l:List E},(∀x∈l,okX x=true)→l.length≤(jtk l).length
 | [],_=>Nat.zero_le _
 | [x],h=>by
  obtain⟨t,q,e,-⟩:=oG (h x (mcs ..))
  show 1≤(tkE x).length
  rw [e];simp
 | x :: y :: l,h=>by
  have h1:=ri (l:=y :: l) fun z hz=>h z (mco _ hz)
  rw [hO x (by simp),lla,List.length_cons]
  simp only [List.length_cons] at h1 ⊢
  omega
theorem xS {l:List E}(h:∀x∈l,okX x=true)(hne:l≠[]):∃t q,jtk l=t :: q∧fstT t:=by
 match l,hne with
 | [x],_=>exact oG (h x (mcs ..))
 | x :: y :: l,_ =>
  obtain⟨t,q,e,hf⟩:=oG (h x (mcs ..))
  rw [hO x (by simp),e]
  exact⟨t,_,rfl,hf⟩
theorem xT {L:List T3}{g:RS→E×RS}{d:Nat}{l:List E}{m:Int}{r:RS}{rest:List T3}(hx:∀x∈l,Bk L g x d)(ho:∀x∈l,okX x=true)(hb:r.b=false)(hd:r.d=d)(h:L.drop r.a=(5,0,⟨#[40]⟩) :: (jtk l++(5,0,⟨#[41]⟩) :: rest))(hm:m<0∨(l.length:Int)=m):cL L g m r=(l.map iV,⟨r.a+((jtk l).length+2),false,d⟩):=by
 have h1:=jd h hb
 have h2:=(cF h).2.2
 obtain⟨ra,rb,rd⟩:=r
 dsimp only at hb hd h h2
 subst hb hd
 unfold cL
 rw [h1]
 unfold RS.up
 dsimp only
 by_cases hl:l=[]
 ·subst hl
  have h3:isS L ⟨ra+1,false,rd⟩ 5 ⟨#[41]⟩=(true,⟨ra+2,false,rd⟩):=by unfold isS;rw [if_pos (fJ (r:=⟨ra+1,false,rd⟩) h2 rfl)];rfl
  rw [h3,if_pos rfl]
  have:decide (0<m)=false:=by simp at hm ⊢;omega
  rw [this]
  rfl
 ·obtain⟨t,q,e,hf⟩:=xS ho hl
  have h3:(isS L ⟨ra+1,false,rd⟩ 5 ⟨#[41]⟩).1=false:=by
   unfold isS
   rw [if_neg]
   rw [e,List.cons_append] at h2
   rw [kR (r:=⟨ra+1,false,rd⟩) h2 rfl]
   simp only [baq,dqt]
   rintro ⟨q1,q2⟩
   rcases hf with hf|hf|hf|hf|hf
   ·exact hf q1
   all_goals (rw [hf] at q2;revert q2;decide)
  rw [if_neg (by rw [h3];simp)]
  have hlen:l.length≤L.length+1:=by
   have a1:=ri ho
   have a2:(L.drop (ra+1)).length=(jtk l++(5,0,⟨#[41]⟩) :: rest).length:=by rw [h2]
   rw [List.length_drop,lla] at a2
   omega
  rw [sY l (L.length+1) [] ⟨ra+1,false,rd⟩ rest hl hlen hx rfl rfl h2]
  have h4:L.drop (ra+1+(jtk l).length)=(5,0,⟨#[41]⟩) :: rest:=cY h2
  rw [jd (r:=⟨ra+1+(jtk l).length,false,rd⟩) h4 rfl]
  have h5:(decide (0≤m)&&decide ((([]++l.map iV).length:Int)≠m))=false:=by
   rw [List.nil_append,List.length_map]
   simp
   omega
  dsimp only
  rw [h5]
  unfold RS.up RS.or
  simp only [List.nil_append,Bool.or_false,Prod.mk.injEq,RS.mk.injEq,and_true,true_and]
  omega
theorem uL {s:ByteArray}(h:eu s=true):∀w∈([⟨#[110,114]⟩,⟨#[110,102]⟩,⟨#[108,101,110,103,116,104]⟩,⟨#[115,117,98,115,116,114]⟩,⟨#[105,110,100,101,120]⟩,⟨#[117,112,112,101,114]⟩,⟨#[103,115,117,98]⟩,⟨#[105,110]⟩]:List ByteArray),s≠w:=by
 intro w hw e
 subst e
 unfold eu at h
 rw [baq,bnt] at h
 have h2:=h.2
 have hB:∀s,mz kwL s=kwL.any fun e=>decide (s=lu e):=fun s=>by
  unfold mz
  congr 1
  funext e
  rw [bytes_beq]
 have h3:mz kwL s=true:=by
  rw [hB]
  simp only [List.mem_cons,List.not_mem_nil,or_false] at hw
  rcases hw with rfl|rfl|rfl|rfl|rfl|rfl|rfl|rfl<;>decide
 rw [h3] at h2
 cases h2
theorem eB {L:List T3}{r:RS}{t:T3}{rest:List T3}(h:L.drop r.a=t :: rest)(hb:r.b=false)(ht:t.1≠5)(s:ByteArray):¬gF L r 5 s=true:=by
 rw [kR h hb]
 simp [ht]
theorem iW {L:List T3}{g:RS→E×RS}{r:RS}{n:Int}{s:ByteArray}{rest:List T3}(h:L.drop r.a=(2,n,s) :: rest)(hb:r.b=false):dW L g r=cG L g s r.up:=by
 unfold dW
 have h2:=(cF h).2.1
 rw [if_neg (eB h hb (show (2:Int)≠5 by decide) _),if_neg (eB h hb (show (2:Int)≠5 by decide) _),if_neg (eB h hb (show (2:Int)≠5 by decide) _),if_neg (eB h hb (show (2:Int)≠5 by decide) _),h2,if_neg (show ¬(2:Int)=1 by decide),if_neg (show ¬(2:Int)=3 by decide),hQ h hb rfl]
theorem iE {L:List T3}{g:RS→E×RS}{d:Nat}{k m:Int}{w s:ByteArray}{l:List E}{r:RS}{rest:List T3}(hw:cG L g w r.up=(xE k 0 s (cL L g m r.up).1,(cL L g m r.up).2))(hx:∀x∈l,Bk L g x d)(ho:∀x∈l,okX x=true)(hb:r.b=false)(hd:r.d=d)(h:L.drop r.a=((2,0,w) :: (5,0,⟨#[40]⟩) :: (jtk l++[(5,0,⟨#[41]⟩)]))++rest)(hm:m<0∨(l.length:Int)=m):dW L g r=(xE k 0 s (l.map iV),⟨r.a+((2,0,w) :: (5,0,⟨#[40]⟩) :: (jtk l++[(5,0,⟨#[41]⟩)]):List T3).length,false,d⟩):=by
 rw [iW h hb,hw]
 have h2:L.drop r.up.a=(5,0,⟨#[40]⟩) :: (jtk l++(5,0,⟨#[41]⟩) :: rest):=by
  have:=(cF h).2.2
  show L.drop (r.a+1)=_
  rw [this]
  show ((5,0,⟨#[40]⟩) :: (jtk l++[(5,0,⟨#[41]⟩)]))++rest=_
  simp
 rw [xT (r:=r.up) hx ho hb hd h2 hm]
 simp only [List.length_cons,lla,List.length_nil,RS.up,Prod.mk.injEq,RS.mk.injEq,and_true,true_and]
 omega
theorem na {s:ByteArray}(h:emB s=true):s=ByteArray.empty:=by
 unfold emB at h
 rw [bytes_beq,dqt] at h
 exact h
theorem op_ne {s:ByteArray}(h:mz mw s=true):s≠⟨#[40]⟩∧s≠⟨#[91]⟩∧s≠⟨#[126]⟩:=by
 unfold mz at h
 rw [List.any_eq_true] at h
 obtain⟨o,ho,he⟩:=h
 unfold mw uy at ho
 obtain⟨t,ht,rfl⟩:=List.mem_map.1 ho
 rw [bytes_beq,dqt] at he
 have he':s=t:=he
 subst he'
 clear he ho
 revert s
 decide
theorem is_no {L:List T3}{r:RS}{t:T3}{rest:List T3}(h:L.drop r.a=t :: rest)(hb:r.b=false){k:Int}{s:ByteArray}(ht:¬(t.1=k∧t.2.2=s)):¬(isS L r k s).1=true:=by
 unfold isS
 rw [if_neg]
 ·simp
 ·rw [kR h hb]
  simpa using ht
theorem zb3 {L:List T3}{r:RS}{k n:Int}{s:ByteArray}{rest:List T3}(h:L.drop r.a=(k,n,s) :: rest)(hb:r.b=false):isS L r k s=(true,r.up):=by
 unfold isS
 rw [if_pos (fJ h hb)]
theorem mJ {L:List T3}{r:RS}{n:Int}{m s:ByteArray}{rest:List T3}(h:L.drop r.a=(5,n,m) :: rest)(hb:r.b=false)(hm:m≠s):¬gF L r 5 s=true:=by
 rw [kR h hb]
 simp [hm]
section
variable {L:List T3}{g:RS→E×RS}{d:Nat}
theorem zkQ {x:E}{s:ByteArray}{r:RS}{rest:List T3}(hx:Bk L g x d)(hs:eu s=true)(hb:r.b=false)(hd:r.d=d)(h:L.drop r.a=(5,0,⟨#[40]⟩) :: (tkE x++(2,0,⟨#[105,110]⟩) :: (2,0,s) :: (5,0,⟨#[41]⟩) :: rest)):dW L g r=(xE 9 0 s [iV x],⟨r.a+((tkE x).length+4),false,d⟩):=by
 have h2:=(cF h).2.2
 unfold dW
 rw [if_pos (fJ h hb)]
 unfold inS
 rw [hx r.up _ hb hd h2 (zo8 (by decide))]
 have h3:L.drop (r.up.a+(tkE x).length)=(2,0,⟨#[105,110]⟩) :: (2,0,s) :: (5,0,⟨#[41]⟩) :: rest:=cY h2
 have h4:=(cF (r:=⟨r.up.a+(tkE x).length,false,d⟩) h3).2.2
 have h5:=(cF (r:=⟨r.up.a+(tkE x).length+1,false,d⟩) h4).2.2
 dsimp only
 rw [zb3 (r:=⟨r.up.a+(tkE x).length,false,d⟩) h3 rfl,if_pos rfl]
 unfold gG
 rw [show (RS.up ⟨r.up.a+(tkE x).length,false,d⟩)=⟨r.up.a+(tkE x).length+1,false,d⟩ from rfl,hQ (r:=⟨r.up.a+(tkE x).length+1,false,d⟩) h4 rfl rfl]
 dsimp only
 rw [if_pos hs,show (RS.up ⟨r.up.a+(tkE x).length+1,false,d⟩)=⟨r.up.a+(tkE x).length+1+1,false,d⟩ from rfl,jd (r:=⟨r.up.a+(tkE x).length+1+1,false,d⟩) h5 rfl]
 simp only [RS.up,Prod.mk.injEq,RS.mk.injEq,and_true,true_and]
 omega
theorem xU {x:E}{s:ByteArray}{r:RS}{rest:List T3}(hx:Bk L g x d)(hb:r.b=false)(hd:r.d=d)(h:L.drop r.a=(5,0,⟨#[40]⟩) :: (tkE x++(5,0,⟨#[126]⟩) :: (4,0,s) :: (5,0,⟨#[41]⟩) :: rest)):dW L g r=(xE 10 0 s [iV x],⟨r.a+((tkE x).length+4),false,d⟩):=by
 have h2:=(cF h).2.2
 unfold dW
 rw [if_pos (fJ h hb)]
 unfold inS
 rw [hx r.up _ hb hd h2 (iD (by decide) (by decide))]
 have h3:L.drop (r.up.a+(tkE x).length)=(5,0,⟨#[126]⟩) :: (4,0,s) :: (5,0,⟨#[41]⟩) :: rest:=cY h2
 have h4:=(cF (r:=⟨r.up.a+(tkE x).length,false,d⟩) h3).2.2
 have h5:=(cF (r:=⟨r.up.a+(tkE x).length+1,false,d⟩) h4).2.2
 dsimp only
 rw [if_neg (is_no (r:=⟨r.up.a+(tkE x).length,false,d⟩) h3 rfl (by decide)),zb3 (r:=⟨r.up.a+(tkE x).length,false,d⟩) h3 rfl,if_pos rfl]
 rw [show (RS.up ⟨r.up.a+(tkE x).length,false,d⟩)=⟨r.up.a+(tkE x).length+1,false,d⟩ from rfl,hQ (r:=⟨r.up.a+(tkE x).length+1,false,d⟩) h4 rfl rfl]
 dsimp only
 rw [show (RS.up ⟨r.up.a+(tkE x).length+1,false,d⟩)=⟨r.up.a+(tkE x).length+1+1,false,d⟩ from rfl,jd (r:=⟨r.up.a+(tkE x).length+1+1,false,d⟩) h5 rfl]
 simp only [RS.up,Prod.mk.injEq,RS.mk.injEq,and_true,true_and]
 omega
theorem zlQ {x y:E}{s:ByteArray}{r:RS}{rest:List T3}(hx:Bk L g x d)(hy:Bk L g y d)(hs:mz mw s=true)(hb:r.b=false)(hd:r.d=d)(h:L.drop r.a=(5,0,⟨#[40]⟩) :: (tkE x++(5,0,s) :: (tkE y++(5,0,⟨#[41]⟩) :: rest))):dW L g r=(xE 6 0 s [iV x,iV y],⟨r.a+((tkE x).length+(tkE y).length+3),false,d⟩):=by
 obtain⟨o1,o2,o3⟩:=op_ne hs
 have h2:=(cF h).2.2
 unfold dW
 rw [if_pos (fJ h hb)]
 unfold inS
 rw [hx r.up _ hb hd h2 (iD o1 o2)]
 have h3:L.drop (r.up.a+(tkE x).length)=(5,0,s) :: (tkE y++(5,0,⟨#[41]⟩) :: rest):=cY h2
 have h4:=(cF (r:=⟨r.up.a+(tkE x).length,false,d⟩) h3).2.2
 have h5:L.drop (r.up.a+(tkE x).length+1+(tkE y).length)=(5,0,⟨#[41]⟩) :: rest:=cY h4
 dsimp only
 rw [if_neg (is_no (r:=⟨r.up.a+(tkE x).length,false,d⟩) h3 rfl (fun q=>absurd (show (5:Int)=2 from q.1) (by decide))),if_neg (is_no (r:=⟨r.up.a+(tkE x).length,false,d⟩) h3 rfl (fun q=>o3 q.2)),hQ (r:=⟨r.up.a+(tkE x).length,false,d⟩) h3 rfl rfl]
 dsimp only
 rw [show (RS.up ⟨r.up.a+(tkE x).length,false,d⟩)=⟨r.up.a+(tkE x).length+1,false,d⟩ from rfl,hy ⟨r.up.a+(tkE x).length+1,false,d⟩ _ rfl rfl h4 (iD (by decide) (by decide))]
 dsimp only
 rw [jd (r:=⟨r.up.a+(tkE x).length+1+(tkE y).length,false,d⟩) h5 rfl]
 simp only [RS.up,Prod.mk.injEq,RS.mk.injEq,and_true,true_and]
 omega
end
end Go.Proofs.YtomolhbkdhjofaaGreatDoor
