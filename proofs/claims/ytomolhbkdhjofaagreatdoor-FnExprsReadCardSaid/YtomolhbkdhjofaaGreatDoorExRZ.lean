/- T -/
import Derived.Test.YtomolhbkdhjofaaGreatDoorExRY
set_option maxHeartbeats 0
set_option maxRecDepth 100000
namespace Go.Proofs.YtomolhbkdhjofaaGreatDoor
open Go.RowKit Go.Proofs.Tryz
section
variable {L:List T3}{g:RS→E×RS}{d:Nat}
theorem xV {x y:E}{s:ByteArray}{r:RS}{rest:List T3}(hx:Bk L g x d)(hy:Bk L g y d)(hb:r.b=false)(hd:r.d=d)(h:L.drop r.a=(5,0,⟨#[40]⟩) :: (tkE x++(5,0,⟨#[126]⟩) :: (4,0,s) :: (5,0,⟨#[44]⟩) :: (tkE y++(5,0,⟨#[41]⟩) :: rest))):gg L g r=(xE 18 0 s [iV x,iV y],⟨r.a+((tkE x).length+(tkE y).length+5),false,d⟩):=by
 have h2:=(cF h).2.2
 unfold gg
 rw [jd h hb,hx r.up _ hb hd h2 (iD (by decide) (by decide))]
 have h3:L.drop (r.up.a+(tkE x).length)=(5,0,⟨#[126]⟩) :: (4,0,s) :: (5,0,⟨#[44]⟩) :: (tkE y++(5,0,⟨#[41]⟩) :: rest):=cY h2
 have h4:=(cF (r:=⟨r.up.a+(tkE x).length,false,d⟩) h3).2.2
 have h5:=(cF (r:=⟨r.up.a+(tkE x).length+1,false,d⟩) h4).2.2
 have h6:=(cF (r:=⟨r.up.a+(tkE x).length+1+1,false,d⟩) h5).2.2
 have h7:L.drop (r.up.a+(tkE x).length+1+1+1+(tkE y).length)=(5,0,⟨#[41]⟩) :: rest:=cY h6
 dsimp only
 rw [jd (r:=⟨r.up.a+(tkE x).length,false,d⟩) h3 rfl,show (RS.up ⟨r.up.a+(tkE x).length,false,d⟩)=⟨r.up.a+(tkE x).length+1,false,d⟩ from rfl,hQ (r:=⟨r.up.a+(tkE x).length+1,false,d⟩) h4 rfl rfl]
 dsimp only
 rw [show (RS.up ⟨r.up.a+(tkE x).length+1,false,d⟩)=⟨r.up.a+(tkE x).length+1+1,false,d⟩ from rfl,jd (r:=⟨r.up.a+(tkE x).length+1+1,false,d⟩) h5 rfl,show (RS.up ⟨r.up.a+(tkE x).length+1+1,false,d⟩)=⟨r.up.a+(tkE x).length+1+1+1,false,d⟩ from rfl,hy ⟨r.up.a+(tkE x).length+1+1+1,false,d⟩ _ rfl rfl h6 (iD (by decide) (by decide))]
 dsimp only
 rw [jd (r:=⟨r.up.a+(tkE x).length+1+1+1+(tkE y).length,false,d⟩) h7 rfl]
 simp only [RS.up,Prod.mk.injEq,RS.mk.injEq,and_true,true_and]
 omega
theorem zm6 {x:E}{s:ByteArray}{r:RS}{rest:List T3}(hx:Bk L g x d)(hs:eu s=true)(hb:r.b=false)(hd:r.d=d)(h:L.drop r.a=(2,0,s) :: (5,0,⟨#[91]⟩) :: (tkE x++(5,0,⟨#[93]⟩) :: rest)):dW L g r=(xE 4 0 s [iV x],⟨r.a+((tkE x).length+3),false,d⟩):=by
 have h2:=(cF h).2.2
 have h3:=(cF (r:=r.up) h2).2.2
 have hk:=uL hs
 rw [iW h hb]
 unfold cG
 rw [if_neg (hk _ (by simp)),if_neg (hk _ (by simp)),if_neg (hk _ (by simp)),if_neg (hk _ (by simp)),if_neg (hk _ (by simp)),if_neg (hk _ (by simp)),if_neg (hk _ (by simp)),if_neg (mJ (r:=r.up) h2 hb (by decide)),if_pos (fJ (r:=r.up) h2 hb),hx r.up.up _ hb hd h3 (iD (by decide) (by decide))]
 have h4:L.drop (r.up.up.a+(tkE x).length)=(5,0,⟨#[93]⟩) :: rest:=cY h3
 dsimp only
 rw [jd (r:=⟨r.up.up.a+(tkE x).length,false,d⟩) h4 rfl]
 simp only [RS.up,Prod.mk.injEq,RS.mk.injEq,and_true,true_and]
 omega
end
theorem xW {L:List T3}{g:RS→E×RS}{d:Nat}{i j:IntKind}{k n:Int}{s:ByteArray}{w:Nat}{T:TypeId}{A:Option Addr}{c:Nat}{l:List E}(ho:∀x∈l,okX x=true)(hh:fd k n s l.length=true)(hx:∀x∈l,Bk L g x d):Bk L (dW L g) (.agg [.int i k,.int j n,.str s,.lst w T A c l]) d:=fun r rest hb hd h hf=>by
 have htk:tkE (.agg [.int i k,.int j n,.str s,.lst w T A c l])=bS (gf k n s (l.map pcE)):=by unfold tkE;rw [iU]
 rw [htk] at h ⊢
 rw [pR]
 unfold fd at hh
 by_cases k1:k=1
 ·subst k1
  rw [if_pos rfl,baq,baq] at hh
  obtain rfl:=na hh.2.1
  obtain rfl:=iB hh.2.2
  have h':L.drop r.a=(1,n,ByteArray.empty) :: rest:=h
  have h2:=(cF h').2.1
  unfold dW
  rw [if_neg (eB h' hb (show (1:Int)≠5 by decide) _),if_neg (eB h' hb (show (1:Int)≠5 by decide) _),if_neg (eB h' hb (show (1:Int)≠5 by decide) _),if_neg (eB h' hb (show (1:Int)≠5 by decide) _),h2,if_pos rfl,hQ h' hb rfl]
  obtain⟨ra,rb,rd⟩:=r
  dsimp only at hb hd
  subst hb hd
  rfl
 rw [if_neg k1,baq,dqt] at hh
 obtain⟨rfl,hh⟩:=hh
 by_cases k2:k=2
 ·subst k2
  rw [if_pos rfl,baq] at hh
  obtain rfl:=iB hh.2
  have h':L.drop r.a=(3,0,s) :: rest:=h
  have h2:=(cF h').2.1
  unfold dW
  rw [if_neg (eB h' hb (show (3:Int)≠5 by decide) _),if_neg (eB h' hb (show (3:Int)≠5 by decide) _),if_neg (eB h' hb (show (3:Int)≠5 by decide) _),if_neg (eB h' hb (show (3:Int)≠5 by decide) _),h2,if_neg (show ¬(3:Int)=1 by decide),if_pos rfl,hQ h' hb rfl]
  obtain⟨ra,rb,rd⟩:=r
  dsimp only at hb hd
  subst hb hd
  rfl
 rw [if_neg k2] at hh
 by_cases k3:k=3
 ·subst k3
  rw [if_pos rfl,baq] at hh
  obtain rfl:=iB hh.2
  have h':L.drop r.a=(2,0,s) :: rest:=h
  have h2:=(cF h').2.2
  have hk:=uL hh.1
  obtain⟨f1,f2⟩:=zl6 (r:=r.up) h2 hf hb
  rw [iW h' hb]
  unfold cG
  rw [if_neg (hk _ (by simp)),if_neg (hk _ (by simp)),if_neg (hk _ (by simp)),if_neg (hk _ (by simp)),if_neg (hk _ (by simp)),if_neg (hk _ (by simp)),if_neg (hk _ (by simp)),if_neg (by rw [f1];simp),if_neg (by rw [f2];simp)]
  obtain⟨ra,rb,rd⟩:=r
  dsimp only at hb hd
  subst hb hd
  rfl
 rw [if_neg k3] at hh
 by_cases k4:k=4∨k=9
 ·rw [if_pos k4,baq] at hh
  obtain⟨x,rfl⟩:=jT hh.2
  have hxx:=hx x (by simp)
  rcases k4 with rfl|rfl
  ·have e4:bS (gf 4 0 s ([x].map pcE))=(2,0,s) :: (5,0,⟨#[91]⟩) :: (tkE x++[(5,0,⟨#[93]⟩)]):=by
    show (2,0,s) :: (5,0,⟨#[91]⟩) :: bS (pcE x++[mkP ⟨#[93]⟩])=_
    rw [di];rfl
   rw [e4] at h ⊢
   rw [zm6 (s:=s) (rest:=rest) hxx hh.1 hb hd (by rw [h];simp)]
   exact Prod.ext rfl (congrArg (fun z=>RS.mk (r.a+z) false d) (by simp only [List.length_cons,lla,List.length_nil]<;>omega))
  ·rw [←m9,tk_9] at h ⊢
   rw [zkQ (s:=s) (rest:=rest) hxx hh.1 hb hd (by rw [h];simp)]
   exact Prod.ext rfl (congrArg (fun z=>RS.mk (r.a+z) false d) (by simp only [List.length_cons,lla,List.length_nil]<;>omega))
 rw [if_neg k4] at hh
 by_cases k5:k=5∨k=7∨k=8∨k=12∨k=17
 ·rw [if_pos k5,baq] at hh
  obtain rfl:=na hh.1
  obtain⟨x,rfl⟩:=jT hh.2
  have hxx:=hx x (by simp)
  rcases k5 with rfl|rfl|rfl|rfl|rfl
  ·have h':L.drop r.a=(5,0,⟨#[36]⟩) :: (tkE x++rest):=h
   have h2:=(cF h').2.2
   unfold dW
   rw [if_neg (mJ h' hb (by decide)),if_pos (fJ h' hb),hxx r.up rest hb hd h2 hf]
   exact Prod.ext rfl (congrArg (fun z=>RS.mk z false d) (by show r.a+1+(tkE x).length=r.a+((tkE x).length+1);omega))
  ·have h':L.drop r.a=(5,0,⟨#[33]⟩) :: (tkE x++rest):=h
   have h2:=(cF h').2.2
   unfold dW
   rw [if_neg (mJ h' hb (by decide)),if_neg (mJ h' hb (by decide)),if_pos (fJ h' hb),hxx r.up rest hb hd h2 hf]
   exact Prod.ext rfl (congrArg (fun z=>RS.mk z false d) (by show r.a+1+(tkE x).length=r.a+((tkE x).length+1);omega))
  ·have h':L.drop r.a=(5,0,⟨#[45]⟩) :: (tkE x++rest):=h
   have h2:=(cF h').2.2
   unfold dW
   rw [if_neg (mJ h' hb (by decide)),if_neg (mJ h' hb (by decide)),if_neg (mJ h' hb (by decide)),if_pos (fJ h' hb),hxx r.up rest hb hd h2 hf]
   exact Prod.ext rfl (congrArg (fun z=>RS.mk z false d) (by show r.a+1+(tkE x).length=r.a+((tkE x).length+1);omega))
  ·rw [show bS (gf 12 0 ByteArray.empty ([x].map pcE))=_ from eJ ⟨#[108,101,110,103,116,104]⟩ [x]] at h ⊢
   exact iE (m:=1) (by unfold cG;rw [if_neg (by decide),if_neg (by decide),if_pos rfl]) hx ho hb hd h (.inr rfl)
  ·rw [show bS (gf 17 0 ByteArray.empty ([x].map pcE))=_ from eJ ⟨#[117,112,112,101,114]⟩ [x]] at h ⊢
   exact iE (m:=1) (by unfold cG;rw [if_neg (by decide),if_neg (by decide),if_neg (by decide),if_neg (by decide),if_neg (by decide),if_pos rfl]) hx ho hb hd h (.inr rfl)
 rw [if_neg k5] at hh
 by_cases k6:k=6
 ·subst k6
  rw [if_pos rfl,baq] at hh
  obtain⟨x,y,rfl⟩:=nI hh.2
  rw [←m9,tk_6] at h ⊢
  rw [zlQ (s:=s) (rest:=rest) (hx x (by simp)) (hx y (by simp)) hh.1 hb hd (by rw [h];simp)]
  exact Prod.ext rfl (congrArg (fun z=>RS.mk (r.a+z) false d) (by simp only [List.length_cons,lla,List.length_nil]<;>omega))
 rw [if_neg k6] at hh
 by_cases k10:k=10
 ·subst k10
  rw [if_pos rfl,baq] at hh
  obtain⟨x,rfl⟩:=jT hh.1
  rw [←m9,tk_10] at h ⊢
  rw [xU (s:=s) (rest:=rest) (hx x (by simp)) hb hd (by rw [h];simp)]
  exact Prod.ext rfl (congrArg (fun z=>RS.mk (r.a+z) false d) (by simp only [List.length_cons,lla,List.length_nil]<;>omega))
 rw [if_neg k10] at hh
 by_cases k18:k=18
 ·subst k18
  rw [if_pos rfl,baq] at hh
  obtain⟨x,y,rfl⟩:=nI hh.1
  rw [←m9,tk_18] at h ⊢
  have h':L.drop r.a=(2,0,⟨#[103,115,117,98]⟩) :: (5,0,⟨#[40]⟩) :: (tkE x++(5,0,⟨#[126]⟩) :: (4,0,s) :: (5,0,⟨#[44]⟩) :: (tkE y++(5,0,⟨#[41]⟩) :: rest)):=by rw [h];simp
  rw [iW h' hb]
  unfold cG
  rw [if_neg (by decide),if_neg (by decide),if_neg (by decide),if_neg (by decide),if_neg (by decide),if_neg (by decide),if_pos rfl,xV (s:=s) (rest:=rest) (r:=r.up) (hx x (by simp)) (hx y (by simp)) hb hd (cF h').2.2]
  exact Prod.ext rfl (congrArg (fun z=>RS.mk z false d) (by simp only [RS.up,List.length_cons,lla,List.length_nil]<;>omega))
 rw [if_neg k18] at hh
 by_cases k11:k=11
 ·subst k11
  rw [if_pos rfl,baq] at hh
  have hk:=uL hh.1
  rw [show bS (gf 11 0 s (l.map pcE))=_ from eJ s l] at h ⊢
  have h2:L.drop r.up.a=(5,0,⟨#[40]⟩) :: (jtk l++[(5,0,⟨#[41]⟩)]++rest):=(cF h).2.2
  exact iE (m := -1) (by unfold cG;rw [if_neg (hk _ (by simp)),if_neg (hk _ (by simp)),if_neg (hk _ (by simp)),if_neg (hk _ (by simp)),if_neg (hk _ (by simp)),if_neg (hk _ (by simp)),if_neg (hk _ (by simp)),if_pos (fJ (r:=r.up) h2 hb)]) hx ho hb hd h (.inl (by decide))
 rw [if_neg k11] at hh
 by_cases k13:k=13
 ·subst k13
  rw [if_pos rfl,baq,beq_iff_eq] at hh
  obtain rfl:=na hh.1
  rw [show bS (gf 13 0 ByteArray.empty (l.map pcE))=_ from eJ ⟨#[115,117,98,115,116,114]⟩ l] at h ⊢
  exact iE (m:=3) (by unfold cG;rw [if_neg (by decide),if_neg (by decide),if_neg (by decide),if_pos rfl]) hx ho hb hd h (.inr hh.2)
 rw [if_neg k13] at hh
 by_cases k14:k=14∨k=15
 ·rw [if_pos k14,baq] at hh
  obtain rfl:=na hh.1
  obtain rfl:=iB hh.2
  rcases k14 with rfl|rfl
  ·have h':L.drop r.a=(2,0,⟨#[110,114]⟩) :: rest:=h
   rw [iW h' hb]
   unfold cG
   rw [if_pos rfl]
   obtain⟨ra,rb,rd⟩:=r
   dsimp only at hb hd
   subst hb hd
   rfl
  ·have h':L.drop r.a=(2,0,⟨#[110,102]⟩) :: rest:=h
   rw [iW h' hb]
   unfold cG
   rw [if_neg (by decide),if_pos rfl]
   obtain⟨ra,rb,rd⟩:=r
   dsimp only at hb hd
   subst hb hd
   rfl
 rw [if_neg k14] at hh
 by_cases k16:k=16
 ·subst k16
  rw [if_pos rfl,baq,beq_iff_eq] at hh
  obtain rfl:=na hh.1
  rw [show bS (gf 16 0 ByteArray.empty (l.map pcE))=_ from eJ ⟨#[105,110,100,101,120]⟩ l] at h ⊢
  exact iE (m:=2) (by unfold cG;rw [if_neg (by decide),if_neg (by decide),if_neg (by decide),if_neg (by decide),if_pos rfl]) hx ho hb hd h (.inr hh.2)
 rw [if_neg k16] at hh
 cases hh
theorem sZ {L:List T3}:∀(f:Nat) (e:E),lw 100 dV f e≤100→okX e=true→∀F,f≤F→∀d,d+f≤20→Bk L (exS L F) e d
 | 0,e,h,_,_,_,_,_=>absurd h (by show ¬100+1≤100;omega)
 | f+1,e,h,hok,F,hF,d,hd=>by
  obtain⟨G,rfl⟩:∃G,F=G+1:=⟨F-1,omq⟩
  obtain⟨o1,o2⟩:=lB hok
  have h1:gpS 100 (lw 100 dV f) (dV e) 1≤100:=h
  have hm:=mF _ _ h1
  unfold oA at o2
  split at o2
  ·rename_i i k j m s w T A c l
   have hx:∀x∈l,Bk L (exS L G) x (d+1):=fun x hx=>sZ f x (hm x hx) (o1 x hx) G omq (d+1) omq
   intro r rest hb hrd hr hf
   obtain⟨t,q,et,-⟩:=oG hok
   have hlt:r.a<L.length:=by rw [et] at hr;exact (cF hr).1
   unfold exS
   rw [if_neg (by rintro (q|q|q)
                  ·omega
                  ·rw [hb] at q;cases q
                  ·exact q hlt)]
   rw [xW (w:=w) (T:=T) (A:=A) (c:=c) o1 o2 hx ⟨r.a,r.b,r.d+1⟩ rest hb (by show r.d+1=d+1;omega) hr hf]
   rfl
  ·cases o2
structure RI where
 a:Nat
 b:Bool
def RI.up (r:RI):RI:=⟨r.a+1,r.b⟩
section
variable (L:List T3)
def isI (r:RI)(j:Nat)(s:ByteArray):Bool:=(decide ((tAt L (r.a+j)).1=5)||decide ((tAt L (r.a+j)).1=2))&&decide ((tAt L (r.a+j)).2.2=s)
def waI (r:RI)(s:ByteArray):RI:=⟨r.a+1,r.b||!isI L r 0 s⟩
def taI (r:RI)(k:Int):T3×RI:=(tAt L r.a,⟨r.a+1,r.b||!decide ((tAt L r.a).1=k)⟩)
variable (g:RI→E×RI)
def lsI (en:ByteArray):Nat→List E→RI→List E×RI
 | 0,l,r=>(l,r)
 | n+1,l,r=>if r.b=true∨isI L r 0 en=true then (l,r) else lsI en n (l++[(g (if l=[] then r else waI L r ⟨#[44]⟩)).1]) (g (if l=[] then r else waI L r ⟨#[44]⟩)).2
def oU (en:ByteArray)(r:RI):List E×RI:=((lsI L g en (L.length+2) [] r).1,waI L (lsI L g en (L.length+2) [] r).2 en)
def lD (k:Int)(s:ByteArray)(r:RI):E×RI:=(xE k 0 s (oU L g ⟨#[41]⟩ (waI L r.up ⟨#[40]⟩)).1,(oU L g ⟨#[41]⟩ (waI L r.up ⟨#[40]⟩)).2)
def pS (r:RI):E×RI :=
 (xE 18 0 (taI L (waI L (g (waI L r ⟨#[40]⟩)).2 ⟨#[126]⟩) 4).1.2.2 [(g (waI L r ⟨#[40]⟩)).1,(g (waI L (taI L (waI L (g (waI L r ⟨#[40]⟩)).2 ⟨#[126]⟩) 4).2 ⟨#[44]⟩)).1],waI L (g (waI L (taI L (waI L (g (waI L r ⟨#[40]⟩)).2 ⟨#[126]⟩) 4).2 ⟨#[44]⟩)).2 ⟨#[41]⟩)
def cU (s:ByteArray)(r:RI):E×RI :=
 if s=⟨#[108,101,110,103,116,104]⟩ then lD L g 12 ByteArray.empty r
 else if s=⟨#[115,117,98,115,116,114]⟩ then lD L g 13 ByteArray.empty r
 else if s=⟨#[105,110,100,101,120]⟩ then lD L g 16 ByteArray.empty r
 else if s=⟨#[117,112,112,101,114]⟩ then lD L g 17 ByteArray.empty r
 else if s=⟨#[110,114]⟩ then (xE 14 0 ByteArray.empty [],r.up)
 else if s=⟨#[110,102]⟩ then (xE 15 0 ByteArray.empty [],r.up)
 else if s=⟨#[103,115,117,98]⟩ then pS L g r.up
 else if isI L r 1 ⟨#[40]⟩=true then lD L g 11 s r
 else if isI L r.up 0 ⟨#[91]⟩=true then (xE 4 0 s [(g r.up.up).1],waI L (g r.up.up).2 ⟨#[93]⟩)
 else (xE 3 0 s [],r.up)
def enI (r:RI):E×RI :=
 if isI L (g (waI L r ⟨#[40]⟩)).2 0 ⟨#[105,110]⟩=true then (xE 9 0 (taI L (g (waI L r ⟨#[40]⟩)).2.up 2).1.2.2 [(g (waI L r ⟨#[40]⟩)).1],waI L (taI L (g (waI L r ⟨#[40]⟩)).2.up 2).2 ⟨#[41]⟩)
 else if isI L (g (waI L r ⟨#[40]⟩)).2 0 ⟨#[126]⟩=true then (xE 10 0 (taI L (g (waI L r ⟨#[40]⟩)).2.up 4).1.2.2 [(g (waI L r ⟨#[40]⟩)).1],waI L (taI L (g (waI L r ⟨#[40]⟩)).2.up 4).2 ⟨#[41]⟩)
 else (xE 6 0 (taI L (g (waI L r ⟨#[40]⟩)).2 5).1.2.2 [(g (waI L r ⟨#[40]⟩)).1,(g (taI L (g (waI L r ⟨#[40]⟩)).2 5).2).1],waI L (g (taI L (g (waI L r ⟨#[40]⟩)).2 5).2).2 ⟨#[41]⟩)
def gS (s:ByteArray):Int:=if s=⟨#[36]⟩ then 5 else if s=⟨#[33]⟩ then 7 else if s=⟨#[45]⟩ then 8 else 0
def paI (r:RI):E×RI :=
 if (tAt L r.a).1=1 then (xE 1 (tAt L r.a).2.1 ByteArray.empty [],r.up)
 else if (tAt L r.a).1=3 then (xE 2 0 (tAt L r.a).2.2 [],r.up)
 else if (tAt L r.a).1=2 then cU L g (tAt L r.a).2.2 r
 else if isI L r 0 ⟨#[40]⟩=true then enI L g r
 else if (tAt L r.a).1=5∧0<gS (tAt L r.a).2.2 then (xE (gS (tAt L r.a).2.2) 0 ByteArray.empty [(g r.up).1],(g r.up).2)
 else (zE,⟨r.a,true⟩)
end
def exI (L:List T3):Nat→RI→E×RI
 | 0,r=>(zE,⟨r.a,true⟩)
 | f+1,r=>if r.b=true then (zE,r) else paI L (exI L f) r
section
variable {L:List T3}{t:T3}{rest:List T3}
theorem dy {a:Nat}(h:L.drop a=t :: rest):tAt L a=t∧L.drop (a+1)=rest:=by
 have:=cF (r:=⟨a,false,0⟩) h
 exact⟨this.2.1,this.2.2⟩
theorem oH {a j:Nat}{b:Bool}(h:L.drop (a+j)=t :: rest)(s:ByteArray):isI L ⟨a,b⟩ j s=((decide (t.1=5)||decide (t.1=2))&&decide (t.2.2=s)):=by
 unfold isI
 dsimp only
 rw [(dy h).1]
theorem jU {a:Nat}{m:ByteArray}(h:L.drop a=(5,0,m) :: rest):waI L ⟨a,false⟩ m=⟨a+1,false⟩:=by
 unfold waI
 rw [oH (j:=0) h]
 simp
theorem ta_dr {a:Nat}{k:Int}(h:L.drop a=t :: rest)(hk:t.1=k):taI L ⟨a,false⟩ k=(t,⟨a+1,false⟩):=by
 unfold taI
 rw [(dy h).1]
 simp [hk]
end
def nfI (rest:List T3):Prop:=∀t r,rest=t :: r→¬((t.1=5∨t.1=2)∧(t.2.2=⟨#[40]⟩∨t.2.2=⟨#[91]⟩))
theorem oI {k n:Int}{m:ByteArray}{rest:List T3}(h1:m≠⟨#[40]⟩)(h2:m≠⟨#[91]⟩):nfI ((k,n,m) :: rest):=fun t r h=>by
 injection h with h3 h4
 subst h3
 rintro ⟨-,q|q⟩
 ·exact h1 q
 ·exact h2 q
def BkI (L:List T3)(g:RI→E×RI)(e:E):Prop:=∀a rest,L.drop a=tkE e++rest→nfI rest→g ⟨a,false⟩=(iV e,⟨a+(tkE e).length,false⟩)
theorem zn6 {L:List T3}(hL:okL L){a:Nat}{b:Bool}{t:T3}{q:List T3}(h:L.drop a=t :: q)(hf:fstT t):isI L ⟨a,b⟩ 0 ⟨#[41]⟩=false:=by
 rw [oH (j:=0) h]
 have hok:bY t.1 t.2.1 t.2.2=true:=by
  have h1:=cF (r:=⟨a,false,0⟩) h
  have:=sX hL h1.1
  rwa [h1.2.1] at this
 by_cases h5:t.1=5
 ·have:t.2.2≠⟨#[41]⟩:=by
   rcases hf with hf|hf|hf|hf|hf
   ·exact absurd h5 hf
   all_goals (rw [hf];decide)
  simp [this]
 ·by_cases h2:t.1=2
  ·rw [h2] at hok
   have hw:d8 t.2.2=true:=by
    have:d8 t.2.2=true∧t.2.1=0:=by simpa [bY] using hok
    exact this.1
   have:t.2.2≠⟨#[41]⟩:=fun e=>by
    rw [e] at hw
    revert hw
    decide
   simp [this]
  ·simp [h5,h2]
theorem xX {L:List T3}(hL:okL L){g:RI→E×RI}:∀(l:List E) (n:Nat) (acc:List E) (a:Nat) (rest:List T3),l.length+1≤n→(∀x∈l,BkI L g x)→(∀x∈l,okX x=true)→L.drop a=(if acc=[]∨l=[] then [] else [(5,0,⟨#[44]⟩)])++(jtk l++(5,0,⟨#[41]⟩) :: rest)→lsI L g ⟨#[41]⟩ n acc ⟨a,false⟩=(acc++l.map iV,⟨a+(if acc=[]∨l=[] then 0 else 1)+(jtk l).length,false⟩)
 | [],n+1,acc,a,rest,_,_,_,h=>by
  have h':L.drop a=(5,0,⟨#[41]⟩) :: rest:=by
   rw [if_pos (.inr rfl)] at h
   exact h
  unfold lsI
  rw [if_pos (.inr (by rw [oH (j:=0) h'];decide)),if_pos (.inr rfl)]
  simp;rfl
 | x :: l,n+1,acc,a,rest,hn,hx,ho,h=>by
  obtain⟨t,q,et,hf⟩:=xS ho (by simp)
  obtain⟨a0,ha0⟩:∃a0,a0=a+(if acc=[]∨x :: l=[] then 0 else 1):=⟨_,rfl⟩
  have key:L.drop a0=jtk (x :: l)++(5,0,⟨#[41]⟩) :: rest∧(if acc=[] then (⟨a,false⟩:RI) else waI L ⟨a,false⟩ ⟨#[44]⟩)=⟨a0,false⟩∧isI L ⟨a,false⟩ 0 ⟨#[41]⟩=false:=by
   by_cases hacc:acc=[]
   ·rw [if_pos (.inl hacc)] at h ha0
    rw [if_pos hacc]
    subst ha0
    refine⟨h,rfl,?_⟩
    rw [List.nil_append,et,List.cons_append] at h
    exact zn6 hL h hf
   ·have hno:¬(acc=[]∨x :: l=[]):=by simp [hacc]
    rw [if_neg hno] at h ha0
    rw [if_neg hacc]
    subst ha0
    have h':L.drop a=(5,0,⟨#[44]⟩) :: (jtk (x :: l)++(5,0,⟨#[41]⟩) :: rest):=h
    refine⟨(dy h').2,jU h',?_⟩
    rw [oH (j:=0) h']
    decide
  obtain⟨hd0,hw,hend⟩:=key
  have hne:¬(acc++[iV x]=[]∨l=[])↔l≠[]:=by simp
  have hd1:L.drop (a0+(tkE x).length)=(if acc++[iV x]=[]∨l=[] then [] else [(5,0,⟨#[44]⟩)])++(jtk l++(5,0,⟨#[41]⟩) :: rest)∧g ⟨a0,false⟩=(iV x,⟨a0+(tkE x).length,false⟩):=by
   by_cases hl:l=[]
   ·subst hl
    rw [if_pos (.inr rfl)]
    have hd0':L.drop a0=tkE x++(5,0,⟨#[41]⟩) :: rest:=hd0
    exact⟨cY hd0',hx x (by simp) a0 _ hd0' (oI (by decide) (by decide))⟩
   ·rw [if_neg (hne.2 hl)]
    rw [hO x hl,List.append_assoc] at hd0
    exact⟨cY hd0,hx x (by simp) a0 _ hd0 (oI (by decide) (by decide))⟩
  unfold lsI
  rw [if_neg (by rw [hend];simp),hw,hd1.2]
  dsimp only
  rw [xX hL l n (acc++[iV x]) (a0+(tkE x).length) rest (by simp only [List.length_cons] at hn;omega) (fun y hy=>hx y (mco _ hy)) (fun y hy=>ho y (mco _ hy)) hd1.1]
  rw [←ha0]
  refine Prod.ext (by simp) (congrArg (fun z=>RI.mk z false) ?_)
  by_cases hl:l=[]
  ·subst hl
   rw [if_pos (.inr rfl)]
   rfl
  ·rw [if_neg (hne.2 hl),hO x hl,lla,List.length_cons]
   omega
section
variable {L:List T3}{g:RI→E×RI}
theorem kS {a:Nat}{b:Bool}{t:T3}{rest:List T3}(h:L.drop a=t :: rest)(s:ByteArray):isI L ⟨a,b⟩ 0 s=((decide (t.1=5)||decide (t.1=2))&&decide (t.2.2=s)):=oH (j:=0) h s
theorem zmQ (hL:okL L){l:List E}{a:Nat}{rest:List T3}(hx:∀x∈l,BkI L g x)(ho:∀x∈l,okX x=true)(h:L.drop a=jtk l++(5,0,⟨#[41]⟩) :: rest):oU L g ⟨#[41]⟩ ⟨a,false⟩=(l.map iV,⟨a+((jtk l).length+1),false⟩):=by
 have hlen:l.length+1≤L.length+2:=by
  have a1:=ri ho
  have a2:(L.drop a).length=(jtk l++(5,0,⟨#[41]⟩) :: rest).length:=by rw [h]
  rw [List.length_drop,lla] at a2
  omega
 unfold oU
 rw [xX hL l (L.length+2) [] a rest hlen hx ho (by rw [if_pos (.inl rfl)];exact h),if_pos (.inl rfl)]
 have h2:L.drop (a+0+(jtk l).length)=(5,0,⟨#[41]⟩) :: rest:=cY h
 dsimp only
 rw [jU h2]
 exact Prod.ext (by simp) (congrArg (fun z=>RI.mk z false) omq)
theorem jV (hL:okL L){k:Int}{w s:ByteArray}{l:List E}{a:Nat}{rest:List T3}(hx:∀x∈l,BkI L g x)(ho:∀x∈l,okX x=true)(h:L.drop a=((2,0,w) :: (5,0,⟨#[40]⟩) :: (jtk l++[(5,0,⟨#[41]⟩)]))++rest):lD L g k s ⟨a,false⟩=(xE k 0 s (l.map iV),⟨a+((2,0,w) :: (5,0,⟨#[40]⟩) :: (jtk l++[(5,0,⟨#[41]⟩)]):List T3).length,false⟩):=by
 have h0:L.drop a=(2,0,w) :: (5,0,⟨#[40]⟩) :: (jtk l++(5,0,⟨#[41]⟩) :: rest):=by rw [h];simp
 have h2:=(dy h0).2
 have h3:=(dy h2).2
 unfold lD
 rw [show RI.up ⟨a,false⟩=⟨a+1,false⟩ from rfl,jU h2,zmQ hL hx ho h3]
 exact Prod.ext rfl (congrArg (fun z=>RI.mk z false) (by simp only [List.length_cons,lla,List.length_nil]<;>omega))
theorem uM {x y:E}{s:ByteArray}{a:Nat}{rest:List T3}(hx:BkI L g x)(hy:BkI L g y)(h:L.drop a=(5,0,⟨#[40]⟩) :: (tkE x++(5,0,⟨#[126]⟩) :: (4,0,s) :: (5,0,⟨#[44]⟩) :: (tkE y++(5,0,⟨#[41]⟩) :: rest))):pS L g ⟨a,false⟩=(xE 18 0 s [iV x,iV y],⟨a+((tkE x).length+(tkE y).length+5),false⟩):=by
 have h2:=(dy h).2
 have h3:L.drop (a+1+(tkE x).length)=(5,0,⟨#[126]⟩) :: (4,0,s) :: (5,0,⟨#[44]⟩) :: (tkE y++(5,0,⟨#[41]⟩) :: rest):=cY h2
 have h4:=(dy h3).2
 have h5:=(dy h4).2
 have h6:=(dy h5).2
 have h7:L.drop (a+1+(tkE x).length+1+1+1+(tkE y).length)=(5,0,⟨#[41]⟩) :: rest:=cY h6
 unfold pS
 rw [jU h,hx _ _ h2 (oI (by decide) (by decide))]
 dsimp only
 rw [jU h3,ta_dr h4 rfl]
 dsimp only
 rw [jU h5,hy _ _ h6 (oI (by decide) (by decide))]
 dsimp only
 rw [jU h7]
 exact Prod.ext rfl (congrArg (fun z=>RI.mk z false) omq)
theorem znQ {x:E}{s:ByteArray}{a:Nat}{rest:List T3}(hx:BkI L g x)(h:L.drop a=(5,0,⟨#[40]⟩) :: (tkE x++(2,0,⟨#[105,110]⟩) :: (2,0,s) :: (5,0,⟨#[41]⟩) :: rest)):enI L g ⟨a,false⟩=(xE 9 0 s [iV x],⟨a+((tkE x).length+4),false⟩):=by
 have h2:=(dy h).2
 have h3:L.drop (a+1+(tkE x).length)=(2,0,⟨#[105,110]⟩) :: (2,0,s) :: (5,0,⟨#[41]⟩) :: rest:=cY h2
 have h4:=(dy h3).2
 have h5:=(dy h4).2
 unfold enI
 rw [jU h,hx _ _ h2 (oI (by decide) (by decide))]
 dsimp only
 rw [if_pos (by rw [kS h3];decide),show RI.up ⟨a+1+(tkE x).length,false⟩=⟨a+1+(tkE x).length+1,false⟩ from rfl,ta_dr h4 rfl]
 dsimp only
 rw [jU h5]
 exact Prod.ext rfl (congrArg (fun z=>RI.mk z false) omq)
theorem xY {x:E}{s:ByteArray}{a:Nat}{rest:List T3}(hx:BkI L g x)(h:L.drop a=(5,0,⟨#[40]⟩) :: (tkE x++(5,0,⟨#[126]⟩) :: (4,0,s) :: (5,0,⟨#[41]⟩) :: rest)):enI L g ⟨a,false⟩=(xE 10 0 s [iV x],⟨a+((tkE x).length+4),false⟩):=by
 have h2:=(dy h).2
 have h3:L.drop (a+1+(tkE x).length)=(5,0,⟨#[126]⟩) :: (4,0,s) :: (5,0,⟨#[41]⟩) :: rest:=cY h2
 have h4:=(dy h3).2
 have h5:=(dy h4).2
 unfold enI
 rw [jU h,hx _ _ h2 (oI (by decide) (by decide))]
 dsimp only
 rw [if_neg (by rw [kS h3];decide),if_pos (by rw [kS h3];decide),show RI.up ⟨a+1+(tkE x).length,false⟩=⟨a+1+(tkE x).length+1,false⟩ from rfl,ta_dr h4 rfl]
 dsimp only
 rw [jU h5]
 exact Prod.ext rfl (congrArg (fun z=>RI.mk z false) omq)
theorem zoQ {x y:E}{s:ByteArray}{a:Nat}{rest:List T3}(hx:BkI L g x)(hy:BkI L g y)(hs:mz mw s=true)(h:L.drop a=(5,0,⟨#[40]⟩) :: (tkE x++(5,0,s) :: (tkE y++(5,0,⟨#[41]⟩) :: rest))):enI L g ⟨a,false⟩=(xE 6 0 s [iV x,iV y],⟨a+((tkE x).length+(tkE y).length+3),false⟩):=by
 obtain⟨o1,o2,o3⟩:=op_ne hs
 have o4:s≠⟨#[105,110]⟩:=fun e=>by
  subst e
  have:=(re hs).1
  revert this
  decide
 have h2:=(dy h).2
 have h3:L.drop (a+1+(tkE x).length)=(5,0,s) :: (tkE y++(5,0,⟨#[41]⟩) :: rest):=cY h2
 have h4:=(dy h3).2
 have h5:L.drop (a+1+(tkE x).length+1+(tkE y).length)=(5,0,⟨#[41]⟩) :: rest:=cY h4
 unfold enI
 rw [jU h,hx _ _ h2 (oI o1 o2)]
 dsimp only
 rw [if_neg (by rw [kS h3];simp [o4]),if_neg (by rw [kS h3];simp [o3]),ta_dr h3 rfl]
 dsimp only
 rw [hy _ _ h4 (oI (by decide) (by decide))]
 dsimp only
 rw [jU h5]
 exact Prod.ext rfl (congrArg (fun z=>RI.mk z false) omq)
theorem ew {a:Nat}{n:Int}{s:ByteArray}{rest:List T3}(h:L.drop a=(2,n,s) :: rest):paI L g ⟨a,false⟩=cU L g s ⟨a,false⟩:=by
 unfold paI
 dsimp only
 rw [(dy h).1,if_neg (show ¬(2:Int)=1 by decide),if_neg (show ¬(2:Int)=3 by decide),if_pos rfl]
theorem rj {a:Nat}{rest:List T3}(h:L.drop a=(5,0,⟨#[40]⟩) :: rest):paI L g ⟨a,false⟩=enI L g ⟨a,false⟩:=by
 unfold paI
 dsimp only
 rw [(dy h).1,if_neg (show ¬(5:Int)=1 by decide),if_neg (show ¬(5:Int)=3 by decide),if_neg (show ¬(5:Int)=2 by decide),if_pos (by rw [kS h];decide)]
theorem rm {a:Nat}{m:ByteArray}{x:E}{rest:List T3}(h:L.drop a=(5,0,m) :: (tkE x++rest))(hx:BkI L g x)(hf:nfI rest)(hm:m≠⟨#[40]⟩)(hk:0<gS m):paI L g ⟨a,false⟩=(xE (gS m) 0 ByteArray.empty [iV x],⟨a+((tkE x).length+1),false⟩):=by
 have h2:=(dy h).2
 unfold paI
 dsimp only
 rw [(dy h).1,if_neg (show ¬(5:Int)=1 by decide),if_neg (show ¬(5:Int)=3 by decide),if_neg (show ¬(5:Int)=2 by decide),if_neg (by rw [kS h];simp [hm]),if_pos ⟨rfl,hk⟩,show RI.up ⟨a,false⟩=⟨a+1,false⟩ from rfl,hx _ _ h2 hf]
 exact Prod.ext rfl (congrArg (fun z=>RI.mk z false) omq)
end
theorem zc3 {L:List T3}{a j:Nat}{b:Bool}{rest:List T3}(h:L.drop (a+j)=rest)(hf:nfI rest):isI L ⟨a,b⟩ j ⟨#[40]⟩=false∧isI L ⟨a,b⟩ j ⟨#[91]⟩=false:=by
 cases rest with
 | nil =>
  have h0:tAt L (a+j)=(0,0,ByteArray.empty):=by
   unfold tAt
   rw [List.getD_eq_getElem?_getD,List.getElem?_eq_none (by have:=congrArg List.length h;rw [List.length_drop,List.length_nil] at this;omega)]
   rfl
  unfold isI
  dsimp only
  rw [h0]
  exact⟨by decide,by decide⟩
 | cons t q =>
  have:=hf t q rfl
  rw [oH h,oH h]
  simp only [Bool.and_eq_false_iff,Bool.or_eq_false_iff,dqn]
  constructor
  ·by_cases h5:t.1=5∨t.1=2
   ·right;exact fun h=>this ⟨h5,.inl h⟩
   ·left;exact⟨fun h=>h5 (.inl h),fun h=>h5 (.inr h)⟩
  ·by_cases h5:t.1=5∨t.1=2
   ·right;exact fun h=>this ⟨h5,.inr h⟩
   ·left;exact⟨fun h=>h5 (.inl h),fun h=>h5 (.inr h)⟩
theorem zpQ {L:List T3}{g:RI→E×RI}{x:E}{s:ByteArray}{a:Nat}{rest:List T3}(hx:BkI L g x)(hs:eu s=true)(h:L.drop a=(2,0,s) :: (5,0,⟨#[91]⟩) :: (tkE x++(5,0,⟨#[93]⟩) :: rest)):paI L g ⟨a,false⟩=(xE 4 0 s [iV x],⟨a+((tkE x).length+3),false⟩):=by
 have h2:=(dy h).2
 have h3:=(dy h2).2
 have hk:=uL hs
 rw [ew h]
 unfold cU
 rw [if_neg (hk _ (by simp)),if_neg (hk _ (by simp)),if_neg (hk _ (by simp)),if_neg (hk _ (by simp)),if_neg (hk _ (by simp)),if_neg (hk _ (by simp)),if_neg (hk _ (by simp)),if_neg (by rw [oH (j:=1) h2];decide),show RI.up ⟨a,false⟩=⟨a+1,false⟩ from rfl,if_pos (by rw [kS h2];decide),show RI.up ⟨a+1,false⟩=⟨a+1+1,false⟩ from rfl,hx _ _ h3 (oI (by decide) (by decide))]
 have h4:L.drop (a+1+1+(tkE x).length)=(5,0,⟨#[93]⟩) :: rest:=cY h3
 dsimp only
 rw [jU h4]
 exact Prod.ext rfl (congrArg (fun z=>RI.mk z false) omq)
theorem zqQ {L:List T3}(hL:okL L){g:RI→E×RI}{i j:IntKind}{k n:Int}{s:ByteArray}{w:Nat}{T:TypeId}{A:Option Addr}{c:Nat}{l:List E}(ho:∀x∈l,okX x=true)(hh:fd k n s l.length=true)(hx:∀x∈l,BkI L g x):BkI L (paI L g) (.agg [.int i k,.int j n,.str s,.lst w T A c l]):=fun a rest h hf=>by
 have htk:tkE (.agg [.int i k,.int j n,.str s,.lst w T A c l])=bS (gf k n s (l.map pcE)):=by unfold tkE;rw [iU]
 rw [htk] at h ⊢
 rw [pR]
 unfold fd at hh
 by_cases k1:k=1
 ·subst k1
  rw [if_pos rfl,baq,baq] at hh
  obtain rfl:=na hh.2.1
  obtain rfl:=iB hh.2.2
  have h':L.drop a=(1,n,ByteArray.empty) :: rest:=h
  unfold paI
  dsimp only
  rw [(dy h').1,if_pos rfl]
  rfl
 rw [if_neg k1,baq,dqt] at hh
 obtain⟨rfl,hh⟩:=hh
 by_cases k2:k=2
 ·subst k2
  rw [if_pos rfl,baq] at hh
  obtain rfl:=iB hh.2
  have h':L.drop a=(3,0,s) :: rest:=h
  unfold paI
  dsimp only
  rw [(dy h').1,if_neg (show ¬(3:Int)=1 by decide),if_pos rfl]
  rfl
 rw [if_neg k2] at hh
 by_cases k3:k=3
 ·subst k3
  rw [if_pos rfl,baq] at hh
  obtain rfl:=iB hh.2
  have h':L.drop a=(2,0,s) :: rest:=h
  have h2:=(dy h').2
  have hk:=uL hh.1
  have f1:=(zc3 (b:=false) (a:=a) (j:=1) h2 hf).1
  have f2:=(zc3 (b:=false) (a:=a+1) (j:=0) h2 hf).2
  rw [ew h']
  unfold cU
  rw [if_neg (hk _ (by simp)),if_neg (hk _ (by simp)),if_neg (hk _ (by simp)),if_neg (hk _ (by simp)),if_neg (hk _ (by simp)),if_neg (hk _ (by simp)),if_neg (hk _ (by simp)),if_neg (by rw [f1];simp),show RI.up ⟨a,false⟩=⟨a+1,false⟩ from rfl,if_neg (by rw [f2];simp)]
  rfl
 rw [if_neg k3] at hh
 by_cases k4:k=4∨k=9
 ·rw [if_pos k4,baq] at hh
  obtain⟨x,rfl⟩:=jT hh.2
  have hxx:=hx x (by simp)
  rcases k4 with rfl|rfl
  ·have e4:bS (gf 4 0 s ([x].map pcE))=(2,0,s) :: (5,0,⟨#[91]⟩) :: (tkE x++[(5,0,⟨#[93]⟩)]):=by
    show (2,0,s) :: (5,0,⟨#[91]⟩) :: bS (pcE x++[mkP ⟨#[93]⟩])=_
    rw [di];rfl
   rw [e4] at h ⊢
   rw [zpQ (s:=s) (rest:=rest) hxx hh.1 (by rw [h];simp)]
   exact Prod.ext rfl (congrArg (fun z=>RI.mk (a+z) false) (by simp only [List.length_cons,lla,List.length_nil]<;>omega))
  ·rw [←m9,tk_9] at h ⊢
   have h':L.drop a=(5,0,⟨#[40]⟩) :: (tkE x++(2,0,⟨#[105,110]⟩) :: (2,0,s) :: (5,0,⟨#[41]⟩) :: rest):=by rw [h];simp
   rw [rj h',znQ hxx h']
   exact Prod.ext rfl (congrArg (fun z=>RI.mk (a+z) false) (by simp only [List.length_cons,lla,List.length_nil]<;>omega))
 rw [if_neg k4] at hh
 by_cases k5:k=5∨k=7∨k=8∨k=12∨k=17
 ·rw [if_pos k5,baq] at hh
  obtain rfl:=na hh.1
  obtain⟨x,rfl⟩:=jT hh.2
  have hxx:=hx x (by simp)
  rcases k5 with rfl|rfl|rfl|rfl|rfl
  ·have h':L.drop a=(5,0,⟨#[36]⟩) :: (tkE x++rest):=h
   rw [rm h' hxx hf (by decide) (by decide)]
   rfl
  ·have h':L.drop a=(5,0,⟨#[33]⟩) :: (tkE x++rest):=h
   rw [rm h' hxx hf (by decide) (by decide)]
   rfl
  ·have h':L.drop a=(5,0,⟨#[45]⟩) :: (tkE x++rest):=h
   rw [rm h' hxx hf (by decide) (by decide)]
   rfl
  ·rw [show bS (gf 12 0 ByteArray.empty ([x].map pcE))=_ from eJ ⟨#[108,101,110,103,116,104]⟩ [x]] at h ⊢
   rw [ew h]
   unfold cU
   rw [if_pos rfl]
   exact jV hL hx ho h
  ·rw [show bS (gf 17 0 ByteArray.empty ([x].map pcE))=_ from eJ ⟨#[117,112,112,101,114]⟩ [x]] at h ⊢
   rw [ew h]
   unfold cU
   rw [if_neg (by decide),if_neg (by decide),if_neg (by decide),if_pos rfl]
   exact jV hL hx ho h
 rw [if_neg k5] at hh
 by_cases k6:k=6
 ·subst k6
  rw [if_pos rfl,baq] at hh
  obtain⟨x,y,rfl⟩:=nI hh.2
  rw [←m9,tk_6] at h ⊢
  have h':L.drop a=(5,0,⟨#[40]⟩) :: (tkE x++(5,0,s) :: (tkE y++(5,0,⟨#[41]⟩) :: rest)):=by rw [h];simp
  rw [rj h',zoQ (hx x (by simp)) (hx y (by simp)) hh.1 h']
  exact Prod.ext rfl (congrArg (fun z=>RI.mk (a+z) false) (by simp only [List.length_cons,lla,List.length_nil]<;>omega))
 rw [if_neg k6] at hh
 by_cases k10:k=10
 ·subst k10
  rw [if_pos rfl,baq] at hh
  obtain⟨x,rfl⟩:=jT hh.1
  rw [←m9,tk_10] at h ⊢
  have h':L.drop a=(5,0,⟨#[40]⟩) :: (tkE x++(5,0,⟨#[126]⟩) :: (4,0,s) :: (5,0,⟨#[41]⟩) :: rest):=by rw [h];simp
  rw [rj h',xY (hx x (by simp)) h']
  exact Prod.ext rfl (congrArg (fun z=>RI.mk (a+z) false) (by simp only [List.length_cons,lla,List.length_nil]<;>omega))
 rw [if_neg k10] at hh
 by_cases k18:k=18
 ·subst k18
  rw [if_pos rfl,baq] at hh
  obtain⟨x,y,rfl⟩:=nI hh.1
  rw [←m9,tk_18] at h ⊢
  have h':L.drop a=(2,0,⟨#[103,115,117,98]⟩) :: (5,0,⟨#[40]⟩) :: (tkE x++(5,0,⟨#[126]⟩) :: (4,0,s) :: (5,0,⟨#[44]⟩) :: (tkE y++(5,0,⟨#[41]⟩) :: rest)):=by rw [h];simp
  rw [ew h']
  unfold cU
  rw [if_neg (by decide),if_neg (by decide),if_neg (by decide),if_neg (by decide),if_neg (by decide),if_neg (by decide),if_pos rfl,show RI.up ⟨a,false⟩=⟨a+1,false⟩ from rfl,uM (s:=s) (rest:=rest) (hx x (by simp)) (hx y (by simp)) (dy h').2]
  exact Prod.ext rfl (congrArg (fun z=>RI.mk z false) (by simp only [List.length_cons,lla,List.length_nil]<;>omega))
 rw [if_neg k18] at hh
 by_cases k11:k=11
 ·subst k11
  rw [if_pos rfl,baq] at hh
  have hk:=uL hh.1
  rw [show bS (gf 11 0 s (l.map pcE))=_ from eJ s l] at h ⊢
  have h2:L.drop (a+1)=(5,0,⟨#[40]⟩) :: (jtk l++[(5,0,⟨#[41]⟩)]++rest):=(dy h).2
  rw [ew h]
  unfold cU
  rw [if_neg (hk _ (by simp)),if_neg (hk _ (by simp)),if_neg (hk _ (by simp)),if_neg (hk _ (by simp)),if_neg (hk _ (by simp)),if_neg (hk _ (by simp)),if_neg (hk _ (by simp)),if_pos (by rw [oH (j:=1) h2];decide)]
  exact jV hL hx ho h
 rw [if_neg k11] at hh
 by_cases k13:k=13
 ·subst k13
  rw [if_pos rfl,baq,beq_iff_eq] at hh
  obtain rfl:=na hh.1
  rw [show bS (gf 13 0 ByteArray.empty (l.map pcE))=_ from eJ ⟨#[115,117,98,115,116,114]⟩ l] at h ⊢
  rw [ew h]
  unfold cU
  rw [if_neg (by decide),if_pos rfl]
  exact jV hL hx ho h
 rw [if_neg k13] at hh
 by_cases k14:k=14∨k=15
 ·rw [if_pos k14,baq] at hh
  obtain rfl:=na hh.1
  obtain rfl:=iB hh.2
  rcases k14 with rfl|rfl
  ·have h':L.drop a=(2,0,⟨#[110,114]⟩) :: rest:=h
   rw [ew h']
   unfold cU
   rw [if_neg (by decide),if_neg (by decide),if_neg (by decide),if_neg (by decide),if_pos rfl]
   rfl
  ·have h':L.drop a=(2,0,⟨#[110,102]⟩) :: rest:=h
   rw [ew h']
   unfold cU
   rw [if_neg (by decide),if_neg (by decide),if_neg (by decide),if_neg (by decide),if_neg (by decide),if_pos rfl]
   rfl
 rw [if_neg k14] at hh
 by_cases k16:k=16
 ·subst k16
  rw [if_pos rfl,baq,beq_iff_eq] at hh
  obtain rfl:=na hh.1
  rw [show bS (gf 16 0 ByteArray.empty (l.map pcE))=_ from eJ ⟨#[105,110,100,101,120]⟩ l] at h ⊢
  rw [ew h]
  unfold cU
  rw [if_neg (by decide),if_neg (by decide),if_pos rfl]
  exact jV hL hx ho h
 rw [if_neg k16] at hh
 cases hh
theorem s9 {L:List T3}(hL:okL L):∀(f:Nat) (e:E),lw 100 dV f e≤100→okX e=true→∀F,f≤F→BkI L (exI L F) e
 | 0,e,h,_,_,_=>absurd h (by show ¬100+1≤100;omega)
 | f+1,e,h,hok,F,hF=>by
  obtain⟨G,rfl⟩:∃G,F=G+1:=⟨F-1,omq⟩
  obtain⟨o1,o2⟩:=lB hok
  have h1:gpS 100 (lw 100 dV f) (dV e) 1≤100:=h
  have hm:=mF _ _ h1
  unfold oA at o2
  split at o2
  ·rename_i i k j m s w T A c l
   have hx:∀x∈l,BkI L (exI L G) x:=fun x hx=>s9 hL f x (hm x hx) (o1 x hx) G omq
   intro a rest hr hf
   unfold exI
   rw [if_neg (by simp)]
   exact zqQ hL (w:=w) (T:=T) (A:=A) (c:=c) o1 o2 hx a rest hr hf
  ·cases o2
theorem xZ {s:ByteArray}{a:Nat}{rex:Bool}(ha:a<s.size)(h:(em s a rex).ok=true):uV rex ((em s a rex).k,(em s a rex).n,(em s a rex).s):=by
 refine⟨h,fun h4=>?_,fun h5 hs=>?_⟩
 ·dsimp only at h4
  have hq3:(kF s a 3).k=4→False:=fun h=>by
   unfold kF at h
   split at h<;>(dsimp only at h;omega)
  unfold em at h4
  split at h4
  ·(dsimp only at h4;omega)
  ·split at h4
   ·(dsimp only at h4;omega)
   ·split at h4
    ·exact (hq3 h4).elim
    ·split at h4
     ·rename_i hh;exact hh.2
     ·split at h4<;>(dsimp only at h4;omega)
 ·dsimp only at h5 hs
  have hq:∀k:Int,k≠5→(kF s a k).k=5→False:=fun k hk h=>by
   unfold kF at h
   split at h
   ·(dsimp only at h;omega)
   ·exact hk h
  unfold em at h5 hs
  split at h5
  ·(dsimp only at h5;omega)
  ·rename_i n1
   rw [if_neg n1] at hs
   split at h5
   ·(dsimp only at h5;omega)
   ·rename_i n2
    rw [if_neg n2] at hs
    split at h5
    ·exact (hq 3 (by decide) h5).elim
    ·rename_i n3
     rw [if_neg n3] at hs
     split at h5
     ·exact (hq 4 (by decide) h5).elim
     ·rename_i n4
      rw [if_neg n4] at hs
      split at hs
      ·rename_i hh
       have hz:=bO (s:=s) (a:=a) (b:=a+2) omq omq
       have hs':bz s a (a+2)=⟨#[47]⟩:=hs
       rw [hs'] at hz
       have:(⟨#[47]⟩:ByteArray).size=1:=rfl
       omega
      ·have hs':bz s a (a+1)=⟨#[47]⟩:=hs
       have e:=d6 (s:=s) (a:=a) (b:=a+1) (j:=0) omq omq
       rw [hs'] at e
       have e':bAt s a=47:=e.symm
       cases rex with
       | false=>rfl
       | true=>exact absurd ⟨e',rfl⟩ n4
theorem pT {s:ByteArray}:∀(f a:Nat) (rex:Bool) (out:List T3),ch false out rex→out.length≤2000 →
 ∃(l:List T3) (r':Bool),(qG s f a rex (out.map T3.E)).1=l.map T3.E∧ch false l r'∧l.length≤2000∧(((qG s f a rex (out.map T3.E)).2 = -1)∨(0≤(qG s f a rex (out.map T3.E)).2∧(qG s f a rex (out.map T3.E)).2<s.size∧l=[]))
 | 0,a,rex,out,hc,hl=>⟨out,rex,rfl,hc,hl,.inl rfl⟩
 | f+1,a,rex,out,hc,hl=>by
  unfold qG
  split
  ·rename_i ha
   split
   ·rename_i hh
    have hg:=xZ ha hh.1
    have hm:=hh.2
    rw [List.length_map] at hm
    have:=pT (s:=s) f (gc s (s.size+1) (em s a rex).e) (oT (em s a rex).k (em s a rex).s) (out++[((em s a rex).k,(em s a rex).n,(em s a rex).s)]) (wB hc hg) (by rw [lla,List.length_singleton];omega)
    rw [List.map_append] at this
    exact this
   ·exact⟨[],false,rfl,rfl,Nat.zero_le _,.inr ⟨Int.natCast_nonneg _,by show (a:Int)<_;omega,rfl⟩⟩
  ·exact⟨out,rex,rfl,hc,hl,.inl rfl⟩
theorem pU (s:ByteArray):∃(l:List T3) (r':Bool),(i6 s).1=l.map T3.E∧ch false l r'∧l.length≤2000∧((i6 s).2 = -1∨(0≤(i6 s).2∧(i6 s).2<s.size∧l=[])) :=
 pT (s:=s) (s.size+1) (eV s 0) false [] rfl (Nat.zero_le _)
theorem ta {k n:Int}{s:ByteArray}(h:bY k n s=true):s.size≤200∧0≤n∧n≤2147483647∧1≤k∧k≤5:=by
 unfold bY at h
 split at h
 ·simp only [baq,dqt] at h;omega
 ·split at h
  ·simp only [d8,baq,dqt] at h;omega
  ·split at h
   ·simp only [dE,baq,dqt] at h;omega
   ·split at h
    ·simp only [dE,baq,dqt] at h;omega
    ·split at h
     ·simp only [baq,dqt] at h
      have h2:s.size≤2:=by
       have:=h.1
       simp only [eI,Bool.or_eq_true,baq,dqt] at this
       omega
      omega
     ·cases h
theorem nM {x:Int}(h0 : -9223372036854775808≤x)(h1:x≤9223372036854775807):(Lit.int .i64 x).wf=true:=by
 have e1:IntKind.i64.min = -9223372036854775808:=by decide
 have e2:IntKind.i64.max=9223372036854775807:=by decide
 simp only [Lit.wf,baq,dqt]
 rw [e1,e2]
 omega
theorem T3.Ty {t:T3}(h:bY t.1 t.2.1 t.2.2=true):t.E.Ty prog 63:=by
 have:=ta h
 refine E.Ty.mk_agg underlying63 (E.TyF.mk_cons ?_ (E.TyF.mk_cons ?_ (E.TyF.mk_cons ?_ E.TyF.mk_nil)))
 ·simp only [E.Ty];exact⟨underlying3,nM omq omq⟩
 ·simp only [E.Ty];exact⟨underlying3,nM omq omq⟩
 ·simp only [E.Ty];exact⟨underlying9,by unfold maxLen;omega⟩
def unT:E→T3
 | .agg [.int _ k,.int _ n,.str s]=>(k,n,s)
 | _=>(0,0,ByteArray.empty)
theorem unT_E (t:T3):unT t.E=t:=rfl
theorem oJ:∀l:List T3,(l.map T3.E).map unT=l
 | []=>rfl
 | t :: l=>by rw [List.map_cons,List.map_cons,oJ l,unT_E]
def gT (s:ByteArray):List T3:=(i6 s).1.map unT
theorem dj (s:ByteArray):okL (gT s)∧(i6 s).1=(gT s).map T3.E:=by
 obtain⟨l,r',e,hc,-,-⟩:=pU s
 unfold gT
 rw [e,oJ]
 exact⟨wC hc,rfl⟩
def rdS (s:ByteArray):E×RS:=exS (gT s) 21 ⟨0,false,0⟩
def rdI (s:ByteArray):E×RI:=exI (gT s) ((gT s).length+12) ⟨0,false⟩
def acS (s:ByteArray):Prop:=(i6 s).2 = -1∧(rdS s).2.b=false∧(rdS s).2.a=(gT s).length∧ff (rdS s).1=true
def acI (s:ByteArray):Prop:=(rdI s).2.b=false∧ff (rdI s).1=true∧(i6 (txE (rdI s).1)).2 = -1∧(i6 s).2 = -1∧(i6 (txE (rdI s).1)).1=(i6 s).1
theorem x7 {s:ByteArray}{e:E}(hb:ff e=true)(h:gT s=tkE e):rdS s=(iV e,⟨(gT s).length,false,0⟩)∧rdI s=(iV e,⟨(gT s).length,false⟩):=by
 have hok:=lC hb
 have hc:lw 100 dV 10 e≤100:=by
  unfold ff at hb
  rw [baq,dqt] at hb
  exact hb.1
 have h0:(gT s).drop 0=tkE e++[]:=by rw [List.drop_zero,List.append_nil];exact h
 constructor
 ·have:=sZ (L:=gT s) 10 e hc hok 21 omq 0 omq ⟨0,false,0⟩ [] rfl rfl h0 (fun t r h=>by cases h)
  unfold rdS
  rw [this,←h]
  simp
 ·have:=s9 (dj s).1 10 e hc hok ((gT s).length+12) omq 0 [] h0 (fun t r h=>by cases h)
  unfold rdI
  rw [this,←h]
  simp
theorem zd3:∀{l m:List T3},l.map T3.E=m.map T3.E→l=m:=fun {l m} h=>by
 have:=congrArg (List.map unT) h
 rwa [oJ,oJ] at this
theorem pV (s:ByteArray):(acI s↔acS s)∧(acI s→(rdI s).1=(rdS s).1):=by
 have toS:acI s→acS s∧(rdI s).1=(rdS s).1:=fun ⟨h1,h2,h3,h4,h5⟩=>by
  obtain⟨q1,-⟩:=zy2 h2
  rw [q1,(dj s).2] at h5
  have hL:gT s=tkE (rdI s).1:=(zd3 h5).symm
  obtain⟨r1,r2⟩:=x7 h2 hL
  have e:(rdI s).1=(rdS s).1:=by
   have a1:=congrArg Prod.fst r1
   have a2:=congrArg Prod.fst r2
   exact a2.trans a1.symm
  refine⟨⟨h4,by rw [r1],by rw [r1],?_⟩,e⟩
  rw [←e];exact h2
 have toI:acS s→acI s:=fun ⟨h1,h2,h3,h4⟩=>by
  have hL:gT s=tkE (rdS s).1:=zk6 (dj s).1 h2 h3
  obtain⟨r1,r2⟩:=x7 h4 hL
  have e:(rdI s).1=(rdS s).1:=by
   have a1:=congrArg Prod.fst r1
   have a2:=congrArg Prod.fst r2
   exact a2.trans a1.symm
  obtain⟨q1,-⟩:=zy2 h4
  refine⟨by rw [r2],by rw [e];exact h4,by rw [e,q1],h1,?_⟩
  rw [e,q1,(dj s).2,hL]
 exact⟨⟨fun h=>(toS h).1,toI⟩,fun h=>(toS h).2⟩
end Go.Proofs.YtomolhbkdhjofaaGreatDoor
