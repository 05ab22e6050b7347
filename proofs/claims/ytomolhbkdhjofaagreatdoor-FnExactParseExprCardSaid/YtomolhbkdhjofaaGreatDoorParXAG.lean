/- T -/
import Derived.Test.YtomolhbkdhjofaaGreatDoorParXAF
set_option maxHeartbeats 0
set_option maxRecDepth 100000
namespace Go.Proofs.YtomolhbkdhjofaaGreatDoor
open Go.RowKit Go.Proofs.Tryz
section
variable {L:List T3}{g:RS→E×RS}{d:Nat}
theorem xw {x y:E}{s:ByteArray}{r:RS}{rest:List T3}(hx:Bk L g x d)(hy:Bk L g y d)(hb:r.b=false)(hd:r.d=d)(h:L.drop r.a=(5,0,⟨#[40]⟩) :: (tkE x++(5,0,⟨#[126]⟩) :: (4,0,s) :: (5,0,⟨#[44]⟩) :: (tkE y++(5,0,⟨#[41]⟩) :: rest))):fH L g r=(xE 18 0 s [ij x,ij y],⟨r.a+((tkE x).length+(tkE y).length+5),false,d⟩):=by
 have h2:=(b9 h).2.2
 unfold fH
 rw [iz h hb,hx r.up _ hb hd h2 (gW (by decide) (by decide))]
 have h3:L.drop (r.up.a+(tkE x).length)=(5,0,⟨#[126]⟩) :: (4,0,s) :: (5,0,⟨#[44]⟩) :: (tkE y++(5,0,⟨#[41]⟩) :: rest):=cG h2
 have h4:=(b9 (r:=⟨r.up.a+(tkE x).length,false,d⟩) h3).2.2
 have h5:=(b9 (r:=⟨r.up.a+(tkE x).length+1,false,d⟩) h4).2.2
 have h6:=(b9 (r:=⟨r.up.a+(tkE x).length+1+1,false,d⟩) h5).2.2
 have h7:L.drop (r.up.a+(tkE x).length+1+1+1+(tkE y).length)=(5,0,⟨#[41]⟩) :: rest:=cG h6
 dsimp only
 rw [iz (r:=⟨r.up.a+(tkE x).length,false,d⟩) h3 rfl,show (RS.up ⟨r.up.a+(tkE x).length,false,d⟩)=⟨r.up.a+(tkE x).length+1,false,d⟩ from rfl,gv (r:=⟨r.up.a+(tkE x).length+1,false,d⟩) h4 rfl rfl]
 dsimp only
 rw [show (RS.up ⟨r.up.a+(tkE x).length+1,false,d⟩)=⟨r.up.a+(tkE x).length+1+1,false,d⟩ from rfl,iz (r:=⟨r.up.a+(tkE x).length+1+1,false,d⟩) h5 rfl,show (RS.up ⟨r.up.a+(tkE x).length+1+1,false,d⟩)=⟨r.up.a+(tkE x).length+1+1+1,false,d⟩ from rfl,hy ⟨r.up.a+(tkE x).length+1+1+1,false,d⟩ _ rfl rfl h6 (gW (by decide) (by decide))]
 dsimp only
 rw [iz (r:=⟨r.up.a+(tkE x).length+1+1+1+(tkE y).length,false,d⟩) h7 rfl]
 simp only [RS.up,Prod.mk.injEq,RS.mk.injEq,and_true,true_and]
 omega
theorem zr5 {x:E}{s:ByteArray}{r:RS}{rest:List T3}(hx:Bk L g x d)(hs:dT s=true)(hb:r.b=false)(hd:r.d=d)(h:L.drop r.a=(2,0,s) :: (5,0,⟨#[91]⟩) :: (tkE x++(5,0,⟨#[93]⟩) :: rest)):dw L g r=(xE 4 0 s [ij x],⟨r.a+((tkE x).length+3),false,d⟩):=by
 have h2:=(b9 h).2.2
 have h3:=(b9 (r:=r.up) h2).2.2
 have hk:=tR hs
 rw [ik h hb]
 unfold cf
 rw [if_neg (hk _ (by simp)),if_neg (hk _ (by simp)),if_neg (hk _ (by simp)),if_neg (hk _ (by simp)),if_neg (hk _ (by simp)),if_neg (hk _ (by simp)),if_neg (hk _ (by simp)),if_neg (lU (r:=r.up) h2 hb (by decide)),if_pos (eX (r:=r.up) h2 hb),hx r.up.up _ hb hd h3 (gW (by decide) (by decide))]
 have h4:L.drop (r.up.up.a+(tkE x).length)=(5,0,⟨#[93]⟩) :: rest:=cG h3
 dsimp only
 rw [iz (r:=⟨r.up.up.a+(tkE x).length,false,d⟩) h4 rfl]
 simp only [RS.up,Prod.mk.injEq,RS.mk.injEq,and_true,true_and]
 omega
end
theorem xx {L:List T3}{g:RS→E×RS}{d:Nat}{i j:IntKind}{k n:Int}{s:ByteArray}{w:Nat}{T:TypeId}{A:Option Addr}{c:Nat}{l:List E}(ho:∀x∈l,okX x=true)(hh:eP k n s l.length=true)(hx:∀x∈l,Bk L g x d):Bk L (dw L g) (.agg [.int i k,.int j n,.str s,.lst w T A c l]) d:=fun r rest hb hd h hf=>by
 have htk:tkE (.agg [.int i k,.int j n,.str s,.lst w T A c l])=bK (fG k n s (l.map pcE)):=by unfold tkE;rw [ii]
 rw [htk] at h ⊢
 rw [pz]
 unfold eP at hh
 by_cases k1:k=1
 ·subst k1
  rw [if_pos rfl,Bool.and_eq_true,Bool.and_eq_true] at hh
  obtain rfl:=mw hh.2.1
  obtain rfl:=gU hh.2.2
  have h':L.drop r.a=(1,n,ByteArray.empty) :: rest:=h
  have h2:=(b9 h').2.1
  unfold dw
  rw [if_neg (dW h' hb (show (1:Int)≠5 by decide) _),if_neg (dW h' hb (show (1:Int)≠5 by decide) _),if_neg (dW h' hb (show (1:Int)≠5 by decide) _),if_neg (dW h' hb (show (1:Int)≠5 by decide) _),h2,if_pos rfl,gv h' hb rfl]
  obtain⟨ra,rb,rd⟩:=r
  dsimp only at hb hd
  subst hb hd
  rfl
 rw [if_neg k1,Bool.and_eq_true,decide_eq_true_iff] at hh
 obtain⟨rfl,hh⟩:=hh
 by_cases k2:k=2
 ·subst k2
  rw [if_pos rfl,Bool.and_eq_true] at hh
  obtain rfl:=gU hh.2
  have h':L.drop r.a=(3,0,s) :: rest:=h
  have h2:=(b9 h').2.1
  unfold dw
  rw [if_neg (dW h' hb (show (3:Int)≠5 by decide) _),if_neg (dW h' hb (show (3:Int)≠5 by decide) _),if_neg (dW h' hb (show (3:Int)≠5 by decide) _),if_neg (dW h' hb (show (3:Int)≠5 by decide) _),h2,if_neg (show ¬(3:Int)=1 by decide),if_pos rfl,gv h' hb rfl]
  obtain⟨ra,rb,rd⟩:=r
  dsimp only at hb hd
  subst hb hd
  rfl
 rw [if_neg k2] at hh
 by_cases k3:k=3
 ·subst k3
  rw [if_pos rfl,Bool.and_eq_true] at hh
  obtain rfl:=gU hh.2
  have h':L.drop r.a=(2,0,s) :: rest:=h
  have h2:=(b9 h').2.2
  have hk:=tR hh.1
  obtain⟨f1,f2⟩:=zq5 (r:=r.up) h2 hf hb
  rw [ik h' hb]
  unfold cf
  rw [if_neg (hk _ (by simp)),if_neg (hk _ (by simp)),if_neg (hk _ (by simp)),if_neg (hk _ (by simp)),if_neg (hk _ (by simp)),if_neg (hk _ (by simp)),if_neg (hk _ (by simp)),if_neg (by rw [f1];simp),if_neg (by rw [f2];simp)]
  obtain⟨ra,rb,rd⟩:=r
  dsimp only at hb hd
  subst hb hd
  rfl
 rw [if_neg k3] at hh
 by_cases k4:k=4∨k=9
 ·rw [if_pos k4,Bool.and_eq_true] at hh
  obtain⟨x,rfl⟩:=jn hh.2
  have hxx:=hx x (by simp)
  rcases k4 with rfl|rfl
  ·have e4:bK (fG 4 0 s ([x].map pcE))=(2,0,s) :: (5,0,⟨#[91]⟩) :: (tkE x++[(5,0,⟨#[93]⟩)]):=by
    show (2,0,s) :: (5,0,⟨#[91]⟩) :: bK (pcE x++[mkP ⟨#[93]⟩])=_
    rw [cQ];rfl
   rw [e4] at h ⊢
   rw [zr5 (s:=s) (rest:=rest) hxx hh.1 hb hd (by rw [h];simp)]
   exact Prod.ext rfl (congrArg (fun z=>RS.mk (r.a+z) false d) (by simp only [List.length_cons,List.length_append,List.length_nil]<;>omega))
  ·rw [←mu,tk_9] at h ⊢
   rw [zU (s:=s) (rest:=rest) hxx hh.1 hb hd (by rw [h];simp)]
   exact Prod.ext rfl (congrArg (fun z=>RS.mk (r.a+z) false d) (by simp only [List.length_cons,List.length_append,List.length_nil]<;>omega))
 rw [if_neg k4] at hh
 by_cases k5:k=5∨k=7∨k=8∨k=12∨k=17
 ·rw [if_pos k5,Bool.and_eq_true] at hh
  obtain rfl:=mw hh.1
  obtain⟨x,rfl⟩:=jn hh.2
  have hxx:=hx x (by simp)
  rcases k5 with rfl|rfl|rfl|rfl|rfl
  ·have h':L.drop r.a=(5,0,⟨#[36]⟩) :: (tkE x++rest):=h
   have h2:=(b9 h').2.2
   unfold dw
   rw [if_neg (lU h' hb (by decide)),if_pos (eX h' hb),hxx r.up rest hb hd h2 hf]
   exact Prod.ext rfl (congrArg (fun z=>RS.mk z false d) (by show r.a+1+(tkE x).length=r.a+((tkE x).length+1);omega))
  ·have h':L.drop r.a=(5,0,⟨#[33]⟩) :: (tkE x++rest):=h
   have h2:=(b9 h').2.2
   unfold dw
   rw [if_neg (lU h' hb (by decide)),if_neg (lU h' hb (by decide)),if_pos (eX h' hb),hxx r.up rest hb hd h2 hf]
   exact Prod.ext rfl (congrArg (fun z=>RS.mk z false d) (by show r.a+1+(tkE x).length=r.a+((tkE x).length+1);omega))
  ·have h':L.drop r.a=(5,0,⟨#[45]⟩) :: (tkE x++rest):=h
   have h2:=(b9 h').2.2
   unfold dw
   rw [if_neg (lU h' hb (by decide)),if_neg (lU h' hb (by decide)),if_neg (lU h' hb (by decide)),if_pos (eX h' hb),hxx r.up rest hb hd h2 hf]
   exact Prod.ext rfl (congrArg (fun z=>RS.mk z false d) (by show r.a+1+(tkE x).length=r.a+((tkE x).length+1);omega))
  ·rw [show bK (fG 12 0 ByteArray.empty ([x].map pcE))=_ from dZ ⟨#[108,101,110,103,116,104]⟩ [x]] at h ⊢
   exact gX (m:=1) (by unfold cf;rw [if_neg (by decide),if_neg (by decide),if_pos rfl]) hx ho hb hd h (.inr rfl)
  ·rw [show bK (fG 17 0 ByteArray.empty ([x].map pcE))=_ from dZ ⟨#[117,112,112,101,114]⟩ [x]] at h ⊢
   exact gX (m:=1) (by unfold cf;rw [if_neg (by decide),if_neg (by decide),if_neg (by decide),if_neg (by decide),if_neg (by decide),if_pos rfl]) hx ho hb hd h (.inr rfl)
 rw [if_neg k5] at hh
 by_cases k6:k=6
 ·subst k6
  rw [if_pos rfl,Bool.and_eq_true] at hh
  obtain⟨x,y,rfl⟩:=mW hh.2
  rw [←mu,tk_6] at h ⊢
  rw [zV (s:=s) (rest:=rest) (hx x (by simp)) (hx y (by simp)) hh.1 hb hd (by rw [h];simp)]
  exact Prod.ext rfl (congrArg (fun z=>RS.mk (r.a+z) false d) (by simp only [List.length_cons,List.length_append,List.length_nil]<;>omega))
 rw [if_neg k6] at hh
 by_cases k10:k=10
 ·subst k10
  rw [if_pos rfl,Bool.and_eq_true] at hh
  obtain⟨x,rfl⟩:=jn hh.1
  rw [←mu,tk_10] at h ⊢
  rw [xv (s:=s) (rest:=rest) (hx x (by simp)) hb hd (by rw [h];simp)]
  exact Prod.ext rfl (congrArg (fun z=>RS.mk (r.a+z) false d) (by simp only [List.length_cons,List.length_append,List.length_nil]<;>omega))
 rw [if_neg k10] at hh
 by_cases k18:k=18
 ·subst k18
  rw [if_pos rfl,Bool.and_eq_true] at hh
  obtain⟨x,y,rfl⟩:=mW hh.1
  rw [←mu,tk_18] at h ⊢
  have h':L.drop r.a=(2,0,⟨#[103,115,117,98]⟩) :: (5,0,⟨#[40]⟩) :: (tkE x++(5,0,⟨#[126]⟩) :: (4,0,s) :: (5,0,⟨#[44]⟩) :: (tkE y++(5,0,⟨#[41]⟩) :: rest)):=by rw [h];simp
  rw [ik h' hb]
  unfold cf
  rw [if_neg (by decide),if_neg (by decide),if_neg (by decide),if_neg (by decide),if_neg (by decide),if_neg (by decide),if_pos rfl,xw (s:=s) (rest:=rest) (r:=r.up) (hx x (by simp)) (hx y (by simp)) hb hd (b9 h').2.2]
  exact Prod.ext rfl (congrArg (fun z=>RS.mk z false d) (by simp only [RS.up,List.length_cons,List.length_append,List.length_nil]<;>omega))
 rw [if_neg k18] at hh
 by_cases k11:k=11
 ·subst k11
  rw [if_pos rfl,Bool.and_eq_true] at hh
  have hk:=tR hh.1
  rw [show bK (fG 11 0 s (l.map pcE))=_ from dZ s l] at h ⊢
  have h2:L.drop r.up.a=(5,0,⟨#[40]⟩) :: (jtk l++[(5,0,⟨#[41]⟩)]++rest):=(b9 h).2.2
  exact gX (m := -1) (by unfold cf;rw [if_neg (hk _ (by simp)),if_neg (hk _ (by simp)),if_neg (hk _ (by simp)),if_neg (hk _ (by simp)),if_neg (hk _ (by simp)),if_neg (hk _ (by simp)),if_neg (hk _ (by simp)),if_pos (eX (r:=r.up) h2 hb)]) hx ho hb hd h (.inl (by decide))
 rw [if_neg k11] at hh
 by_cases k13:k=13
 ·subst k13
  rw [if_pos rfl,Bool.and_eq_true,beq_iff_eq] at hh
  obtain rfl:=mw hh.1
  rw [show bK (fG 13 0 ByteArray.empty (l.map pcE))=_ from dZ ⟨#[115,117,98,115,116,114]⟩ l] at h ⊢
  exact gX (m:=3) (by unfold cf;rw [if_neg (by decide),if_neg (by decide),if_neg (by decide),if_pos rfl]) hx ho hb hd h (.inr hh.2)
 rw [if_neg k13] at hh
 by_cases k14:k=14∨k=15
 ·rw [if_pos k14,Bool.and_eq_true] at hh
  obtain rfl:=mw hh.1
  obtain rfl:=gU hh.2
  rcases k14 with rfl|rfl
  ·have h':L.drop r.a=(2,0,⟨#[110,114]⟩) :: rest:=h
   rw [ik h' hb]
   unfold cf
   rw [if_pos rfl]
   obtain⟨ra,rb,rd⟩:=r
   dsimp only at hb hd
   subst hb hd
   rfl
  ·have h':L.drop r.a=(2,0,⟨#[110,102]⟩) :: rest:=h
   rw [ik h' hb]
   unfold cf
   rw [if_neg (by decide),if_pos rfl]
   obtain⟨ra,rb,rd⟩:=r
   dsimp only at hb hd
   subst hb hd
   rfl
 rw [if_neg k14] at hh
 by_cases k16:k=16
 ·subst k16
  rw [if_pos rfl,Bool.and_eq_true,beq_iff_eq] at hh
  obtain rfl:=mw hh.1
  rw [show bK (fG 16 0 ByteArray.empty (l.map pcE))=_ from dZ ⟨#[105,110,100,101,120]⟩ l] at h ⊢
  exact gX (m:=2) (by unfold cf;rw [if_neg (by decide),if_neg (by decide),if_neg (by decide),if_neg (by decide),if_pos rfl]) hx ho hb hd h (.inr hh.2)
 rw [if_neg k16] at hh
 cases hh
theorem sB {L:List T3}:∀(f:Nat) (e:E),kC 100 dv f e≤100→okX e=true→∀F,f≤F→∀d,d+f≤20→Bk L (exS L F) e d
 | 0,e,h,_,_,_,_,_=>absurd h (by show ¬100+1≤100;omega)
 | f+1,e,h,hok,F,hF,d,hd=>by
  obtain⟨G,rfl⟩:∃G,F=G+1:=⟨F-1,omq⟩
  obtain⟨o1,o2⟩:=kH hok
  have h1:gpS 100 (kC 100 dv f) (dv e) 1≤100:=h
  have hm:=lQ _ _ h1
  unfold nW at o2
  split at o2
  ·rename_i i k j m s w T A c l
   have hx:∀x∈l,Bk L (exS L G) x (d+1):=fun x hx=>sB f x (hm x hx) (o1 x hx) G omq (d+1) omq
   intro r rest hb hrd hr hf
   obtain⟨t,q,et,-⟩:=oa hok
   have hlt:r.a<L.length:=by rw [et] at hr;exact (b9 hr).1
   unfold exS
   rw [if_neg (by rintro (q|q|q)
                  ·omega
                  ·rw [hb] at q;cases q
                  ·exact q hlt)]
   rw [xx (w:=w) (T:=T) (A:=A) (c:=c) o1 o2 hx ⟨r.a,r.b,r.d+1⟩ rest hb (by show r.d+1=d+1;omega) hr hf]
   rfl
  ·cases o2
structure RI where
 a:Nat
 b:Bool
def RI.up (r:RI):RI:=⟨r.a+1,r.b⟩
section
variable (L:List T3)
def isI (r:RI)(j:Nat)(s:ByteArray):Bool:=(decide ((tAt L (r.a+j)).1=5)||decide ((tAt L (r.a+j)).1=2))&&decide ((tAt L (r.a+j)).2.2=s)
def waI (r:RI)(s:ByteArray):RI:=⟨r.a+1,r.b||!isI L r 0 s⟩
def taI (r:RI)(k:Int):T3×RI:=(tAt L r.a,⟨r.a+1,r.b||!decide ((tAt L r.a).1=k)⟩)
variable (g:RI→E×RI)
def lsI (en:ByteArray):Nat→List E→RI→List E×RI
 | 0,l,r=>(l,r)
 | n+1,l,r=>if r.b=true∨isI L r 0 en=true then (l,r) else lsI en n (l++[(g (if l=[] then r else waI L r ⟨#[44]⟩)).1]) (g (if l=[] then r else waI L r ⟨#[44]⟩)).2
def ov (en:ByteArray)(r:RI):List E×RI:=((lsI L g en (L.length+2) [] r).1,waI L (lsI L g en (L.length+2) [] r).2 en)
def kI (k:Int)(s:ByteArray)(r:RI):E×RI:=(xE k 0 s (ov L g ⟨#[41]⟩ (waI L r.up ⟨#[40]⟩)).1,(ov L g ⟨#[41]⟩ (waI L r.up ⟨#[40]⟩)).2)
def pA (r:RI):E×RI :=
 (xE 18 0 (taI L (waI L (g (waI L r ⟨#[40]⟩)).2 ⟨#[126]⟩) 4).1.2.2 [(g (waI L r ⟨#[40]⟩)).1,(g (waI L (taI L (waI L (g (waI L r ⟨#[40]⟩)).2 ⟨#[126]⟩) 4).2 ⟨#[44]⟩)).1],waI L (g (waI L (taI L (waI L (g (waI L r ⟨#[40]⟩)).2 ⟨#[126]⟩) 4).2 ⟨#[44]⟩)).2 ⟨#[41]⟩)
def cC (s:ByteArray)(r:RI):E×RI :=
 if s=⟨#[108,101,110,103,116,104]⟩ then kI L g 12 ByteArray.empty r
 else if s=⟨#[115,117,98,115,116,114]⟩ then kI L g 13 ByteArray.empty r
 else if s=⟨#[105,110,100,101,120]⟩ then kI L g 16 ByteArray.empty r
 else if s=⟨#[117,112,112,101,114]⟩ then kI L g 17 ByteArray.empty r
 else if s=⟨#[110,114]⟩ then (xE 14 0 ByteArray.empty [],r.up)
 else if s=⟨#[110,102]⟩ then (xE 15 0 ByteArray.empty [],r.up)
 else if s=⟨#[103,115,117,98]⟩ then pA L g r.up
 else if isI L r 1 ⟨#[40]⟩=true then kI L g 11 s r
 else if isI L r.up 0 ⟨#[91]⟩=true then (xE 4 0 s [(g r.up.up).1],waI L (g r.up.up).2 ⟨#[93]⟩)
 else (xE 3 0 s [],r.up)
def enI (r:RI):E×RI :=
 if isI L (g (waI L r ⟨#[40]⟩)).2 0 ⟨#[105,110]⟩=true then (xE 9 0 (taI L (g (waI L r ⟨#[40]⟩)).2.up 2).1.2.2 [(g (waI L r ⟨#[40]⟩)).1],waI L (taI L (g (waI L r ⟨#[40]⟩)).2.up 2).2 ⟨#[41]⟩)
 else if isI L (g (waI L r ⟨#[40]⟩)).2 0 ⟨#[126]⟩=true then (xE 10 0 (taI L (g (waI L r ⟨#[40]⟩)).2.up 4).1.2.2 [(g (waI L r ⟨#[40]⟩)).1],waI L (taI L (g (waI L r ⟨#[40]⟩)).2.up 4).2 ⟨#[41]⟩)
 else (xE 6 0 (taI L (g (waI L r ⟨#[40]⟩)).2 5).1.2.2 [(g (waI L r ⟨#[40]⟩)).1,(g (taI L (g (waI L r ⟨#[40]⟩)).2 5).2).1],waI L (g (taI L (g (waI L r ⟨#[40]⟩)).2 5).2).2 ⟨#[41]⟩)
def gf (s:ByteArray):Int:=if s=⟨#[36]⟩ then 5 else if s=⟨#[33]⟩ then 7 else if s=⟨#[45]⟩ then 8 else 0
def paI (r:RI):E×RI :=
 if (tAt L r.a).1=1 then (xE 1 (tAt L r.a).2.1 ByteArray.empty [],r.up)
 else if (tAt L r.a).1=3 then (xE 2 0 (tAt L r.a).2.2 [],r.up)
 else if (tAt L r.a).1=2 then cC L g (tAt L r.a).2.2 r
 else if isI L r 0 ⟨#[40]⟩=true then enI L g r
 else if (tAt L r.a).1=5∧0<gf (tAt L r.a).2.2 then (xE (gf (tAt L r.a).2.2) 0 ByteArray.empty [(g r.up).1],(g r.up).2)
 else (zE,⟨r.a,true⟩)
end
def exI (L:List T3):Nat→RI→E×RI
 | 0,r=>(zE,⟨r.a,true⟩)
 | f+1,r=>if r.b=true then (zE,r) else paI L (exI L f) r
section
variable {L:List T3}{t:T3}{rest:List T3}
theorem de {a:Nat}(h:L.drop a=t :: rest):tAt L a=t∧L.drop (a+1)=rest:=by
 have:=b9 (r:=⟨a,false,0⟩) h
 exact⟨this.2.1,this.2.2⟩
theorem ob {a j:Nat}{b:Bool}(h:L.drop (a+j)=t :: rest)(s:ByteArray):isI L ⟨a,b⟩ j s=((decide (t.1=5)||decide (t.1=2))&&decide (t.2.2=s)):=by
 unfold isI
 dsimp only
 rw [(de h).1]
theorem jo {a:Nat}{m:ByteArray}(h:L.drop a=(5,0,m) :: rest):waI L ⟨a,false⟩ m=⟨a+1,false⟩:=by
 unfold waI
 rw [ob (j:=0) h]
 simp
theorem zW {a:Nat}{k:Int}(h:L.drop a=t :: rest)(hk:t.1=k):taI L ⟨a,false⟩ k=(t,⟨a+1,false⟩):=by
 unfold taI
 rw [(de h).1]
 simp [hk]
end
def nfI (rest:List T3):Prop:=∀t r,rest=t :: r→¬((t.1=5∨t.1=2)∧(t.2.2=⟨#[40]⟩∨t.2.2=⟨#[91]⟩))
theorem oc {k n:Int}{m:ByteArray}{rest:List T3}(h1:m≠⟨#[40]⟩)(h2:m≠⟨#[91]⟩):nfI ((k,n,m) :: rest):=fun t r h=>by
 injection h with h3 h4
 subst h3
 rintro ⟨-,q|q⟩
 ·exact h1 q
 ·exact h2 q
def BkI (L:List T3)(g:RI→E×RI)(e:E):Prop:=∀a rest,L.drop a=tkE e++rest→nfI rest→g ⟨a,false⟩=(ij e,⟨a+(tkE e).length,false⟩)
theorem zs5 {L:List T3}(hL:okL L){a:Nat}{b:Bool}{t:T3}{q:List T3}(h:L.drop a=t :: q)(hf:fstT t):isI L ⟨a,b⟩ 0 ⟨#[41]⟩=false:=by
 rw [ob (j:=0) h]
 have hok:bP t.1 t.2.1 t.2.2=true:=by
  have h1:=b9 (r:=⟨a,false,0⟩) h
  have:=sx hL h1.1
  rwa [h1.2.1] at this
 by_cases h5:t.1=5
 ·have:t.2.2≠⟨#[41]⟩:=by
   rcases hf with hf|hf|hf|hf|hf
   ·exact absurd h5 hf
   all_goals (rw [hf];decide)
  simp [this]
 ·by_cases h2:t.1=2
  ·rw [h2] at hok
   have hw:dD t.2.2=true:=by
    have:dD t.2.2=true∧t.2.1=0:=by simpa [bP] using hok
    exact this.1
   have:t.2.2≠⟨#[41]⟩:=fun e=>by
    rw [e] at hw
    revert hw
    decide
   simp [this]
  ·simp [h5,h2]
theorem xy {L:List T3}(hL:okL L){g:RI→E×RI}:∀(l:List E) (n:Nat) (acc:List E) (a:Nat) (rest:List T3),l.length+1≤n→(∀x∈l,BkI L g x)→(∀x∈l,okX x=true)→L.drop a=(if acc=[]∨l=[] then [] else [(5,0,⟨#[44]⟩)])++(jtk l++(5,0,⟨#[41]⟩) :: rest)→lsI L g ⟨#[41]⟩ n acc ⟨a,false⟩=(acc++l.map ij,⟨a+(if acc=[]∨l=[] then 0 else 1)+(jtk l).length,false⟩)
 | [],n+1,acc,a,rest,_,_,_,h=>by
  have h':L.drop a=(5,0,⟨#[41]⟩) :: rest:=by
   rw [if_pos (.inr rfl)] at h
   exact h
  unfold lsI
  rw [if_pos (.inr (by rw [ob (j:=0) h'];decide)),if_pos (.inr rfl)]
  simp;rfl
 | x :: l,n+1,acc,a,rest,hn,hx,ho,h=>by
  obtain⟨t,q,et,hf⟩:=xt ho (by simp)
  obtain⟨a0,ha0⟩:∃a0,a0=a+(if acc=[]∨x :: l=[] then 0 else 1):=⟨_,rfl⟩
  have key:L.drop a0=jtk (x :: l)++(5,0,⟨#[41]⟩) :: rest∧(if acc=[] then (⟨a,false⟩:RI) else waI L ⟨a,false⟩ ⟨#[44]⟩)=⟨a0,false⟩∧isI L ⟨a,false⟩ 0 ⟨#[41]⟩=false:=by
   by_cases hacc:acc=[]
   ·rw [if_pos (.inl hacc)] at h ha0
    rw [if_pos hacc]
    subst ha0
    refine⟨h,rfl,?_⟩
    rw [List.nil_append,et,List.cons_append] at h
    exact zs5 hL h hf
   ·have hno:¬(acc=[]∨x :: l=[]):=by simp [hacc]
    rw [if_neg hno] at h ha0
    rw [if_neg hacc]
    subst ha0
    have h':L.drop a=(5,0,⟨#[44]⟩) :: (jtk (x :: l)++(5,0,⟨#[41]⟩) :: rest):=h
    refine⟨(de h').2,jo h',?_⟩
    rw [ob (j:=0) h']
    decide
  obtain⟨hd0,hw,hend⟩:=key
  have hne:¬(acc++[ij x]=[]∨l=[])↔l≠[]:=by simp
  have hd1:L.drop (a0+(tkE x).length)=(if acc++[ij x]=[]∨l=[] then [] else [(5,0,⟨#[44]⟩)])++(jtk l++(5,0,⟨#[41]⟩) :: rest)∧g ⟨a0,false⟩=(ij x,⟨a0+(tkE x).length,false⟩):=by
   by_cases hl:l=[]
   ·subst hl
    rw [if_pos (.inr rfl)]
    have hd0':L.drop a0=tkE x++(5,0,⟨#[41]⟩) :: rest:=hd0
    exact⟨cG hd0',hx x (by simp) a0 _ hd0' (oc (by decide) (by decide))⟩
   ·rw [if_neg (hne.2 hl)]
    rw [gu x hl,List.append_assoc] at hd0
    exact⟨cG hd0,hx x (by simp) a0 _ hd0 (oc (by decide) (by decide))⟩
  unfold lsI
  rw [if_neg (by rw [hend];simp),hw,hd1.2]
  dsimp only
  rw [xy hL l n (acc++[ij x]) (a0+(tkE x).length) rest (by simp only [List.length_cons] at hn;omega) (fun y hy=>hx y (List.mem_cons_of_mem _ hy)) (fun y hy=>ho y (List.mem_cons_of_mem _ hy)) hd1.1]
  rw [←ha0]
  refine Prod.ext (by simp) (congrArg (fun z=>RI.mk z false) ?_)
  by_cases hl:l=[]
  ·subst hl
   rw [if_pos (.inr rfl)]
   rfl
  ·rw [if_neg (hne.2 hl),gu x hl,List.length_append,List.length_cons]
   omega
section
variable {L:List T3}{g:RI→E×RI}
theorem kf {a:Nat}{b:Bool}{t:T3}{rest:List T3}(h:L.drop a=t :: rest)(s:ByteArray):isI L ⟨a,b⟩ 0 s=((decide (t.1=5)||decide (t.1=2))&&decide (t.2.2=s)):=ob (j:=0) h s
theorem zX (hL:okL L){l:List E}{a:Nat}{rest:List T3}(hx:∀x∈l,BkI L g x)(ho:∀x∈l,okX x=true)(h:L.drop a=jtk l++(5,0,⟨#[41]⟩) :: rest):ov L g ⟨#[41]⟩ ⟨a,false⟩=(l.map ij,⟨a+((jtk l).length+1),false⟩):=by
 have hlen:l.length+1≤L.length+2:=by
  have a1:=qT ho
  have a2:(L.drop a).length=(jtk l++(5,0,⟨#[41]⟩) :: rest).length:=by rw [h]
  rw [List.length_drop,List.length_append] at a2
  omega
 unfold ov
 rw [xy hL l (L.length+2) [] a rest hlen hx ho (by rw [if_pos (.inl rfl)];exact h),if_pos (.inl rfl)]
 have h2:L.drop (a+0+(jtk l).length)=(5,0,⟨#[41]⟩) :: rest:=cG h
 dsimp only
 rw [jo h2]
 exact Prod.ext (by simp) (congrArg (fun z=>RI.mk z false) omq)
theorem jp (hL:okL L){k:Int}{w s:ByteArray}{l:List E}{a:Nat}{rest:List T3}(hx:∀x∈l,BkI L g x)(ho:∀x∈l,okX x=true)(h:L.drop a=((2,0,w) :: (5,0,⟨#[40]⟩) :: (jtk l++[(5,0,⟨#[41]⟩)]))++rest):kI L g k s ⟨a,false⟩=(xE k 0 s (l.map ij),⟨a+((2,0,w) :: (5,0,⟨#[40]⟩) :: (jtk l++[(5,0,⟨#[41]⟩)]):List T3).length,false⟩):=by
 have h0:L.drop a=(2,0,w) :: (5,0,⟨#[40]⟩) :: (jtk l++(5,0,⟨#[41]⟩) :: rest):=by rw [h];simp
 have h2:=(de h0).2
 have h3:=(de h2).2
 unfold kI
 rw [show RI.up ⟨a,false⟩=⟨a+1,false⟩ from rfl,jo h2,zX hL hx ho h3]
 exact Prod.ext rfl (congrArg (fun z=>RI.mk z false) (by simp only [List.length_cons,List.length_append,List.length_nil]<;>omega))
theorem tS {x y:E}{s:ByteArray}{a:Nat}{rest:List T3}(hx:BkI L g x)(hy:BkI L g y)(h:L.drop a=(5,0,⟨#[40]⟩) :: (tkE x++(5,0,⟨#[126]⟩) :: (4,0,s) :: (5,0,⟨#[44]⟩) :: (tkE y++(5,0,⟨#[41]⟩) :: rest))):pA L g ⟨a,false⟩=(xE 18 0 s [ij x,ij y],⟨a+((tkE x).length+(tkE y).length+5),false⟩):=by
 have h2:=(de h).2
 have h3:L.drop (a+1+(tkE x).length)=(5,0,⟨#[126]⟩) :: (4,0,s) :: (5,0,⟨#[44]⟩) :: (tkE y++(5,0,⟨#[41]⟩) :: rest):=cG h2
 have h4:=(de h3).2
 have h5:=(de h4).2
 have h6:=(de h5).2
 have h7:L.drop (a+1+(tkE x).length+1+1+1+(tkE y).length)=(5,0,⟨#[41]⟩) :: rest:=cG h6
 unfold pA
 rw [jo h,hx _ _ h2 (oc (by decide) (by decide))]
 dsimp only
 rw [jo h3,zW h4 rfl]
 dsimp only
 rw [jo h5,hy _ _ h6 (oc (by decide) (by decide))]
 dsimp only
 rw [jo h7]
 exact Prod.ext rfl (congrArg (fun z=>RI.mk z false) omq)
theorem zY {x:E}{s:ByteArray}{a:Nat}{rest:List T3}(hx:BkI L g x)(h:L.drop a=(5,0,⟨#[40]⟩) :: (tkE x++(2,0,⟨#[105,110]⟩) :: (2,0,s) :: (5,0,⟨#[41]⟩) :: rest)):enI L g ⟨a,false⟩=(xE 9 0 s [ij x],⟨a+((tkE x).length+4),false⟩):=by
 have h2:=(de h).2
 have h3:L.drop (a+1+(tkE x).length)=(2,0,⟨#[105,110]⟩) :: (2,0,s) :: (5,0,⟨#[41]⟩) :: rest:=cG h2
 have h4:=(de h3).2
 have h5:=(de h4).2
 unfold enI
 rw [jo h,hx _ _ h2 (oc (by decide) (by decide))]
 dsimp only
 rw [if_pos (by rw [kf h3];decide),show RI.up ⟨a+1+(tkE x).length,false⟩=⟨a+1+(tkE x).length+1,false⟩ from rfl,zW h4 rfl]
 dsimp only
 rw [jo h5]
 exact Prod.ext rfl (congrArg (fun z=>RI.mk z false) omq)
theorem xz {x:E}{s:ByteArray}{a:Nat}{rest:List T3}(hx:BkI L g x)(h:L.drop a=(5,0,⟨#[40]⟩) :: (tkE x++(5,0,⟨#[126]⟩) :: (4,0,s) :: (5,0,⟨#[41]⟩) :: rest)):enI L g ⟨a,false⟩=(xE 10 0 s [ij x],⟨a+((tkE x).length+4),false⟩):=by
 have h2:=(de h).2
 have h3:L.drop (a+1+(tkE x).length)=(5,0,⟨#[126]⟩) :: (4,0,s) :: (5,0,⟨#[41]⟩) :: rest:=cG h2
 have h4:=(de h3).2
 have h5:=(de h4).2
 unfold enI
 rw [jo h,hx _ _ h2 (oc (by decide) (by decide))]
 dsimp only
 rw [if_neg (by rw [kf h3];decide),if_pos (by rw [kf h3];decide),show RI.up ⟨a+1+(tkE x).length,false⟩=⟨a+1+(tkE x).length+1,false⟩ from rfl,zW h4 rfl]
 dsimp only
 rw [jo h5]
 exact Prod.ext rfl (congrArg (fun z=>RI.mk z false) omq)
theorem zZ {x y:E}{s:ByteArray}{a:Nat}{rest:List T3}(hx:BkI L g x)(hy:BkI L g y)(hs:lL mV s=true)(h:L.drop a=(5,0,⟨#[40]⟩) :: (tkE x++(5,0,s) :: (tkE y++(5,0,⟨#[41]⟩) :: rest))):enI L g ⟨a,false⟩=(xE 6 0 s [ij x,ij y],⟨a+((tkE x).length+(tkE y).length+3),false⟩):=by
 obtain⟨o1,o2,o3⟩:=op_ne hs
 have o4:s≠⟨#[105,110]⟩:=fun e=>by
  subst e
  have:=(qP hs).1
  revert this
  decide
 have h2:=(de h).2
 have h3:L.drop (a+1+(tkE x).length)=(5,0,s) :: (tkE y++(5,0,⟨#[41]⟩) :: rest):=cG h2
 have h4:=(de h3).2
 have h5:L.drop (a+1+(tkE x).length+1+(tkE y).length)=(5,0,⟨#[41]⟩) :: rest:=cG h4
 unfold enI
 rw [jo h,hx _ _ h2 (oc o1 o2)]
 dsimp only
 rw [if_neg (by rw [kf h3];simp [o4]),if_neg (by rw [kf h3];simp [o3]),zW h3 rfl]
 dsimp only
 rw [hy _ _ h4 (oc (by decide) (by decide))]
 dsimp only
 rw [jo h5]
 exact Prod.ext rfl (congrArg (fun z=>RI.mk z false) omq)
theorem dU {a:Nat}{n:Int}{s:ByteArray}{rest:List T3}(h:L.drop a=(2,n,s) :: rest):paI L g ⟨a,false⟩=cC L g s ⟨a,false⟩:=by
 unfold paI
 dsimp only
 rw [(de h).1,if_neg (show ¬(2:Int)=1 by decide),if_neg (show ¬(2:Int)=3 by decide),if_pos rfl]
theorem qU {a:Nat}{rest:List T3}(h:L.drop a=(5,0,⟨#[40]⟩) :: rest):paI L g ⟨a,false⟩=enI L g ⟨a,false⟩:=by
 unfold paI
 dsimp only
 rw [(de h).1,if_neg (show ¬(5:Int)=1 by decide),if_neg (show ¬(5:Int)=3 by decide),if_neg (show ¬(5:Int)=2 by decide),if_pos (by rw [kf h];decide)]
theorem qV {a:Nat}{m:ByteArray}{x:E}{rest:List T3}(h:L.drop a=(5,0,m) :: (tkE x++rest))(hx:BkI L g x)(hf:nfI rest)(hm:m≠⟨#[40]⟩)(hk:0<gf m):paI L g ⟨a,false⟩=(xE (gf m) 0 ByteArray.empty [ij x],⟨a+((tkE x).length+1),false⟩):=by
 have h2:=(de h).2
 unfold paI
 dsimp only
 rw [(de h).1,if_neg (show ¬(5:Int)=1 by decide),if_neg (show ¬(5:Int)=3 by decide),if_neg (show ¬(5:Int)=2 by decide),if_neg (by rw [kf h];simp [hm]),if_pos ⟨rfl,hk⟩,show RI.up ⟨a,false⟩=⟨a+1,false⟩ from rfl,hx _ _ h2 hf]
 exact Prod.ext rfl (congrArg (fun z=>RI.mk z false) omq)
end
theorem zi2 {L:List T3}{a j:Nat}{b:Bool}{rest:List T3}(h:L.drop (a+j)=rest)(hf:nfI rest):isI L ⟨a,b⟩ j ⟨#[40]⟩=false∧isI L ⟨a,b⟩ j ⟨#[91]⟩=false:=by
 cases rest with
 | nil =>
  have h0:tAt L (a+j)=(0,0,ByteArray.empty):=by
   unfold tAt
   rw [List.getD_eq_getElem?_getD,List.getElem?_eq_none (by have:=congrArg List.length h;rw [List.length_drop,List.length_nil] at this;omega)]
   rfl
  unfold isI
  dsimp only
  rw [h0]
  exact⟨by decide,by decide⟩
 | cons t q =>
  have:=hf t q rfl
  rw [ob h,ob h]
  simp only [Bool.and_eq_false_iff,Bool.or_eq_false_iff,decide_eq_false_iff_not]
  constructor
  ·by_cases h5:t.1=5∨t.1=2
   ·right;exact fun h=>this ⟨h5,.inl h⟩
   ·left;exact⟨fun h=>h5 (.inl h),fun h=>h5 (.inr h)⟩
  ·by_cases h5:t.1=5∨t.1=2
   ·right;exact fun h=>this ⟨h5,.inr h⟩
   ·left;exact⟨fun h=>h5 (.inl h),fun h=>h5 (.inr h)⟩
theorem z6 {L:List T3}{g:RI→E×RI}{x:E}{s:ByteArray}{a:Nat}{rest:List T3}(hx:BkI L g x)(hs:dT s=true)(h:L.drop a=(2,0,s) :: (5,0,⟨#[91]⟩) :: (tkE x++(5,0,⟨#[93]⟩) :: rest)):paI L g ⟨a,false⟩=(xE 4 0 s [ij x],⟨a+((tkE x).length+3),false⟩):=by
 have h2:=(de h).2
 have h3:=(de h2).2
 have hk:=tR hs
 rw [dU h]
 unfold cC
 rw [if_neg (hk _ (by simp)),if_neg (hk _ (by simp)),if_neg (hk _ (by simp)),if_neg (hk _ (by simp)),if_neg (hk _ (by simp)),if_neg (hk _ (by simp)),if_neg (hk _ (by simp)),if_neg (by rw [ob (j:=1) h2];decide),show RI.up ⟨a,false⟩=⟨a+1,false⟩ from rfl,if_pos (by rw [kf h2];decide),show RI.up ⟨a+1,false⟩=⟨a+1+1,false⟩ from rfl,hx _ _ h3 (oc (by decide) (by decide))]
 have h4:L.drop (a+1+1+(tkE x).length)=(5,0,⟨#[93]⟩) :: rest:=cG h3
 dsimp only
 rw [jo h4]
 exact Prod.ext rfl (congrArg (fun z=>RI.mk z false) omq)
theorem z7 {L:List T3}(hL:okL L){g:RI→E×RI}{i j:IntKind}{k n:Int}{s:ByteArray}{w:Nat}{T:TypeId}{A:Option Addr}{c:Nat}{l:List E}(ho:∀x∈l,okX x=true)(hh:eP k n s l.length=true)(hx:∀x∈l,BkI L g x):BkI L (paI L g) (.agg [.int i k,.int j n,.str s,.lst w T A c l]):=fun a rest h hf=>by
 have htk:tkE (.agg [.int i k,.int j n,.str s,.lst w T A c l])=bK (fG k n s (l.map pcE)):=by unfold tkE;rw [ii]
 rw [htk] at h ⊢
 rw [pz]
 unfold eP at hh
 by_cases k1:k=1
 ·subst k1
  rw [if_pos rfl,Bool.and_eq_true,Bool.and_eq_true] at hh
  obtain rfl:=mw hh.2.1
  obtain rfl:=gU hh.2.2
  have h':L.drop a=(1,n,ByteArray.empty) :: rest:=h
  unfold paI
  dsimp only
  rw [(de h').1,if_pos rfl]
  rfl
 rw [if_neg k1,Bool.and_eq_true,decide_eq_true_iff] at hh
 obtain⟨rfl,hh⟩:=hh
 by_cases k2:k=2
 ·subst k2
  rw [if_pos rfl,Bool.and_eq_true] at hh
  obtain rfl:=gU hh.2
  have h':L.drop a=(3,0,s) :: rest:=h
  unfold paI
  dsimp only
  rw [(de h').1,if_neg (show ¬(3:Int)=1 by decide),if_pos rfl]
  rfl
 rw [if_neg k2] at hh
 by_cases k3:k=3
 ·subst k3
  rw [if_pos rfl,Bool.and_eq_true] at hh
  obtain rfl:=gU hh.2
  have h':L.drop a=(2,0,s) :: rest:=h
  have h2:=(de h').2
  have hk:=tR hh.1
  have f1:=(zi2 (b:=false) (a:=a) (j:=1) h2 hf).1
  have f2:=(zi2 (b:=false) (a:=a+1) (j:=0) h2 hf).2
  rw [dU h']
  unfold cC
  rw [if_neg (hk _ (by simp)),if_neg (hk _ (by simp)),if_neg (hk _ (by simp)),if_neg (hk _ (by simp)),if_neg (hk _ (by simp)),if_neg (hk _ (by simp)),if_neg (hk _ (by simp)),if_neg (by rw [f1];simp),show RI.up ⟨a,false⟩=⟨a+1,false⟩ from rfl,if_neg (by rw [f2];simp)]
  rfl
 rw [if_neg k3] at hh
 by_cases k4:k=4∨k=9
 ·rw [if_pos k4,Bool.and_eq_true] at hh
  obtain⟨x,rfl⟩:=jn hh.2
  have hxx:=hx x (by simp)
  rcases k4 with rfl|rfl
  ·have e4:bK (fG 4 0 s ([x].map pcE))=(2,0,s) :: (5,0,⟨#[91]⟩) :: (tkE x++[(5,0,⟨#[93]⟩)]):=by
    show (2,0,s) :: (5,0,⟨#[91]⟩) :: bK (pcE x++[mkP ⟨#[93]⟩])=_
    rw [cQ];rfl
   rw [e4] at h ⊢
   rw [z6 (s:=s) (rest:=rest) hxx hh.1 (by rw [h];simp)]
   exact Prod.ext rfl (congrArg (fun z=>RI.mk (a+z) false) (by simp only [List.length_cons,List.length_append,List.length_nil]<;>omega))
  ·rw [←mu,tk_9] at h ⊢
   have h':L.drop a=(5,0,⟨#[40]⟩) :: (tkE x++(2,0,⟨#[105,110]⟩) :: (2,0,s) :: (5,0,⟨#[41]⟩) :: rest):=by rw [h];simp
   rw [qU h',zY hxx h']
   exact Prod.ext rfl (congrArg (fun z=>RI.mk (a+z) false) (by simp only [List.length_cons,List.length_append,List.length_nil]<;>omega))
 rw [if_neg k4] at hh
 by_cases k5:k=5∨k=7∨k=8∨k=12∨k=17
 ·rw [if_pos k5,Bool.and_eq_true] at hh
  obtain rfl:=mw hh.1
  obtain⟨x,rfl⟩:=jn hh.2
  have hxx:=hx x (by simp)
  rcases k5 with rfl|rfl|rfl|rfl|rfl
  ·have h':L.drop a=(5,0,⟨#[36]⟩) :: (tkE x++rest):=h
   rw [qV h' hxx hf (by decide) (by decide)]
   rfl
  ·have h':L.drop a=(5,0,⟨#[33]⟩) :: (tkE x++rest):=h
   rw [qV h' hxx hf (by decide) (by decide)]
   rfl
  ·have h':L.drop a=(5,0,⟨#[45]⟩) :: (tkE x++rest):=h
   rw [qV h' hxx hf (by decide) (by decide)]
   rfl
  ·rw [show bK (fG 12 0 ByteArray.empty ([x].map pcE))=_ from dZ ⟨#[108,101,110,103,116,104]⟩ [x]] at h ⊢
   rw [dU h]
   unfold cC
   rw [if_pos rfl]
   exact jp hL hx ho h
  ·rw [show bK (fG 17 0 ByteArray.empty ([x].map pcE))=_ from dZ ⟨#[117,112,112,101,114]⟩ [x]] at h ⊢
   rw [dU h]
   unfold cC
   rw [if_neg (by decide),if_neg (by decide),if_neg (by decide),if_pos rfl]
   exact jp hL hx ho h
 rw [if_neg k5] at hh
 by_cases k6:k=6
 ·subst k6
  rw [if_pos rfl,Bool.and_eq_true] at hh
  obtain⟨x,y,rfl⟩:=mW hh.2
  rw [←mu,tk_6] at h ⊢
  have h':L.drop a=(5,0,⟨#[40]⟩) :: (tkE x++(5,0,s) :: (tkE y++(5,0,⟨#[41]⟩) :: rest)):=by rw [h];simp
  rw [qU h',zZ (hx x (by simp)) (hx y (by simp)) hh.1 h']
  exact Prod.ext rfl (congrArg (fun z=>RI.mk (a+z) false) (by simp only [List.length_cons,List.length_append,List.length_nil]<;>omega))
 rw [if_neg k6] at hh
 by_cases k10:k=10
 ·subst k10
  rw [if_pos rfl,Bool.and_eq_true] at hh
  obtain⟨x,rfl⟩:=jn hh.1
  rw [←mu,tk_10] at h ⊢
  have h':L.drop a=(5,0,⟨#[40]⟩) :: (tkE x++(5,0,⟨#[126]⟩) :: (4,0,s) :: (5,0,⟨#[41]⟩) :: rest):=by rw [h];simp
  rw [qU h',xz (hx x (by simp)) h']
  exact Prod.ext rfl (congrArg (fun z=>RI.mk (a+z) false) (by simp only [List.length_cons,List.length_append,List.length_nil]<;>omega))
 rw [if_neg k10] at hh
 by_cases k18:k=18
 ·subst k18
  rw [if_pos rfl,Bool.and_eq_true] at hh
  obtain⟨x,y,rfl⟩:=mW hh.1
  rw [←mu,tk_18] at h ⊢
  have h':L.drop a=(2,0,⟨#[103,115,117,98]⟩) :: (5,0,⟨#[40]⟩) :: (tkE x++(5,0,⟨#[126]⟩) :: (4,0,s) :: (5,0,⟨#[44]⟩) :: (tkE y++(5,0,⟨#[41]⟩) :: rest)):=by rw [h];simp
  rw [dU h']
  unfold cC
  rw [if_neg (by decide),if_neg (by decide),if_neg (by decide),if_neg (by decide),if_neg (by decide),if_neg (by decide),if_pos rfl,show RI.up ⟨a,false⟩=⟨a+1,false⟩ from rfl,tS (s:=s) (rest:=rest) (hx x (by simp)) (hx y (by simp)) (de h').2]
  exact Prod.ext rfl (congrArg (fun z=>RI.mk z false) (by simp only [List.length_cons,List.length_append,List.length_nil]<;>omega))
 rw [if_neg k18] at hh
 by_cases k11:k=11
 ·subst k11
  rw [if_pos rfl,Bool.and_eq_true] at hh
  have hk:=tR hh.1
  rw [show bK (fG 11 0 s (l.map pcE))=_ from dZ s l] at h ⊢
  have h2:L.drop (a+1)=(5,0,⟨#[40]⟩) :: (jtk l++[(5,0,⟨#[41]⟩)]++rest):=(de h).2
  rw [dU h]
  unfold cC
  rw [if_neg (hk _ (by simp)),if_neg (hk _ (by simp)),if_neg (hk _ (by simp)),if_neg (hk _ (by simp)),if_neg (hk _ (by simp)),if_neg (hk _ (by simp)),if_neg (hk _ (by simp)),if_pos (by rw [ob (j:=1) h2];decide)]
  exact jp hL hx ho h
 rw [if_neg k11] at hh
 by_cases k13:k=13
 ·subst k13
  rw [if_pos rfl,Bool.and_eq_true,beq_iff_eq] at hh
  obtain rfl:=mw hh.1
  rw [show bK (fG 13 0 ByteArray.empty (l.map pcE))=_ from dZ ⟨#[115,117,98,115,116,114]⟩ l] at h ⊢
  rw [dU h]
  unfold cC
  rw [if_neg (by decide),if_pos rfl]
  exact jp hL hx ho h
 rw [if_neg k13] at hh
 by_cases k14:k=14∨k=15
 ·rw [if_pos k14,Bool.and_eq_true] at hh
  obtain rfl:=mw hh.1
  obtain rfl:=gU hh.2
  rcases k14 with rfl|rfl
  ·have h':L.drop a=(2,0,⟨#[110,114]⟩) :: rest:=h
   rw [dU h']
   unfold cC
   rw [if_neg (by decide),if_neg (by decide),if_neg (by decide),if_neg (by decide),if_pos rfl]
   rfl
  ·have h':L.drop a=(2,0,⟨#[110,102]⟩) :: rest:=h
   rw [dU h']
   unfold cC
   rw [if_neg (by decide),if_neg (by decide),if_neg (by decide),if_neg (by decide),if_neg (by decide),if_pos rfl]
   rfl
 rw [if_neg k14] at hh
 by_cases k16:k=16
 ·subst k16
  rw [if_pos rfl,Bool.and_eq_true,beq_iff_eq] at hh
  obtain rfl:=mw hh.1
  rw [show bK (fG 16 0 ByteArray.empty (l.map pcE))=_ from dZ ⟨#[105,110,100,101,120]⟩ l] at h ⊢
  rw [dU h]
  unfold cC
  rw [if_neg (by decide),if_neg (by decide),if_pos rfl]
  exact jp hL hx ho h
 rw [if_neg k16] at hh
 cases hh
theorem sC {L:List T3}(hL:okL L):∀(f:Nat) (e:E),kC 100 dv f e≤100→okX e=true→∀F,f≤F→BkI L (exI L F) e
 | 0,e,h,_,_,_=>absurd h (by show ¬100+1≤100;omega)
 | f+1,e,h,hok,F,hF=>by
  obtain⟨G,rfl⟩:∃G,F=G+1:=⟨F-1,omq⟩
  obtain⟨o1,o2⟩:=kH hok
  have h1:gpS 100 (kC 100 dv f) (dv e) 1≤100:=h
  have hm:=lQ _ _ h1
  unfold nW at o2
  split at o2
  ·rename_i i k j m s w T A c l
   have hx:∀x∈l,BkI L (exI L G) x:=fun x hx=>sC hL f x (hm x hx) (o1 x hx) G omq
   intro a rest hr hf
   unfold exI
   rw [if_neg (by simp)]
   exact z7 hL (w:=w) (T:=T) (A:=A) (c:=c) o1 o2 hx a rest hr hf
  ·cases o2
end Go.Proofs.YtomolhbkdhjofaaGreatDoor
