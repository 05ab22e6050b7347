/- T -/
import Derived.Lib.AtoiAll
import Derived.StillTailTactics
import Derived.Test.YtomolhbkdhjofaaGreatDoorParXL
set_option maxHeartbeats 0
set_option maxRecDepth 100000
namespace Go.Proofs.YtomolhbkdhjofaaGreatDoor
open Go.RowKit Go.Proofs.Tryz
def neB (c x:Nat):Bool:=decide (x≠c)
structure Tk where
 k:Int
 n:Int
 s:ByteArray
 e:Nat
def tokE (k n:Int)(s:ByteArray):E:=.agg [.int .i64 k,.int .i64 n,.str s]
def Tk.E (t:Tk):E:=tokE t.k t.n t.s
def jq (acc:Nat):List UInt8→Nat
 | []=>acc
 | c :: r=>jq (acc*10+(c.toNat-48)) r
def ky (s:ByteArray):Nat:=jq 0 s.data.toList
def vI (s:ByteArray):Int:=if 1≤s.size∧s.size≤10∧¬(1<s.size∧bAt s 0=48) then (ky s:Int) else -1
def nE (x y:Nat):Bool:=(decide (y=61)&&(decide (x=60)||(decide (x=61)||(decide (x=33)||decide (x=62)))))||((decide (x=38)&&decide (y=38))||(decide (x=124)&&decide (y=124)))
def lh (c:Nat):Bool:=[123,125,40,41,91,93,44,59,36,43,45,42,47,37,46,60,62,33,126,61].contains c
def dY (s:ByteArray):Bool:=(decide (s.size=2)&&nE (bAt s 0) (bAt s 1))||(decide (s.size=1)&&lh (bAt s 0))
def qq (s:ByteArray):ByteArray:=if 2≤s.size∧nE (bAt s 0) (bAt s 1)=true then bk s 0 2 else if 1≤s.size∧lh (bAt s 0)=true then bk s 0 1 else ByteArray.empty
def bP (k n:Int)(s:ByteArray):Bool :=
 if k=1 then decide (0≤n)&&(decide (n≤2147483647)&&decide (s.size=0))
 else if k=2 then dD s&&decide (n=0)
 else if k=3 then dj 39 s&&decide (n=0)
 else if k=4 then dj 47 s&&(decide (1≤s.size)&&decide (n=0))
 else if k=5 then dY s&&decide (n=0)
 else false
def Tk.ok (t:Tk):Bool:=bP t.k t.n t.s
def jY (s:ByteArray)(a:Nat)(k:Int):Tk :=
 if bD (neB (bAt s a)) s s.size (a+1)=s.size then ⟨0,0,ByteArray.empty,s.size⟩ else ⟨k,0,bk s (a+1) (bD (neB (bAt s a)) s s.size (a+1)),bD (neB (bAt s a)) s s.size (a+1)+1⟩
def dQ (s:ByteArray)(a:Nat)(rex:Bool):Tk :=
 if cF (bAt s a)=true then ⟨1,vI (bk s a (bD cF s s.size a)),ByteArray.empty,bD cF s s.size a⟩
 else if gC (bAt s a)=true then ⟨2,0,bk s a (bD ldB s s.size a),bD ldB s s.size a⟩
 else if bAt s a=39 then jY s a 3
 else if bAt s a=47∧rex=true then jY s a 4
 else if a+1<s.size∧dY (bk s a (a+2))=true then ⟨5,0,bk s a (a+2),a+2⟩
 else ⟨5,0,bk s a (a+1),a+1⟩
def blB (c:Nat):Bool:=decide (c=32)||(decide (c=9)||(decide (c=10)||decide (c=13)))
def fF (s:ByteArray):Nat→Nat→Nat
 | 0,a=>a
 | f+1,a=>if a<s.size then if blB (bAt s a)=true then fF s f (a+1) else if bAt s a=35 then fF s f (bD (neB 10) s s.size a) else a else a
def ou (k:Int)(s:ByteArray):Bool:=decide (k=5)&&decide (s=⟨#[126]⟩)
def qr (s:ByteArray):Nat→Nat→Bool→List E→List E×Int
 | 0,_,_,out=>(out,-1)
 | f+1,a,rex,out=>if a<s.size then if (dQ s a rex).ok=true∧out.length≠2000 then qr s f (fF s (s.size+1) (dQ s a rex).e) (ou (dQ s a rex).k (dQ s a rex).s) (out++[(dQ s a rex).E]) else ([],(a:Int)) else (out,-1)
theorem eI {p:Nat→Bool}{s:ByteArray}{a:Nat}(h:a<s.size)(h2:p (bAt s a)=true):bD p s s.size a=bD p s s.size (a+1)∧a<bD p s s.size a:=by
 have h1:=bG (p:=p) (s:=s) s.size a omq omq
 have h3:=bG (p:=p) (s:=s) s.size (a+1) omq omq
 have hlt:a<bD p s s.size a:=by
  rcases Nat.lt_or_ge a (bD p s s.size a) with h|h
  ·exact h
  ·have e:bD p s s.size a=a:=by omega
   have:=h1.2.2.2 omq
   rw [e,h2] at this;cases this
 refine⟨?_,hlt⟩
 rcases Nat.lt_trichotomy (bD p s s.size a) (bD p s s.size (a+1)) with h4|h4|h4
 ·have:=h3.2.2.1 _ omq h4
  rw [h1.2.2.2 omq] at this;cases this
 ·exact h4
 ·have:=h1.2.2.1 _ omq h4
  rw [h3.2.2.2 omq] at this;cases this
theorem fO {p:Nat→Bool}{s:ByteArray}{a:Nat}(h:¬(a<s.size∧p (bAt s a)=true)):bD p s s.size a=a:=eW h
theorem kz {p:Nat→Bool}{s:ByteArray}:∀(f a:Nat),a≤s.size→s.size≤a+f→bD p s f a=bD p s s.size a
 | 0,a,h1,h2=>by
  rw [fO fun h=>by omega];rfl
 | f+1,a,h1,h2=>by
  by_cases h:a<s.size∧p (bAt s a)=true
  ·rw [fN h.1 h.2,(eI h.1 h.2).1]
   exact kz f (a+1) omq omq
  ·rw [eW h,fO h]
theorem vJ {p:Nat→Bool}{s:ByteArray}{a:Nat}(ha:a≤s.size):∀(f j:Nat),j+a≤s.size→s.size≤j+a+f→bD p (bk s a s.size) (bk s a s.size).size j+a=bD p s s.size (j+a)
 | 0,j,h1,h2=>by
  have hz:=bO (s:=s) (a:=a) (b:=s.size) ha (Nat.le_refl _)
  rw [fO fun h=>by omega,fO fun h=>by omega]
 | f+1,j,h1,h2=>by
  have hz:=bO (s:=s) (a:=a) (b:=s.size) ha (Nat.le_refl _)
  by_cases hj:j+a<s.size
  ·have e:bAt (bk s a s.size) j=bAt s (j+a):=by rw [dB (Nat.le_refl _) omq,Nat.add_comm]
   by_cases hp:p (bAt s (j+a))=true
   ·rw [(eI omq (by rw [e];exact hp)).1,(eI hj hp).1,Nat.add_right_comm j a 1]
    exact vJ ha f (j+1) omq omq
   ·rw [fO fun h=>hp (by rw [←e];exact h.2),fO fun h=>hp h.2]
  ·rw [fO fun h=>by omega,fO fun h=>by omega]
theorem zr3 {s:ByteArray}{a b c:Nat}(h2:b≤c)(h3:a+c≤s.size):bk (bk s a s.size) b c=bk s (a+b) (a+c):=by
 have hz:=bO (s:=s) (a:=a) (b:=s.size) omq (Nat.le_refl _)
 unfold bk at hz ⊢
 apply ByteArray.ext
 apply Array.ext
 ·have e1:((s.extract a s.size).extract b c).size=c-b:=by rw [ByteArray.size_extract];omega
  have e2:(s.extract (a+b) (a+c)).size=c-b:=by rw [ByteArray.size_extract];omega
  exact e1.trans e2.symm
 ·intro i h4 h5
  simp only [ByteArray.data_extract,Array.getElem_extract]
  congr 1
  omega
theorem yS {s:ByteArray}{a:Nat}{rex:Bool}(ha:a<s.size):dQ s a rex={ dQ (bk s a s.size) 0 rex with e:=(dQ (bk s a s.size) 0 rex).e+a }:=by
 have hz:=bO (s:=s) (a:=a) (b:=s.size) omq (Nat.le_refl _)
 have e0:bAt (bk s a s.size) 0=bAt s a:=by rw [dB (Nat.le_refl _) omq];rfl
 have hr:∀(p:Nat→Bool) (j:Nat),j+a≤s.size→bD p s s.size (j+a)=bD p (bk s a s.size) (bk s a s.size).size j+a:=fun p j h=>(vJ omq s.size j h omq).symm
 have hc:∀b c:Nat,b≤c→a+c≤s.size→bk (bk s a s.size) b c=bk s (a+b) (a+c):=fun b c=>zr3
 have h0:∀p:Nat→Bool,bD p s s.size a=bD p (bk s a s.size) (bk s a s.size).size 0+a:=fun p=>by have:=hr p 0 omq;rwa [Nat.zero_add] at this
 have hb:∀(p:Nat→Bool) (j:Nat),j≤s.size-a→j≤bD p (bk s a s.size) (bk s a s.size).size j∧bD p (bk s a s.size) (bk s a s.size).size j≤s.size-a:=fun p j hj=>by
  have:=bG (p:=p) (s:=bk s a s.size) (bk s a s.size).size j omq omq
  omega
 unfold dQ
 rw [e0]
 split
 ·rw [h0]
  have:=hb cF 0 omq
  rw [hc 0 _ omq omq,Nat.add_zero,Nat.add_comm a (bD _ _ _ 0)]
 ·split
  ·rw [h0]
   have:=hb ldB 0 omq
   rw [hc 0 _ omq omq,Nat.add_zero,Nat.add_comm a (bD _ _ _ 0)]
  ·have quo:∀k:Int,jY s a k={ jY (bk s a s.size) 0 k with e:=(jY (bk s a s.size) 0 k).e+a }:=fun k=>by
    unfold jY
    rw [e0,show a+1=(0+1)+a by omega,hr _ (0+1) omq]
    have:=hb (neB (bAt s a)) (0+1) omq
    by_cases hq:bD (neB (bAt s a)) (bk s a s.size) (bk s a s.size).size (0+1)=(bk s a s.size).size
    ·rw [if_pos hq,if_pos omq]
     simp only [Tk.mk.injEq,true_and];omega
    ·rw [if_neg hq,if_neg omq,hc _ _ omq omq]
     simp only [Nat.add_comm a,Tk.mk.injEq,true_and];omega
   split
   ·exact quo 3
   ·split
    ·exact quo 4
    ·by_cases h2:a+1<s.size
     ·rw [hc 0 (0+2) omq omq,hc 0 (0+1) omq omq]
      simp only [Nat.add_zero,Nat.zero_add]
      by_cases hm:dY (bk s a (a+2))=true
      ·rw [if_pos ⟨h2,hm⟩,if_pos ⟨omq,hm⟩]
       simp only [Nat.add_comm a]
      ·rw [if_neg fun h=>hm h.2,if_neg fun h=>hm h.2]
       simp only [Nat.add_comm a]
     ·rw [if_neg fun h=>h2 h.1,if_neg fun h=>absurd h.1 omq,hc 0 (0+1) omq omq]
      simp only [Nat.add_zero,Nat.zero_add,Nat.add_comm a]
theorem nF {s:ByteArray}{a:Nat}{rex:Bool}(ha:a<s.size):a<(dQ s a rex).e∧(dQ s a rex).e≤s.size:=by
 have hq:∀k:Int,a<(jY s a k).e∧(jY s a k).e≤s.size:=fun k=>by
  have:=bG (p:=neB (bAt s a)) (s:=s) s.size (a+1) omq omq
  unfold jY
  split
  ·exact⟨ha,Nat.le_refl _⟩
  ·exact⟨by show a<_+1;omega,by show _+1≤_;omega⟩
 unfold dQ
 split
 ·rename_i h
  exact⟨(eI ha h).2,(bG (p:=cF) (s:=s) s.size a omq omq).2.1⟩
 ·split
  ·rename_i h
   exact⟨(eI ha (show ldB (bAt s a)=true by simp [ldB,h])).2,(bG (p:=ldB) (s:=s) s.size a omq omq).2.1⟩
  ·split
   ·exact hq 3
   ·split
    ·exact hq 4
    ·split
     ·rename_i h;exact⟨by show a<a+2;omega,by show a+2≤_;omega⟩
     ·exact⟨by show a<a+1;omega,by show a+1≤_;omega⟩
theorem zs3 {s:ByteArray}{a b:Nat}:(bk s a b).size≤s.size:=by
 unfold bk
 rw [ByteArray.size_extract];omega
theorem zt3 {s:ByteArray}{a:Nat}{rex:Bool}{n:Nat}(hs:s.size≤n)(_ha:a<s.size):(dQ s a rex).s.size≤n:=by
 have h:∀b c,(bk s b c).size≤n:=fun b c=>Nat.le_trans zs3 hs
 have hq:∀k:Int,(jY s a k).s.size≤n:=fun k=>by
  unfold jY
  split
  ·exact Nat.zero_le _
  ·exact h _ _
 unfold dQ
 repeat' split
 all_goals first
  | exact Nat.zero_le _
  | exact h _ _
  | exact hq _
theorem i7 {s:ByteArray}:∀(f a:Nat),a≤s.size→a≤fF s f a∧fF s f a≤s.size
 | 0,a,h=>⟨Nat.le_refl _,h⟩
 | f+1,a,h=>by
  unfold fF
  split
  ·split
   ·have:=i7 (s:=s) f (a+1) omq;omega
   ·split
    ·have h1:=bG (p:=neB 10) (s:=s) s.size a omq omq
     have:=i7 (s:=s) f (bD (neB 10) s s.size a) omq;omega
    ·exact⟨Nat.le_refl _,h⟩
  ·exact⟨Nat.le_refl _,h⟩
theorem ia {s:ByteArray}:∀(f g a:Nat),a≤s.size→s.size≤a+f→s.size≤a+g→fF s f a=fF s g a
 | 0,0,a,_,_,_=>rfl
 | 0,g+1,a,h1,h2,h3=>by unfold fF;rw [if_neg omq]
 | f+1,0,a,h1,h2,h3=>by
  have:¬a<s.size:=by omega
  show fF s (f+1) a=a
  unfold fF;rw [if_neg this]
 | f+1,g+1,a,h1,h2,h3=>by
  unfold fF
  split
  ·rename_i ha
   split
   ·exact ia f g (a+1) omq omq omq
   ·split
    ·rename_i h4
     have h5:=(eI ha (show neB 10 (bAt s a)=true by simp [neB,h4])).2
     have h6:=bG (p:=neB 10) (s:=s) s.size a omq omq
     exact ia f g _ omq omq omq
    ·rfl
  ·rfl
def er (s:ByteArray)(a:Nat):Nat:=fF s (s.size+1) a
theorem iH {s:ByteArray}{a:Nat}(ha:a<s.size)(h:blB (bAt s a)=true):er s a=er s (a+1):=by
 unfold er
 rw [show fF s (s.size+1) a=fF s s.size (a+1) by rw [fF,if_pos ha,if_pos h]]
 exact ia _ _ _ omq omq omq
theorem li {s:ByteArray}{a:Nat}(ha:a<s.size)(h:bAt s a=35):er s a=er s (bD (neB 10) s s.size a):=by
 have h6:=bG (p:=neB 10) (s:=s) s.size a omq omq
 unfold er
 rw [show fF s (s.size+1) a=fF s s.size (bD (neB 10) s s.size a) by rw [fF,if_pos ha,if_neg (by simp [blB,h]),if_pos h]]
 exact ia _ _ _ omq omq omq
theorem ga {s:ByteArray}{a:Nat}(h:¬(a<s.size∧(blB (bAt s a)=true∨bAt s a=35))):er s a=a:=by
 unfold er fF
 split
 ·rename_i ha
  rw [if_neg fun hb=>h ⟨ha,.inl hb⟩,if_neg fun hb=>h ⟨ha,.inr hb⟩]
 ·rfl
theorem tg {s:ByteArray}{a:Nat}(ha:a<s.size)(h:bAt s a=35)(hr:bD (neB 10) s s.size a<s.size):er s a=er s (bD (neB 10) s s.size a+1):=by
 have h6:=bG (p:=neB 10) (s:=s) s.size a omq omq
 rw [li ha h,iH hr]
 have h7:=h6.2.2.2 hr
 simp [neB] at h7
 simp [blB,h7]
theorem oW {s:ByteArray}:∀(f g a:Nat) (rex:Bool) (out:List E),a≤s.size→s.size<a+f→s.size<a+g→qr s f a rex out=qr s g a rex out
 | 0,_,a,_,_,h1,h2,_=>by omega
 | _+1,0,a,_,_,h1,_,h3=>by omega
 | f+1,g+1,a,rex,out,h1,h2,h3=>by
  unfold qr
  split
  ·rename_i ha
   have h4:=nF (rex:=rex) ha
   have h5:=i7 (s:=s) (s.size+1) (dQ s a rex).e h4.2
   split
   ·exact oW f g _ _ _ h5.2 omq omq
   ·rfl
  ·rfl
def th (s:ByteArray)(a:Nat)(rex:Bool)(out:List E):List E×Int:=qr s (s.size+1) a rex out
theorem qs {s:ByteArray}{a:Nat}{rex:Bool}{out:List E}(h:¬a<s.size):th s a rex out=(out,-1):=by
 unfold th qr;rw [if_neg h]
theorem zg1 {s:ByteArray}{a:Nat}{rex:Bool}{out:List E}(ha:a<s.size)(h:¬((dQ s a rex).ok=true∧out.length≠2000)):th s a rex out=([],(a:Int)):=by
 unfold th qr;rw [if_pos ha,if_neg h]
theorem qt {s:ByteArray}{a:Nat}{rex:Bool}{out:List E}(ha:a<s.size)(h1:(dQ s a rex).ok=true)(h2:out.length≠2000):th s a rex out=th s (er s (dQ s a rex).e) (ou (dQ s a rex).k (dQ s a rex).s) (out++[(dQ s a rex).E]):=by
 have h4:=nF (rex:=rex) ha
 have h5:=i7 (s:=s) (s.size+1) (dQ s a rex).e h4.2
 unfold th
 rw [show qr s (s.size+1) a rex out=qr s s.size (fF s (s.size+1) (dQ s a rex).e) (ou (dQ s a rex).k (dQ s a rex).s) (out++[(dQ s a rex).E]) by rw [qr,if_pos ha,if_pos ⟨h1,h2⟩]]
 exact oW _ _ _ _ _ h5.2 omq omq
theorem vK {s:ByteArray}{a:Nat}(h:a≤s.size):a≤er s a∧er s a≤s.size:=i7 _ _ h
def iq (s:ByteArray):List E×Int:=th s (er s 0) false []
theorem oX {s:ByteArray}(hs:s.size≤1048576){a c:Nat}(ha:a≤s.size)(hc:c<256):Ctr prog 113 [.c (.v (.string s)),.c (.v (.int .i64 (a:Int))),.c (.v (.int .u8 (c:Int)))] [] (.c (.v (.int .i64 (bD (neB c) s s.size a:Nat)))) []:=by
 refine ay func113 rfl rfl ?_
 repeat' (first|(apply av;refine ai ?_)|refine aj ?_|refine ab ?_|refine aa fun C=>?_|refine ac ?_|refine ah ?_)
 refine aZ (fun k:Nat=>⟨e8 [(0,.c (.v (.string s))),(1,.c (.v (.int .i64 (k:Int)))),(2,.c (.v (.int .u8 (c:Int))))],eT [],0,[],21⟩)
  (fun N k=>k+N=s.size∧bD (neB c) s s.size a=bD (neB c) s N k) (s.size-a) a ⟨omq,(kz (s.size-a) a ha omq).symm⟩ ?_ ?_
 ·(refine aN _ _ rfl rfl ?_ ?_<;>exact tdy0)
 rintro N k ⟨hN,hr⟩
 try dsimp only
 have hlt:=cI s k
 by_cases hk:k<s.size
 ·obtain⟨M,rfl⟩:∃M,N=M+1:=⟨N-1,omq⟩
  by_cases hq:bAt s k=c
  ·rw [hr,eW fun h=>by simp [neB,hq] at h]
   repeat' (first|(apply av;first|refine bC ?_|(refine aK ?_ ?_<;>intro hG<;>(try cases hG))|refine ak ?_|refine ai ?_|refine be ?_|refine eg ?_|refine aE ?_|refine aw ?_|refine aA ?_|refine cb ?_)|refine aj ?_|refine ab ?_|refine aa fun C=>?_|refine ac ?_|refine ah ?_|refine al ?_|refine aB ?_|(refine ae (by rfl) ?_ ?_<;>intro hC<;>(try cases hC)))
   all_goals first
    | (exfalso;simp_all;done)
    | (exfalso;simp_all;omega)
    | (refine am ?_;refine bv rfl aJ ⟨?_,rfl⟩;rfl)
  ·have hr2:bD (neB c) s s.size a=bD (neB c) s M (k+1):=by rw [hr,fN hk (by simp [neB,hq])]
   repeat' (first|(apply av;first|refine bC ?_|(refine aK ?_ ?_<;>intro hG<;>(try cases hG))|refine ak ?_|refine ai ?_|refine be ?_|refine eg ?_|refine aE ?_|refine aw ?_|refine aA ?_|refine cb ?_)|refine aj ?_|refine ab ?_|refine aa fun C=>?_|refine ac ?_|refine ah ?_|refine al ?_|refine aB ?_|(refine ae (by rfl) ?_ ?_<;>intro hC<;>(try cases hC)))
   all_goals first
    | (refine⟨M,k+1,omq,⟨omq,hr2⟩,?_⟩;(refine aN _ _ rfl rfl ?_ ?_<;>(repeat' (first|exact TmOk.nil|exact RwOk.nil|refine TmOk.cons ?_ ?_|refine RwOk.cons ?_ ?_|rfl|(refine rnV_id' rfl ?_;exact byc)|(refine cE ?_;first|rfl|omega|(rw [bA omq omq];omega))|(refine bf rfl ?_;exact byc)|exact dH rfl rfl|(refine rw_mid (by rfl) (by rfl) ?_ ?_<;>exact byc)|(refine rw_rn' rfl rfl ?_;simp;done)))))
    | (exfalso;simp_all;done)
    | (exfalso;simp_all;omega)
 ·rw [hr,eW fun h=>hk h.1]
  repeat' (first|(apply av;first|refine bC ?_|(refine aK ?_ ?_<;>intro hG<;>(try cases hG))|refine ak ?_|refine ai ?_|refine be ?_|refine eg ?_|refine aE ?_|refine aw ?_|refine aA ?_|refine cb ?_)|refine aj ?_|refine ab ?_|refine aa fun C=>?_|refine ac ?_|refine ah ?_|refine al ?_|refine aB ?_|(refine ae (by rfl) ?_ ?_<;>intro hC<;>(try cases hC)))
  all_goals first
   | (exfalso;simp_all;done)
   | (exfalso;simp_all;omega)
   | (refine am ?_;refine bv rfl aJ ⟨?_,rfl⟩;rfl)
theorem yT {s:ByteArray}(hs:s.size≤1048576){a:Nat}(ha:a≤s.size):Ctr prog 115 [.c (.v (.string s)),.c (.v (.int .i64 (a:Int))),.c (.v (.bool false))] [] (.c (.v (.int .i64 (bD cF s s.size a:Nat)))) []:=by
 refine ay func115 rfl rfl ?_
 repeat' (first|(apply av;refine ai ?_)|refine aj ?_|refine ab ?_|refine aa fun C=>?_|refine ac ?_|refine ah ?_)
 refine aZ (fun k:Nat=>⟨e8 [(0,.c (.v (.string s))),(1,.c (.v (.int .i64 (k:Int)))),(2,.c (.v (.bool false)))],eT [],0,[],29⟩)
  (fun N k=>k+N=s.size∧bD cF s s.size a=bD cF s N k) (s.size-a) a ⟨omq,(kz (s.size-a) a ha omq).symm⟩ ?_ ?_
 ·(refine aN _ _ rfl rfl ?_ ?_<;>exact tdy0)
 rintro N k ⟨hN,hr⟩
 try dsimp only
 have c1:=gQ (cI s k)
 by_cases hk:k<s.size
 ·obtain⟨M,rfl⟩:∃M,N=M+1:=⟨N-1,omq⟩
  cases h1:cF (bAt s k) with
  | true =>
   rw [h1] at c1
   have hr2:bD cF s s.size a=bD cF s M (k+1):=by rw [hr,fN hk h1]
   repeat' (first|(apply av;first|refine bC ?_|(refine aK ?_ ?_<;>intro hG<;>(try cases hG))|refine ak ?_|refine ai ?_|refine aG c1 ?_|refine be ?_|refine aE ?_|refine aw ?_|refine aA ?_|refine cb ?_)|refine aj ?_|refine ab ?_|refine aa fun C=>?_|refine ac ?_|refine ah ?_|refine al ?_|refine aB ?_|(refine ae (by rfl) ?_ ?_<;>intro hC<;>(try cases hC)))
   all_goals first
    | (refine⟨M,k+1,omq,⟨omq,hr2⟩,?_⟩;(refine aN _ _ rfl rfl ?_ ?_<;>(repeat' (first|exact TmOk.nil|exact RwOk.nil|refine TmOk.cons ?_ ?_|refine RwOk.cons ?_ ?_|rfl|(refine rnV_id' rfl ?_;exact byc)|(refine cE ?_;first|rfl|omega|(rw [bA omq omq];omega))|(refine bf rfl ?_;exact byc)|exact dH rfl rfl|(refine rw_mid (by rfl) (by rfl) ?_ ?_<;>exact byc)|(refine rw_rn' rfl rfl ?_;simp;done)))))
    | (exfalso;simp only [decide_eq_true_iff,decide_eq_false_iff_not] at *;omega)
  | false =>
   rw [h1] at c1
   rw [hr,eW fun h=>by simp [h1] at h]
   repeat' (first|(apply av;first|refine bC ?_|(refine aK ?_ ?_<;>intro hG<;>(try cases hG))|refine ak ?_|refine ai ?_|refine aG c1 ?_|refine be ?_|refine aE ?_|refine aA ?_|refine cb ?_)|refine aj ?_|refine ab ?_|refine aa fun C=>?_|refine ac ?_|refine aB ?_|(refine ae (by rfl) ?_ ?_<;>intro hC<;>(try cases hC)))
   all_goals first
    | (exfalso;simp only [decide_eq_true_iff,decide_eq_false_iff_not] at *;omega)
    | (refine am ?_;refine bv rfl aJ ⟨?_,rfl⟩;rfl)
 ·rw [hr,eW fun h=>hk h.1]
  repeat' (first|(apply av;first|refine bC ?_|(refine aK ?_ ?_<;>intro hG<;>(try cases hG))|refine ak ?_|refine ai ?_|refine aG c1 ?_|refine be ?_|refine aE ?_|refine aw ?_|refine aA ?_|refine cb ?_)|refine aj ?_|refine ab ?_|refine aa fun C=>?_|refine ac ?_|refine ah ?_|refine al ?_|refine aB ?_|(refine ae (by rfl) ?_ ?_<;>intro hC<;>(try cases hC)))
  all_goals first
   | (exfalso;simp only [decide_eq_true_iff,decide_eq_false_iff_not] at *;omega)
   | (refine am ?_;refine bv rfl aJ ⟨?_,rfl⟩;rfl)
theorem yU {s:ByteArray}(hs:s.size≤1048576){a:Nat}(ha:a≤s.size):Ctr prog 115 [.c (.v (.string s)),.c (.v (.int .i64 (a:Int))),.c (.v (.bool true))] [] (.c (.v (.int .i64 (bD ldB s s.size a:Nat)))) []:=by
 refine ay func115 rfl rfl ?_
 repeat' (first|(apply av;refine ai ?_)|refine aj ?_|refine ab ?_|refine aa fun C=>?_|refine ac ?_|refine ah ?_)
 refine aZ (fun k:Nat=>⟨e8 [(0,.c (.v (.string s))),(1,.c (.v (.int .i64 (k:Int)))),(2,.c (.v (.bool true)))],eT [],0,[],29⟩)
  (fun N k=>k+N=s.size∧bD ldB s s.size a=bD ldB s N k) (s.size-a) a ⟨omq,(kz (s.size-a) a ha omq).symm⟩ ?_ ?_
 ·(refine aN _ _ rfl rfl ?_ ?_<;>exact tdy0)
 rintro N k ⟨hN,hr⟩
 try dsimp only
 have c1:=gQ (cI s k)
 have c2:=kZ (cI s k)
 by_cases hk:k<s.size
 ·obtain⟨M,rfl⟩:∃M,N=M+1:=⟨N-1,omq⟩
  cases h1:ldB (bAt s k) with
  | true =>
   have hr2:bD ldB s s.size a=bD ldB s M (k+1):=by rw [hr,fN hk h1]
   cases h2:cF (bAt s k) with
   | true =>
    rw [h2] at c1
    repeat' (first|(apply av;first|refine bC ?_|(refine aK ?_ ?_<;>intro hG<;>(try cases hG))|refine ak ?_|refine ai ?_|refine aG c1 ?_|refine be ?_|refine aE ?_|refine aw ?_|refine aA ?_|refine cb ?_)|refine aj ?_|refine ab ?_|refine aa fun C=>?_|refine ac ?_|refine ah ?_|refine al ?_|refine aB ?_|(refine ae (by rfl) ?_ ?_<;>intro hC<;>(try cases hC)))
    all_goals first
     | (refine⟨M,k+1,omq,⟨omq,hr2⟩,?_⟩;(refine aN _ _ rfl rfl ?_ ?_<;>(repeat' (first|exact TmOk.nil|exact RwOk.nil|refine TmOk.cons ?_ ?_|refine RwOk.cons ?_ ?_|rfl|(refine rnV_id' rfl ?_;exact byc)|(refine cE ?_;first|rfl|omega|(rw [bA omq omq];omega))|(refine bf rfl ?_;exact byc)|exact dH rfl rfl|(refine rw_mid (by rfl) (by rfl) ?_ ?_<;>exact byc)|(refine rw_rn' rfl rfl ?_;simp;done)))))
     | (exfalso;simp only [decide_eq_true_iff,decide_eq_false_iff_not] at *;omega)
   | false =>
    rw [h2] at c1
    rw [show gC (bAt s k)=true by simpa [ldB,h2] using h1] at c2
    repeat' (first|(apply av;first|refine bC ?_|(refine aK ?_ ?_<;>intro hG<;>(try cases hG))|refine ak ?_|refine ai ?_|refine aG c1 ?_|refine aG c2 ?_|refine be ?_|refine aE ?_|refine aw ?_|refine aA ?_|refine cb ?_)|refine aj ?_|refine ab ?_|refine aa fun C=>?_|refine ac ?_|refine ah ?_|refine al ?_|refine aB ?_|(refine ae (by rfl) ?_ ?_<;>intro hC<;>(try cases hC)))
    all_goals first
     | (refine⟨M,k+1,omq,⟨omq,hr2⟩,?_⟩;(refine aN _ _ rfl rfl ?_ ?_<;>(repeat' (first|exact TmOk.nil|exact RwOk.nil|refine TmOk.cons ?_ ?_|refine RwOk.cons ?_ ?_|rfl|(refine rnV_id' rfl ?_;exact byc)|(refine cE ?_;first|rfl|omega|(rw [bA omq omq];omega))|(refine bf rfl ?_;exact byc)|exact dH rfl rfl|(refine rw_mid (by rfl) (by rfl) ?_ ?_<;>exact byc)|(refine rw_rn' rfl rfl ?_;simp;done)))))
     | (exfalso;simp only [decide_eq_true_iff,decide_eq_false_iff_not] at *;omega)
  | false =>
   have h3:gC (bAt s k)=false∧cF (bAt s k)=false:=by simpa [ldB] using h1
   rw [h3.2] at c1
   rw [h3.1] at c2
   rw [hr,eW fun h=>by simp [h1] at h]
   repeat' (first|(apply av;first|refine bC ?_|(refine aK ?_ ?_<;>intro hG<;>(try cases hG))|refine ak ?_|refine ai ?_|refine aG c1 ?_|refine aG c2 ?_|refine be ?_|refine aE ?_|refine aA ?_|refine cb ?_)|refine aj ?_|refine ab ?_|refine aa fun C=>?_|refine ac ?_|refine aB ?_|(refine ae (by rfl) ?_ ?_<;>intro hC<;>(try cases hC)))
   all_goals first
    | (exfalso;simp only [decide_eq_true_iff,decide_eq_false_iff_not] at *;omega)
    | (refine am ?_;refine bv rfl aJ ⟨?_,rfl⟩;rfl)
 ·rw [hr,eW fun h=>hk h.1]
  repeat' (first|(apply av;first|refine bC ?_|(refine aK ?_ ?_<;>intro hG<;>(try cases hG))|refine ak ?_|refine ai ?_|refine aG c1 ?_|refine aG c2 ?_|refine be ?_|refine aE ?_|refine aw ?_|refine aA ?_|refine cb ?_)|refine aj ?_|refine ab ?_|refine aa fun C=>?_|refine ac ?_|refine ah ?_|refine al ?_|refine aB ?_|(refine ae (by rfl) ?_ ?_<;>intro hC<;>(try cases hC)))
  all_goals first
   | (exfalso;simp only [decide_eq_true_iff,decide_eq_false_iff_not] at *;omega)
   | (refine am ?_;refine bv rfl aJ ⟨?_,rfl⟩;rfl)
def pvS (s:ByteArray)(k:Nat):Nat:=jq 0 (s.data.toList.take k)
theorem kA:∀(l m:List UInt8) (acc:Nat),jq acc (l++m)=jq (jq acc l) m
 | [],m,acc=>rfl
 | c :: l,m,acc=>kA l m _
theorem nG (acc:Nat)(c:UInt8):jq acc [c]=acc*10+(c.toNat-48):=rfl
theorem kB {s:ByteArray}{k:Nat}(h:k<s.size):s.data.toList[k]? = some (UInt8.ofNat (bAt s k)):=by
 unfold bAt
 rw [Array.getElem?_toList,Array.getElem?_eq_getElem h,Option.getD_some,UInt8.ofNat_toNat]
theorem zu3 {l:List UInt8}{k:Nat}{c:UInt8}(h:l[k]? = some c):jq 0 (l.take (k+1))=jq 0 (l.take k)*10+(c.toNat-48):=by
 rw [List.take_add_one,kA,h,Option.toList_some,nG]
theorem vL {s:ByteArray}{k:Nat}(h:k<s.size):pvS s (k+1)=pvS s k*10+(bAt s k-48):=by
 have h1:=zu3 (kB h)
 rw [UInt8.toNat_ofNat',Nat.mod_eq_of_lt (cI s k)] at h1
 exact h1
theorem zu6 {s:ByteArray}:pvS s s.size=ky s:=by
 unfold pvS ky
 rw [List.take_of_length_le (by simp)]
theorem pv_lt {s:ByteArray}(hd:jW cF s=true):∀k,k≤s.size→pvS s k<10 ^ k
 | 0,_=>by unfold pvS;rw [List.take_zero];exact Nat.zero_lt_one
 | k+1,h=>by
  have h1:=pv_lt hd k omq
  have h2:cF (bAt s k)=true:=by simp only [jW,decide_eq_true_iff] at hd;exact hd k omq
  simp only [cF,Bool.and_eq_true,decide_eq_true_iff] at h2
  have h3:=vL (s:=s) (k:=k) omq
  rw [h3,Nat.pow_succ]
  omega
theorem u8w {b:Nat}(h:48≤b)(h2:b≤57):IntKind.u8.wrap ((b:Int)-48)=((b-48:Nat):Int):=by
 rw [show ((b:Int)-48)=((b-48:Nat):Int) by omega]
 rw [IntKind.wrap_u8]
 omega
theorem lj {s:ByteArray}(h:¬(1≤s.size∧s.size≤10∧¬(1<s.size∧bAt s 0=48))):vI s = -1:=if_neg h
theorem ja {s:ByteArray}(h:1≤s.size∧s.size≤10∧¬(1<s.size∧bAt s 0=48)):vI s=(ky s:Int):=if_pos h
theorem zv3 {s:ByteArray}(hd:jW cF s=true):Ctr prog 116 [.c (.v (.string s))] [] (.c (.v (.int .i64 (vI s)))) []:=by
 have cw:=iy (s.size:Int) 1 10
 by_cases hb:1≤s.size∧s.size≤10
 ·rw [show inR (s.size:Int) 1 10=true by simp [inR];omega] at cw
  by_cases h0:1<s.size∧bAt s 0=48
  ·rw [lj fun h=>h.2.2 h0]
   refine ay func116 rfl rfl ?_
   repeat' (first|(apply av;first|refine bC ?_|(refine aK ?_ ?_<;>intro hG<;>(try cases hG))|refine ak ?_|refine ai ?_|refine aG cw ?_|refine be ?_|refine aW ?_|refine bu ?_|refine bM ?_|refine aA ?_|refine cb ?_)|refine aj ?_|refine ab ?_|refine aa fun C=>?_|refine ac ?_)
   all_goals first
    | (exfalso;simp_all;done)
    | (refine ae (by rfl) (fun hC=>?_) fun hC=>?_
       ·repeat' (first|(apply av;refine ai ?_)|refine aj ?_|refine ab ?_|refine aa fun C=>?_|refine ac ?_)
        exact eo
       ·exfalso;simp only [h0,decide_eq_false_iff_not] at hC hG;first|omega|(simp at hC))
  ·rw [ja ⟨hb.1,hb.2,h0⟩]
   have hz:∀k,k≤s.size→pvS s k<10000000000:=fun k hk=>Nat.lt_of_lt_of_le (pv_lt hd k hk) (Nat.le_trans (Nat.pow_le_pow_right (show 0<10 by omega) (show k≤10 by omega)) (show 10 ^ 10≤10000000000 by decide))
   refine ay func116 rfl rfl ?_
   repeat' (first|(apply av;first|refine bC ?_|(refine aK ?_ ?_<;>intro hG<;>(try cases hG))|refine ak ?_|refine ai ?_|refine aG cw ?_|refine be ?_|refine aW ?_|refine bu ?_|refine bM ?_|refine aA ?_|refine cb ?_)|refine aj ?_|refine ab ?_|refine aa fun C=>?_|refine ac ?_)
   all_goals first
    | (exfalso;simp_all;done)
    | (refine ae (by rfl) (fun hC=>?_) fun hC=>?_
       ·exfalso;first|(simp at hC;done)|(simp at hC hG;omega)|(simp at hC;omega)
       ·repeat' (first|(apply av;refine ai ?_)|refine aj ?_|refine ab ?_|refine aa fun C=>?_|refine ac ?_|refine ah ?_|refine al ?_)
        refine aZ (fun k:Nat=>⟨e8 [(0,.c (.v (.string s))),(3,.c (.v (.int .i64 (pvS s k:Int)))),(4,.c (.v (.int .i64 (k:Int))))],eT [],0,[],34⟩) (fun N k=>k+N=s.size) s.size 0 omq ?_ ?_
        ·(refine aN _ _ rfl rfl ?_ ?_<;>exact tdy0)
        rintro N k hN
        try dsimp only
        repeat' (first|(apply av;first|refine ak ?_|refine be ?_|refine aE ?_)|refine aj ?_|refine ab ?_|refine aa fun C=>?_|refine ac ?_)
        refine ae (by rfl) (fun hk=>?_) fun hk=>?_
        ·have hk':k<s.size:=by simpa using hk
         have hd':cF (bAt s k)=true:=by simp only [jW,decide_eq_true_iff] at hd;exact hd k hk'
         simp only [cF,Bool.and_eq_true,decide_eq_true_iff] at hd'
         have hw:=u8w hd'.1 hd'.2
         have hp:=vL hk'
         have hz1:=hz k omq
         have hz2:=hz (k+1) omq
         repeat' (first|(apply av;first|refine ak ?_|refine ai ?_|refine aw ?_|(apply f_bb;first|refine vz ?_|refine az ?_)|refine hZ ?_|refine cb ?_)|refine aj ?_|refine ab ?_|refine aa fun C=>?_|refine ac ?_|refine ah ?_|refine al ?_)
         refine⟨N-1,k+1,omq,omq,?_⟩
         (refine aN _ _ rfl rfl ?_ ?_<;>exact tdy0)
        ·have hk':k=s.size:=by have:¬k<s.size:=by simpa using hk
                               omega
         rw [←zu6,←hk']
         repeat' (first|(apply av;first|refine ak ?_|refine ai ?_)|refine aj ?_|refine ab ?_|refine aa fun C=>?_|refine ac ?_|refine aB ?_)
         refine am ?_;refine bv rfl aJ ⟨?_,rfl⟩;rfl)
 ·rw [lj fun h=>hb ⟨h.1,h.2.1⟩]
  rw [show inR (s.size:Int) 1 10=false by simp [inR];omega] at cw
  refine ay func116 rfl rfl ?_
  repeat' (first|(apply av;first|refine bC ?_|(refine aK ?_ ?_<;>intro hG<;>(try cases hG))|refine ak ?_|refine ai ?_|refine aG cw ?_|refine be ?_|refine bM ?_|refine aA ?_)|refine aj ?_|refine ab ?_|refine aa fun C=>?_|refine ac ?_|refine aq rfl ?_)
  exact eo
theorem ti {s:ByteArray}(hs:s.size≤1048576){a:Nat}(ha:a<s.size)(k:Int):Ctr prog 118 [.c (.v (.string s)),.c (.v (.int .i64 (a:Int))),.c (.v (.int .i64 k))] [] (.tu [.ag [.v (.int .i64 (jY s a k).k),.v (.int .i64 (jY s a k).n),.v (.string (jY s a k).s)],.c (.v (.int .i64 ((jY s a k).e:Int)))]) []:=by
 have c1:=oX hs (a:=a+1) omq (cI s a)
 have hr:=bG (p:=neB (bAt s a)) (s:=s) s.size (a+1) omq omq
 unfold jY
 generalize bD (neB (bAt s a)) s s.size (a+1)=e at c1 hr ⊢
 have ha1:(a:Int)+1=((a+1:Nat):Int):=by omega
 have he1:=hr.1
 have he2:=hr.2.1
 clear hr
 by_cases h:e=s.size
 ·rw [if_pos h]
  refine ay func118 rfl rfl ?_
  repeat' (first|(apply av;first|refine ak ?_|refine ai ?_|refine aG c1 ?_|refine be ?_|refine bg ?_|refine ao ?_|refine aw ?_|refine bI ?_|refine cb ?_|refine jw ?_|refine az ?_)|refine aj ?_|refine ab ?_|refine aa fun C=>?_|refine ac ?_|refine al ?_|(refine ae (by rfl) ?_ ?_<;>intro hC<;>(try cases hC)))
  all_goals first
   | (exfalso;simp at hC;omega)
   | (subst h;refine am ?_;refine bv rfl (bS (aD (bh (aS rfl (aS rfl (aS rfl aV)))) (aD aJ bc))) ⟨?_,rfl⟩;rfl)
 ·rw [if_neg h]
  refine ay func118 rfl rfl ?_
  repeat' (first|(apply av;first|refine ak ?_|refine ai ?_|refine aG c1 ?_|refine be ?_|refine bg ?_|refine ao ?_|refine aw ?_|refine bI ?_|refine cb ?_|refine jw ?_|refine az ?_)|refine aj ?_|refine ab ?_|refine aa fun C=>?_|refine ac ?_|refine al ?_|(refine ae (by rfl) ?_ ?_<;>intro hC<;>(try cases hC)))
  all_goals first
   | (exfalso;simp at hC;omega)
   | (refine am ?_;refine bv rfl (bS (aD (bh (aS rfl (aS rfl (aS rfl aV)))) (aD aJ bc))) ⟨?_,rfl⟩;rfl)
structure GVal where
 k:Int
 n:Int
 s:ByteArray
structure GCell where
 refs:Int
 v:GVal
structure GNamed where
 name:ByteArray
 v:GVal
structure GEntry where
 key:ByteArray
 v:GVal
def yV (d:GEntry):List Value:=[.string d.key,.int .i64 d.v.k,.int .i64 d.v.n,.string d.v.s]
structure GTab where
 name:ByteArray
 A:Option Addr
 c:Nat
 l:List GEntry
def GTab.d (t:GTab):ByteArray×List GEntry:=(t.name,t.l)
def SameT (ts us:List GTab):Prop:=ts.map GTab.d=us.map GTab.d
theorem SameT.len {ts us:List GTab}(h:SameT ts us):ts.length=us.length:=by have:=congrArg List.length h;simpa using this
def InT (w:World)(lo hi:Nat)(ts:List GTab):Prop:=∀t∈ts,Sl w lo hi 4 yV (.slice t.A t.l.length t.c) t.l
section
variable {w w':World}{lo hi lo' hi':Nat}{ts:List GTab}
theorem InT.below {B:Nat}(h:InT w lo hi ts)(hb:Below B w w')(hB:hi≤B):InT w' lo hi ts:=fun t ht=>(h t ht).below hb hB
theorem InT.alloc (h:InT w lo hi ts)(hB:hi≤w.heap.size)(o:Obj):InT (w.alloc o) lo hi ts:=fun t ht=>(h t ht).alloc hB o
theorem InT.setCell (h:InT w lo hi ts){p:Addr}(hB:hi≤p.block)(u:Value):InT (w.setCell p u) lo hi ts:=fun t ht=>(h t ht).setCell hB u
theorem InT.wider (h:InT w lo hi ts)(h1:lo'≤lo)(h2:hi≤hi'):InT w lo' hi' ts:=fun t ht=>(h t ht).wider h1 h2
end
theorem bytes_beq (a b:ByteArray):(a.toList==b.toList)=decide (a=b):=by
 rw [ByteArray.toList_eq,ByteArray.toList_eq]
 by_cases h:a=b
 ·subst h;simp
 ·rw [decide_eq_false h,beq_eq_false_iff_ne]
  intro h2
  apply h
  obtain⟨⟨l⟩⟩:=a
  obtain⟨⟨m⟩⟩:=b
  simp at h2
  subst h2;rfl
end Go.Proofs.YtomolhbkdhjofaaGreatDoor
