/- T -/
import Derived.Lib.AtoiAll
import Derived.StillTailTactics
import Derived.Test.YtomolhbkdhjofaaGreatDoorExRJ
set_option maxHeartbeats 0
set_option maxRecDepth 100000
namespace Go.Proofs.YtomolhbkdhjofaaGreatDoor
open Go.RowKit Go.Proofs.Tryz
def neB (c x:Nat):Bool:=decide (x≠c)
structure Tk where
 k:Int
 n:Int
 s:ByteArray
 e:Nat
def tokE (k n:Int)(s:ByteArray):E:=.agg [.int .i64 k,.int .i64 n,.str s]
def Tk.E (t:Tk):E:=tokE t.k t.n t.s
def jY (acc:Nat):List UInt8→Nat
 | []=>acc
 | c :: r=>jY (acc*10+(c.toNat-48)) r
def lk (s:ByteArray):Nat:=jY 0 s.data.toList
def wg (s:ByteArray):Int:=if 1≤s.size∧s.size≤10∧¬(1<s.size∧bAt s 0=48) then (lk s:Int) else -1
def n8 (x y:Nat):Bool:=(decide (y=61)&&(decide (x=60)||(decide (x=61)||(decide (x=33)||decide (x=62)))))||((decide (x=38)&&decide (y=38))||(decide (x=124)&&decide (y=124)))
def lY (c:Nat):Bool:=[123,125,40,41,91,93,44,59,36,43,45,42,47,37,46,60,62,33,126,61].contains c
def eI (s:ByteArray):Bool:=(decide (s.size=2)&&n8 (bAt s 0) (bAt s 1))||(decide (s.size=1)&&lY (bAt s 0))
def qF (s:ByteArray):ByteArray:=if 2≤s.size∧n8 (bAt s 0) (bAt s 1)=true then bz s 0 2 else if 1≤s.size∧lY (bAt s 0)=true then bz s 0 1 else ByteArray.empty
def bY (k n:Int)(s:ByteArray):Bool :=
 if k=1 then decide (0≤n)&&(decide (n≤2147483647)&&decide (s.size=0))
 else if k=2 then d8 s&&decide (n=0)
 else if k=3 then dE 39 s&&decide (n=0)
 else if k=4 then dE 47 s&&(decide (1≤s.size)&&decide (n=0))
 else if k=5 then eI s&&decide (n=0)
 else false
def Tk.ok (t:Tk):Bool:=bY t.k t.n t.s
def kF (s:ByteArray)(a:Nat)(k:Int):Tk :=
 if bL (neB (bAt s a)) s s.size (a+1)=s.size then ⟨0,0,ByteArray.empty,s.size⟩ else ⟨k,0,bz s (a+1) (bL (neB (bAt s a)) s s.size (a+1)),bL (neB (bAt s a)) s s.size (a+1)+1⟩
def em (s:ByteArray)(a:Nat)(rex:Bool):Tk :=
 if cW (bAt s a)=true then ⟨1,wg (bz s a (bL cW s s.size a)),ByteArray.empty,bL cW s s.size a⟩
 else if ic (bAt s a)=true then ⟨2,0,bz s a (bL ldB s s.size a),bL ldB s s.size a⟩
 else if bAt s a=39 then kF s a 3
 else if bAt s a=47∧rex=true then kF s a 4
 else if a+1<s.size∧eI (bz s a (a+2))=true then ⟨5,0,bz s a (a+2),a+2⟩
 else ⟨5,0,bz s a (a+1),a+1⟩
def blB (c:Nat):Bool:=decide (c=32)||(decide (c=9)||(decide (c=10)||decide (c=13)))
def gc (s:ByteArray):Nat→Nat→Nat
 | 0,a=>a
 | f+1,a=>if a<s.size then if blB (bAt s a)=true then gc s f (a+1) else if bAt s a=35 then gc s f (bL (neB 10) s s.size a) else a else a
def oT (k:Int)(s:ByteArray):Bool:=decide (k=5)&&decide (s=⟨#[126]⟩)
def qG (s:ByteArray):Nat→Nat→Bool→List E→List E×Int
 | 0,_,_,out=>(out,-1)
 | f+1,a,rex,out=>if a<s.size then if (em s a rex).ok=true∧out.length≠2000 then qG s f (gc s (s.size+1) (em s a rex).e) (oT (em s a rex).k (em s a rex).s) (out++[(em s a rex).E]) else ([],(a:Int)) else (out,-1)
theorem fh {p:Nat→Bool}{s:ByteArray}{a:Nat}(h:a<s.size)(h2:p (bAt s a)=true):bL p s s.size a=bL p s s.size (a+1)∧a<bL p s s.size a:=by
 have h1:=bP (p:=p) (s:=s) s.size a omq omq
 have h3:=bP (p:=p) (s:=s) s.size (a+1) omq omq
 have hlt:a<bL p s s.size a:=by
  rcases Nat.lt_or_ge a (bL p s s.size a) with h|h
  ·exact h
  ·have e:bL p s s.size a=a:=by omega
   have:=h1.2.2.2 omq
   rw [e,h2] at this;cases this
 refine⟨?_,hlt⟩
 rcases Nat.lt_trichotomy (bL p s s.size a) (bL p s s.size (a+1)) with h4|h4|h4
 ·have:=h3.2.2.1 _ omq h4
  rw [h1.2.2.2 omq] at this;cases this
 ·exact h4
 ·have:=h1.2.2.1 _ omq h4
  rw [h3.2.2.2 omq] at this;cases this
theorem gv {p:Nat→Bool}{s:ByteArray}{a:Nat}(h:¬(a<s.size∧p (bAt s a)=true)):bL p s s.size a=a:=fI h
theorem ll {p:Nat→Bool}{s:ByteArray}:∀(f a:Nat),a≤s.size→s.size≤a+f→bL p s f a=bL p s s.size a
 | 0,a,h1,h2=>by
  rw [gv fun h=>by omega];rfl
 | f+1,a,h1,h2=>by
  by_cases h:a<s.size∧p (bAt s a)=true
  ·rw [gu h.1 h.2,(fh h.1 h.2).1]
   exact ll f (a+1) omq omq
  ·rw [fI h,gv h]
theorem wh {p:Nat→Bool}{s:ByteArray}{a:Nat}(ha:a≤s.size):∀(f j:Nat),j+a≤s.size→s.size≤j+a+f→bL p (bz s a s.size) (bz s a s.size).size j+a=bL p s s.size (j+a)
 | 0,j,h1,h2=>by
  have hz:=bO (s:=s) (a:=a) (b:=s.size) ha (nlr _)
  rw [gv fun h=>by omega,gv fun h=>by omega]
 | f+1,j,h1,h2=>by
  have hz:=bO (s:=s) (a:=a) (b:=s.size) ha (nlr _)
  by_cases hj:j+a<s.size
  ·have e:bAt (bz s a s.size) j=bAt s (j+a):=by rw [d6 (nlr _) omq,Nat.add_comm]
   by_cases hp:p (bAt s (j+a))=true
   ·rw [(fh omq (by rw [e];exact hp)).1,(fh hj hp).1,Nat.add_right_comm j a 1]
    exact wh ha f (j+1) omq omq
   ·rw [gv fun h=>hp (by rw [←e];exact h.2),gv fun h=>hp h.2]
  ·rw [gv fun h=>by omega,gv fun h=>by omega]
theorem zn4 {s:ByteArray}{a b c:Nat}(h2:b≤c)(h3:a+c≤s.size):bz (bz s a s.size) b c=bz s (a+b) (a+c):=by
 have hz:=bO (s:=s) (a:=a) (b:=s.size) omq (nlr _)
 unfold bz at hz ⊢
 apply ByteArray.ext
 apply Array.ext
 ·have e1:((s.extract a s.size).extract b c).size=c-b:=by rw [ByteArray.size_extract];omega
  have e2:(s.extract (a+b) (a+c)).size=c-b:=by rw [ByteArray.size_extract];omega
  exact e1.trans e2.symm
 ·intro i h4 h5
  simp only [ByteArray.data_extract,Array.getElem_extract]
  congr 1
  omega
theorem zj {s:ByteArray}{a:Nat}{rex:Bool}(ha:a<s.size):em s a rex={ em (bz s a s.size) 0 rex with e:=(em (bz s a s.size) 0 rex).e+a }:=by
 have hz:=bO (s:=s) (a:=a) (b:=s.size) omq (nlr _)
 have e0:bAt (bz s a s.size) 0=bAt s a:=by rw [d6 (nlr _) omq];rfl
 have hr:∀(p:Nat→Bool) (j:Nat),j+a≤s.size→bL p s s.size (j+a)=bL p (bz s a s.size) (bz s a s.size).size j+a:=fun p j h=>(wh omq s.size j h omq).symm
 have hc:∀b c:Nat,b≤c→a+c≤s.size→bz (bz s a s.size) b c=bz s (a+b) (a+c):=fun b c=>zn4
 have h0:∀p:Nat→Bool,bL p s s.size a=bL p (bz s a s.size) (bz s a s.size).size 0+a:=fun p=>by have:=hr p 0 omq;rwa [Nat.zero_add] at this
 have hb:∀(p:Nat→Bool) (j:Nat),j≤s.size-a→j≤bL p (bz s a s.size) (bz s a s.size).size j∧bL p (bz s a s.size) (bz s a s.size).size j≤s.size-a:=fun p j hj=>by
  have:=bP (p:=p) (s:=bz s a s.size) (bz s a s.size).size j omq omq
  omega
 unfold em
 rw [e0]
 split
 ·rw [h0]
  have:=hb cW 0 omq
  rw [hc 0 _ omq omq,Nat.add_zero,Nat.add_comm a (bL _ _ _ 0)]
 ·split
  ·rw [h0]
   have:=hb ldB 0 omq
   rw [hc 0 _ omq omq,Nat.add_zero,Nat.add_comm a (bL _ _ _ 0)]
  ·have quo:∀k:Int,kF s a k={ kF (bz s a s.size) 0 k with e:=(kF (bz s a s.size) 0 k).e+a }:=fun k=>by
    unfold kF
    rw [e0,show a+1=(0+1)+a by omega,hr _ (0+1) omq]
    have:=hb (neB (bAt s a)) (0+1) omq
    by_cases hq:bL (neB (bAt s a)) (bz s a s.size) (bz s a s.size).size (0+1)=(bz s a s.size).size
    ·rw [if_pos hq,if_pos omq]
     simp only [Tk.mk.injEq,true_and];omega
    ·rw [if_neg hq,if_neg omq,hc _ _ omq omq]
     simp only [Nat.add_comm a,Tk.mk.injEq,true_and];omega
   split
   ·exact quo 3
   ·split
    ·exact quo 4
    ·by_cases h2:a+1<s.size
     ·rw [hc 0 (0+2) omq omq,hc 0 (0+1) omq omq]
      simp only [Nat.add_zero,Nat.zero_add]
      by_cases hm:eI (bz s a (a+2))=true
      ·rw [if_pos ⟨h2,hm⟩,if_pos ⟨omq,hm⟩]
       simp only [Nat.add_comm a]
      ·rw [if_neg fun h=>hm h.2,if_neg fun h=>hm h.2]
       simp only [Nat.add_comm a]
     ·rw [if_neg fun h=>h2 h.1,if_neg fun h=>absurd h.1 omq,hc 0 (0+1) omq omq]
      simp only [Nat.add_zero,Nat.zero_add,Nat.add_comm a]
theorem oa {s:ByteArray}{a:Nat}{rex:Bool}(ha:a<s.size):a<(em s a rex).e∧(em s a rex).e≤s.size:=by
 have hq:∀k:Int,a<(kF s a k).e∧(kF s a k).e≤s.size:=fun k=>by
  have:=bP (p:=neB (bAt s a)) (s:=s) s.size (a+1) omq omq
  unfold kF
  split
  ·exact⟨ha,nlr _⟩
  ·exact⟨by show a<_+1;omega,by show _+1≤_;omega⟩
 unfold em
 split
 ·rename_i h
  exact⟨(fh ha h).2,(bP (p:=cW) (s:=s) s.size a omq omq).2.1⟩
 ·split
  ·rename_i h
   exact⟨(fh ha (show ldB (bAt s a)=true by simp [ldB,h])).2,(bP (p:=ldB) (s:=s) s.size a omq omq).2.1⟩
  ·split
   ·exact hq 3
   ·split
    ·exact hq 4
    ·split
     ·rename_i h;exact⟨by show a<a+2;omega,by show a+2≤_;omega⟩
     ·exact⟨by show a<a+1;omega,by show a+1≤_;omega⟩
theorem zo4 {s:ByteArray}{a b:Nat}:(bz s a b).size≤s.size:=by
 unfold bz
 rw [ByteArray.size_extract];omega
theorem zp4 {s:ByteArray}{a:Nat}{rex:Bool}{n:Nat}(hs:s.size≤n)(_ha:a<s.size):(em s a rex).s.size≤n:=by
 have h:∀b c,(bz s b c).size≤n:=fun b c=>Nat.le_trans zo4 hs
 have hq:∀k:Int,(kF s a k).s.size≤n:=fun k=>by
  unfold kF
  split
  ·exact Nat.zero_le _
  ·exact h _ _
 unfold em
 repeat' split
 all_goals first
  | exact Nat.zero_le _
  | exact h _ _
  | exact hq _
theorem jD {s:ByteArray}:∀(f a:Nat),a≤s.size→a≤gc s f a∧gc s f a≤s.size
 | 0,a,h=>⟨nlr _,h⟩
 | f+1,a,h=>by
  unfold gc
  split
  ·split
   ·have:=jD (s:=s) f (a+1) omq;omega
   ·split
    ·have h1:=bP (p:=neB 10) (s:=s) s.size a omq omq
     have:=jD (s:=s) f (bL (neB 10) s s.size a) omq;omega
    ·exact⟨nlr _,h⟩
  ·exact⟨nlr _,h⟩
theorem iQ {s:ByteArray}:∀(f g a:Nat),a≤s.size→s.size≤a+f→s.size≤a+g→gc s f a=gc s g a
 | 0,0,a,_,_,_=>rfl
 | 0,g+1,a,h1,h2,h3=>by unfold gc;rw [if_neg omq]
 | f+1,0,a,h1,h2,h3=>by
  have:¬a<s.size:=by omega
  show gc s (f+1) a=a
  unfold gc;rw [if_neg this]
 | f+1,g+1,a,h1,h2,h3=>by
  unfold gc
  split
  ·rename_i ha
   split
   ·exact iQ f g (a+1) omq omq omq
   ·split
    ·rename_i h4
     have h5:=(fh ha (show neB 10 (bAt s a)=true by simp [neB,h4])).2
     have h6:=bP (p:=neB 10) (s:=s) s.size a omq omq
     exact iQ f g _ omq omq omq
    ·rfl
  ·rfl
def eV (s:ByteArray)(a:Nat):Nat:=gc s (s.size+1) a
theorem jk {s:ByteArray}{a:Nat}(ha:a<s.size)(h:blB (bAt s a)=true):eV s a=eV s (a+1):=by
 unfold eV
 rw [show gc s (s.size+1) a=gc s s.size (a+1) by rw [gc,if_pos ha,if_pos h]]
 exact iQ _ _ _ omq omq omq
theorem lZ {s:ByteArray}{a:Nat}(ha:a<s.size)(h:bAt s a=35):eV s a=eV s (bL (neB 10) s s.size a):=by
 have h6:=bP (p:=neB 10) (s:=s) s.size a omq omq
 unfold eV
 rw [show gc s (s.size+1) a=gc s s.size (bL (neB 10) s s.size a) by rw [gc,if_pos ha,if_neg (by simp [blB,h]),if_pos h]]
 exact iQ _ _ _ omq omq omq
theorem gO {s:ByteArray}{a:Nat}(h:¬(a<s.size∧(blB (bAt s a)=true∨bAt s a=35))):eV s a=a:=by
 unfold eV gc
 split
 ·rename_i ha
  rw [if_neg fun hb=>h ⟨ha,.inl hb⟩,if_neg fun hb=>h ⟨ha,.inr hb⟩]
 ·rfl
theorem ue {s:ByteArray}{a:Nat}(ha:a<s.size)(h:bAt s a=35)(hr:bL (neB 10) s s.size a<s.size):eV s a=eV s (bL (neB 10) s s.size a+1):=by
 have h6:=bP (p:=neB 10) (s:=s) s.size a omq omq
 rw [lZ ha h,jk hr]
 have h7:=h6.2.2.2 hr
 simp [neB] at h7
 simp [blB,h7]
theorem pn {s:ByteArray}:∀(f g a:Nat) (rex:Bool) (out:List E),a≤s.size→s.size<a+f→s.size<a+g→qG s f a rex out=qG s g a rex out
 | 0,_,a,_,_,h1,h2,_=>by omega
 | _+1,0,a,_,_,h1,_,h3=>by omega
 | f+1,g+1,a,rex,out,h1,h2,h3=>by
  unfold qG
  split
  ·rename_i ha
   have h4:=oa (rex:=rex) ha
   have h5:=jD (s:=s) (s.size+1) (em s a rex).e h4.2
   split
   ·exact pn f g _ _ _ h5.2 omq omq
   ·rfl
  ·rfl
def uf (s:ByteArray)(a:Nat)(rex:Bool)(out:List E):List E×Int:=qG s (s.size+1) a rex out
theorem qH {s:ByteArray}{a:Nat}{rex:Bool}{out:List E}(h:¬a<s.size):uf s a rex out=(out,-1):=by
 unfold uf qG;rw [if_neg h]
theorem zb2 {s:ByteArray}{a:Nat}{rex:Bool}{out:List E}(ha:a<s.size)(h:¬((em s a rex).ok=true∧out.length≠2000)):uf s a rex out=([],(a:Int)):=by
 unfold uf qG;rw [if_pos ha,if_neg h]
theorem qI {s:ByteArray}{a:Nat}{rex:Bool}{out:List E}(ha:a<s.size)(h1:(em s a rex).ok=true)(h2:out.length≠2000):uf s a rex out=uf s (eV s (em s a rex).e) (oT (em s a rex).k (em s a rex).s) (out++[(em s a rex).E]):=by
 have h4:=oa (rex:=rex) ha
 have h5:=jD (s:=s) (s.size+1) (em s a rex).e h4.2
 unfold uf
 rw [show qG s (s.size+1) a rex out=qG s s.size (gc s (s.size+1) (em s a rex).e) (oT (em s a rex).k (em s a rex).s) (out++[(em s a rex).E]) by rw [qG,if_pos ha,if_pos ⟨h1,h2⟩]]
 exact pn _ _ _ _ _ h5.2 omq omq
theorem wi {s:ByteArray}{a:Nat}(h:a≤s.size):a≤eV s a∧eV s a≤s.size:=jD _ _ h
def i6 (s:ByteArray):List E×Int:=uf s (eV s 0) false []
theorem po {s:ByteArray}(hs:s.size≤1048576){a c:Nat}(ha:a≤s.size)(hc:c<256):Ctr prog 113 [.c (.v (.string s)),.c (.v (.int .i64 (a:Int))),.c (.v (.int .u8 (c:Int)))] [] (.c (.v (.int .i64 (bL (neB c) s s.size a:Nat)))) []:=by
 refine az func113 rfl rfl ?_
 repeat' (first|(apply ay;refine ai ?_)|refine aj ?_|refine ab ?_|refine aa fun C=>?_|refine ac ?_|refine ah ?_)
 refine aY (fun k:Nat=>⟨ft [(0,.c (.v (.string s))),(1,.c (.v (.int .i64 (k:Int)))),(2,.c (.v (.int .u8 (c:Int))))],eW [],0,[],21⟩)
  (fun N k=>k+N=s.size∧bL (neB c) s s.size a=bL (neB c) s N k) (s.size-a) a ⟨omq,(ll (s.size-a) a ha omq).symm⟩ ?_ ?_
 ·(refine aL _ _ rfl rfl ?_ ?_<;>exact tdy0)
 rintro N k ⟨hN,hr⟩
 try dsimp only
 have hlt:=cZ s k
 by_cases hk:k<s.size
 ·obtain⟨M,rfl⟩:∃M,N=M+1:=⟨N-1,omq⟩
  by_cases hq:bAt s k=c
  ·rw [hr,fI fun h=>by simp [neB,hq] at h]
   repeat' (first|(apply ay;first|refine bH ?_|(refine aK ?_ ?_<;>intro hG<;>(try cases hG))|refine ak ?_|refine ai ?_|refine a7 ?_|refine cH ?_|refine aA ?_|refine aw ?_|refine aB ?_|refine bV ?_)|refine aj ?_|refine ab ?_|refine aa fun C=>?_|refine ac ?_|refine ah ?_|refine al ?_|refine aE ?_|(refine ae rqf ?_ ?_<;>intro hC<;>(try cases hC)))
   all_goals first
    | (exfalso;simp_all;done)
    | (exfalso;simp_all;omega)
    | (refine am ?_;refine bA rfl aJ ⟨?_,rfl⟩;rfl)
  ·have hr2:bL (neB c) s s.size a=bL (neB c) s M (k+1):=by rw [hr,gu hk (by simp [neB,hq])]
   repeat' (first|(apply ay;first|refine bH ?_|(refine aK ?_ ?_<;>intro hG<;>(try cases hG))|refine ak ?_|refine ai ?_|refine a7 ?_|refine cH ?_|refine aA ?_|refine aw ?_|refine aB ?_|refine bV ?_)|refine aj ?_|refine ab ?_|refine aa fun C=>?_|refine ac ?_|refine ah ?_|refine al ?_|refine aE ?_|(refine ae rqf ?_ ?_<;>intro hC<;>(try cases hC)))
   all_goals first
    | (refine⟨M,k+1,omq,⟨omq,hr2⟩,?_⟩;(refine aL _ _ rfl rfl ?_ ?_<;>(repeat' (first|exact TmOk.nil|exact RwOk.nil|refine TmOk.cons ?_ ?_|refine RwOk.cons ?_ ?_|rfl|(refine rnV_id' rfl ?_;exact byc)|(refine cK ?_;first|rfl|omega|(rw [bB omq omq];omega))|(refine bg rfl ?_;exact byc)|exact dP rfl rfl|(refine rw_mid rqf rqf ?_ ?_<;>exact byc)|(refine rw_rn' rfl rfl ?_;simp;done)))))
    | (exfalso;simp_all;done)
    | (exfalso;simp_all;omega)
 ·rw [hr,fI fun h=>hk h.1]
  repeat' (first|(apply ay;first|refine bH ?_|(refine aK ?_ ?_<;>intro hG<;>(try cases hG))|refine ak ?_|refine ai ?_|refine a7 ?_|refine cH ?_|refine aA ?_|refine aw ?_|refine aB ?_|refine bV ?_)|refine aj ?_|refine ab ?_|refine aa fun C=>?_|refine ac ?_|refine ah ?_|refine al ?_|refine aE ?_|(refine ae rqf ?_ ?_<;>intro hC<;>(try cases hC)))
  all_goals first
   | (exfalso;simp_all;done)
   | (exfalso;simp_all;omega)
   | (refine am ?_;refine bA rfl aJ ⟨?_,rfl⟩;rfl)
theorem zk {s:ByteArray}(hs:s.size≤1048576){a:Nat}(ha:a≤s.size):Ctr prog 115 [.c (.v (.string s)),.c (.v (.int .i64 (a:Int))),.c (.v (.bool false))] [] (.c (.v (.int .i64 (bL cW s s.size a:Nat)))) []:=by
 refine az func115 rfl rfl ?_
 repeat' (first|(apply ay;refine ai ?_)|refine aj ?_|refine ab ?_|refine aa fun C=>?_|refine ac ?_|refine ah ?_)
 refine aY (fun k:Nat=>⟨ft [(0,.c (.v (.string s))),(1,.c (.v (.int .i64 (k:Int)))),(2,.c (.v (.bool false)))],eW [],0,[],29⟩)
  (fun N k=>k+N=s.size∧bL cW s s.size a=bL cW s N k) (s.size-a) a ⟨omq,(ll (s.size-a) a ha omq).symm⟩ ?_ ?_
 ·(refine aL _ _ rfl rfl ?_ ?_<;>exact tdy0)
 rintro N k ⟨hN,hr⟩
 try dsimp only
 have c1:=iv (cZ s k)
 by_cases hk:k<s.size
 ·obtain⟨M,rfl⟩:∃M,N=M+1:=⟨N-1,omq⟩
  cases h1:cW (bAt s k) with
  | true =>
   rw [h1] at c1
   have hr2:bL cW s s.size a=bL cW s M (k+1):=by rw [hr,gu hk h1]
   repeat' (first|(apply ay;first|refine bH ?_|(refine aK ?_ ?_<;>intro hG<;>(try cases hG))|refine ak ?_|refine ai ?_|refine aH c1 ?_|refine a7 ?_|refine aA ?_|refine aw ?_|refine aB ?_|refine bV ?_)|refine aj ?_|refine ab ?_|refine aa fun C=>?_|refine ac ?_|refine ah ?_|refine al ?_|refine aE ?_|(refine ae rqf ?_ ?_<;>intro hC<;>(try cases hC)))
   all_goals first
    | (refine⟨M,k+1,omq,⟨omq,hr2⟩,?_⟩;(refine aL _ _ rfl rfl ?_ ?_<;>(repeat' (first|exact TmOk.nil|exact RwOk.nil|refine TmOk.cons ?_ ?_|refine RwOk.cons ?_ ?_|rfl|(refine rnV_id' rfl ?_;exact byc)|(refine cK ?_;first|rfl|omega|(rw [bB omq omq];omega))|(refine bg rfl ?_;exact byc)|exact dP rfl rfl|(refine rw_mid rqf rqf ?_ ?_<;>exact byc)|(refine rw_rn' rfl rfl ?_;simp;done)))))
    | (exfalso;simp only [dqt,dqn] at *;omega)
  | false =>
   rw [h1] at c1
   rw [hr,fI fun h=>by simp [h1] at h]
   repeat' (first|(apply ay;first|refine bH ?_|(refine aK ?_ ?_<;>intro hG<;>(try cases hG))|refine ak ?_|refine ai ?_|refine aH c1 ?_|refine a7 ?_|refine aA ?_|refine aB ?_|refine bV ?_)|refine aj ?_|refine ab ?_|refine aa fun C=>?_|refine ac ?_|refine aE ?_|(refine ae rqf ?_ ?_<;>intro hC<;>(try cases hC)))
   all_goals first
    | (exfalso;simp only [dqt,dqn] at *;omega)
    | (refine am ?_;refine bA rfl aJ ⟨?_,rfl⟩;rfl)
 ·rw [hr,fI fun h=>hk h.1]
  repeat' (first|(apply ay;first|refine bH ?_|(refine aK ?_ ?_<;>intro hG<;>(try cases hG))|refine ak ?_|refine ai ?_|refine aH c1 ?_|refine a7 ?_|refine aA ?_|refine aw ?_|refine aB ?_|refine bV ?_)|refine aj ?_|refine ab ?_|refine aa fun C=>?_|refine ac ?_|refine ah ?_|refine al ?_|refine aE ?_|(refine ae rqf ?_ ?_<;>intro hC<;>(try cases hC)))
  all_goals first
   | (exfalso;simp only [dqt,dqn] at *;omega)
   | (refine am ?_;refine bA rfl aJ ⟨?_,rfl⟩;rfl)
theorem zl {s:ByteArray}(hs:s.size≤1048576){a:Nat}(ha:a≤s.size):Ctr prog 115 [.c (.v (.string s)),.c (.v (.int .i64 (a:Int))),.c (.v (.bool true))] [] (.c (.v (.int .i64 (bL ldB s s.size a:Nat)))) []:=by
 refine az func115 rfl rfl ?_
 repeat' (first|(apply ay;refine ai ?_)|refine aj ?_|refine ab ?_|refine aa fun C=>?_|refine ac ?_|refine ah ?_)
 refine aY (fun k:Nat=>⟨ft [(0,.c (.v (.string s))),(1,.c (.v (.int .i64 (k:Int)))),(2,.c (.v (.bool true)))],eW [],0,[],29⟩)
  (fun N k=>k+N=s.size∧bL ldB s s.size a=bL ldB s N k) (s.size-a) a ⟨omq,(ll (s.size-a) a ha omq).symm⟩ ?_ ?_
 ·(refine aL _ _ rfl rfl ?_ ?_<;>exact tdy0)
 rintro N k ⟨hN,hr⟩
 try dsimp only
 have c1:=iv (cZ s k)
 have c2:=lV (cZ s k)
 by_cases hk:k<s.size
 ·obtain⟨M,rfl⟩:∃M,N=M+1:=⟨N-1,omq⟩
  cases h1:ldB (bAt s k) with
  | true =>
   have hr2:bL ldB s s.size a=bL ldB s M (k+1):=by rw [hr,gu hk h1]
   cases h2:cW (bAt s k) with
   | true =>
    rw [h2] at c1
    repeat' (first|(apply ay;first|refine bH ?_|(refine aK ?_ ?_<;>intro hG<;>(try cases hG))|refine ak ?_|refine ai ?_|refine aH c1 ?_|refine a7 ?_|refine aA ?_|refine aw ?_|refine aB ?_|refine bV ?_)|refine aj ?_|refine ab ?_|refine aa fun C=>?_|refine ac ?_|refine ah ?_|refine al ?_|refine aE ?_|(refine ae rqf ?_ ?_<;>intro hC<;>(try cases hC)))
    all_goals first
     | (refine⟨M,k+1,omq,⟨omq,hr2⟩,?_⟩;(refine aL _ _ rfl rfl ?_ ?_<;>(repeat' (first|exact TmOk.nil|exact RwOk.nil|refine TmOk.cons ?_ ?_|refine RwOk.cons ?_ ?_|rfl|(refine rnV_id' rfl ?_;exact byc)|(refine cK ?_;first|rfl|omega|(rw [bB omq omq];omega))|(refine bg rfl ?_;exact byc)|exact dP rfl rfl|(refine rw_mid rqf rqf ?_ ?_<;>exact byc)|(refine rw_rn' rfl rfl ?_;simp;done)))))
     | (exfalso;simp only [dqt,dqn] at *;omega)
   | false =>
    rw [h2] at c1
    rw [show ic (bAt s k)=true by simpa [ldB,h2] using h1] at c2
    repeat' (first|(apply ay;first|refine bH ?_|(refine aK ?_ ?_<;>intro hG<;>(try cases hG))|refine ak ?_|refine ai ?_|refine aH c1 ?_|refine aH c2 ?_|refine a7 ?_|refine aA ?_|refine aw ?_|refine aB ?_|refine bV ?_)|refine aj ?_|refine ab ?_|refine aa fun C=>?_|refine ac ?_|refine ah ?_|refine al ?_|refine aE ?_|(refine ae rqf ?_ ?_<;>intro hC<;>(try cases hC)))
    all_goals first
     | (refine⟨M,k+1,omq,⟨omq,hr2⟩,?_⟩;(refine aL _ _ rfl rfl ?_ ?_<;>(repeat' (first|exact TmOk.nil|exact RwOk.nil|refine TmOk.cons ?_ ?_|refine RwOk.cons ?_ ?_|rfl|(refine rnV_id' rfl ?_;exact byc)|(refine cK ?_;first|rfl|omega|(rw [bB omq omq];omega))|(refine bg rfl ?_;exact byc)|exact dP rfl rfl|(refine rw_mid rqf rqf ?_ ?_<;>exact byc)|(refine rw_rn' rfl rfl ?_;simp;done)))))
     | (exfalso;simp only [dqt,dqn] at *;omega)
  | false =>
   have h3:ic (bAt s k)=false∧cW (bAt s k)=false:=by simpa [ldB] using h1
   rw [h3.2] at c1
   rw [h3.1] at c2
   rw [hr,fI fun h=>by simp [h1] at h]
   repeat' (first|(apply ay;first|refine bH ?_|(refine aK ?_ ?_<;>intro hG<;>(try cases hG))|refine ak ?_|refine ai ?_|refine aH c1 ?_|refine aH c2 ?_|refine a7 ?_|refine aA ?_|refine aB ?_|refine bV ?_)|refine aj ?_|refine ab ?_|refine aa fun C=>?_|refine ac ?_|refine aE ?_|(refine ae rqf ?_ ?_<;>intro hC<;>(try cases hC)))
   all_goals first
    | (exfalso;simp only [dqt,dqn] at *;omega)
    | (refine am ?_;refine bA rfl aJ ⟨?_,rfl⟩;rfl)
 ·rw [hr,fI fun h=>hk h.1]
  repeat' (first|(apply ay;first|refine bH ?_|(refine aK ?_ ?_<;>intro hG<;>(try cases hG))|refine ak ?_|refine ai ?_|refine aH c1 ?_|refine aH c2 ?_|refine a7 ?_|refine aA ?_|refine aw ?_|refine aB ?_|refine bV ?_)|refine aj ?_|refine ab ?_|refine aa fun C=>?_|refine ac ?_|refine ah ?_|refine al ?_|refine aE ?_|(refine ae rqf ?_ ?_<;>intro hC<;>(try cases hC)))
  all_goals first
   | (exfalso;simp only [dqt,dqn] at *;omega)
   | (refine am ?_;refine bA rfl aJ ⟨?_,rfl⟩;rfl)
def pvS (s:ByteArray)(k:Nat):Nat:=jY 0 (s.data.toList.take k)
theorem lm:∀(l m:List UInt8) (acc:Nat),jY acc (l++m)=jY (jY acc l) m
 | [],m,acc=>rfl
 | c :: l,m,acc=>lm l m _
theorem ob (acc:Nat)(c:UInt8):jY acc [c]=acc*10+(c.toNat-48):=rfl
theorem ls {s:ByteArray}{k:Nat}(h:k<s.size):s.data.toList[k]? = some (UInt8.ofNat (bAt s k)):=by
 unfold bAt
 rw [Array.getElem?_toList,Array.getElem?_eq_getElem h,Option.getD_some,UInt8.ofNat_toNat]
theorem zq4 {l:List UInt8}{k:Nat}{c:UInt8}(h:l[k]? = some c):jY 0 (l.take (k+1))=jY 0 (l.take k)*10+(c.toNat-48):=by
 rw [List.take_add_one,lm,h,Option.toList_some,ob]
theorem wj {s:ByteArray}{k:Nat}(h:k<s.size):pvS s (k+1)=pvS s k*10+(bAt s k-48):=by
 have h1:=zq4 (ls h)
 rw [UInt8.toNat_ofNat',Nat.mod_eq_of_lt (cZ s k)] at h1
 exact h1
theorem zq7 {s:ByteArray}:pvS s s.size=lk s:=by
 unfold pvS lk
 rw [List.take_of_length_le (by simp)]
theorem pv_lt {s:ByteArray}(hd:kD cW s=true):∀k,k≤s.size→pvS s k<10 ^ k
 | 0,_=>by unfold pvS;rw [List.take_zero];exact Nat.zero_lt_one
 | k+1,h=>by
  have h1:=pv_lt hd k omq
  have h2:cW (bAt s k)=true:=by simp only [kD,dqt] at hd;exact hd k omq
  simp only [cW,baq,dqt] at h2
  have h3:=wj (s:=s) (k:=k) omq
  rw [h3,Nat.pow_succ]
  omega
theorem u8w {b:Nat}(h:48≤b)(h2:b≤57):IntKind.u8.wrap ((b:Int)-48)=((b-48:Nat):Int):=by
 rw [show ((b:Int)-48)=((b-48:Nat):Int) by omega]
 rw [IntKind.wrap_u8]
 omega
theorem l4 {s:ByteArray}(h:¬(1≤s.size∧s.size≤10∧¬(1<s.size∧bAt s 0=48))):wg s = -1:=if_neg h
theorem jE {s:ByteArray}(h:1≤s.size∧s.size≤10∧¬(1<s.size∧bAt s 0=48)):wg s=(lk s:Int):=if_pos h
theorem zr4 {s:ByteArray}(hd:kD cW s=true):Ctr prog 116 [.c (.v (.string s))] [] (.c (.v (.int .i64 (wg s)))) []:=by
 have cw:=jc (s.size:Int) 1 10
 by_cases hb:1≤s.size∧s.size≤10
 ·rw [show inR (s.size:Int) 1 10=true by simp [inR];omega] at cw
  by_cases h0:1<s.size∧bAt s 0=48
  ·rw [l4 fun h=>h.2.2 h0]
   refine az func116 rfl rfl ?_
   repeat' (first|(apply ay;first|refine bH ?_|(refine aK ?_ ?_<;>intro hG<;>(try cases hG))|refine ak ?_|refine ai ?_|refine aH cw ?_|refine a7 ?_|refine aR ?_|refine aX ?_|refine bI ?_|refine aB ?_|refine bV ?_)|refine aj ?_|refine ab ?_|refine aa fun C=>?_|refine ac ?_)
   all_goals first
    | (exfalso;simp_all;done)
    | (refine ae rqf (fun hC=>?_) fun hC=>?_
       ·repeat' (first|(apply ay;refine ai ?_)|refine aj ?_|refine ab ?_|refine aa fun C=>?_|refine ac ?_)
        exact eo
       ·exfalso;simp only [h0,dqn] at hC hG;first|omega|(simp at hC))
  ·rw [jE ⟨hb.1,hb.2,h0⟩]
   have hz:∀k,k≤s.size→pvS s k<10000000000:=fun k hk=>Nat.lt_of_lt_of_le (pv_lt hd k hk) (Nat.le_trans (Nat.pow_le_pow_right (show 0<10 by omega) (show k≤10 by omega)) (show 10 ^ 10≤10000000000 by decide))
   refine az func116 rfl rfl ?_
   repeat' (first|(apply ay;first|refine bH ?_|(refine aK ?_ ?_<;>intro hG<;>(try cases hG))|refine ak ?_|refine ai ?_|refine aH cw ?_|refine a7 ?_|refine aR ?_|refine aX ?_|refine bI ?_|refine aB ?_|refine bV ?_)|refine aj ?_|refine ab ?_|refine aa fun C=>?_|refine ac ?_)
   all_goals first
    | (exfalso;simp_all;done)
    | (refine ae rqf (fun hC=>?_) fun hC=>?_
       ·exfalso;first|(simp at hC;done)|(simp at hC hG;omega)|(simp at hC;omega)
       ·repeat' (first|(apply ay;refine ai ?_)|refine aj ?_|refine ab ?_|refine aa fun C=>?_|refine ac ?_|refine ah ?_|refine al ?_)
        refine aY (fun k:Nat=>⟨ft [(0,.c (.v (.string s))),(3,.c (.v (.int .i64 (pvS s k:Int)))),(4,.c (.v (.int .i64 (k:Int))))],eW [],0,[],34⟩) (fun N k=>k+N=s.size) s.size 0 omq ?_ ?_
        ·(refine aL _ _ rfl rfl ?_ ?_<;>exact tdy0)
        rintro N k hN
        try dsimp only
        repeat' (first|(apply ay;first|refine ak ?_|refine a7 ?_|refine aA ?_)|refine aj ?_|refine ab ?_|refine aa fun C=>?_|refine ac ?_)
        refine ae rqf (fun hk=>?_) fun hk=>?_
        ·have hk':k<s.size:=by simpa using hk
         have hd':cW (bAt s k)=true:=by simp only [kD,dqt] at hd;exact hd k hk'
         simp only [cW,baq,dqt] at hd'
         have hw:=u8w hd'.1 hd'.2
         have hp:=wj hk'
         have hz1:=hz k omq
         have hz2:=hz (k+1) omq
         repeat' (first|(apply ay;first|refine ak ?_|refine ai ?_|refine aw ?_|(apply qj;first|refine dh ?_|refine au ?_)|refine dc ?_|refine bV ?_)|refine aj ?_|refine ab ?_|refine aa fun C=>?_|refine ac ?_|refine ah ?_|refine al ?_)
         refine⟨N-1,k+1,omq,omq,?_⟩
         (refine aL _ _ rfl rfl ?_ ?_<;>exact tdy0)
        ·have hk':k=s.size:=by have:¬k<s.size:=by simpa using hk
                               omega
         rw [←zq7,←hk']
         repeat' (first|(apply ay;first|refine ak ?_|refine ai ?_)|refine aj ?_|refine ab ?_|refine aa fun C=>?_|refine ac ?_|refine aE ?_)
         refine am ?_;refine bA rfl aJ ⟨?_,rfl⟩;rfl)
 ·rw [l4 fun h=>hb ⟨h.1,h.2.1⟩]
  rw [show inR (s.size:Int) 1 10=false by simp [inR];omega] at cw
  refine az func116 rfl rfl ?_
  repeat' (first|(apply ay;first|refine bH ?_|(refine aK ?_ ?_<;>intro hG<;>(try cases hG))|refine ak ?_|refine ai ?_|refine aH cw ?_|refine a7 ?_|refine bI ?_|refine aB ?_)|refine aj ?_|refine ab ?_|refine aa fun C=>?_|refine ac ?_|refine aq rfl ?_)
  exact eo
theorem ug {s:ByteArray}(hs:s.size≤1048576){a:Nat}(ha:a<s.size)(k:Int):Ctr prog 118 [.c (.v (.string s)),.c (.v (.int .i64 (a:Int))),.c (.v (.int .i64 k))] [] (.tu [.ag [.v (.int .i64 (kF s a k).k),.v (.int .i64 (kF s a k).n),.v (.string (kF s a k).s)],.c (.v (.int .i64 ((kF s a k).e:Int)))]) []:=by
 have c1:=po hs (a:=a+1) omq (cZ s a)
 have hr:=bP (p:=neB (bAt s a)) (s:=s) s.size (a+1) omq omq
 unfold kF
 generalize bL (neB (bAt s a)) s s.size (a+1)=e at c1 hr ⊢
 have ha1:(a:Int)+1=((a+1:Nat):Int):=by omega
 have he1:=hr.1
 have he2:=hr.2.1
 clear hr
 by_cases h:e=s.size
 ·rw [if_pos h]
  refine az func118 rfl rfl ?_
  repeat' (first|(apply ay;first|refine ak ?_|refine ai ?_|refine aH c1 ?_|refine a7 ?_|refine bh ?_|refine ao ?_|refine aw ?_|refine bJ ?_|refine bV ?_|refine fy ?_|refine au ?_)|refine aj ?_|refine ab ?_|refine aa fun C=>?_|refine ac ?_|refine al ?_|(refine ae rqf ?_ ?_<;>intro hC<;>(try cases hC)))
  all_goals first
   | (exfalso;simp at hC;omega)
   | (subst h;refine am ?_;refine bA rfl (cg (aG (bi (aO rfl (aO rfl (aO rfl aQ)))) (aG aJ bj))) ⟨?_,rfl⟩;rfl)
 ·rw [if_neg h]
  refine az func118 rfl rfl ?_
  repeat' (first|(apply ay;first|refine ak ?_|refine ai ?_|refine aH c1 ?_|refine a7 ?_|refine bh ?_|refine ao ?_|refine aw ?_|refine bJ ?_|refine bV ?_|refine fy ?_|refine au ?_)|refine aj ?_|refine ab ?_|refine aa fun C=>?_|refine ac ?_|refine al ?_|(refine ae rqf ?_ ?_<;>intro hC<;>(try cases hC)))
  all_goals first
   | (exfalso;simp at hC;omega)
   | (refine am ?_;refine bA rfl (cg (aG (bi (aO rfl (aO rfl (aO rfl aQ)))) (aG aJ bj))) ⟨?_,rfl⟩;rfl)
structure GVal where
 k:Int
 n:Int
 s:ByteArray
structure GCell where
 refs:Int
 v:GVal
structure GNamed where
 name:ByteArray
 v:GVal
structure GEntry where
 key:ByteArray
 v:GVal
def zm (d:GEntry):List Value:=[.string d.key,.int .i64 d.v.k,.int .i64 d.v.n,.string d.v.s]
structure GTab where
 name:ByteArray
 A:Option Addr
 c:Nat
 l:List GEntry
def GTab.d (t:GTab):ByteArray×List GEntry:=(t.name,t.l)
def SameT (ts us:List GTab):Prop:=ts.map GTab.d=us.map GTab.d
theorem SameT.len {ts us:List GTab}(h:SameT ts us):ts.length=us.length:=by have:=congrArg List.length h;simpa using this
def InT (w:World)(lo hi:Nat)(ts:List GTab):Prop:=∀t∈ts,Sl w lo hi 4 zm (.slice t.A t.l.length t.c) t.l
section
variable {w w':World}{lo hi lo' hi':Nat}{ts:List GTab}
theorem InT.below {B:Nat}(h:InT w lo hi ts)(hb:Below B w w')(hB:hi≤B):InT w' lo hi ts:=fun t ht=>(h t ht).below hb hB
theorem InT.alloc (h:InT w lo hi ts)(hB:hi≤w.heap.size)(o:Obj):InT (w.alloc o) lo hi ts:=fun t ht=>(h t ht).alloc hB o
theorem InT.setCell (h:InT w lo hi ts){p:Addr}(hB:hi≤p.block)(u:Value):InT (w.setCell p u) lo hi ts:=fun t ht=>(h t ht).setCell hB u
theorem InT.wider (h:InT w lo hi ts)(h1:lo'≤lo)(h2:hi≤hi'):InT w lo' hi' ts:=fun t ht=>(h t ht).wider h1 h2
end
theorem bytes_beq (a b:ByteArray):(a.toList==b.toList)=decide (a=b):=by
 rw [ByteArray.toList_eq,ByteArray.toList_eq]
 by_cases h:a=b
 ·subst h;simp
 ·rw [decide_eq_false h,beq_eq_false_iff_ne]
  intro h2
  apply h
  obtain⟨⟨l⟩⟩:=a
  obtain⟨⟨m⟩⟩:=b
  simp at h2
  subst h2;rfl
end Go.Proofs.YtomolhbkdhjofaaGreatDoor
