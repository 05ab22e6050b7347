/- T -/
import Derived.Lib.AtoiAll
import Derived.StillTailTactics
import Derived.Shelf.Lays
import Derived.Shelf.Strings.BuilderX
import Derived.Shelf.Small.Strs
import Derived.Shelf.Strings.OnBuilder
import Derived.Shelf.LaysC
import Derived.Shelf.Strconv.AtoiAll
import Derived.Test.YtomolhbkdhjofaaGreatDoorExAJ
set_option maxHeartbeats 0
set_option maxRecDepth 100000
namespace Go.Proofs.YtomolhbkdhjofaaGreatDoor
open Go.RowKit Go.Proofs.Tryz
def neB (c x:Nat):Bool:=decide (x≠c)
structure Tk where
 k:Int
 n:Int
 s:ByteArray
 e:Nat
def tokE (k n:Int)(s:ByteArray):E:=.agg [.int .i64 k,.int .i64 n,.str s]
def Tk.E (t:Tk):E:=tokE t.k t.n t.s
def jO (acc:Nat):List UInt8→Nat
 | []=>acc
 | c :: r=>jO (acc*10+(c.toNat-48)) r
def lw (s:ByteArray):Nat:=jO 0 s.data.toList
def wL (s:ByteArray):Int:=if 1≤s.size∧s.size≤10∧¬(1<s.size∧bAt s 0=48) then (lw s:Int) else -1
def nu (x y:Nat):Bool:=(decide (y=61)&&(decide (x=60)||(decide (x=61)||(decide (x=33)||decide (x=62)))))||((decide (x=38)&&decide (y=38))||(decide (x=124)&&decide (y=124)))
def mI (c:Nat):Bool:=[123,125,40,41,91,93,44,59,36,43,45,42,47,37,46,60,62,33,126,61].contains c
def il (s:ByteArray):Bool:=(decide (s.size=2)&&nu (bAt s 0) (bAt s 1))||(decide (s.size=1)&&mI (bAt s 0))
def pr (s:ByteArray):ByteArray:=if 2≤s.size∧nu (bAt s 0) (bAt s 1)=true then bu s 0 2 else if 1≤s.size∧mI (bAt s 0)=true then bu s 0 1 else ByteArray.empty
def cq (k n:Int)(s:ByteArray):Bool :=
 if k=1 then decide (0≤n)&&(decide (n≤2147483647)&&decide (s.size=0))
 else if k=2 then dD s&&decide (n=0)
 else if k=3 then df 39 s&&decide (n=0)
 else if k=4 then df 47 s&&(decide (1≤s.size)&&decide (n=0))
 else if k=5 then il s&&decide (n=0)
 else false
def Tk.ok (t:Tk):Bool:=cq t.k t.n t.s
def nY (s:ByteArray)(a:Nat)(k:Int):Tk :=
 if bI (neB (bAt s a)) s s.size (a+1)=s.size then ⟨0,0,ByteArray.empty,s.size⟩ else ⟨k,0,bu s (a+1) (bI (neB (bAt s a)) s s.size (a+1)),bI (neB (bAt s a)) s s.size (a+1)+1⟩
def dU (s:ByteArray)(a:Nat)(rex:Bool):Tk :=
 if cR (bAt s a)=true then ⟨1,wL (bu s a (bI cR s s.size a)),ByteArray.empty,bI cR s s.size a⟩
 else if gy (bAt s a)=true then ⟨2,0,bu s a (bI ldB s s.size a),bI ldB s s.size a⟩
 else if bAt s a=39 then nY s a 3
 else if bAt s a=47∧rex=true then nY s a 4
 else if a+1<s.size∧il (bu s a (a+2))=true then ⟨5,0,bu s a (a+2),a+2⟩
 else ⟨5,0,bu s a (a+1),a+1⟩
def blB (c:Nat):Bool:=decide (c=32)||(decide (c=9)||(decide (c=10)||decide (c=13)))
def eY (s:ByteArray):Nat→Nat→Nat
 | 0,a=>a
 | f+1,a=>if a<s.size then if blB (bAt s a)=true then eY s f (a+1) else if bAt s a=35 then eY s f (bI (neB 10) s s.size a) else a else a
def qJ (k:Int)(s:ByteArray):Bool:=decide (k=5)&&decide (s=⟨#[126]⟩)
def pu (s:ByteArray):Nat→Nat→Bool→List E→List E×Int
 | 0,_,_,out=>(out,-1)
 | f+1,a,rex,out=>if a<s.size then if (dU s a rex).ok=true∧out.length≠2000 then pu s f (eY s (s.size+1) (dU s a rex).e) (qJ (dU s a rex).k (dU s a rex).s) (out++[(dU s a rex).E]) else ([],(a:Int)) else (out,-1)
theorem fa {p:Nat→Bool}{s:ByteArray}{a:Nat}(h:a<s.size)(h2:p (bAt s a)=true):bI p s s.size a=bI p s s.size (a+1)∧a<bI p s s.size a:=by
 have h1:=bO (p:=p) (s:=s) s.size a omq omq
 have h3:=bO (p:=p) (s:=s) s.size (a+1) omq omq
 have hlt:a<bI p s s.size a:=by
  rcases Nat.lt_or_ge a (bI p s s.size a) with h|h
  ·exact h
  ·have e:bI p s s.size a=a:=by omega
   have:=h1.2.2.2 omq
   rw [e,h2] at this;cases this
 refine⟨?_,hlt⟩
 rcases Nat.lt_trichotomy (bI p s s.size a) (bI p s s.size (a+1)) with h4|h4|h4
 ·have:=h3.2.2.1 _ omq h4
  rw [h1.2.2.2 omq] at this;cases this
 ·exact h4
 ·have:=h1.2.2.1 _ omq h4
  rw [h3.2.2.2 omq] at this;cases this
theorem gS {p:Nat→Bool}{s:ByteArray}{a:Nat}(h:¬(a<s.size∧p (bAt s a)=true)):bI p s s.size a=a:=ky h
theorem uL {p:Nat→Bool}{s:ByteArray}{a:Nat}(ha:a≤s.size):∀(f j:Nat),j+a≤s.size→s.size≤j+a+f→bI p (bu s a s.size) (bu s a s.size).size j+a=bI p s s.size (j+a)
 | 0,j,h1,h2=>by
  have hz:=bR (s:=s) (a:=a) (b:=s.size) ha (Nat.le_refl _)
  rw [gS fun h=>by omega,gS fun h=>by omega]
 | f+1,j,h1,h2=>by
  have hz:=bR (s:=s) (a:=a) (b:=s.size) ha (Nat.le_refl _)
  by_cases hj:j+a<s.size
  ·have e:bAt (bu s a s.size) j=bAt s (j+a):=by rw [dJ (Nat.le_refl _) omq,Nat.add_comm]
   by_cases hp:p (bAt s (j+a))=true
   ·rw [(fa omq (by rw [e];exact hp)).1,(fa hj hp).1,Nat.add_right_comm j a 1]
    exact uL ha f (j+1) omq omq
   ·rw [gS fun h=>hp (by rw [←e];exact h.2),gS fun h=>hp h.2]
  ·rw [gS fun h=>by omega,gS fun h=>by omega]
theorem za1 {s:ByteArray}{a b c:Nat}(h2:b≤c)(h3:a+c≤s.size):bu (bu s a s.size) b c=bu s (a+b) (a+c):=by
 have hz:=bR (s:=s) (a:=a) (b:=s.size) omq (Nat.le_refl _)
 unfold bu at hz ⊢
 apply ByteArray.ext
 apply Array.ext
 ·have e1:((s.extract a s.size).extract b c).size=c-b:=by rw [ByteArray.size_extract];omega
  have e2:(s.extract (a+b) (a+c)).size=c-b:=by rw [ByteArray.size_extract];omega
  exact e1.trans e2.symm
 ·intro i h4 h5
  simp only [ByteArray.data_extract,Array.getElem_extract]
  congr 1
  omega
theorem xy {s:ByteArray}{a:Nat}{rex:Bool}(ha:a<s.size):dU s a rex={ dU (bu s a s.size) 0 rex with e:=(dU (bu s a s.size) 0 rex).e+a }:=by
 have hz:=bR (s:=s) (a:=a) (b:=s.size) omq (Nat.le_refl _)
 have e0:bAt (bu s a s.size) 0=bAt s a:=by rw [dJ (Nat.le_refl _) omq];rfl
 have hr:∀(p:Nat→Bool) (j:Nat),j+a≤s.size→bI p s s.size (j+a)=bI p (bu s a s.size) (bu s a s.size).size j+a:=fun p j h=>(uL omq s.size j h omq).symm
 have hc:∀b c:Nat,b≤c→a+c≤s.size→bu (bu s a s.size) b c=bu s (a+b) (a+c):=fun b c=>za1
 have h0:∀p:Nat→Bool,bI p s s.size a=bI p (bu s a s.size) (bu s a s.size).size 0+a:=fun p=>by have:=hr p 0 omq;rwa [Nat.zero_add] at this
 have hb:∀(p:Nat→Bool) (j:Nat),j≤s.size-a→j≤bI p (bu s a s.size) (bu s a s.size).size j∧bI p (bu s a s.size) (bu s a s.size).size j≤s.size-a:=fun p j hj=>by
  have:=bO (p:=p) (s:=bu s a s.size) (bu s a s.size).size j omq omq
  omega
 unfold dU
 rw [e0]
 split
 ·rw [h0]
  have:=hb cR 0 omq
  rw [hc 0 _ omq omq,Nat.add_zero,Nat.add_comm a (bI _ _ _ 0)]
 ·split
  ·rw [h0]
   have:=hb ldB 0 omq
   rw [hc 0 _ omq omq,Nat.add_zero,Nat.add_comm a (bI _ _ _ 0)]
  ·have quo:∀k:Int,nY s a k={ nY (bu s a s.size) 0 k with e:=(nY (bu s a s.size) 0 k).e+a }:=fun k=>by
    unfold nY
    rw [e0,show a+1=(0+1)+a by omega,hr _ (0+1) omq]
    have:=hb (neB (bAt s a)) (0+1) omq
    by_cases hq:bI (neB (bAt s a)) (bu s a s.size) (bu s a s.size).size (0+1)=(bu s a s.size).size
    ·rw [if_pos hq,if_pos omq]
     simp only [Tk.mk.injEq,true_and];omega
    ·rw [if_neg hq,if_neg omq,hc _ _ omq omq]
     simp only [Nat.add_comm a,Tk.mk.injEq,true_and];omega
   split
   ·exact quo 3
   ·split
    ·exact quo 4
    ·by_cases h2:a+1<s.size
     ·rw [hc 0 (0+2) omq omq,hc 0 (0+1) omq omq]
      simp only [Nat.add_zero,Nat.zero_add]
      by_cases hm:il (bu s a (a+2))=true
      ·rw [if_pos ⟨h2,hm⟩,if_pos ⟨omq,hm⟩]
       simp only [Nat.add_comm a]
      ·rw [if_neg fun h=>hm h.2,if_neg fun h=>hm h.2]
       simp only [Nat.add_comm a]
     ·rw [if_neg fun h=>h2 h.1,if_neg fun h=>absurd h.1 omq,hc 0 (0+1) omq omq]
      simp only [Nat.add_zero,Nat.zero_add,Nat.add_comm a]
theorem pv {s:ByteArray}{a:Nat}{rex:Bool}(ha:a<s.size):a<(dU s a rex).e∧(dU s a rex).e≤s.size:=by
 have hq:∀k:Int,a<(nY s a k).e∧(nY s a k).e≤s.size:=fun k=>by
  have:=bO (p:=neB (bAt s a)) (s:=s) s.size (a+1) omq omq
  unfold nY
  split
  ·exact⟨ha,Nat.le_refl _⟩
  ·exact⟨by show a<_+1;omega,by show _+1≤_;omega⟩
 unfold dU
 split
 ·rename_i h
  exact⟨(fa ha h).2,(bO (p:=cR) (s:=s) s.size a omq omq).2.1⟩
 ·split
  ·rename_i h
   exact⟨(fa ha (show ldB (bAt s a)=true by simp [ldB,h])).2,(bO (p:=ldB) (s:=s) s.size a omq omq).2.1⟩
  ·split
   ·exact hq 3
   ·split
    ·exact hq 4
    ·split
     ·rename_i h;exact⟨by show a<a+2;omega,by show a+2≤_;omega⟩
     ·exact⟨by show a<a+1;omega,by show a+1≤_;omega⟩
theorem jZ {s:ByteArray}:∀(f a:Nat),a≤s.size→a≤eY s f a∧eY s f a≤s.size
 | 0,a,h=>⟨Nat.le_refl _,h⟩
 | f+1,a,h=>by
  unfold eY
  split
  ·split
   ·have:=jZ (s:=s) f (a+1) omq;omega
   ·split
    ·have h1:=bO (p:=neB 10) (s:=s) s.size a omq omq
     have:=jZ (s:=s) f (bI (neB 10) s s.size a) omq;omega
    ·exact⟨Nat.le_refl _,h⟩
  ·exact⟨Nat.le_refl _,h⟩
theorem gT {s:ByteArray}:∀(f g a:Nat),a≤s.size→s.size≤a+f→s.size≤a+g→eY s f a=eY s g a
 | 0,0,a,_,_,_=>rfl
 | 0,g+1,a,h1,h2,h3=>by unfold eY;rw [if_neg omq]
 | f+1,0,a,h1,h2,h3=>by
  have:¬a<s.size:=by omega
  show eY s (f+1) a=a
  unfold eY;rw [if_neg this]
 | f+1,g+1,a,h1,h2,h3=>by
  unfold eY
  split
  ·rename_i ha
   split
   ·exact gT f g (a+1) omq omq omq
   ·split
    ·rename_i h4
     have h5:=(fa ha (show neB 10 (bAt s a)=true by simp [neB,h4])).2
     have h6:=bO (p:=neB 10) (s:=s) s.size a omq omq
     exact gT f g _ omq omq omq
    ·rfl
  ·rfl
def hQ (s:ByteArray)(a:Nat):Nat:=eY s (s.size+1) a
theorem i7 {s:ByteArray}{a:Nat}(ha:a<s.size)(h:blB (bAt s a)=true):hQ s a=hQ s (a+1):=by
 unfold hQ
 rw [show eY s (s.size+1) a=eY s s.size (a+1) by rw [eY,if_pos ha,if_pos h]]
 exact gT _ _ _ omq omq omq
theorem nZ {s:ByteArray}{a:Nat}(ha:a<s.size)(h:bAt s a=35):hQ s a=hQ s (bI (neB 10) s s.size a):=by
 have h6:=bO (p:=neB 10) (s:=s) s.size a omq omq
 unfold hQ
 rw [show eY s (s.size+1) a=eY s s.size (bI (neB 10) s s.size a) by rw [eY,if_pos ha,if_neg (by simp [blB,h]),if_pos h]]
 exact gT _ _ _ omq omq omq
theorem iF {s:ByteArray}{a:Nat}(h:¬(a<s.size∧(blB (bAt s a)=true∨bAt s a=35))):hQ s a=a:=by
 unfold hQ eY
 split
 ·rename_i ha
  rw [if_neg fun hb=>h ⟨ha,.inl hb⟩,if_neg fun hb=>h ⟨ha,.inr hb⟩]
 ·rfl
theorem sd {s:ByteArray}{a:Nat}(ha:a<s.size)(h:bAt s a=35)(hr:bI (neB 10) s s.size a<s.size):hQ s a=hQ s (bI (neB 10) s s.size a+1):=by
 have h6:=bO (p:=neB 10) (s:=s) s.size a omq omq
 rw [nZ ha h,i7 hr]
 have h7:=h6.2.2.2 hr
 simp [neB] at h7
 simp [blB,h7]
theorem n6 {s:ByteArray}:∀(f g a:Nat) (rex:Bool) (out:List E),a≤s.size→s.size<a+f→s.size<a+g→pu s f a rex out=pu s g a rex out
 | 0,_,a,_,_,h1,h2,_=>by omega
 | _+1,0,a,_,_,h1,_,h3=>by omega
 | f+1,g+1,a,rex,out,h1,h2,h3=>by
  unfold pu
  split
  ·rename_i ha
   have h4:=pv (rex:=rex) ha
   have h5:=jZ (s:=s) (s.size+1) (dU s a rex).e h4.2
   split
   ·exact n6 f g _ _ _ h5.2 omq omq
   ·rfl
  ·rfl
def uM (s:ByteArray)(a:Nat)(rex:Bool)(out:List E):List E×Int:=pu s (s.size+1) a rex out
theorem uN {s:ByteArray}{a:Nat}{rex:Bool}{out:List E}(h:¬a<s.size):uM s a rex out=(out,-1):=by
 unfold uM pu;rw [if_neg h]
theorem zx3 {s:ByteArray}{a:Nat}{rex:Bool}{out:List E}(ha:a<s.size)(h:¬((dU s a rex).ok=true∧out.length≠2000)):uM s a rex out=([],(a:Int)):=by
 unfold uM pu;rw [if_pos ha,if_neg h]
theorem uO {s:ByteArray}{a:Nat}{rex:Bool}{out:List E}(ha:a<s.size)(h1:(dU s a rex).ok=true)(h2:out.length≠2000):uM s a rex out=uM s (hQ s (dU s a rex).e) (qJ (dU s a rex).k (dU s a rex).s) (out++[(dU s a rex).E]):=by
 have h4:=pv (rex:=rex) ha
 have h5:=jZ (s:=s) (s.size+1) (dU s a rex).e h4.2
 unfold uM
 rw [show pu s (s.size+1) a rex out=pu s s.size (eY s (s.size+1) (dU s a rex).e) (qJ (dU s a rex).k (dU s a rex).s) (out++[(dU s a rex).E]) by rw [pu,if_pos ha,if_pos ⟨h1,h2⟩]]
 exact n6 _ _ _ _ _ h5.2 omq omq
def nx (s:ByteArray):List E×Int:=uM s (hQ s 0) false []
theorem mJ:∀(l m:List UInt8) (acc:Nat),jO acc (l++m)=jO (jO acc l) m
 | [],m,acc=>rfl
 | c :: l,m,acc=>mJ l m _
theorem qK (acc:Nat)(c:UInt8):jO acc [c]=acc*10+(c.toNat-48):=rfl
theorem mK {s:ByteArray}{k:Nat}(h:k<s.size):s.data.toList[k]? = some (UInt8.ofNat (bAt s k)):=by
 unfold bAt
 rw [Array.getElem?_toList,Array.getElem?_eq_getElem h,Option.getD_some,UInt8.ofNat_toNat]
theorem pw {s:ByteArray}(h:¬(1≤s.size∧s.size≤10∧¬(1<s.size∧bAt s 0=48))):wL s = -1:=if_neg h
theorem j0 {s:ByteArray}(h:1≤s.size∧s.size≤10∧¬(1<s.size∧bAt s 0=48)):wL s=(lw s:Int):=if_pos h
structure GVal where
 k:Int
 n:Int
 s:ByteArray
structure GCell where
 refs:Int
 v:GVal
structure GNamed where
 name:ByteArray
 v:GVal
structure GEntry where
 key:ByteArray
 v:GVal
def xz (d:GEntry):List Value:=[.string d.key,.int .i64 d.v.k,.int .i64 d.v.n,.string d.v.s]
structure GTab where
 name:ByteArray
 A:Option Addr
 c:Nat
 l:List GEntry
def GTab.d (t:GTab):ByteArray×List GEntry:=(t.name,t.l)
def SameT (ts us:List GTab):Prop:=ts.map GTab.d=us.map GTab.d
theorem SameT.len {ts us:List GTab}(h:SameT ts us):ts.length=us.length:=by have:=congrArg List.length h;simpa using this
def InT (w:World)(lo hi:Nat)(ts:List GTab):Prop:=∀t∈ts,Sl w lo hi 4 xz (.slice t.A t.l.length t.c) t.l
section
variable {w w':World}{lo hi lo' hi':Nat}{ts:List GTab}
theorem InT.below {B:Nat}(h:InT w lo hi ts)(hb:Below B w w')(hB:hi≤B):InT w' lo hi ts:=fun t ht=>(h t ht).below hb hB
theorem InT.alloc (h:InT w lo hi ts)(hB:hi≤w.heap.size)(o:Obj):InT (w.alloc o) lo hi ts:=fun t ht=>(h t ht).alloc hB o
theorem InT.setCell (h:InT w lo hi ts){p:Addr}(hB:hi≤p.block)(u:Value):InT (w.setCell p u) lo hi ts:=fun t ht=>(h t ht).setCell hB u
theorem InT.wider (h:InT w lo hi ts)(h1:lo'≤lo)(h2:hi≤hi'):InT w lo' hi' ts:=fun t ht=>(h t ht).wider h1 h2
end
theorem bytes_beq (a b:ByteArray):(a.toList==b.toList)=decide (a=b):=by
 rw [ByteArray.toList_eq,ByteArray.toList_eq]
 by_cases h:a=b
 ·subst h;simp
 ·rw [decide_eq_false h,beq_eq_false_iff_ne]
  intro h2
  apply h
  obtain⟨⟨l⟩⟩:=a
  obtain⟨⟨m⟩⟩:=b
  simp at h2
  subst h2;rfl
theorem ja {s t:ByteArray}(h:s.size=t.size)(h2:∀j,j<s.size→bAt s j=bAt t j):s=t:=by
 apply ByteArray.ext
 apply Array.ext
 ·exact h
 ·intro i h3 h4
  have h5:=h2 i h3
  unfold bAt at h5
  rw [Array.getElem?_eq_getElem h3,Array.getElem?_eq_getElem h4] at h5
  exact UInt8.toNat_inj.1 h5
theorem zb1 {s:ByteArray}(h:s.size=2):s=⟨#[UInt8.ofNat (bAt s 0),UInt8.ofNat (bAt s 1)]⟩:=by
 refine ja h fun j hj=>?_
 rcases (show j=0∨j=1 by omega) with rfl|rfl
 ·show _=(UInt8.ofNat (bAt s 0)).toNat
  rw [UInt8.toNat_ofNat',Nat.mod_eq_of_lt (dm s 0)]
 ·show _=(UInt8.ofNat (bAt s 1)).toNat
  rw [UInt8.toNat_ofNat',Nat.mod_eq_of_lt (dm s 1)]
theorem xB {s:ByteArray}:(s.toList==(ByteArray.mk #[]).toList)=decide (s.size=0):=by
 rw [bytes_beq]
 apply decide_eq_decide.2
 constructor
 ·rintro rfl;rfl
 ·intro h
  exact ja h fun j hj=>absurd hj omq
theorem zkQ {l:List E}{e:E}:owL (l++[e])=owL l++owE e:=by rw [eM];show owL l++(owE e++[])=_;rw [List.append_nil]
end Go.Proofs.YtomolhbkdhjofaaGreatDoor
namespace Go.Proofs.YtomolhbkdhjofaaGreatDoor
open Go.RowKit Go.Shelf Go.Proofs.Tryz
def px:Go.Shelf.Ren:=⟨fun|137=>39|217=>60|266=>97|n=>n,fun|9=>9|5=>5|3=>3|n=>n,fun|n=>n⟩
theorem zc1:Go.Proofs.Lays.n137 prog px:={
 mixed:=by kernel_rfl
 f137:=func39.trans (congrArg some (by kernel_rfl))
 f217:=func60.trans (congrArg some (by kernel_rfl))
 f266:=func97.trans (congrArg some (by kernel_rfl))
 t3:=underlying3
 a3:=Tryz.isAgg3
 z3:=Tryz.sizeOf3
 v3:=Tryz.zeroValue3
 t5:=underlying5
 a5:=Tryz.isAgg5
 z5:=Tryz.sizeOf5
 v5:=Tryz.zeroValue5
 t9:=underlying9
 a9:=Tryz.isAgg9
 z9:=Tryz.sizeOf9
 v9:=Tryz.zeroValue9 }
end Go.Proofs.YtomolhbkdhjofaaGreatDoor
namespace Go.Proofs.YtomolhbkdhjofaaGreatDoor
open Go.RowKit Go.Shelf Go.Proofs.Tryz
def kB:Go.Shelf.Ren:=⟨fun|156=>71|165=>103|166=>104|169=>105|240=>132|241=>133|276=>146|277=>147|n=>n,fun|31=>58|9=>9|3=>3|4=>4|0=>0|20=>20|72=>107|76=>84|70=>105|37=>22|75=>83|127=>130|164=>152|5=>5|80=>109|n=>n,fun|n=>n⟩
theorem uP:Go.Proofs.Lays.n156 prog kB:={
 mixed:=by kernel_rfl
 f156:=func71.trans (congrArg some (by kernel_rfl))
 f165:=func103.trans (congrArg some (by kernel_rfl))
 f166:=func104.trans (congrArg some (by kernel_rfl))
 f169:=func105.trans (congrArg some (by kernel_rfl))
 f240:=func132.trans (congrArg some (by kernel_rfl))
 f241:=func133.trans (congrArg some (by kernel_rfl))
 f276:=func146.trans (congrArg some (by kernel_rfl))
 f277:=func147.trans (congrArg some (by kernel_rfl))
 t0:=underlying0
 a0:=Tryz.isAgg0
 z0:=Tryz.sizeOf0
 v0:=Tryz.zeroValue0
 t3:=underlying3
 a3:=Tryz.isAgg3
 z3:=Tryz.sizeOf3
 v3:=Tryz.zeroValue3
 t4:=underlying4
 a4:=Tryz.isAgg4
 z4:=Tryz.sizeOf4
 v4:=Tryz.zeroValue4
 t9:=underlying9
 a9:=Tryz.isAgg9
 z9:=Tryz.sizeOf9
 v9:=Tryz.zeroValue9
 t20:=underlying20
 a20:=Tryz.isAgg20
 z20:=Tryz.sizeOf20
 v20:=Tryz.zeroValue20
 t31:=underlying58
 a31:=Tryz.isAgg58
 z31:=Tryz.sizeOf58
 v31:=Tryz.zeroValue58
 t37:=underlying22
 a37:=Tryz.isAgg22
 z37:=Tryz.sizeOf22
 v37:=Tryz.zeroValue22
 t70:=underlying105
 a70:=Tryz.isAgg105
 z70:=Tryz.sizeOf105
 v70:=Tryz.zeroValue105
 t72:=underlying107
 a72:=Tryz.isAgg107
 z72:=Tryz.sizeOf107
 v72:=Tryz.zeroValue107
 t75:=underlying83
 a75:=Tryz.isAgg83
 z75:=Tryz.sizeOf83
 v75:=Tryz.zeroValue83
 t76:=underlying84
 a76:=Tryz.isAgg84
 z76:=Tryz.sizeOf84
 v76:=Tryz.zeroValue84
 t127:=underlying130
 a127:=Tryz.isAgg130
 z127:=Tryz.sizeOf130
 v127:=Tryz.zeroValue130
 t164:=underlying152
 a164:=Tryz.isAgg152
 z164:=Tryz.sizeOf152
 v164:=Tryz.zeroValue152 }
theorem Builder_Extra_156:Builder.Extra prog kB:={
 sizeBuilder:=by kernel_rfl
 liesBuilder:=by kernel_rfl
 t5:=underlying5
 a5:=Tryz.isAgg5
 z5:=Tryz.sizeOf5
 v5:=Tryz.zeroValue5
 infoByte:=by kernel_rfl
 cellsByte:=by kernel_rfl
 sizeByte:=by kernel_rfl
 neB5:=by decide }
end Go.Proofs.YtomolhbkdhjofaaGreatDoor
namespace Go.Proofs.YtomolhbkdhjofaaGreatDoor
open Go.RowKit Go.Proofs.Tryz
theorem iG {P:Program}{f:FuncId}{ins:List AV}{v:Value}(he:w7 P f=true)(hv:oV v=true)
 (hc:∀(w:World) (St:Nat→Prop) (φ:Nat→Lc) (K:Nat→Prop) (us:List Value),VRL w St φ K ins us→Calls P f us.toArray w fun e w'=>e=.returned v∧Below w.heap.size w w'):Ctr P f ins [] (.c (.v v)) []:=by
 refine⟨he,fun w St φ F us' hent=>?_⟩
 refine (hc w St φ _ us' hent.args).mono ?_
 rintro e w' ⟨rfl,hb⟩
 refine⟨_,_,v,fun _=>False,fun _=>[],[],⟨rfl,rfl⟩,rfl,⟨⟨hb.os,hb.tape,hb.output,hb.size,fun b hlt _=>.inl (hb.block b hlt)⟩,?_,by simp,rfl,fun i cs hi=>by simp at hi,fun i hi=>by simp at hi,fun i hi=>by simp at hi,fun i j hi=>by simp at hi,fun i b lo hi=>by simp at hi,fun b hb=>by simp at hb,fun b hb=>hb.elim⟩⟩
 simp only [VRF,CR]
 exact⟨trivial,hv,trivial⟩
theorem eQ (s:ByteArray){c:Nat}(_hc:c<256):Ctr prog 39 [.c (.v (.string s)),.c (.v (.int .u8 (c:Int)))] [] (.c (.v (.int .i64 (Lib.indexByte s.data.toList (UInt8.ofNat c))))) []:=by
 refine iG (by kernel_rfl) rfl fun w St φ K us h=>?_
 simp only [VRL,VR,CR] at h
 obtain⟨u,us1,rfl,⟨rfl,-⟩,u2,us2,rfl,⟨rfl,-⟩,rfl⟩:=h
 refine (Go.Proofs.Any.strings_IndexByte zc1 s (c:Int) w).mono ?_
 rintro e w' ⟨rfl,rfl⟩
 exact⟨rfl,Below.refl _ _⟩
def lx:E→ByteArray
 | .str s=>s
 | _=>ByteArray.empty
theorem uQ {w:World}{St:Nat→Prop}{φ:Nat→Lc}{K:Nat→Prop}:∀{l:List E} {us:List Value} {fp:List Nat},(∀e∈l,∃s,e=.str s)→CRL w St φ K (acL l) us fp→us=l.map fun e=>.string (lx e)
 | [],us,fp,_,h=>by
  simp only [acL,CRL] at h
  exact h.1
 | e :: r,us,fp,he,h=>by
  obtain⟨s,rfl⟩:=he e List.mem_cons_self
  have h':CRL w St φ K (.v (.string s) :: acL r) us fp:=h
  simp only [CRL] at h'
  obtain⟨u,us',f1,f2,rfl,rfl,h1,h2⟩:=h'
  simp only [CR] at h1
  obtain⟨rfl,-⟩:=h1
  rw [uQ (fun e he'=>he e (List.mem_cons_of_mem _ he')) h2]
  rfl
def jb (l:List E)(sep:ByteArray):ByteArray:=⟨(Lib.join (l.map fun e=>(lx e).data.toList) sep.data.toList).toArray⟩
theorem zlQ {l:List E}(hl:∀e∈l,∃s,e=.str s)(sep:ByteArray)(hn:l.length≤1073741824)(hsz:(jb l sep).size≤140737488355328):Ctr prog 71 [.c (.ro l.length 1 (acL l)),.c (.v (.string sep))] [] (.c (.v (.string (jb l sep)))) []:=by
 refine iG (by kernel_rfl) rfl fun w St φ K us h=>?_
 simp only [VRL,VR,CR] at h
 obtain⟨u,us1,rfl,⟨-,A,c,rfl,⟨h1,h2,h3⟩,h4,h5⟩,u2,us2,rfl,⟨rfl,-⟩,rfl⟩:=h
 cases l with
 | nil=>exact (Go.Proofs.Any.strings_Join_none uP Builder_Extra_156 A c sep w).mono fun e w' ⟨he,hw⟩=>⟨he,hw▸Below.refl _ _⟩
 | cons x r =>
  obtain⟨b,o,us,rfl,-,hb,hc,hcr⟩:=h5 (by simp)
  have hus:=uQ hl hcr
  have e1:(x :: r).length=((x :: r).map lx).length:=by simp
  have e2:jb (x :: r) sep=⟨(Lib.join (((x :: r).map lx).map (·.data.toList)) sep.data.toList).toArray⟩:=by unfold jb;rw [List.map_map];rfl
  rw [e2] at hsz ⊢
  rw [e1] at hn h1 ⊢
  refine Go.Proofs.Any.strings_Join uP Builder_Extra_156 b o c ((x :: r).map lx) sep w (fun j y hy=>hc j _ ?_) hb omq h1 ?_
  ·rw [hus,List.getElem?_map]
   rw [List.getElem?_map] at hy
   cases hq:(x :: r)[j]? with
   | none=>rw [hq] at hy;cases hy
   | some e=>rw [hq] at hy;simp at hy;simp [hy]
  ·have:(ByteArray.mk (Lib.join (((x :: r).map lx).map (·.data.toList)) sep.data.toList).toArray).size=(Lib.join (((x :: r).map lx).map (·.data.toList)) sep.data.toList).length:=by show (List.toArray _).size=_;rw [List.size_toArray]
   rw [this] at hsz
   exact hsz
end Go.Proofs.YtomolhbkdhjofaaGreatDoor
namespace Go.Proofs.YtomolhbkdhjofaaGreatDoor
open Go.RowKit Go.Shelf Go.Proofs.Tryz
def n7:Go.Shelf.Ren:=⟨fun|172=>64|244=>99|245=>100|247=>125|279=>126|280=>127|281=>128|282=>129|287=>139|316=>140|171=>65|205=>141|321=>156|322=>157|243=>101|246=>130|283=>142|284=>143|285=>144|286=>145|129=>159|317=>158|318=>160|319=>161|320=>162|337=>175|338=>176|n=>n,fun|9=>9|3=>3|75=>83|76=>84|4=>4|5=>5|167=>123|37=>22|0=>0|85=>124|2=>2|168=>126|53=>141|175=>142|46=>104|210=>145|127=>130|145=>162|143=>160|21=>21|171=>147|173=>150|212=>165|51=>166|20=>20|213=>167|232=>175|233=>176|80=>109|n=>n,fun|15=>1|16=>2|17=>3|18=>4|19=>5|n=>n⟩
theorem qL:Go.Proofs.LaysC.n172 prog n7:={
 mixed:=by kernel_rfl
 f129:=func159.trans (congrArg some (by kernel_rfl))
 f171:=func65.trans (congrArg some (by kernel_rfl))
 f172:=func64.trans (congrArg some (by kernel_rfl))
 f205:=func141.trans (congrArg some (by kernel_rfl))
 f243:=func101.trans (congrArg some (by kernel_rfl))
 f244:=func99.trans (congrArg some (by kernel_rfl))
 f245:=func100.trans (congrArg some (by kernel_rfl))
 f246:=func130.trans (congrArg some (by kernel_rfl))
 f247:=func125.trans (congrArg some (by kernel_rfl))
 f279:=func126.trans (congrArg some (by kernel_rfl))
 f280:=func127.trans (congrArg some (by kernel_rfl))
 f281:=func128.trans (congrArg some (by kernel_rfl))
 f282:=func129.trans (congrArg some (by kernel_rfl))
 f283:=func142.trans (congrArg some (by kernel_rfl))
 f284:=func143.trans (congrArg some (by kernel_rfl))
 f285:=func144.trans (congrArg some (by kernel_rfl))
 f286:=func145.trans (congrArg some (by kernel_rfl))
 f287:=func139.trans (congrArg some (by kernel_rfl))
 f316:=func140.trans (congrArg some (by kernel_rfl))
 f317:=func158.trans (congrArg some (by kernel_rfl))
 f318:=func160.trans (congrArg some (by kernel_rfl))
 f319:=func161.trans (congrArg some (by kernel_rfl))
 f320:=func162.trans (congrArg some (by kernel_rfl))
 f321:=func156.trans (congrArg some (by kernel_rfl))
 f322:=func157.trans (congrArg some (by kernel_rfl))
 f337:=func175.trans (congrArg some (by kernel_rfl))
 f338:=func176.trans (congrArg some (by kernel_rfl))
 t0:=underlying0
 a0:=Tryz.isAgg0
 z0:=Tryz.sizeOf0
 v0:=Tryz.zeroValue0
 t2:=underlying2
 a2:=Tryz.isAgg2
 z2:=Tryz.sizeOf2
 v2:=Tryz.zeroValue2
 t3:=underlying3
 a3:=Tryz.isAgg3
 z3:=Tryz.sizeOf3
 v3:=Tryz.zeroValue3
 t4:=underlying4
 a4:=Tryz.isAgg4
 z4:=Tryz.sizeOf4
 v4:=Tryz.zeroValue4
 t5:=underlying5
 a5:=Tryz.isAgg5
 z5:=Tryz.sizeOf5
 v5:=Tryz.zeroValue5
 t9:=underlying9
 a9:=Tryz.isAgg9
 z9:=Tryz.sizeOf9
 v9:=Tryz.zeroValue9
 t20:=underlying20
 a20:=Tryz.isAgg20
 z20:=Tryz.sizeOf20
 v20:=Tryz.zeroValue20
 t21:=underlying21
 a21:=Tryz.isAgg21
 z21:=Tryz.sizeOf21
 v21:=Tryz.zeroValue21
 t37:=underlying22
 a37:=Tryz.isAgg22
 z37:=Tryz.sizeOf22
 v37:=Tryz.zeroValue22
 t46:=underlying104
 a46:=Tryz.isAgg104
 z46:=Tryz.sizeOf104
 v46:=Tryz.zeroValue104
 t51:=underlying166
 a51:=Tryz.isAgg166
 z51:=Tryz.sizeOf166
 v51:=Tryz.zeroValue166
 t53:=underlying141
 a53:=Tryz.isAgg141
 z53:=Tryz.sizeOf141
 v53:=Tryz.zeroValue141
 t75:=underlying83
 a75:=Tryz.isAgg83
 z75:=Tryz.sizeOf83
 v75:=Tryz.zeroValue83
 t76:=underlying84
 a76:=Tryz.isAgg84
 z76:=Tryz.sizeOf84
 v76:=Tryz.zeroValue84
 t85:=underlying124
 a85:=Tryz.isAgg124
 z85:=Tryz.sizeOf124
 v85:=Tryz.zeroValue124
 t127:=underlying130
 a127:=Tryz.isAgg130
 z127:=Tryz.sizeOf130
 v127:=Tryz.zeroValue130
 t143:=underlying160
 a143:=Tryz.isAgg160
 z143:=Tryz.sizeOf160
 v143:=Tryz.zeroValue160
 t145:=underlying162
 a145:=Tryz.isAgg162
 z145:=Tryz.sizeOf162
 v145:=Tryz.zeroValue162
 t167:=underlying123
 a167:=Tryz.isAgg123
 z167:=Tryz.sizeOf123
 v167:=Tryz.zeroValue123
 t168:=underlying126
 a168:=Tryz.isAgg126
 z168:=Tryz.sizeOf126
 v168:=Tryz.zeroValue126
 t171:=underlying147
 a171:=Tryz.isAgg147
 z171:=Tryz.sizeOf147
 v171:=Tryz.zeroValue147
 t173:=underlying150
 a173:=Tryz.isAgg150
 z173:=Tryz.sizeOf150
 v173:=Tryz.zeroValue150
 t175:=underlying142
 a175:=Tryz.isAgg142
 z175:=Tryz.sizeOf142
 v175:=Tryz.zeroValue142
 t210:=underlying145
 a210:=Tryz.isAgg145
 z210:=Tryz.sizeOf145
 v210:=Tryz.zeroValue145
 t212:=underlying165
 a212:=Tryz.isAgg165
 z212:=Tryz.sizeOf165
 v212:=Tryz.zeroValue165
 t213:=underlying167
 a213:=Tryz.isAgg167
 z213:=Tryz.sizeOf167
 t232:=underlying175
 a232:=Tryz.isAgg175
 z232:=Tryz.sizeOf175
 v232:=Tryz.zeroValue175
 t233:=underlying176
 a233:=Tryz.isAgg176
 z233:=Tryz.sizeOf176
 v233:=Tryz.zeroValue176
 g15:=by kernel_rfl
 g16:=by kernel_rfl
 g17:=by kernel_rfl
 g18:=by kernel_rfl
 g19:=by kernel_rfl
 t80:=underlying109
 a80:=Tryz.isAgg109
 z80:=Tryz.sizeOf109
 v80:=Tryz.zeroValue109
 i0:=by kernel_rfl
 i2:=by kernel_rfl
 i3:=by kernel_rfl
 i4:=by kernel_rfl
 i5:=by kernel_rfl
 i9:=by kernel_rfl
 i20:=by kernel_rfl
 i21:=by kernel_rfl
 i37:=by kernel_rfl
 i46:=by kernel_rfl
 i51:=by kernel_rfl
 i53:=by kernel_rfl
 i75:=by kernel_rfl
 i76:=by kernel_rfl
 i80:=by kernel_rfl
 i85:=by kernel_rfl
 i127:=by kernel_rfl
 i143:=by kernel_rfl
 i145:=by kernel_rfl
 i167:=by kernel_rfl
 i168:=by kernel_rfl
 i171:=by kernel_rfl
 i173:=by kernel_rfl
 i175:=by kernel_rfl
 i210:=by kernel_rfl
 i212:=by kernel_rfl
 i232:=by kernel_rfl
 i233:=by kernel_rfl
 m15:=by kernel_rfl
 m16:=by kernel_rfl
 m17:=by kernel_rfl
 m18:=by kernel_rfl
 m19:=by kernel_rfl
 c0:=by kernel_rfl
 c2:=by kernel_rfl
 c3:=by kernel_rfl
 c4:=by kernel_rfl
 c5:=by kernel_rfl
 c9:=by kernel_rfl
 c20:=by kernel_rfl
 c21:=by kernel_rfl
 c37:=by kernel_rfl
 c46:=by kernel_rfl
 c51:=by kernel_rfl
 c53:=by kernel_rfl
 c75:=by kernel_rfl
 c76:=by kernel_rfl
 c80:=by kernel_rfl
 c85:=by kernel_rfl
 c127:=by kernel_rfl
 c143:=by kernel_rfl
 c145:=by kernel_rfl
 c167:=by kernel_rfl
 c168:=by kernel_rfl
 c171:=by kernel_rfl
 c173:=by kernel_rfl
 c175:=by kernel_rfl
 c210:=by kernel_rfl
 c212:=by kernel_rfl
 c213:=by kernel_rfl
 c232:=by kernel_rfl
 c233:=by kernel_rfl }
end Go.Proofs.YtomolhbkdhjofaaGreatDoor
namespace Go.Proofs.YtomolhbkdhjofaaGreatDoor
open Go.RowKit Go.Shelf Go.Proofs.Tryz
def se:Go.Shelf.Ren:=⟨fun|99=>102|206=>131|n=>n,fun|9=>9|4=>4|3=>3|n=>n,fun|n=>n⟩
theorem zy3:Go.Proofs.Lays.n99 prog se:={
 mixed:=by kernel_rfl
 f99:=func102.trans (congrArg some (by kernel_rfl))
 f206:=func131.trans (congrArg some (by kernel_rfl))
 t3:=underlying3
 a3:=Tryz.isAgg3
 z3:=Tryz.sizeOf3
 v3:=Tryz.zeroValue3
 t4:=underlying4
 a4:=Tryz.isAgg4
 z4:=Tryz.sizeOf4
 v4:=Tryz.zeroValue4
 t9:=underlying9
 a9:=Tryz.isAgg9
 z9:=Tryz.sizeOf9
 v9:=Tryz.zeroValue9 }
end Go.Proofs.YtomolhbkdhjofaaGreatDoor
