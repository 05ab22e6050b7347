/- T -/
import Derived.Test.YtomolhbkdhjofaaGreatDoorParXO
set_option maxHeartbeats 0
set_option maxRecDepth 100000
namespace Go.Proofs.YtomolhbkdhjofaaGreatDoor
open Go.RowKit Go.Proofs.Tryz
def yX:List ByteArray:=[⟨#[60,61]⟩,⟨#[61,61]⟩,⟨#[33,61]⟩,⟨#[62,61]⟩,⟨#[38,38]⟩,⟨#[124,124]⟩]
def sixL:List E:=[.str ⟨#[60,61]⟩,.str ⟨#[61,61]⟩,.str ⟨#[33,61]⟩,.str ⟨#[62,61]⟩,.str ⟨#[38,38]⟩,.str ⟨#[124,124]⟩]
theorem zk1 {s:ByteArray}{x y:UInt8}:hpS s ⟨#[x,y]⟩=true↔2≤s.size∧bAt s 0=x.toNat∧bAt s 1=y.toNat:=by
 have hl:s.data.toList.length=s.size:=Array.length_toList
 have hb:∀j,bAt s j=(s.data.toList[j]?.getD 0).toNat:=fun j=>by unfold bAt;rw [Array.getElem?_toList]
 unfold hpS Lib.hasPrefix
 rw [hb 0,hb 1,←hl]
 show ([x,y]:List UInt8).isPrefixOf s.data.toList=true↔_
 generalize s.data.toList=l
 match l with
 | []=>simp
 | [a]=>simp
 | a :: b :: r =>
  simp only [List.isPrefixOf_iff_prefix,List.length_cons,List.getElem?_cons_zero,List.getElem?_cons_succ,Option.getD_some]
  constructor
  ·intro h
   obtain⟨t,ht⟩:=h
   have h1:x=a:=by injection ht
   have h2:y=b:=by injection ht with _ h;injection h
   exact⟨omq,by rw [h1],by rw [h2]⟩
  ·rintro ⟨-,h1,h2⟩
   rw [UInt8.toNat_inj.1 h1,UInt8.toNat_inj.1 h2]
   exact⟨r,rfl⟩
theorem zc4 {s:ByteArray}(h:2≤s.size):bk s 0 2=⟨#[UInt8.ofNat (bAt s 0),UInt8.ofNat (bAt s 1)]⟩:=by
 have hz:=bO (s:=s) (a:=0) (b:=2) omq h
 rw [vM hz,dB h omq,dB h omq]
theorem ib {s:ByteArray}{x y:UInt8}(h6:nE x.toNat y.toNat=true)(h:hpS s ⟨#[x,y]⟩=true):qq s=⟨#[x,y]⟩:=by
 obtain⟨h1,h2,h3⟩:=zk1.1 h
 unfold qq
 rw [if_pos ⟨h1,by rw [h2,h3];exact h6⟩,zc4 h1,h2,h3,UInt8.ofNat_toNat,UInt8.ofNat_toNat]
theorem vV {s:ByteArray}(h:∀m∈yX,hpS s m=false):¬(2≤s.size∧nE (bAt s 0) (bAt s 1)=true):=fun ⟨h1,h2⟩=>by
 have key:∀x y:UInt8,bAt s 0=x.toNat→bAt s 1=y.toNat→(⟨#[x,y]⟩:ByteArray)∈yX→False:=fun x y e1 e2 hm=>by
  have:=h _ hm
  rw [zk1.2 ⟨h1,e1,e2⟩] at this
  cases this
 simp only [nE,Bool.or_eq_true,Bool.and_eq_true,decide_eq_true_iff] at h2
 rcases h2 with ⟨f1,f2|f2|f2|f2⟩|⟨f2,f1⟩|⟨f2,f1⟩
 ·exact key 60 61 f2 f1 (by simp [yX])
 ·exact key 61 61 f2 f1 (by simp [yX])
 ·exact key 33 61 f2 f1 (by simp [yX])
 ·exact key 62 61 f2 f1 (by simp [yX])
 ·exact key 38 38 f2 f1 (by simp [yX])
 ·exact key 124 124 f2 f1 (by simp [yX])
theorem zd4:∀c:Fin 256,decide (0≤Lib.indexByte [123,125,40,41,91,93,44,59,36,43,45,42,47,37,46,60,62,33,126,61] (UInt8.ofNat c.1))=lh c.1:=by decide
theorem yY {s:ByteArray}(hs:s.size≤1048576):Ctr prog 69 [.c (.v (.string s))] [] (.c (.v (.string (qq s)))) []:=by
 have hP:=qw s
 refine ay func69 rfl rfl ?_
 repeat' (first|(apply av;first|refine ak ?_|refine ai ?_|refine cU ?_|refine ec ?_)|refine aj ?_|refine ab ?_|refine aa fun C=>?_|refine ac ?_|refine ah ?_)
 refine aZ (fun k:Nat=>⟨e8 [(0,.c (.v (.string s))),(5,.c (.sl 5 6)),(6,.c (.v (.int .i64 6))),(7,.c (.v (.int .i64 (k:Int))))],eT [(5,5,⟨9,1,6,false,owL sixL⟩)],0,[5],26⟩)
  (fun N k=>k+N=6∧∀j m,j<k→yX[j]? = some m→hpS s m=false) 6 0 ⟨omq,fun j m hj=>absurd hj (Nat.not_lt_zero j)⟩ ?_ ?_
 ·show Gh _ _
  (refine aN _ _ rfl rfl ?_ ?_<;>exact tdy1)
 rintro N k ⟨hN,hr⟩
 try dsimp only
 by_cases hk:k<6
 ·rcases (show k=0∨k=1∨k=2∨k=3∨k=4∨k=5 by omega) with rfl|rfl|rfl|rfl|rfl|rfl
  ·have c1:=hP ⟨#[60,61]⟩
   cases hq:hpS s ⟨#[60,61]⟩ with
   | true =>
    rw [hq] at c1
    rw [ib (x:=60) (y:=61) (by decide) hq]
    repeat' (first|(apply av;first|refine ak ?_|refine ai ?_|refine aI ?_|refine aG c1 ?_|refine fc ?_|refine aE ?_)|refine aj ?_|refine ab ?_|refine aa fun C=>?_|refine ac ?_|refine ah ?_|refine al ?_|refine aq rfl ?_)
    exact eo
   | false =>
    rw [hq] at c1
    repeat' (first|(apply av;first|refine ak ?_|refine ai ?_|refine aI ?_|refine aG c1 ?_|refine fc ?_|refine aE ?_|refine aw ?_)|refine aj ?_|refine ab ?_|refine aa fun C=>?_|refine ac ?_|refine ah ?_|refine al ?_|refine aq rfl ?_|refine ar rfl ?_)
    refine⟨N-1,1,omq,⟨omq,fun j m hj hm=>?_⟩,?_⟩
    ·by_cases e:j=0
     ·subst e
      injection hm with hm
      rw [←hm];exact hq
     ·exact hr j m omq hm
    ·show Gh _ _
     (refine aN _ _ rfl rfl ?_ ?_<;>exact tdy1)
  ·have c1:=hP ⟨#[61,61]⟩
   cases hq:hpS s ⟨#[61,61]⟩ with
   | true =>
    rw [hq] at c1
    rw [ib (x:=61) (y:=61) (by decide) hq]
    repeat' (first|(apply av;first|refine ak ?_|refine ai ?_|refine aI ?_|refine aG c1 ?_|refine fc ?_|refine aE ?_)|refine aj ?_|refine ab ?_|refine aa fun C=>?_|refine ac ?_|refine ah ?_|refine al ?_|refine aq rfl ?_)
    exact eo
   | false =>
    rw [hq] at c1
    repeat' (first|(apply av;first|refine ak ?_|refine ai ?_|refine aI ?_|refine aG c1 ?_|refine fc ?_|refine aE ?_|refine aw ?_)|refine aj ?_|refine ab ?_|refine aa fun C=>?_|refine ac ?_|refine ah ?_|refine al ?_|refine aq rfl ?_|refine ar rfl ?_)
    refine⟨N-1,2,omq,⟨omq,fun j m hj hm=>?_⟩,?_⟩
    ·by_cases e:j=1
     ·subst e
      injection hm with hm
      rw [←hm];exact hq
     ·exact hr j m omq hm
    ·show Gh _ _
     (refine aN _ _ rfl rfl ?_ ?_<;>exact tdy1)
  ·have c1:=hP ⟨#[33,61]⟩
   cases hq:hpS s ⟨#[33,61]⟩ with
   | true =>
    rw [hq] at c1
    rw [ib (x:=33) (y:=61) (by decide) hq]
    repeat' (first|(apply av;first|refine ak ?_|refine ai ?_|refine aI ?_|refine aG c1 ?_|refine fc ?_|refine aE ?_)|refine aj ?_|refine ab ?_|refine aa fun C=>?_|refine ac ?_|refine ah ?_|refine al ?_|refine aq rfl ?_)
    exact eo
   | false =>
    rw [hq] at c1
    repeat' (first|(apply av;first|refine ak ?_|refine ai ?_|refine aI ?_|refine aG c1 ?_|refine fc ?_|refine aE ?_|refine aw ?_)|refine aj ?_|refine ab ?_|refine aa fun C=>?_|refine ac ?_|refine ah ?_|refine al ?_|refine aq rfl ?_|refine ar rfl ?_)
    refine⟨N-1,3,omq,⟨omq,fun j m hj hm=>?_⟩,?_⟩
    ·by_cases e:j=2
     ·subst e
      injection hm with hm
      rw [←hm];exact hq
     ·exact hr j m omq hm
    ·show Gh _ _
     (refine aN _ _ rfl rfl ?_ ?_<;>exact tdy1)
  ·have c1:=hP ⟨#[62,61]⟩
   cases hq:hpS s ⟨#[62,61]⟩ with
   | true =>
    rw [hq] at c1
    rw [ib (x:=62) (y:=61) (by decide) hq]
    repeat' (first|(apply av;first|refine ak ?_|refine ai ?_|refine aI ?_|refine aG c1 ?_|refine fc ?_|refine aE ?_)|refine aj ?_|refine ab ?_|refine aa fun C=>?_|refine ac ?_|refine ah ?_|refine al ?_|refine aq rfl ?_)
    exact eo
   | false =>
    rw [hq] at c1
    repeat' (first|(apply av;first|refine ak ?_|refine ai ?_|refine aI ?_|refine aG c1 ?_|refine fc ?_|refine aE ?_|refine aw ?_)|refine aj ?_|refine ab ?_|refine aa fun C=>?_|refine ac ?_|refine ah ?_|refine al ?_|refine aq rfl ?_|refine ar rfl ?_)
    refine⟨N-1,4,omq,⟨omq,fun j m hj hm=>?_⟩,?_⟩
    ·by_cases e:j=3
     ·subst e
      injection hm with hm
      rw [←hm];exact hq
     ·exact hr j m omq hm
    ·show Gh _ _
     (refine aN _ _ rfl rfl ?_ ?_<;>exact tdy1)
  ·have c1:=hP ⟨#[38,38]⟩
   cases hq:hpS s ⟨#[38,38]⟩ with
   | true =>
    rw [hq] at c1
    rw [ib (x:=38) (y:=38) (by decide) hq]
    repeat' (first|(apply av;first|refine ak ?_|refine ai ?_|refine aI ?_|refine aG c1 ?_|refine fc ?_|refine aE ?_)|refine aj ?_|refine ab ?_|refine aa fun C=>?_|refine ac ?_|refine ah ?_|refine al ?_|refine aq rfl ?_)
    exact eo
   | false =>
    rw [hq] at c1
    repeat' (first|(apply av;first|refine ak ?_|refine ai ?_|refine aI ?_|refine aG c1 ?_|refine fc ?_|refine aE ?_|refine aw ?_)|refine aj ?_|refine ab ?_|refine aa fun C=>?_|refine ac ?_|refine ah ?_|refine al ?_|refine aq rfl ?_|refine ar rfl ?_)
    refine⟨N-1,5,omq,⟨omq,fun j m hj hm=>?_⟩,?_⟩
    ·by_cases e:j=4
     ·subst e
      injection hm with hm
      rw [←hm];exact hq
     ·exact hr j m omq hm
    ·show Gh _ _
     (refine aN _ _ rfl rfl ?_ ?_<;>exact tdy1)
  ·have c1:=hP ⟨#[124,124]⟩
   cases hq:hpS s ⟨#[124,124]⟩ with
   | true =>
    rw [hq] at c1
    rw [ib (x:=124) (y:=124) (by decide) hq]
    repeat' (first|(apply av;first|refine ak ?_|refine ai ?_|refine aI ?_|refine aG c1 ?_|refine fc ?_|refine aE ?_)|refine aj ?_|refine ab ?_|refine aa fun C=>?_|refine ac ?_|refine ah ?_|refine al ?_|refine aq rfl ?_)
    exact eo
   | false =>
    rw [hq] at c1
    repeat' (first|(apply av;first|refine ak ?_|refine ai ?_|refine aI ?_|refine aG c1 ?_|refine fc ?_|refine aE ?_|refine aw ?_)|refine aj ?_|refine ab ?_|refine aa fun C=>?_|refine ac ?_|refine ah ?_|refine al ?_|refine aq rfl ?_|refine ar rfl ?_)
    refine⟨N-1,6,omq,⟨omq,fun j m hj hm=>?_⟩,?_⟩
    ·by_cases e:j=5
     ·subst e
      injection hm with hm
      rw [←hm];exact hq
     ·exact hr j m omq hm
    ·show Gh _ _
     (refine aN _ _ rfl rfl ?_ ?_<;>exact tdy1)
 ·have hk':k=6:=by omega
  subst hk'
  have hmiss:=vV (s:=s) fun m hm=>by
   obtain⟨j,hj,rfl⟩:=List.getElem_of_mem hm
   exact hr j _ hj (List.getElem?_eq_getElem hj)
  unfold qq
  rw [if_neg hmiss]
  by_cases h0:s.size=0
  ·rw [if_neg omq]
   have hz:=gR (s:=s) (t:=⟨#[]⟩) h0 fun j hj=>absurd hj omq
   repeat' (first|(apply av;first|refine bC ?_|(refine aK ?_ ?_<;>intro hG<;>(try cases hG))|refine ak ?_|refine ai ?_|refine jy ?_|refine aE ?_|refine aA ?_)|refine aj ?_|refine ab ?_|refine aa fun C=>?_|refine ac ?_|refine al ?_|refine aB ?_|(refine ae (by rfl) ?_ ?_<;>intro hC<;>(try cases hC)))
   all_goals first
    | (exfalso;simp_all;done)
    | (refine am ?_;refine bv rfl aJ ⟨?_,rfl⟩;rfl)
  ·have c1:=fq ⟨#[123,125,40,41,91,93,44,59,36,43,45,42,47,37,46,60,62,33,126,61]⟩ (cI s 0)
   have h3:decide (0≤Lib.indexByte (ByteArray.mk #[123,125,40,41,91,93,44,59,36,43,45,42,47,37,46,60,62,33,126,61]).data.toList (UInt8.ofNat (bAt s 0)))=lh (bAt s 0):=zd4 ⟨bAt s 0,cI s 0⟩
   generalize Lib.indexByte (ByteArray.mk #[123,125,40,41,91,93,44,59,36,43,45,42,47,37,46,60,62,33,126,61]).data.toList (UInt8.ofNat (bAt s 0))=z at c1 h3
   have h01:0<s.size:=by omega
   have hne:(s.toList==(ByteArray.mk #[]).toList)=false:=by rw [nH];exact decide_eq_false h0
   cases h4:lh (bAt s 0) with
   | true =>
    rw [h4] at h3
    have hz:0≤z:=of_decide_eq_true h3
    rw [if_pos ⟨omq,rfl⟩]
    repeat' (first|(apply av;first|refine bC ?_|(refine aK ?_ ?_<;>intro hG<;>(try cases hG))|refine ak ?_|refine ai ?_|refine aG c1 ?_|refine jy ?_|refine aE ?_|refine dR ?_|refine aA ?_|refine cb ?_|refine jx ?_)|refine aj ?_|refine ab ?_|refine aa fun C=>?_|refine ac ?_|refine al ?_|refine aB ?_|(refine ae (by rfl) ?_ ?_<;>intro hC<;>(try cases hC)))
    all_goals first
     | (exfalso;rw [bne,hne] at hG;cases hG;done)
     | (exfalso;simp only [decide_eq_false_iff_not] at hC;omega)
     | (refine am ?_;refine bv rfl aJ ⟨?_,rfl⟩;rfl)
   | false =>
    rw [h4] at h3
    have hz:¬0≤z:=of_decide_eq_false h3
    rw [if_neg (by simp)]
    repeat' (first|(apply av;first|refine bC ?_|(refine aK ?_ ?_<;>intro hG<;>(try cases hG))|refine ak ?_|refine ai ?_|refine aG c1 ?_|refine jy ?_|refine aE ?_|refine dR ?_|refine aA ?_|refine cb ?_|refine jx ?_)|refine aj ?_|refine ab ?_|refine aa fun C=>?_|refine ac ?_|refine al ?_|refine aB ?_|(refine ae (by rfl) ?_ ?_<;>intro hC<;>(try cases hC)))
    all_goals first
     | (exfalso;simp only [decide_eq_true_iff] at hC;omega)
     | (refine am ?_;refine bv rfl aJ ⟨?_,rfl⟩;rfl)
def gD (s:ByteArray)(rex:Bool):Tk :=
 if (dQ s 0 rex).ok=true then dQ s 0 rex
 else if cF (bAt s 0)=true∨gC (bAt s 0)=true∨bAt s 0=39∨(bAt s 0=47∧rex=true) then ⟨0,0,ByteArray.empty,0⟩
 else ⟨5,0,ByteArray.empty,0⟩
theorem qy {c:Nat}(h:gC c=true):cF c=false:=by
 simp only [gC,Bool.and_eq_true,decide_eq_true_iff] at h
 simp [cF];omega
theorem vW {s:ByteArray}{k:Int}{b:Nat}(hb:bAt s 0=b)(hk:(k=3∧b=39)∨(k=4∧b=47)){rex:Bool}(h1:dQ s 0 rex=jY s 0 k)(h2:bAt s 0=39∨(bAt s 0=47∧rex=true)) :
 gD s rex=if bD (neB b) s s.size 1=s.size then ⟨0,0,ByteArray.empty,0⟩ else if dj b (bk s 1 (bD (neB b) s s.size 1))=true∧(k=4→1≤(bk s 1 (bD (neB b) s s.size 1)).size) then ⟨k,0,bk s 1 (bD (neB b) s s.size 1),bD (neB b) s s.size 1+1⟩ else ⟨0,0,ByteArray.empty,0⟩:=by
 have h3:cF (bAt s 0)=true∨gC (bAt s 0)=true∨bAt s 0=39∨(bAt s 0=47∧rex=true):=.inr (.inr h2)
 unfold gD
 rw [if_pos h3,h1]
 unfold jY
 rw [hb]
 by_cases hr:bD (neB b) s s.size 1=s.size
 ·rw [if_pos hr,if_pos hr,if_neg (by simp [Tk.ok,bP])]
 ·rw [if_neg hr,if_neg hr]
  have hok:(Tk.mk k 0 (bk s 1 (bD (neB b) s s.size 1)) (bD (neB b) s s.size 1+1)).ok=true↔(dj b (bk s 1 (bD (neB b) s s.size 1))=true∧(k=4→1≤(bk s 1 (bD (neB b) s s.size 1)).size)):=by
   rcases hk with ⟨rfl,rfl⟩|⟨rfl,rfl⟩
   ·simp [Tk.ok,bP]
   ·simp [Tk.ok,bP]
  by_cases ho:dj b (bk s 1 (bD (neB b) s s.size 1))=true∧(k=4→1≤(bk s 1 (bD (neB b) s s.size 1)).size)
  ·rw [if_pos ho,if_pos (hok.2 ho)]
  ·rw [if_neg ho,if_neg fun h=>ho (hok.1 h)]
theorem tok_R {s:ByteArray}(h:bAt s 0=47):gD s true=if bD (neB 47) s s.size 1=s.size then ⟨0,0,ByteArray.empty,0⟩ else if (decide (1≤(bk s 1 (bD (neB 47) s s.size 1)).size)&&dj 47 (bk s 1 (bD (neB 47) s s.size 1)))=true then ⟨4,0,bk s 1 (bD (neB 47) s s.size 1),bD (neB 47) s s.size 1+1⟩ else ⟨0,0,ByteArray.empty,0⟩:=by
 rw [vW (k:=4) (b:=47) h (.inr ⟨rfl,rfl⟩) (by unfold dQ;rw [if_neg (by simp [cF,h]),if_neg (by simp [gC,h]),if_neg omq,if_pos ⟨h,rfl⟩]) (.inr ⟨h,rfl⟩)]
 congr 1
 by_cases h1:dj 47 (bk s 1 (bD (neB 47) s s.size 1))=true<;>by_cases h2:1≤(bk s 1 (bD (neB 47) s s.size 1)).size<;>simp [h1,h2]
theorem tok_Q {s:ByteArray}{rex:Bool}(h:bAt s 0=39):gD s rex=if bD (neB 39) s s.size 1=s.size then ⟨0,0,ByteArray.empty,0⟩ else if dj 39 (bk s 1 (bD (neB 39) s s.size 1))=true then ⟨3,0,bk s 1 (bD (neB 39) s s.size 1),bD (neB 39) s s.size 1+1⟩ else ⟨0,0,ByteArray.empty,0⟩:=by
 rw [vW (k:=3) (b:=39) h (.inl ⟨rfl,rfl⟩) (by unfold dQ;rw [if_neg (by simp [cF,h]),if_neg (by simp [gC,h]),if_pos h]) (.inl h)]
 simp
theorem tok_L {s:ByteArray}{rex:Bool}(h0:0<s.size)(h:gC (bAt s 0)=true):gD s rex=if bD ldB s s.size 0≤8 then ⟨2,0,bk s 0 (bD ldB s s.size 0),bD ldB s s.size 0⟩ else ⟨0,0,ByteArray.empty,0⟩:=by
 have h1:dQ s 0 rex=⟨2,0,bk s 0 (bD ldB s s.size 0),bD ldB s s.size 0⟩:=by
  unfold dQ
  rw [if_neg (by rw [qy h];simp),if_pos h]
 have h2:=(eI (p:=ldB) h0 (by simp [ldB,h])).2
 have h3:=bG (p:=ldB) (s:=s) s.size 0 omq omq
 have hz:=bO (s:=s) (a:=0) (b:=bD ldB s s.size 0) omq h3.2.1
 have hall:jW ldB (bk s 0 (bD ldB s s.size 0))=true:=fM fun j hj=>by
  rw [dB h3.2.1 omq,Nat.zero_add]
  exact h3.2.2.1 j omq omq
 have hfst:gC (bAt (bk s 0 (bD ldB s s.size 0)) 0)=true:=by rw [dB h3.2.1 omq];exact h
 have hok:(Tk.mk 2 0 (bk s 0 (bD ldB s s.size 0)) (bD ldB s s.size 0)).ok=true↔bD ldB s s.size 0≤8:=by
  have e2:bP 2 0 (bk s 0 (bD ldB s s.size 0))=dD (bk s 0 (bD ldB s s.size 0)):=by simp [bP]
  show bP 2 0 (bk s 0 (bD ldB s s.size 0))=true↔_
  rw [e2]
  simp only [dD,hall,hfst,hz,Bool.and_true,Bool.and_eq_true,decide_eq_true_iff]
  omega
 unfold gD
 rw [if_pos (show cF (bAt s 0)=true∨gC (bAt s 0)=true∨bAt s 0=39∨(bAt s 0=47∧rex=true) from .inr (.inl h)),h1]
 by_cases h8:bD ldB s s.size 0≤8
 ·rw [if_pos h8,if_pos (hok.2 h8)]
 ·rw [if_neg h8,if_neg fun h=>h8 (hok.1 h)]
theorem vX {s:ByteArray}:jW cF (bk s 0 (bD cF s s.size 0))=true:=by
 have h3:=bG (p:=cF) (s:=s) s.size 0 omq omq
 have hz:=bO (s:=s) (a:=0) (b:=bD cF s s.size 0) omq h3.2.1
 exact fM fun j hj=>by
  rw [dB h3.2.1 omq,Nat.zero_add]
  exact h3.2.2.1 j omq omq
theorem tok_D {s:ByteArray}{rex:Bool}(h0:0<s.size)(h:cF (bAt s 0)=true):gD s rex=if ky (bk s 0 (bD cF s s.size 0))≤2147483647∧i6 (ky (bk s 0 (bD cF s s.size 0)):Int)=bk s 0 (bD cF s s.size 0) then ⟨1,(ky (bk s 0 (bD cF s s.size 0)):Int),ByteArray.empty,bD cF s s.size 0⟩ else ⟨0,0,ByteArray.empty,0⟩:=by
 have h1:dQ s 0 rex=⟨1,vI (bk s 0 (bD cF s s.size 0)),ByteArray.empty,bD cF s s.size 0⟩:=by
  unfold dQ
  rw [if_pos h]
 have h2:=(eI (p:=cF) h0 h).2
 have h3:=bG (p:=cF) (s:=s) s.size 0 omq omq
 have hz:=bO (s:=s) (a:=0) (b:=bD cF s s.size 0) omq h3.2.1
 have hn:=zj1 (s:=bk s 0 (bD cF s s.size 0)) vX omq
 unfold gD
 rw [if_pos (show cF (bAt s 0)=true∨gC (bAt s 0)=true∨bAt s 0=39∨(bAt s 0=47∧rex=true) from .inl h),h1]
 unfold Tk.ok
 dsimp only
 by_cases hq:ky (bk s 0 (bD cF s s.size 0))≤2147483647∧i6 (ky (bk s 0 (bD cF s s.size 0)):Int)=bk s 0 (bD cF s s.size 0)
 ·have hq2:=hn.1 hq
  rw [if_pos hq,if_pos hq2]
  have:vI (bk s 0 (bD cF s s.size 0))=(ky (bk s 0 (bD cF s s.size 0)):Int):=by
   by_cases hb:1≤(bk s 0 (bD cF s s.size 0)).size∧(bk s 0 (bD cF s s.size 0)).size≤10∧¬(1<(bk s 0 (bD cF s s.size 0)).size∧bAt (bk s 0 (bD cF s s.size 0)) 0=48)
   ·exact ja hb
   ·rw [lj hb] at hq2
    exact absurd hq2 (by decide)
  rw [this]
 ·rw [if_neg hq,if_neg fun h=>hq (hn.2 h)]
theorem ze4 {s:ByteArray}(h:1≤s.size):dY (bk s 0 1)=lh (bAt s 0):=by
 have hz:=bO (s:=s) (a:=0) (b:=1) omq h
 have e:bAt (bk s 0 1) 0=bAt s 0:=dB h omq
 simp [dY,hz,e]
theorem rY {s:ByteArray}(h:2≤s.size):dY (bk s 0 2)=nE (bAt s 0) (bAt s 1):=by
 have hz:=bO (s:=s) (a:=0) (b:=2) omq h
 have e:bAt (bk s 0 2) 0=bAt s 0:=dB h omq
 have e1:bAt (bk s 0 2) 1=bAt s 1:=dB h omq
 simp [dY,hz,e,e1]
theorem tok_M {s:ByteArray}{rex:Bool}(h0:0<s.size)(h1:cF (bAt s 0)=false)(h2:gC (bAt s 0)=false)(h3:bAt s 0≠39)(h4:¬(bAt s 0=47∧rex=true)):gD s rex=⟨5,0,qq s,(qq s).size⟩:=by
 unfold gD dQ
 simp only [h1,h2,h3,h4,if_false,Bool.false_eq_true,or_self,Nat.zero_add]
 unfold qq
 by_cases hs:1<s.size∧dY (bk s 0 2)=true
 ·have h6:=rY (s:=s) omq
  have hz:=bO (s:=s) (a:=0) (b:=2) omq omq
  have hm:=hs.2
  rw [h6] at hm
  rw [if_pos hs,if_pos (show 2≤s.size∧nE (bAt s 0) (bAt s 1)=true from ⟨omq,hm⟩),if_pos (show (Tk.mk 5 0 (bk s 0 2) 2).ok=true by simp [Tk.ok,bP,hs.2]),hz]
 ·rw [if_neg hs]
  have h6:¬(2≤s.size∧nE (bAt s 0) (bAt s 1)=true):=fun ⟨a,b⟩=>hs ⟨omq,by rw [rY a];exact b⟩
  rw [if_neg h6]
  have h7:=ze4 (s:=s) omq
  have hz:=bO (s:=s) (a:=0) (b:=1) omq omq
  cases h8:lh (bAt s 0) with
  | true =>
   rw [h8] at h7
   rw [if_pos (show 1≤s.size∧true=true from ⟨omq,rfl⟩),if_pos (show (Tk.mk 5 0 (bk s 0 1) 1).ok=true by simp [Tk.ok,bP,h7]),hz]
  | false =>
   rw [h8] at h7
   rw [if_neg (show ¬(1≤s.size∧false=true) by simp),if_neg (show ¬(Tk.mk 5 0 (bk s 0 1) 1).ok=true by simp [Tk.ok,bP,h7])]
   rfl
theorem yZ {s:ByteArray}{rex:Bool}(h:(dQ s 0 rex).ok=true):gD s rex=dQ s 0 rex:=if_pos h
theorem zf4 {s:ByteArray}{rex:Bool}(h:¬(dQ s 0 rex).ok=true):(gD s rex).e=0:=by
 unfold gD
 rw [if_neg h]
 split<;>rfl
theorem vY (a:List (List UInt8))(x sep:List UInt8):Lib.join (a++[x]) sep=(if a=[] then [] else Lib.join a sep++sep)++x:=by
 cases a with
 | nil=>simp [Lib.join_one]
 | cons y r =>
  rw [List.cons_append,Lib.join_cons,Lib.join_cons,if_neg (by simp)]
  simp [Lib.joinTail,List.append_assoc]
theorem ic (a b:List UInt8):(ByteArray.mk (a++b).toArray)=⟨a.toArray⟩++⟨b.toArray⟩:=by rw [ByteArray.mk_append_mk]
theorem rZ (s:ByteArray):(ByteArray.mk s.data.toList.toArray)=s:=by cases s;rfl
theorem tl {a:List E}(x:E)(sep:ByteArray):jA (a++[x]) sep=(if a=[] then ByteArray.empty else jA a sep++sep)++mf x:=by
 unfold jA
 rw [List.map_append,List.map_cons,List.map_nil,vY,ic,rZ]
 congr 1
 by_cases h:a=[]
 ·subst h;rfl
 ·rw [if_neg h,if_neg (by simpa using h),ic,rZ]
abbrev T3:=Int×Int×ByteArray
def T3.E (t:T3):E:=tokE t.1 t.2.1 t.2.2
def tkT (k n:Int)(s:ByteArray):ByteArray :=
 if bP k n s=true then if k=1 then i6 n else if k=3 then (⟨#[39]⟩++s)++⟨#[39]⟩ else if k=4 then (⟨#[47]⟩++s)++⟨#[47]⟩ else s else ⟨#[]⟩
def T3.T (t:T3):ByteArray:=tkT t.1 t.2.1 t.2.2
def good (r:Bool)(t:T3):Prop:=bP t.1 t.2.1 t.2.2=true∧(t.1=4→r=true)∧(t.1=5→t.2.2=⟨#[47]⟩→r=false)
def ch:Bool→List T3→Bool→Prop
 | r,[],r'=>r=r'
 | r,t :: l,r'=>good r t∧ch (ou t.1 t.2.2) l r'
theorem vZ:∀{l:List T3} {r r':Bool} {t:T3},ch r l r'→good r' t→ch r (l++[t]) (ou t.1 t.2.2)
 | [],r,r',t,h,g=>by
  have:r=r':=h
  subst this
  exact⟨g,rfl⟩
 | x :: l,r,r',t,h,g=>⟨h.1,vZ (l:=l) h.2 g⟩
theorem v6:∀{l:List T3} {r r':Bool},ch r l r'→∀t∈l,bP t.1 t.2.1 t.2.2=true
 | [],_,_,_,t,ht=>by cases ht
 | x :: l,r,r',h,t,ht=>by
  rcases List.mem_cons.1 ht with rfl|ht
  ·exact h.1.1
  ·exact v6 h.2 t ht
def AtS (S:ByteArray)(a:Nat)(x:ByteArray):Prop:=a+x.size≤S.size∧∀j,j<x.size→bAt S (a+j)=bAt x j
theorem o6 {S x:ByteArray}{a:Nat}(h:AtS S a x):bk S a (a+x.size)=x:=by
 have hz:=bO (s:=S) (a:=a) (b:=a+x.size) omq h.1
 refine gR omq fun j hj=>?_
 rw [dB h.1 omq]
 exact h.2 j omq
theorem v7 {p:Nat→Bool}{S:ByteArray}{a e:Nat}(h1:a≤e)(h2:e≤S.size)(h3:∀j,a≤j→j<e→p (bAt S j)=true)(h4:e<S.size→p (bAt S e)=false):bD p S S.size a=e:=by
 obtain⟨g1,g2,g3,g4⟩:=bG (p:=p) (s:=S) S.size a omq omq
 rcases Nat.lt_trichotomy (bD p S S.size a) e with h|h|h
 ·have:=h3 _ g1 h
  rw [g4 omq] at this;cases this
 ·exact h
 ·have:=g3 e h1 h
  rw [h4 omq] at this;cases this
theorem zl1 (n:Nat):Lib.decDigits n=if n<10 then [UInt8.ofNat (48+n)] else Lib.decDigits (n / 10)++[UInt8.ofNat (48+n % 10)]:=by
 rw [Lib.decDigits]
 split<;>rfl
theorem ofN {k:Nat}(h:k<256):(UInt8.ofNat k).toNat=k:=by rw [UInt8.toNat_ofNat',Nat.mod_eq_of_lt h]
theorem nL:∀(m n:Nat),n≤m→jq 0 (Lib.decDigits n)=n∧digL (Lib.decDigits n)
 | 0,n,h=>by
  obtain rfl:n=0:=by omega
  rw [zl1,if_pos omq]
  refine⟨rfl,fun c hc=>?_⟩
  rw [List.mem_singleton.1 hc];decide
 | m+1,n,h=>by
  rw [zl1]
  split
  ·rename_i h10
   refine⟨?_,fun c hc=>?_⟩
   ·show 0*10+((UInt8.ofNat (48+n)).toNat-48)=n
    rw [ofN omq];omega
   ·rw [List.mem_singleton.1 hc,ofN omq];omega
  ·rename_i h10
   obtain⟨i1,i2⟩:=nL m (n / 10) omq
   refine⟨?_,fun c hc=>?_⟩
   ·rw [kA,nG,i1,ofN omq];omega
   ·rcases List.mem_append.1 hc with hc|hc
    ·exact i2 c hc
    ·rw [List.mem_singleton.1 hc,ofN omq];omega
theorem nM {n:Int}(h:0≤n):(i6 n).data.toList=Lib.decDigits n.toNat:=by
 obtain⟨k,rfl⟩:∃k:Nat,n=(k:Int):=⟨n.toNat,omq⟩
 rw [rP,Int.toNat_natCast]
theorem qz {n:Int}(h:0≤n):jW cF (i6 n)=true:=by
 have h2:=(nL _ n.toNat (Nat.le_refl _)).2
 rw [←nM h] at h2
 refine fM fun j hj=>?_
 have h3:=kB hj
 have h4:=h2 _ (List.mem_of_getElem? h3)
 rw [ofN (cI _ _)] at h4
 simpa [cF] using h4
theorem qA {n:Int}(h:0≤n):1≤(i6 n).size:=by
 have h2:=zi1 _ n.toNat (Nat.le_refl _)
 rw [←nM h] at h2
 have:(i6 n).data.toList.length=(i6 n).size:=Array.length_toList
 cases hl:(i6 n).data.toList with
 | nil=>exact absurd hl h2
 | cons c r=>rw [hl,List.length_cons] at this;omega
theorem y6 {n:Int}(h:0≤n)(h2:n≤2147483647):vI (i6 n)=n:=by
 have hv:ky (i6 n)=n.toNat:=by
  unfold ky
  rw [nM h];exact (nL _ n.toNat (Nat.le_refl _)).1
 have hn:=(zj1 (qz h) (qA h)).1 ⟨by rw [hv];omega,by rw [hv,Int.toNat_of_nonneg h]⟩
 by_cases hb:1≤(i6 n).size∧(i6 n).size≤10∧¬(1<(i6 n).size∧bAt (i6 n) 0=48)
 ·rw [ja hb,hv];omega
 ·rw [lj hb] at hn
  exact absurd hn (by decide)
theorem fd {x y:ByteArray}{j:Nat}(h:j<x.size):bAt (x++y) j=bAt x j:=by
 unfold bAt
 rw [ByteArray.data_append,Array.getElem?_append,if_pos (show j<x.data.size from h)]
theorem jc {x y:ByteArray}{j:Nat}(h:x.size≤j):bAt (x++y) j=bAt y (j-x.size):=by
 unfold bAt
 rw [ByteArray.data_append,Array.getElem?_append,if_neg (show ¬j<x.data.size from by show ¬j<x.size;omega)]
 rfl
theorem zm1 {S s:ByteArray}{a b:Nat}{b8:UInt8}(hb8:b8.toNat=b){k:Int}(h:AtS S a ((⟨#[b8]⟩++s)++⟨#[b8]⟩))(hs:dj b s=true):bAt S a=b∧jY S a k=⟨k,0,s,a+((⟨#[b8]⟩++s)++⟨#[b8]⟩:ByteArray).size⟩:=by
 have hz:((⟨#[b8]⟩++s)++⟨#[b8]⟩:ByteArray).size=s.size+2:=by
  rw [ByteArray.size_append',ByteArray.size_append']
  show 1+s.size+1=_;omega
 have h1:(⟨#[b8]⟩:ByteArray).size=1:=rfl
 have h1s:((⟨#[b8]⟩:ByteArray)++s).size=1+s.size:=by rw [ByteArray.size_append',h1]
 have hsz:=h.1
 rw [hz] at hsz
 have e0:bAt S a=b:=by
  have:=h.2 0 omq
  rw [Nat.add_zero,fd omq,fd omq] at this
  rw [this];exact hb8
 have ej:∀j,j<s.size→bAt S (a+1+j)=bAt s j:=fun j hj=>by
  have:=h.2 (1+j) omq
  rw [fd omq,jc omq,h1,Nat.add_sub_cancel_left] at this
  rw [Nat.add_assoc,this]
 have ee:bAt S (a+1+s.size)=b:=by
  have:=h.2 (1+s.size) omq
  rw [jc omq,h1s,Nat.sub_self] at this
  rw [Nat.add_assoc,this];exact hb8
 have hall:∀j,j<s.size→bAt s j≠b:=fun j hj=>by
  simp only [dj,Bool.and_eq_true,jW,decide_eq_true_iff] at hs
  have:=hs.2 j hj
  simp only [plB,Bool.and_eq_true,decide_eq_true_iff] at this
  exact this.2.2
 have hr:bD (neB b) S S.size (a+1)=a+1+s.size:=v7 omq omq (fun j h1 h2=>by
  have:=ej (j-(a+1)) omq
  rw [show a+1+(j-(a+1))=j by omega] at this
  rw [this]
  simp only [neB,decide_eq_true_iff]
  exact hall _ omq) fun _=>by rw [ee];simp [neB]
 refine⟨e0,?_⟩
 unfold jY
 rw [e0,hr,if_neg omq,hz]
 have hc:bk S (a+1) (a+1+s.size)=s:=o6 ⟨omq,ej⟩
 rw [hc]
 simp only [Tk.mk.injEq,true_and];omega
end Go.Proofs.YtomolhbkdhjofaaGreatDoor
