/- T -/
import Derived.Shelf.Lays
import Derived.Test.YtomolhbkdhjofaaGreatDoorParXM
set_option maxHeartbeats 0
set_option maxRecDepth 100000
namespace Go.Proofs.YtomolhbkdhjofaaGreatDoor
open Go.RowKit Go.Proofs.Tryz
def lk:ByteArray:=⟨#[123,125,40,41,91,93,44,59,36,43,45,42,47,37,46,60,62,33,126,61]⟩
theorem gR {s t:ByteArray}(h:s.size=t.size)(h2:∀j,j<s.size→bAt s j=bAt t j):s=t:=by
 apply ByteArray.ext
 apply Array.ext
 ·exact h
 ·intro i h3 h4
  have h5:=h2 i h3
  unfold bAt at h5
  rw [Array.getElem?_eq_getElem h3,Array.getElem?_eq_getElem h4] at h5
  exact UInt8.toNat_inj.1 h5
theorem vM {s:ByteArray}(h:s.size=2):s=⟨#[UInt8.ofNat (bAt s 0),UInt8.ofNat (bAt s 1)]⟩:=by
 refine gR h fun j hj=>?_
 rcases (show j=0∨j=1 by omega) with rfl|rfl
 ·show _=(UInt8.ofNat (bAt s 0)).toNat
  rw [UInt8.toNat_ofNat',Nat.mod_eq_of_lt (cI s 0)]
 ·show _=(UInt8.ofNat (bAt s 1)).toNat
  rw [UInt8.toNat_ofNat',Nat.mod_eq_of_lt (cI s 1)]
theorem zv6:∀c:Fin 256,lh c.1=true→∃j:Fin 20,bAt lk j.1=c.1:=by decide
theorem zw6:∀j:Fin 20,lh (bAt lk j.1)=true:=by decide
theorem rQ {j:Nat}(hj:j<20):(bk lk j (j+1)).size=1∧bAt (bk lk j (j+1)) 0=bAt lk j:=by
 have h20:lk.size=20:=rfl
 refine⟨by rw [bO omq omq];omega,?_⟩
 rw [dB omq omq];rfl
theorem yW {j:Nat}(hj:j<20):dY (bk lk j (j+1))=true:=by
 obtain⟨h1,h2⟩:=rQ hj
 have h3:=zw6 ⟨j,hj⟩
 simp only [dY,h1,h2,h3]
 simp
theorem zw3 {s:ByteArray}(a1:s≠⟨#[60,61]⟩)(a2:s≠⟨#[61,61]⟩)(a3:s≠⟨#[33,61]⟩)(a4:s≠⟨#[62,61]⟩)(a5:s≠⟨#[38,38]⟩)(a6:s≠⟨#[124,124]⟩)(h:∀j,j<20→s≠bk lk j (j+1)):dY s=false:=by
 cases hm:dY s with
 | false=>rfl
 | true =>
  exfalso
  simp only [dY,Bool.or_eq_true,Bool.and_eq_true,decide_eq_true_iff] at hm
  rcases hm with ⟨h2,h3⟩|⟨h2,h3⟩
  ·have e:=vM h2
   simp only [nE,Bool.or_eq_true,Bool.and_eq_true,decide_eq_true_iff] at h3
   rcases h3 with ⟨f1,f2|f2|f2|f2⟩|⟨f2,f1⟩|⟨f2,f1⟩<;>rw [f1,f2] at e
   ·exact a1 e
   ·exact a2 e
   ·exact a3 e
   ·exact a4 e
   ·exact a5 e
   ·exact a6 e
  ·obtain⟨j,hj⟩:=zv6 ⟨bAt s 0,cI s 0⟩ h3
   obtain⟨g1,g2⟩:=rQ j.2
   refine h j.1 j.2 (gR (by rw [h2,g1]) fun i hi=>?_)
   obtain rfl:i=0:=by omega
   rw [g2,hj]
theorem iI {s t:ByteArray}(h:(s.toList==t.toList)=true):s=t:=by rw [bytes_beq] at h;exact of_decide_eq_true h
theorem ll {s t:ByteArray}(h:(s.toList==t.toList)=false):s≠t:=by rw [bytes_beq] at h;exact of_decide_eq_false h
theorem rR (s:ByteArray):Ctr prog 119 [.c (.v (.string s))] [] (.c (.v (.bool (dY s)))) []:=by
 refine ay func119 rfl rfl ?_
 repeat' (first|(apply av;first|refine ak ?_|refine ai ?_|refine aC ?_)|refine aj ?_|refine ab ?_|refine aa fun C=>?_|refine ac ?_|refine ah ?_)
 refine ae (by rfl) (fun hC=>?_) fun hC=>?_
 ·have e:s=⟨#[60,61]⟩:=iI hC
  rw [show dY s=true by rw [e];rfl]
  repeat' (first|refine al ?_)
  show AWp _ _ _ _
  repeat' (first|(apply av;refine ai ?_)|refine aj ?_|refine ab ?_|refine aa fun C=>?_|refine ac ?_|refine aq rfl ?_)
  exact eo
 have a1:s≠⟨#[60,61]⟩:=ll hC
 repeat' (first|(apply av;first|refine ai ?_|refine aC ?_)|refine aj ?_|refine ab ?_|refine aa fun C=>?_|refine ac ?_)
 refine ae (by rfl) (fun hC=>?_) fun hC=>?_
 ·have e:s=⟨#[61,61]⟩:=iI hC
  rw [show dY s=true by rw [e];rfl]
  repeat' (first|refine al ?_)
  show AWp _ _ _ _
  repeat' (first|(apply av;refine ai ?_)|refine aj ?_|refine ab ?_|refine aa fun C=>?_|refine ac ?_|refine aq rfl ?_)
  exact eo
 have a2:s≠⟨#[61,61]⟩:=ll hC
 repeat' (first|(apply av;first|refine ai ?_|refine aC ?_)|refine aj ?_|refine ab ?_|refine aa fun C=>?_|refine ac ?_)
 refine ae (by rfl) (fun hC=>?_) fun hC=>?_
 ·have e:s=⟨#[33,61]⟩:=iI hC
  rw [show dY s=true by rw [e];rfl]
  repeat' (first|refine al ?_)
  show AWp _ _ _ _
  repeat' (first|(apply av;refine ai ?_)|refine aj ?_|refine ab ?_|refine aa fun C=>?_|refine ac ?_|refine aq rfl ?_)
  exact eo
 have a3:s≠⟨#[33,61]⟩:=ll hC
 repeat' (first|(apply av;first|refine ai ?_|refine aC ?_)|refine aj ?_|refine ab ?_|refine aa fun C=>?_|refine ac ?_)
 refine ae (by rfl) (fun hC=>?_) fun hC=>?_
 ·have e:s=⟨#[62,61]⟩:=iI hC
  rw [show dY s=true by rw [e];rfl]
  repeat' (first|refine al ?_)
  show AWp _ _ _ _
  repeat' (first|(apply av;refine ai ?_)|refine aj ?_|refine ab ?_|refine aa fun C=>?_|refine ac ?_|refine aq rfl ?_)
  exact eo
 have a4:s≠⟨#[62,61]⟩:=ll hC
 repeat' (first|(apply av;first|refine ai ?_|refine aC ?_)|refine aj ?_|refine ab ?_|refine aa fun C=>?_|refine ac ?_)
 refine ae (by rfl) (fun hC=>?_) fun hC=>?_
 ·have e:s=⟨#[38,38]⟩:=iI hC
  rw [show dY s=true by rw [e];rfl]
  repeat' (first|refine al ?_)
  show AWp _ _ _ _
  repeat' (first|(apply av;refine ai ?_)|refine aj ?_|refine ab ?_|refine aa fun C=>?_|refine ac ?_|refine aq rfl ?_)
  exact eo
 have a5:s≠⟨#[38,38]⟩:=ll hC
 repeat' (first|(apply av;first|refine ai ?_|refine aC ?_)|refine aj ?_|refine ab ?_|refine aa fun C=>?_)
 refine ae (by rfl) (fun hC=>?_) fun hC=>?_
 ·have e:s=⟨#[124,124]⟩:=iI hC
  rw [show dY s=true by rw [e];rfl]
  repeat' (first|refine al ?_)
  show AWp _ _ _ _
  repeat' (first|(apply av;refine ai ?_)|refine aj ?_|refine ab ?_|refine aa fun C=>?_|refine ac ?_)
  exact eo
 have a6:s≠⟨#[124,124]⟩:=ll hC
 repeat' (first|(apply av;refine ai ?_)|refine aj ?_|refine ab ?_|refine aa fun C=>?_|refine ac ?_|refine ah ?_|refine al ?_)
 have h20:(⟨#[123,125,40,41,91,93,44,59,36,43,45,42,47,37,46,60,62,33,126,61]⟩:ByteArray).size=20:=rfl
 refine aZ (fun k:Nat=>⟨e8 [(0,.c (.v (.string s))),(3,.c (.v (.int .i64 (k:Int))))],eT [],0,[],22⟩)
  (fun N k=>k+N=20∧∀j,j<k→s≠bk lk j (j+1)) 20 0 ⟨omq,fun j hj=>absurd hj (Nat.not_lt_zero j)⟩ ?_ ?_
 ·(refine aN _ _ rfl rfl ?_ ?_<;>exact tdy0)
 rintro N k ⟨hN,hr⟩
 try dsimp only
 have hk1:(k:Int)+1=((k+1:Nat):Int):=by omega
 repeat' (first|(apply av;first|refine ak ?_|refine aE ?_)|refine aj ?_|refine ab ?_|refine aa fun C=>?_|refine ac ?_)
 refine ae (by rfl) (fun hk=>?_) fun hk=>?_
 ·have hk':k<20:=by simp at hk;omega
  have hk2:k+1≤(⟨#[123,125,40,41,91,93,44,59,36,43,45,42,47,37,46,60,62,33,126,61]⟩:ByteArray).size:=by rw [h20];omega
  repeat' (first|(apply av;first|refine ak ?_|refine aC ?_|refine aw ?_|refine jw ?_)|refine aj ?_|refine ab ?_|refine aa fun C=>?_|refine ac ?_|refine ah ?_|refine al ?_)
  refine ae (by rfl) (fun hC=>?_) fun hC=>?_
  ·have e:s=bk lk k (k+1):=iI hC
   rw [show dY s=true by rw [e];exact yW hk']
   repeat' (first|(apply av;refine ai ?_)|refine aj ?_|refine ab ?_|refine aa fun C=>?_|refine ac ?_)
   exact eo
  ·have e:s≠bk lk k (k+1):=ll hC
   repeat' (first|(apply av;first|refine ak ?_|refine ai ?_|refine aw ?_)|refine aj ?_|refine ab ?_|refine aa fun C=>?_|refine al ?_)
   refine⟨N-1,k+1,omq,⟨omq,fun j hj=>?_⟩,?_⟩
   ·by_cases e2:j=k
    ·subst e2;exact e
    ·exact hr j omq
   ·(refine aN _ _ rfl rfl ?_ ?_<;>exact tdy0)
 ·have hk':¬k<20:=by simp at hk;omega
  rw [zw3 a1 a2 a3 a4 a5 a6 fun j hj=>hr j omq]
  repeat' (first|(apply av;refine ai ?_)|refine aj ?_|refine ab ?_|refine aa fun C=>?_|refine ac ?_|refine aB ?_)
  exact eo
theorem nH {s:ByteArray}:(s.toList==(ByteArray.mk #[]).toList)=decide (s.size=0):=by
 rw [bytes_beq]
 apply decide_eq_decide.2
 constructor
 ·rintro rfl;rfl
 ·intro h
  exact gR h fun j hj=>absurd hj omq
theorem nI {s:ByteArray}(hs:s.size≤1048576)(k n:Int):Ctr prog 88 [.ag [.v (.int .i64 k),.v (.int .i64 n),.v (.string s)]] [] (.c (.v (.bool (bP k n s)))) []:=by
 have c1:=iy n 0 2147483647
 have c2:=rN hs
 have c3:=lc hs (b:=39) omq
 have c4:=lc hs (b:=47) omq
 have c5:=rR s
 refine ay func88 rfl rfl ?_
 by_cases k1:k=1
 ·subst k1
  rw [show bP 1 n s=(inR n 0 2147483647&&decide (s.size=0)) by simp [bP,inR,Bool.and_assoc]]
  generalize inR n 0 2147483647=b at c1 ⊢
  cases b
  ·repeat' (first|(apply av;first|refine bC ?_|(refine aK ?_ ?_<;>intro hG<;>(try cases hG))|refine ai ?_|refine ba ?_|refine aI ?_|refine aG c1 ?_|refine ao ?_|refine aA ?_|refine cB ?_)|refine aj ?_|refine ab ?_|refine aa fun C=>?_|refine ac ?_|refine ah ?_|refine aq rfl ?_)
   exact eo
  ·rw [←nH]
   repeat' (first|(apply av;first|(refine aK ?_ ?_<;>intro hG<;>(try cases hG))|refine ai ?_|refine ba ?_|refine aI ?_|refine aG c1 ?_|refine ao ?_|refine aC ?_|refine aA ?_|refine cB ?_)|refine aj ?_|refine ab ?_|refine aa fun C=>?_|refine ac ?_|refine ah ?_|refine aq rfl ?_)
   exact eo
 by_cases k2:k=2
 ·subst k2
  rw [show bP 2 n s=(dD s&&decide (n=0)) by simp [bP]]
  generalize dD s=b at c2 ⊢
  cases b
  ·repeat' (first|(apply av;first|refine bC ?_|(refine aK ?_ ?_<;>intro hG<;>(try cases hG))|refine ai ?_|refine ba ?_|refine aI ?_|refine aG c2 ?_|refine ao ?_|refine aA ?_|refine cB ?_)|refine aj ?_|refine ab ?_|refine aa fun C=>?_|refine ac ?_|refine ah ?_|refine aq rfl ?_|refine ar rfl ?_)
   exact eo
  ·repeat' (first|(apply av;first|(refine aK ?_ ?_<;>intro hG<;>(try cases hG))|refine ai ?_|refine ba ?_|refine aI ?_|refine aG c2 ?_|refine ao ?_|refine aA ?_|refine cB ?_)|refine aj ?_|refine ab ?_|refine aa fun C=>?_|refine ac ?_|refine ah ?_|refine aq rfl ?_|refine ar rfl ?_)
   exact eo
 by_cases k3:k=3
 ·subst k3
  rw [show bP 3 n s=(dj 39 s&&decide (n=0)) by simp [bP]]
  generalize dj 39 s=b at c3 ⊢
  cases b
  ·repeat' (first|(apply av;first|refine bC ?_|(refine aK ?_ ?_<;>intro hG<;>(try cases hG))|refine ai ?_|refine ba ?_|refine aI ?_|refine aG c3 ?_|refine ao ?_|refine aA ?_|refine cB ?_)|refine aj ?_|refine ab ?_|refine aa fun C=>?_|refine ac ?_|refine ah ?_|refine aq rfl ?_|refine ar rfl ?_)
   exact eo
  ·repeat' (first|(apply av;first|(refine aK ?_ ?_<;>intro hG<;>(try cases hG))|refine ai ?_|refine ba ?_|refine aI ?_|refine aG c3 ?_|refine ao ?_|refine aA ?_|refine cB ?_)|refine aj ?_|refine ab ?_|refine aa fun C=>?_|refine ac ?_|refine ah ?_|refine aq rfl ?_|refine ar rfl ?_)
   exact eo
 by_cases k4:k=4
 ·subst k4
  rw [show bP 4 n s=(dj 47 s&&(!(decide (s.size=0))&&decide (n=0))) by rw [show (!(decide (s.size=0)))=decide (1≤s.size) by rw [←decide_not];exact decide_eq_decide.2 omq];simp [bP],←nH]
  generalize dj 47 s=b at c4 ⊢
  generalize hq:(s.toList==(ByteArray.mk #[]).toList)=q
  cases b
  ·repeat' (first|(apply av;first|refine bC ?_|(refine aK ?_ ?_<;>intro hG<;>(try cases hG))|refine ai ?_|refine ba ?_|refine aI ?_|refine aG c4 ?_|refine ao ?_|refine aA ?_|refine cB ?_)|refine aj ?_|refine ab ?_|refine aa fun C=>?_|refine ac ?_|refine ah ?_|refine aq rfl ?_|refine ar rfl ?_)
   exact eo
  ·repeat' (first|(apply av;first|refine bC ?_|(refine aK ?_ ?_<;>intro hG<;>(try cases hG))|refine ai ?_|refine ba ?_|refine aI ?_|refine aG c4 ?_|refine ao ?_|refine jy ?_|refine aA ?_|refine cB ?_)|refine aj ?_|refine ab ?_|refine aa fun C=>?_|refine ac ?_|refine ah ?_|(refine ae (by rfl) ?_ ?_<;>intro hC<;>(try cases hC)))
   all_goals first
    | (cases q<;>simp_all;done)
    | ((first|refine am ?_|skip);refine bv rfl aJ ⟨?_,rfl⟩;refine congrArg (fun s=>AV.c (AC.v (Value.bool s))) ?_;cases q<;>simp_all;done)
    | ((first|refine am ?_|skip);refine bv rfl aJ ⟨?_,rfl⟩;refine congrArg (fun s=>AV.c (AC.v (Value.bool s))) ?_;cases q<;>simp_all<;>(rw [Bool.eq_iff_iff];simp))
 by_cases k5:k=5
 ·subst k5
  rw [show bP 5 n s=(dY s&&decide (n=0)) by simp [bP]]
  generalize dY s=b at c5 ⊢
  cases b
  ·repeat' (first|(apply av;first|refine bC ?_|(refine aK ?_ ?_<;>intro hG<;>(try cases hG))|refine ai ?_|refine ba ?_|refine aI ?_|refine aG c5 ?_|refine ao ?_|refine aA ?_|refine cB ?_)|refine aj ?_|refine ab ?_|refine aa fun C=>?_|refine ac ?_|refine ah ?_|refine aq rfl ?_|refine ar rfl ?_)
   exact eo
  ·repeat' (first|(apply av;first|(refine aK ?_ ?_<;>intro hG<;>(try cases hG))|refine ai ?_|refine ba ?_|refine aI ?_|refine aG c5 ?_|refine ao ?_|refine aA ?_|refine cB ?_)|refine aj ?_|refine ab ?_|refine aa fun C=>?_|refine ac ?_|refine ah ?_|refine aq rfl ?_|refine ar rfl ?_)
   exact eo
 rw [show bP k n s=false by simp [bP,k1,k2,k3,k4,k5]]
 repeat' (first|(apply av;first|refine ai ?_|refine ba ?_|refine aI ?_|refine ao ?_|refine cB ?_)|refine aj ?_|refine ab ?_|refine aa fun C=>?_|refine ac ?_|refine ah ?_|refine al ?_|(refine ae (by rfl) ?_ ?_<;>intro hC<;>(try cases hC)))
 all_goals first
  | (exfalso;simp_all;done)
  | (refine am ?_;refine bv rfl aJ ⟨?_,rfl⟩;rfl)
theorem rtq6 {p:Prop}(h:p:=by refine am ?_;refine bv rfl (bS (aD (bh (aS rfl (aS rfl (aS rfl aV)))) (aD aJ bc))) ⟨?_,rfl⟩;rfl):p:=h
theorem rS {s:ByteArray}(hs:s.size≤1048576){a:Nat}(ha:a≤s.size):Ctr prog 86 [.c (.v (.string s)),.c (.v (.int .i64 (a:Int)))] [] (.c (.v (.int .i64 (er s a:Nat)))) []:=by
 refine ay func86 rfl rfl ?_
 repeat' (first|(apply av;refine ai ?_)|refine aj ?_|refine ab ?_|refine aa fun C=>?_|refine ac ?_|refine ah ?_)
 refine aZ (fun k:Nat=>⟨e8 [(0,.c (.v (.string s))),(1,.c (.v (.int .i64 (k:Int))))],eT [],0,[],44⟩)
  (fun N k=>k+N=s.size∧er s a=er s k) (s.size-a) a ⟨omq,rfl⟩ ?_ ?_
 ·(refine aN _ _ rfl rfl ?_ ?_<;>exact tdy0)
 rintro N k ⟨hN,hr⟩
 try dsimp only
 repeat' (first|(apply av;first|refine ak ?_|refine be ?_|refine aE ?_)|refine aj ?_|refine ab ?_|refine aa fun C=>?_|refine ac ?_)
 refine ae (by rfl) (fun hk=>?_) fun hk=>?_
 ·have hk':k<s.size:=by simpa using hk
  clear hk
  by_cases hb:blB (bAt s k)=true
  ·have hp:er s a=er s (k+1):=by rw [hr,iH hk' hb]
   simp only [blB,Bool.or_eq_true,decide_eq_true_iff] at hb
   repeat' (first|(apply av;first|refine bC ?_|(refine aK ?_ ?_<;>intro hG<;>(try cases hG))|refine ak ?_|refine ai ?_|refine aW ?_|refine aw ?_|refine aA ?_|refine cb ?_)|refine aj ?_|refine ab ?_|refine aa fun C=>?_|refine ac ?_|refine ah ?_|refine al ?_|(refine ae (by rfl) ?_ ?_<;>intro hC<;>(try cases hC)))
   all_goals first
    | (exfalso;simp only [beq_iff_eq,beq_eq_false_iff_ne,ne_eq,Bool.false_eq_true,Bool.true_eq_false] at *;first|omega|assumption)
    | (refine⟨N-1,k+1,omq,⟨omq,hp⟩,?_⟩;(refine aN _ _ rfl rfl ?_ ?_<;>(repeat' (first|exact TmOk.nil|exact RwOk.nil|refine TmOk.cons ?_ ?_|refine RwOk.cons ?_ ?_|rfl|(refine rnV_id' rfl ?_;exact byc)|(refine cE ?_;first|rfl|omega|(rw [bA omq omq];omega))|(refine bf rfl ?_;exact byc)|exact dH rfl rfl|(refine rw_mid (by rfl) (by rfl) ?_ ?_<;>exact byc)|(refine rw_rn' rfl rfl ?_;simp;done)))))
  ·have hb':¬(bAt s k=32∨bAt s k=9∨bAt s k=10∨bAt s k=13):=by simpa [blB] using hb
   by_cases h35:bAt s k=35
   ·have hp:er s a=er s (bD (neB 10) s s.size k):=by rw [hr,li hk' h35]
    have c1:=oX hs (a:=k) (c:=10) omq omq
    have h1:=(eI hk' (show neB 10 (bAt s k)=true by simp [neB,h35])).2
    have h2:=(bG (p:=neB 10) (s:=s) s.size k omq omq).2.1
    generalize bD (neB 10) s s.size k=e at c1 h1 h2 hp
    repeat' (first|(apply av;first|refine bC ?_|(refine aK ?_ ?_<;>intro hG<;>(try cases hG))|refine ak ?_|refine ai ?_|refine aG c1 ?_|refine aW ?_|refine aw ?_|refine aA ?_|refine cb ?_)|refine aj ?_|refine ab ?_|refine aa fun C=>?_|refine ac ?_|refine ah ?_|refine al ?_|(refine ae (by rfl) ?_ ?_<;>intro hC<;>(try cases hC)))
    all_goals first
     | (exfalso;simp only [beq_iff_eq,beq_eq_false_iff_ne,ne_eq,Bool.false_eq_true,Bool.true_eq_false] at *;first|omega|assumption)
     | (refine⟨s.size-e,e,omq,⟨omq,hp⟩,?_⟩;(refine aN _ _ rfl rfl ?_ ?_<;>(repeat' (first|exact TmOk.nil|exact RwOk.nil|refine TmOk.cons ?_ ?_|refine RwOk.cons ?_ ?_|rfl|(refine rnV_id' rfl ?_;exact byc)|(refine cE ?_;first|rfl|omega|(rw [bA omq omq];omega))|(refine bf rfl ?_;exact byc)|exact dH rfl rfl|(refine rw_mid (by rfl) (by rfl) ?_ ?_<;>exact byc)|(refine rw_rn' rfl rfl ?_;simp;done)))))
   ·rw [hr,ga fun h=>h.2.elim hb h35]
    repeat' (first|(apply av;first|refine bC ?_|(refine aK ?_ ?_<;>intro hG<;>(try cases hG))|refine ak ?_|refine ai ?_|refine aW ?_|refine aw ?_|refine aA ?_|refine cb ?_)|refine aj ?_|refine ab ?_|refine aa fun C=>?_|refine ac ?_|refine ah ?_|refine al ?_|(refine ae (by rfl) ?_ ?_<;>intro hC<;>(try cases hC)))
    all_goals first
     | (exfalso;simp only [beq_iff_eq,beq_eq_false_iff_ne,ne_eq,Bool.false_eq_true,Bool.true_eq_false] at *;first|omega|assumption)
     | (refine am ?_;refine bv rfl aJ ⟨?_,rfl⟩;rfl)
 ·have hk':¬k<s.size:=by simpa using hk
  rw [hr,ga fun h=>hk' h.1]
  repeat' (first|(apply av;first|refine ak ?_|refine ai ?_)|refine aj ?_|refine ab ?_|refine aa fun C=>?_|refine ac ?_|refine aB ?_)
  exact eo
theorem zx3 {s:ByteArray}(hs:s.size≤1048576){a:Nat}(ha:a<s.size)(rex:Bool):Ctr prog 87 [.c (.v (.string s)),.c (.v (.int .i64 (a:Int))),.c (.v (.bool rex))] [] (.tu [.ag [.v (.int .i64 (dQ s a rex).k),.v (.int .i64 (dQ s a rex).n),.v (.string (dQ s a rex).s)],.c (.v (.int .i64 ((dQ s a rex).e:Int)))]) []:=by
 have cd:=gQ (cI s a)
 have cl:=kZ (cI s a)
 have cq:=ti hs ha
 have hlt:=cI s a
 refine ay func87 rfl rfl ?_
 unfold dQ
 cases h1:cF (bAt s a) with
 | true =>
  rw [h1] at cd
  rw [if_pos rfl]
  have c1:=yT hs (a:=a) omq
  have hr:=bG (p:=cF) (s:=s) s.size a omq omq
  have hd:jW cF (bk s a (bD cF s s.size a))=true:=fM fun j hj=>by
   rw [bO hr.1 hr.2.1] at hj
   rw [dB hr.2.1 hj]
   exact hr.2.2.1 _ omq omq
  have g1:=hr.1
  have g2:=hr.2.1
  clear hr
  generalize bD cF s s.size a=e at c1 hd g1 g2 ⊢
  have c2:=zv3 hd
  repeat' (first|(apply av;first|refine ak ?_|refine ai ?_|refine aG cd ?_|refine aG c1 ?_|refine aG c2 ?_|refine bg ?_|refine bI ?_|refine cb ?_|refine jw ?_|refine az ?_)|refine aj ?_|refine ab ?_|refine aa fun C=>?_|refine ac ?_|refine ah ?_|refine aq rfl ?_)
  exact rtq6
 | false =>
  rw [h1] at cd
  rw [if_neg (by simp)]
  cases h2:gC (bAt s a) with
  | true =>
   rw [h2] at cl
   rw [if_pos rfl]
   have c1:=yU hs (a:=a) omq
   have hr:=bG (p:=ldB) (s:=s) s.size a omq omq
   have g1:=hr.1
   have g2:=hr.2.1
   clear hr
   generalize bD ldB s s.size a=e at c1 g1 g2 ⊢
   repeat' (first|(apply av;first|refine ak ?_|refine ai ?_|refine aG cd ?_|refine aG cl ?_|refine aG c1 ?_|refine bg ?_|refine bI ?_|refine cb ?_|refine jw ?_|refine az ?_)|refine aj ?_|refine ab ?_|refine aa fun C=>?_|refine ac ?_|refine ah ?_|refine aq rfl ?_|refine ar rfl ?_)
   exact rtq6
  | false =>
   rw [h2] at cl
   rw [if_neg (by simp)]
   by_cases h39:bAt s a=39
   ·rw [if_pos h39]
    have c3:=cq 3
    generalize jY s a 3=q at c3 ⊢
    obtain⟨q1,q2,q3,q4⟩:=q
    repeat' (first|(apply av;first|refine ak ?_|refine ai ?_|refine aG cd ?_|refine aG cl ?_|refine aW ?_|refine bI ?_|refine cb ?_)|refine aj ?_|refine ab ?_|refine aa fun C=>?_|refine ac ?_|refine ah ?_|refine ar rfl ?_)
    refine ae (by rfl) (fun hC=>?_) fun hC=>?_
    ·repeat' (first|(apply av;first|refine ak ?_|refine ai ?_|refine dp c3 ?_|refine bg ?_|(apply qn;first|refine cK ?_|refine az ?_))|refine aj ?_|refine ab ?_|refine aa fun C=>?_|refine ac ?_)
     exact rtq6
    ·exfalso;simp only [beq_eq_false_iff_ne,ne_eq] at hC;omega
   ·rw [if_neg h39]
    repeat' (first|(apply av;first|refine ak ?_|refine ai ?_|refine aG cd ?_|refine aG cl ?_|refine aW ?_|refine bI ?_|refine cb ?_)|refine aj ?_|refine ab ?_|refine aa fun C=>?_|refine ac ?_|refine ah ?_|refine ar rfl ?_)
    refine ae (by rfl) (fun hC=>?_) fun _=>?_
    ·exfalso;simp only [beq_iff_eq] at hC;omega
    by_cases h47:bAt s a=47∧rex=true
    ·rw [if_pos h47]
     obtain⟨h47,rfl⟩:=h47
     have c3:=cq 4
     generalize jY s a 4=q at c3 ⊢
     obtain⟨q1,q2,q3,q4⟩:=q
     repeat' (first|(apply av;first|refine bC ?_|(refine aK ?_ ?_<;>intro hG<;>(try cases hG))|refine ak ?_|refine ai ?_|refine dp c3 ?_|refine be ?_|refine bg ?_|refine aW ?_|refine aE ?_|refine aw ?_|refine aA ?_|(apply qn;first|refine cK ?_|refine az ?_)|refine jw ?_|refine az ?_)|refine aj ?_|refine ab ?_|refine aa fun C=>?_|refine ac ?_|refine al ?_|(refine ae (by rfl) ?_ ?_<;>intro hC<;>(try cases hC)))
     all_goals first
      | (exfalso;simp only [beq_iff_eq,beq_eq_false_iff_ne,ne_eq,Bool.false_eq_true,Bool.true_eq_false] at *;first|omega|assumption)
      | (refine am ?_;refine bv rfl (bS (aD (bh (aS rfl (aS rfl (aS rfl aV)))) (aD aJ bc))) ⟨?_,rfl⟩;rfl)
    ·rw [if_neg h47]
     have h47':bAt s a≠47∨rex=false:=by
      by_cases e:bAt s a=47
      ·right;cases rex with
       | false=>rfl
       | true=>exact absurd ⟨e,rfl⟩ h47
      ·exact .inl e
     have ha1:(a:Int)+1=((a+1:Nat):Int):=by omega
     have ha2:(a:Int)+2=((a+2:Nat):Int):=by omega
     have cm:=rR (bk s a (a+2))
     by_cases hz:a+1<s.size
     ·cases hm:dY (bk s a (a+2)) with
      | true =>
       rw [hm] at cm
       rw [if_pos ⟨hz,rfl⟩]
       rcases h47' with e|rfl
       ·repeat' (first|(apply av;first|refine bC ?_|(refine aK ?_ ?_<;>intro hG<;>(try cases hG))|refine ak ?_|refine ai ?_|refine aG cm ?_|refine be ?_|refine bg ?_|refine aW ?_|refine aE ?_|refine aw ?_|refine aA ?_|refine jw ?_|refine az ?_)|refine aj ?_|refine ab ?_|refine aa fun C=>?_|refine ac ?_|refine al ?_|(refine ae (by rfl) ?_ ?_<;>intro hC<;>(try cases hC)))
        all_goals first
         | (exfalso;simp only [beq_iff_eq,beq_eq_false_iff_ne,ne_eq,Bool.false_eq_true,Bool.true_eq_false,decide_eq_true_iff,decide_eq_false_iff_not] at *;first|omega|assumption)
         | (refine am ?_;refine bv rfl (bS (aD (bh (aS rfl (aS rfl (aS rfl aV)))) (aD aJ bc))) ⟨?_,rfl⟩;rfl)
       ·repeat' (first|(apply av;first|refine bC ?_|(refine aK ?_ ?_<;>intro hG<;>(try cases hG))|refine ak ?_|refine ai ?_|refine aG cm ?_|refine be ?_|refine bg ?_|refine aW ?_|refine aE ?_|refine aw ?_|refine aA ?_|refine jw ?_|refine az ?_)|refine aj ?_|refine ab ?_|refine aa fun C=>?_|refine ac ?_|refine al ?_|(refine ae (by rfl) ?_ ?_<;>intro hC<;>(try cases hC)))
        all_goals first
         | (exfalso;simp only [beq_iff_eq,beq_eq_false_iff_ne,ne_eq,Bool.false_eq_true,Bool.true_eq_false,decide_eq_true_iff,decide_eq_false_iff_not] at *;first|omega|assumption)
         | (refine am ?_;refine bv rfl (bS (aD (bh (aS rfl (aS rfl (aS rfl aV)))) (aD aJ bc))) ⟨?_,rfl⟩;rfl)
      | false =>
       rw [hm] at cm
       rw [if_neg (by simp)]
       rcases h47' with e|rfl
       ·repeat' (first|(apply av;first|refine bC ?_|(refine aK ?_ ?_<;>intro hG<;>(try cases hG))|refine ak ?_|refine ai ?_|refine aG cm ?_|refine be ?_|refine bg ?_|refine aW ?_|refine aE ?_|refine aw ?_|refine aA ?_|refine jw ?_|refine az ?_)|refine aj ?_|refine ab ?_|refine aa fun C=>?_|refine ac ?_|refine al ?_|(refine ae (by rfl) ?_ ?_<;>intro hC<;>(try cases hC)))
        all_goals first
         | (exfalso;simp only [beq_iff_eq,beq_eq_false_iff_ne,ne_eq,Bool.false_eq_true,Bool.true_eq_false,decide_eq_true_iff,decide_eq_false_iff_not] at *;first|omega|assumption)
         | (refine am ?_;refine bv rfl (bS (aD (bh (aS rfl (aS rfl (aS rfl aV)))) (aD aJ bc))) ⟨?_,rfl⟩;rfl)
       ·repeat' (first|(apply av;first|refine bC ?_|(refine aK ?_ ?_<;>intro hG<;>(try cases hG))|refine ak ?_|refine ai ?_|refine aG cm ?_|refine be ?_|refine bg ?_|refine aW ?_|refine aE ?_|refine aw ?_|refine aA ?_|refine jw ?_|refine az ?_)|refine aj ?_|refine ab ?_|refine aa fun C=>?_|refine ac ?_|refine al ?_|(refine ae (by rfl) ?_ ?_<;>intro hC<;>(try cases hC)))
        all_goals first
         | (exfalso;simp only [beq_iff_eq,beq_eq_false_iff_ne,ne_eq,Bool.false_eq_true,Bool.true_eq_false,decide_eq_true_iff,decide_eq_false_iff_not] at *;first|omega|assumption)
         | (refine am ?_;refine bv rfl (bS (aD (bh (aS rfl (aS rfl (aS rfl aV)))) (aD aJ bc))) ⟨?_,rfl⟩;rfl)
     ·rw [if_neg fun h=>hz h.1]
      rcases h47' with e|rfl
      ·repeat' (first|(apply av;first|refine bC ?_|(refine aK ?_ ?_<;>intro hG<;>(try cases hG))|refine ak ?_|refine ai ?_|refine be ?_|refine bg ?_|refine aW ?_|refine aE ?_|refine aw ?_|refine aA ?_|refine jw ?_|refine az ?_)|refine aj ?_|refine ab ?_|refine aa fun C=>?_|refine ac ?_|refine al ?_|(refine ae (by rfl) ?_ ?_<;>intro hC<;>(try cases hC)))
       all_goals first
        | (exfalso;simp only [beq_iff_eq,beq_eq_false_iff_ne,ne_eq,Bool.false_eq_true,Bool.true_eq_false,decide_eq_true_iff,decide_eq_false_iff_not] at *;first|omega|assumption)
        | (refine am ?_;refine bv rfl (bS (aD (bh (aS rfl (aS rfl (aS rfl aV)))) (aD aJ bc))) ⟨?_,rfl⟩;rfl)
      ·repeat' (first|(apply av;first|refine bC ?_|(refine aK ?_ ?_<;>intro hG<;>(try cases hG))|refine ak ?_|refine ai ?_|refine be ?_|refine bg ?_|refine aW ?_|refine aE ?_|refine aw ?_|refine aA ?_|refine jw ?_|refine az ?_)|refine aj ?_|refine ab ?_|refine aa fun C=>?_|refine ac ?_|refine al ?_|(refine ae (by rfl) ?_ ?_<;>intro hC<;>(try cases hC)))
       all_goals first
        | (exfalso;simp only [beq_iff_eq,beq_eq_false_iff_ne,ne_eq,Bool.false_eq_true,Bool.true_eq_false,decide_eq_true_iff,decide_eq_false_iff_not] at *;first|omega|assumption)
        | (refine am ?_;refine bv rfl (bS (aD (bh (aS rfl (aS rfl (aS rfl aV)))) (aD aJ bc))) ⟨?_,rfl⟩;rfl)
theorem tdy1 {p:Prop}(h:p:=by repeat' (first|exact TmOk.nil|exact RwOk.nil|refine TmOk.cons ?_ ?_|refine RwOk.cons ?_ ?_|rfl|exact bf rfl (by assumption)|exact bf rfl (bytC_cloB _)|(refine rnV_id' rfl ?_;exact byc)|(refine cE ?_;first|rfl|omega|(rw [bA omq omq];omega))|(refine bf rfl ?_;exact byc)|exact dH rfl rfl|(refine rw_mid (by rfl) (by rfl) ?_ ?_<;>exact byc)|(refine rw_rn' rfl rfl ?_;simp;done))):p:=h
theorem rU {l:List E}{e:E}:owL (l++[e])=owL l++owE e:=by rw [fj];show owL l++(owE e++[])=_;rw [List.append_nil]
theorem vN {s:ByteArray}(hs:s.size≤1048576):Ctr prog 53 [.c (.v (.string s))] [] (.tu [.c (.ow 63 (iq s).1.length 3 (owL (iq s).1)),.c (.v (.int .i64 (iq s).2))]) []:=by
 have c0:=rS hs (a:=0) (Nat.zero_le _)
 have hp0:=vK (s:=s) (a:=0) (Nat.zero_le _)
 unfold iq
 obtain⟨⟨L,P⟩,hL⟩:∃r,th s (er s 0) false []=r:=⟨_,rfl⟩
 rw [hL]
 dsimp only
 generalize er s 0=a0 at c0 hp0 hL
 refine ay func53 rfl rfl ?_
 repeat' (first|(apply av;first|refine ak ?_|refine ai ?_|refine aG c0 ?_|refine ec ?_)|refine aj ?_|refine ab ?_|refine aa fun C=>?_|refine ac ?_|refine ah ?_)
 refine aZ (fun d:Nat×Bool×List E=>⟨e8 [(0,.c (.v (.string s))),(4,.c (.sl 9 d.2.2.length)),(5,.c (.v (.bool d.2.1))),(6,.c (.v (.int .i64 (d.1:Int))))],eT [(9,9,⟨63,3,d.2.2.length,false,owL d.2.2⟩)],0,[9],49⟩)
  (fun N d=>d.1+N=s.size∧d.2.2.length≤2000∧th s d.1 d.2.1 d.2.2=(L,P)) (s.size-a0) (a0,false,[]) ⟨by dsimp only;omega,Nat.zero_le _,hL⟩ ?_ ?_
 ·show Gh _ _
  (refine aN _ _ rfl rfl ?_ ?_<;>exact tdy1)
 rintro N ⟨k,rex,out⟩ ⟨hN,hl,hI⟩
 dsimp only at hN hl hI ⊢
 by_cases hk:k<s.size
 ·have c1:=zx3 hs hk rex
  have hlt:=nF (rex:=rex) hk
  have hy:=qt (rex:=rex) (out:=out) hk
  have hn:=zg1 (rex:=rex) (out:=out) hk
  have hz:(dQ s k rex).s.size≤1048576:=zt3 hs hk
  unfold Tk.ok Tk.E at hy
  unfold Tk.ok at hn
  obtain⟨⟨q1,q2,q3,e⟩,hq⟩:∃q,dQ s k rex=q:=⟨_,rfl⟩
  rw [hq] at c1 hlt hy hn hz
  dsimp only at c1 hlt hy hn hz
  clear hq
  have c2:=nI hz q1 q2
  have c3:=rS hs hlt.2
  have hp:=vK (s:=s) hlt.2
  cases ho:bP q1 q2 q3 with
  | false =>
   rw [ho] at c2 hn
   rw [hn (by simp)] at hI
   obtain⟨rfl,rfl⟩:=Prod.mk.injEq ..▸hI
   repeat' (first|(apply av;first|refine bC ?_|(refine aK ?_ ?_<;>intro hG<;>(try cases hG))|refine ak ?_|refine dI (v:=.tu _) ?_|refine ai ?_|refine bL ?_|refine dp c1 ?_|refine aG c2 ?_|refine be ?_|refine bg ?_|refine aE ?_|refine bM ?_|refine aA ?_|(apply qn;first|refine cK ?_|refine az ?_)|refine bI ?_|refine ec ?_)|refine aj ?_|refine ab ?_|refine aa fun C=>?_|refine ac ?_|refine ah ?_|refine al ?_|refine aB ?_|(refine ae (by rfl) ?_ ?_<;>intro hC<;>(try cases hC)))
   all_goals first
    | (exfalso;simp only [decide_eq_true_iff,decide_eq_false_iff_not] at *;omega)
    | (refine am ?_
       exact bv rfl (bS (aD (iC (bB (rw:=⟨63,3,0,false,[]⟩) rfl rfl rfl rfl aV)) (aD aJ bc))) ⟨rfl,rfl⟩)
  | true =>
   rw [ho] at c2 hn hy
   by_cases hm:out.length=2000
   ·rw [hn (by simp [hm])] at hI
    obtain⟨rfl,rfl⟩:=Prod.mk.injEq ..▸hI
    repeat' (first|(apply av;first|refine bC ?_|(refine aK ?_ ?_<;>intro hG<;>(try cases hG))|refine ak ?_|refine dI (v:=.tu _) ?_|refine ai ?_|refine ba ?_|refine aI ?_|refine bL ?_|refine dp c1 ?_|refine aG c2 ?_|refine be ?_|refine cU ?_|refine ip ?_|refine bg ?_|refine ao ?_|refine aC ?_|refine aE ?_|refine bM ?_|refine aA ?_|(apply qn;first|refine cK ?_|refine az ?_)|refine bI ?_|refine ec ?_)|refine aj ?_|refine ab ?_|refine aa fun C=>?_|refine ac ?_|refine ah ?_|refine al ?_|refine aB ?_|(refine ae (by rfl) ?_ ?_<;>intro hC<;>(try cases hC)))
    all_goals first
     | (exfalso;simp only [decide_eq_true_iff,decide_eq_false_iff_not,beq_iff_eq,beq_eq_false_iff_ne,ne_eq] at *;omega)
     | (refine am ?_
        exact bv rfl (bS (aD (iC (bB (rw:=⟨63,3,0,false,[]⟩) rfl rfl rfl rfl aV)) (aD aJ bc))) ⟨rfl,rfl⟩)
   ·rw [hy rfl hm] at hI
    clear hn hy ho c0
    generalize er s e=b at c3 hp hI
    by_cases h5:q1=5
    ·subst h5
     rw [show ou 5 q3=(q3.toList==(⟨#[126]⟩:ByteArray).toList) by rw [bytes_beq];simp [ou]] at hI
     repeat' (first|(apply av;first|(refine aK ?_ ?_<;>intro hG<;>(try cases hG))|refine ak ?_|refine dI (v:=.tu _) ?_|refine ai ?_|refine ba ?_|refine aI ?_|refine bL ?_|refine dp c1 ?_|refine aG c2 ?_|refine aG c3 ?_|refine be ?_|refine cU ?_|refine ip ?_|refine bg ?_|refine ao ?_|refine aC ?_|refine aE ?_|refine bM ?_|refine aA ?_|(apply qn;first|refine cK ?_|refine az ?_)|refine bI ?_|refine ec ?_)|refine aj ?_|refine ab ?_|refine aa fun C=>?_|refine ac ?_|refine ah ?_|refine al ?_|refine aB ?_|(refine ae (by rfl) ?_ ?_<;>intro hC<;>(try cases hC)))
     all_goals first
      | (exfalso;simp only [decide_eq_true_iff,decide_eq_false_iff_not,beq_iff_eq,beq_eq_false_iff_ne,ne_eq] at *;omega)
      | (refine⟨s.size-b,(b,q3.toList==(⟨#[126]⟩:ByteArray).toList,out++[tokE 5 q2 q3]),omq,⟨by dsimp only;omega,by dsimp only;rw [List.length_append,List.length_singleton];omega,hI⟩,?_⟩
         dsimp only
         rw [List.length_append,List.length_singleton]
         (refine eu (fun j=>if j=9 then 36 else j) _ _ rfl rfl ?_ ?_<;>(repeat' (first|exact TmOk.nil|exact RwOk.nil|refine TmOk.cons ?_ ?_|refine RwOk.cons ?_ ?_|rfl|exact bf rfl (by assumption)|exact bf rfl (bytC_cloB _)|(refine rnV_id' rfl ?_;exact byc)|(refine cE ?_;first|rfl|omega|(rw [bA omq omq];omega))|(refine bf rfl ?_;exact byc)|exact dH rfl rfl|(refine rw_mid (by rfl) (by rfl) ?_ ?_<;>exact byc)|(refine rw_rn' rfl rfl ?_;simp;done))))
         exact fa (r:=⟨63,3,out.length+1,false,owL out++[.v (.int .i64 5),.v (.int .i64 q2),.v (.string q3)]⟩) rfl (by rw [rU];rfl) (a8 _))
    ·rw [show ou q1 q3=false by simp [ou,h5]] at hI
     repeat' (first|(apply av;first|refine bC ?_|(refine aK ?_ ?_<;>intro hG<;>(try cases hG))|refine ak ?_|refine dI (v:=.tu _) ?_|refine ai ?_|refine ba ?_|refine aI ?_|refine bL ?_|refine dp c1 ?_|refine aG c2 ?_|refine aG c3 ?_|refine be ?_|refine cU ?_|refine ip ?_|refine bg ?_|refine ao ?_|refine aC ?_|refine aE ?_|refine bM ?_|refine aA ?_|(apply qn;first|refine cK ?_|refine az ?_)|refine bI ?_|refine ec ?_)|refine aj ?_|refine ab ?_|refine aa fun C=>?_|refine ac ?_|refine ah ?_|refine al ?_|refine aB ?_|(refine ae (by rfl) ?_ ?_<;>intro hC<;>(try cases hC)))
     all_goals first
      | (exfalso;simp only [decide_eq_true_iff,decide_eq_false_iff_not,beq_iff_eq,beq_eq_false_iff_ne,ne_eq] at *;first|omega|contradiction)
      | (refine⟨s.size-b,(b,false,out++[tokE q1 q2 q3]),omq,⟨by dsimp only;omega,by dsimp only;rw [List.length_append,List.length_singleton];omega,hI⟩,?_⟩
         dsimp only
         rw [List.length_append,List.length_singleton]
         (refine eu (fun j=>if j=9 then 36 else j) _ _ rfl rfl ?_ ?_<;>(repeat' (first|exact TmOk.nil|exact RwOk.nil|refine TmOk.cons ?_ ?_|refine RwOk.cons ?_ ?_|rfl|exact bf rfl (by assumption)|exact bf rfl (bytC_cloB _)|(refine rnV_id' rfl ?_;exact byc)|(refine cE ?_;first|rfl|omega|(rw [bA omq omq];omega))|(refine bf rfl ?_;exact byc)|exact dH rfl rfl|(refine rw_mid (by rfl) (by rfl) ?_ ?_<;>exact byc)|(refine rw_rn' rfl rfl ?_;simp;done))))
         exact fa (r:=⟨63,3,out.length+1,false,owL out++[.v (.int .i64 q1),.v (.int .i64 q2),.v (.string q3)]⟩) rfl (by rw [rU];rfl) (a8 _))
 ·rw [qs hk] at hI
  obtain⟨rfl,rfl⟩:=Prod.mk.injEq ..▸hI
  repeat' (first|(apply av;first|refine ak ?_|refine ai ?_|refine be ?_|refine aE ?_)|refine aj ?_|refine ab ?_|refine aa fun C=>?_|refine ac ?_|refine ah ?_|refine al ?_|refine aB ?_|(refine ae (by rfl) ?_ ?_<;>intro hC<;>(try cases hC)))
  all_goals first
   | (exfalso;simp only [decide_eq_true_iff,decide_eq_false_iff_not] at *;omega)
   | (refine am ?_
      exact bv rfl (bS (aD (iC (bB (rw:=⟨63,3,out.length,false,owL out⟩) rfl rfl rfl (a8 _) aV)) (aD aJ bc))) ⟨rfl,rfl⟩)
end Go.Proofs.YtomolhbkdhjofaaGreatDoor
namespace Go.Proofs.YtomolhbkdhjofaaGreatDoor
open Go.RowKit Go.Shelf Go.Proofs.Tryz
def qu:Go.Shelf.Ren:=⟨fun|137=>39|217=>60|266=>97|n=>n,fun|9=>9|5=>5|3=>3|n=>n,fun|n=>n⟩
theorem zy3:Go.Proofs.Lays.n137 prog qu:={
 mixed:=by kernel_rfl
 f137:=func39.trans (congrArg some (by kernel_rfl))
 f217:=func60.trans (congrArg some (by kernel_rfl))
 f266:=func97.trans (congrArg some (by kernel_rfl))
 t3:=underlying3
 a3:=Tryz.isAgg3
 z3:=Tryz.sizeOf3
 v3:=Tryz.zeroValue3
 t5:=underlying5
 a5:=Tryz.isAgg5
 z5:=Tryz.sizeOf5
 v5:=Tryz.zeroValue5
 t9:=underlying9
 a9:=Tryz.isAgg9
 z9:=Tryz.sizeOf9
 v9:=Tryz.zeroValue9 }
end Go.Proofs.YtomolhbkdhjofaaGreatDoor
