/- T -/
import Derived.Shelf.Lays
import Derived.Shelf.Strings.BuilderX
import Derived.Shelf.Small.Strs
import Derived.Shelf.Strings.OnBuilder
import Derived.Test.YtomolhbkdhjofaaGreatDoorExRK
set_option maxHeartbeats 0
set_option maxRecDepth 100000
namespace Go.Proofs.YtomolhbkdhjofaaGreatDoor
open Go.RowKit Go.Proofs.Tryz
def l6:ByteArray:=⟨#[123,125,40,41,91,93,44,59,36,43,45,42,47,37,46,60,62,33,126,61]⟩
theorem iw {s t:ByteArray}(h:s.size=t.size)(h2:∀j,j<s.size→bAt s j=bAt t j):s=t:=by
 apply ByteArray.ext
 apply Array.ext
 ·exact h
 ·intro i h3 h4
  have h5:=h2 i h3
  unfold bAt at h5
  rw [Array.getElem?_eq_getElem h3,Array.getElem?_eq_getElem h4] at h5
  exact UInt8.toNat_inj.1 h5
theorem wk {s:ByteArray}(h:s.size=2):s=⟨#[UInt8.ofNat (bAt s 0),UInt8.ofNat (bAt s 1)]⟩:=by
 refine iw h fun j hj=>?_
 rcases (show j=0∨j=1 by omega) with rfl|rfl
 ·show _=(UInt8.ofNat (bAt s 0)).toNat
  rw [UInt8.toNat_ofNat',Nat.mod_eq_of_lt (cZ s 0)]
 ·show _=(UInt8.ofNat (bAt s 1)).toNat
  rw [UInt8.toNat_ofNat',Nat.mod_eq_of_lt (cZ s 1)]
theorem zr7:∀c:Fin 256,lY c.1=true→∃j:Fin 20,bAt l6 j.1=c.1:=by decide
theorem zs7:∀j:Fin 20,lY (bAt l6 j.1)=true:=by decide
theorem sn {j:Nat}(hj:j<20):(bz l6 j (j+1)).size=1∧bAt (bz l6 j (j+1)) 0=bAt l6 j:=by
 have h20:l6.size=20:=rfl
 refine⟨by rw [bO omq omq];omega,?_⟩
 rw [d6 omq omq];rfl
theorem zn {j:Nat}(hj:j<20):eI (bz l6 j (j+1))=true:=by
 obtain⟨h1,h2⟩:=sn hj
 have h3:=zs7 ⟨j,hj⟩
 simp only [eI,h1,h2,h3]
 simp
theorem zs4 {s:ByteArray}(a1:s≠⟨#[60,61]⟩)(a2:s≠⟨#[61,61]⟩)(a3:s≠⟨#[33,61]⟩)(a4:s≠⟨#[62,61]⟩)(a5:s≠⟨#[38,38]⟩)(a6:s≠⟨#[124,124]⟩)(h:∀j,j<20→s≠bz l6 j (j+1)):eI s=false:=by
 cases hm:eI s with
 | false=>rfl
 | true =>
  exfalso
  simp only [eI,Bool.or_eq_true,baq,dqt] at hm
  rcases hm with ⟨h2,h3⟩|⟨h2,h3⟩
  ·have e:=wk h2
   simp only [n8,Bool.or_eq_true,baq,dqt] at h3
   rcases h3 with ⟨f1,f2|f2|f2|f2⟩|⟨f2,f1⟩|⟨f2,f1⟩<;>rw [f1,f2] at e
   ·exact a1 e
   ·exact a2 e
   ·exact a3 e
   ·exact a4 e
   ·exact a5 e
   ·exact a6 e
  ·obtain⟨j,hj⟩:=zr7 ⟨bAt s 0,cZ s 0⟩ h3
   obtain⟨g1,g2⟩:=sn j.2
   refine h j.1 j.2 (iw (by rw [h2,g1]) fun i hi=>?_)
   obtain rfl:i=0:=by omega
   rw [g2,hj]
theorem jl {s t:ByteArray}(h:(s.toList==t.toList)=true):s=t:=by rw [bytes_beq] at h;exact of_decide_eq_true h
theorem l7 {s t:ByteArray}(h:(s.toList==t.toList)=false):s≠t:=by rw [bytes_beq] at h;exact of_decide_eq_false h
theorem sq (s:ByteArray):Ctr prog 119 [.c (.v (.string s))] [] (.c (.v (.bool (eI s)))) []:=by
 refine az func119 rfl rfl ?_
 repeat' (first|(apply ay;first|refine ak ?_|refine ai ?_|refine aC ?_)|refine aj ?_|refine ab ?_|refine aa fun C=>?_|refine ac ?_|refine ah ?_)
 refine ae rqf (fun hC=>?_) fun hC=>?_
 ·have e:s=⟨#[60,61]⟩:=jl hC
  rw [show eI s=true by rw [e];rfl]
  repeat' (first|refine al ?_)
  show AWp _ _ _ _
  repeat' (first|(apply ay;refine ai ?_)|refine aj ?_|refine ab ?_|refine aa fun C=>?_|refine ac ?_|refine aq rfl ?_)
  exact eo
 have a1:s≠⟨#[60,61]⟩:=l7 hC
 repeat' (first|(apply ay;first|refine ai ?_|refine aC ?_)|refine aj ?_|refine ab ?_|refine aa fun C=>?_|refine ac ?_)
 refine ae rqf (fun hC=>?_) fun hC=>?_
 ·have e:s=⟨#[61,61]⟩:=jl hC
  rw [show eI s=true by rw [e];rfl]
  repeat' (first|refine al ?_)
  show AWp _ _ _ _
  repeat' (first|(apply ay;refine ai ?_)|refine aj ?_|refine ab ?_|refine aa fun C=>?_|refine ac ?_|refine aq rfl ?_)
  exact eo
 have a2:s≠⟨#[61,61]⟩:=l7 hC
 repeat' (first|(apply ay;first|refine ai ?_|refine aC ?_)|refine aj ?_|refine ab ?_|refine aa fun C=>?_|refine ac ?_)
 refine ae rqf (fun hC=>?_) fun hC=>?_
 ·have e:s=⟨#[33,61]⟩:=jl hC
  rw [show eI s=true by rw [e];rfl]
  repeat' (first|refine al ?_)
  show AWp _ _ _ _
  repeat' (first|(apply ay;refine ai ?_)|refine aj ?_|refine ab ?_|refine aa fun C=>?_|refine ac ?_|refine aq rfl ?_)
  exact eo
 have a3:s≠⟨#[33,61]⟩:=l7 hC
 repeat' (first|(apply ay;first|refine ai ?_|refine aC ?_)|refine aj ?_|refine ab ?_|refine aa fun C=>?_|refine ac ?_)
 refine ae rqf (fun hC=>?_) fun hC=>?_
 ·have e:s=⟨#[62,61]⟩:=jl hC
  rw [show eI s=true by rw [e];rfl]
  repeat' (first|refine al ?_)
  show AWp _ _ _ _
  repeat' (first|(apply ay;refine ai ?_)|refine aj ?_|refine ab ?_|refine aa fun C=>?_|refine ac ?_|refine aq rfl ?_)
  exact eo
 have a4:s≠⟨#[62,61]⟩:=l7 hC
 repeat' (first|(apply ay;first|refine ai ?_|refine aC ?_)|refine aj ?_|refine ab ?_|refine aa fun C=>?_|refine ac ?_)
 refine ae rqf (fun hC=>?_) fun hC=>?_
 ·have e:s=⟨#[38,38]⟩:=jl hC
  rw [show eI s=true by rw [e];rfl]
  repeat' (first|refine al ?_)
  show AWp _ _ _ _
  repeat' (first|(apply ay;refine ai ?_)|refine aj ?_|refine ab ?_|refine aa fun C=>?_|refine ac ?_|refine aq rfl ?_)
  exact eo
 have a5:s≠⟨#[38,38]⟩:=l7 hC
 repeat' (first|(apply ay;first|refine ai ?_|refine aC ?_)|refine aj ?_|refine ab ?_|refine aa fun C=>?_)
 refine ae rqf (fun hC=>?_) fun hC=>?_
 ·have e:s=⟨#[124,124]⟩:=jl hC
  rw [show eI s=true by rw [e];rfl]
  repeat' (first|refine al ?_)
  show AWp _ _ _ _
  repeat' (first|(apply ay;refine ai ?_)|refine aj ?_|refine ab ?_|refine aa fun C=>?_|refine ac ?_)
  exact eo
 have a6:s≠⟨#[124,124]⟩:=l7 hC
 repeat' (first|(apply ay;refine ai ?_)|refine aj ?_|refine ab ?_|refine aa fun C=>?_|refine ac ?_|refine ah ?_|refine al ?_)
 have h20:(⟨#[123,125,40,41,91,93,44,59,36,43,45,42,47,37,46,60,62,33,126,61]⟩:ByteArray).size=20:=rfl
 refine aY (fun k:Nat=>⟨ft [(0,.c (.v (.string s))),(3,.c (.v (.int .i64 (k:Int))))],eW [],0,[],22⟩)
  (fun N k=>k+N=20∧∀j,j<k→s≠bz l6 j (j+1)) 20 0 ⟨omq,fun j hj=>absurd hj (Nat.not_lt_zero j)⟩ ?_ ?_
 ·(refine aL _ _ rfl rfl ?_ ?_<;>exact tdy0)
 rintro N k ⟨hN,hr⟩
 try dsimp only
 have hk1:(k:Int)+1=((k+1:Nat):Int):=by omega
 repeat' (first|(apply ay;first|refine ak ?_|refine aA ?_)|refine aj ?_|refine ab ?_|refine aa fun C=>?_|refine ac ?_)
 refine ae rqf (fun hk=>?_) fun hk=>?_
 ·have hk':k<20:=by simp at hk;omega
  have hk2:k+1≤(⟨#[123,125,40,41,91,93,44,59,36,43,45,42,47,37,46,60,62,33,126,61]⟩:ByteArray).size:=by rw [h20];omega
  repeat' (first|(apply ay;first|refine ak ?_|refine aC ?_|refine aw ?_|refine fy ?_)|refine aj ?_|refine ab ?_|refine aa fun C=>?_|refine ac ?_|refine ah ?_|refine al ?_)
  refine ae rqf (fun hC=>?_) fun hC=>?_
  ·have e:s=bz l6 k (k+1):=jl hC
   rw [show eI s=true by rw [e];exact zn hk']
   repeat' (first|(apply ay;refine ai ?_)|refine aj ?_|refine ab ?_|refine aa fun C=>?_|refine ac ?_)
   exact eo
  ·have e:s≠bz l6 k (k+1):=l7 hC
   repeat' (first|(apply ay;first|refine ak ?_|refine ai ?_|refine aw ?_)|refine aj ?_|refine ab ?_|refine aa fun C=>?_|refine al ?_)
   refine⟨N-1,k+1,omq,⟨omq,fun j hj=>?_⟩,?_⟩
   ·by_cases e2:j=k
    ·subst e2;exact e
    ·exact hr j omq
   ·(refine aL _ _ rfl rfl ?_ ?_<;>exact tdy0)
 ·have hk':¬k<20:=by simp at hk;omega
  rw [zs4 a1 a2 a3 a4 a5 a6 fun j hj=>hr j omq]
  repeat' (first|(apply ay;refine ai ?_)|refine aj ?_|refine ab ?_|refine aa fun C=>?_|refine ac ?_|refine aE ?_)
  exact eo
theorem oc {s:ByteArray}:(s.toList==(ByteArray.mk #[]).toList)=decide (s.size=0):=by
 rw [bytes_beq]
 apply decide_eq_decide.2
 constructor
 ·rintro rfl;rfl
 ·intro h
  exact iw h fun j hj=>absurd hj omq
theorem od {s:ByteArray}(hs:s.size≤1048576)(k n:Int):Ctr prog 88 [.ag [.v (.int .i64 k),.v (.int .i64 n),.v (.string s)]] [] (.c (.v (.bool (bY k n s)))) []:=by
 have c1:=jc n 0 2147483647
 have c2:=sj hs
 have c3:=lW hs (b:=39) omq
 have c4:=lW hs (b:=47) omq
 have c5:=sq s
 refine az func88 rfl rfl ?_
 by_cases k1:k=1
 ·subst k1
  rw [show bY 1 n s=(inR n 0 2147483647&&decide (s.size=0)) by simp [bY,inR,Bool.and_assoc]]
  generalize inR n 0 2147483647=b at c1 ⊢
  cases b
  ·repeat' (first|(apply ay;first|refine bH ?_|(refine aK ?_ ?_<;>intro hG<;>(try cases hG))|refine ai ?_|refine bf ?_|refine aI ?_|refine aH c1 ?_|refine ao ?_|refine aB ?_|refine cE ?_)|refine aj ?_|refine ab ?_|refine aa fun C=>?_|refine ac ?_|refine ah ?_|refine aq rfl ?_)
   exact eo
  ·rw [←oc]
   repeat' (first|(apply ay;first|(refine aK ?_ ?_<;>intro hG<;>(try cases hG))|refine ai ?_|refine bf ?_|refine aI ?_|refine aH c1 ?_|refine ao ?_|refine aC ?_|refine aB ?_|refine cE ?_)|refine aj ?_|refine ab ?_|refine aa fun C=>?_|refine ac ?_|refine ah ?_|refine aq rfl ?_)
   exact eo
 by_cases k2:k=2
 ·subst k2
  rw [show bY 2 n s=(d8 s&&decide (n=0)) by simp [bY]]
  generalize d8 s=b at c2 ⊢
  cases b
  ·repeat' (first|(apply ay;first|refine bH ?_|(refine aK ?_ ?_<;>intro hG<;>(try cases hG))|refine ai ?_|refine bf ?_|refine aI ?_|refine aH c2 ?_|refine ao ?_|refine aB ?_|refine cE ?_)|refine aj ?_|refine ab ?_|refine aa fun C=>?_|refine ac ?_|refine ah ?_|refine aq rfl ?_|refine ar rfl ?_)
   exact eo
  ·repeat' (first|(apply ay;first|(refine aK ?_ ?_<;>intro hG<;>(try cases hG))|refine ai ?_|refine bf ?_|refine aI ?_|refine aH c2 ?_|refine ao ?_|refine aB ?_|refine cE ?_)|refine aj ?_|refine ab ?_|refine aa fun C=>?_|refine ac ?_|refine ah ?_|refine aq rfl ?_|refine ar rfl ?_)
   exact eo
 by_cases k3:k=3
 ·subst k3
  rw [show bY 3 n s=(dE 39 s&&decide (n=0)) by simp [bY]]
  generalize dE 39 s=b at c3 ⊢
  cases b
  ·repeat' (first|(apply ay;first|refine bH ?_|(refine aK ?_ ?_<;>intro hG<;>(try cases hG))|refine ai ?_|refine bf ?_|refine aI ?_|refine aH c3 ?_|refine ao ?_|refine aB ?_|refine cE ?_)|refine aj ?_|refine ab ?_|refine aa fun C=>?_|refine ac ?_|refine ah ?_|refine aq rfl ?_|refine ar rfl ?_)
   exact eo
  ·repeat' (first|(apply ay;first|(refine aK ?_ ?_<;>intro hG<;>(try cases hG))|refine ai ?_|refine bf ?_|refine aI ?_|refine aH c3 ?_|refine ao ?_|refine aB ?_|refine cE ?_)|refine aj ?_|refine ab ?_|refine aa fun C=>?_|refine ac ?_|refine ah ?_|refine aq rfl ?_|refine ar rfl ?_)
   exact eo
 by_cases k4:k=4
 ·subst k4
  rw [show bY 4 n s=(dE 47 s&&(!(decide (s.size=0))&&decide (n=0))) by rw [show (!(decide (s.size=0)))=decide (1≤s.size) by rw [←decide_not];exact decide_eq_decide.2 omq];simp [bY],←oc]
  generalize dE 47 s=b at c4 ⊢
  generalize hq:(s.toList==(ByteArray.mk #[]).toList)=q
  cases b
  ·repeat' (first|(apply ay;first|refine bH ?_|(refine aK ?_ ?_<;>intro hG<;>(try cases hG))|refine ai ?_|refine bf ?_|refine aI ?_|refine aH c4 ?_|refine ao ?_|refine aB ?_|refine cE ?_)|refine aj ?_|refine ab ?_|refine aa fun C=>?_|refine ac ?_|refine ah ?_|refine aq rfl ?_|refine ar rfl ?_)
   exact eo
  ·repeat' (first|(apply ay;first|refine bH ?_|(refine aK ?_ ?_<;>intro hG<;>(try cases hG))|refine ai ?_|refine bf ?_|refine aI ?_|refine aH c4 ?_|refine ao ?_|refine dM ?_|refine aB ?_|refine cE ?_)|refine aj ?_|refine ab ?_|refine aa fun C=>?_|refine ac ?_|refine ah ?_|(refine ae rqf ?_ ?_<;>intro hC<;>(try cases hC)))
   all_goals first
    | (cases q<;>simp_all;done)
    | ((first|refine am ?_|skip);refine bA rfl aJ ⟨?_,rfl⟩;refine congrArg (fun s=>AV.c (AC.v (Value.bool s))) ?_;cases q<;>simp_all;done)
    | ((first|refine am ?_|skip);refine bA rfl aJ ⟨?_,rfl⟩;refine congrArg (fun s=>AV.c (AC.v (Value.bool s))) ?_;cases q<;>simp_all<;>(rw [Bool.eq_iff_iff];simp))
 by_cases k5:k=5
 ·subst k5
  rw [show bY 5 n s=(eI s&&decide (n=0)) by simp [bY]]
  generalize eI s=b at c5 ⊢
  cases b
  ·repeat' (first|(apply ay;first|refine bH ?_|(refine aK ?_ ?_<;>intro hG<;>(try cases hG))|refine ai ?_|refine bf ?_|refine aI ?_|refine aH c5 ?_|refine ao ?_|refine aB ?_|refine cE ?_)|refine aj ?_|refine ab ?_|refine aa fun C=>?_|refine ac ?_|refine ah ?_|refine aq rfl ?_|refine ar rfl ?_)
   exact eo
  ·repeat' (first|(apply ay;first|(refine aK ?_ ?_<;>intro hG<;>(try cases hG))|refine ai ?_|refine bf ?_|refine aI ?_|refine aH c5 ?_|refine ao ?_|refine aB ?_|refine cE ?_)|refine aj ?_|refine ab ?_|refine aa fun C=>?_|refine ac ?_|refine ah ?_|refine aq rfl ?_|refine ar rfl ?_)
   exact eo
 rw [show bY k n s=false by simp [bY,k1,k2,k3,k4,k5]]
 repeat' (first|(apply ay;first|refine ai ?_|refine bf ?_|refine aI ?_|refine ao ?_|refine cE ?_)|refine aj ?_|refine ab ?_|refine aa fun C=>?_|refine ac ?_|refine ah ?_|refine al ?_|(refine ae rqf ?_ ?_<;>intro hC<;>(try cases hC)))
 all_goals first
  | (exfalso;simp_all;done)
  | (refine am ?_;refine bA rfl aJ ⟨?_,rfl⟩;rfl)
theorem rtq6 {p:Prop}(h:p:=by refine am ?_;refine bA rfl (cg (aG (bi (aO rfl (aO rfl (aO rfl aQ)))) (aG aJ bj))) ⟨?_,rfl⟩;rfl):p:=h
theorem sr {s:ByteArray}(hs:s.size≤1048576){a:Nat}(ha:a≤s.size):Ctr prog 86 [.c (.v (.string s)),.c (.v (.int .i64 (a:Int)))] [] (.c (.v (.int .i64 (eV s a:Nat)))) []:=by
 refine az func86 rfl rfl ?_
 repeat' (first|(apply ay;refine ai ?_)|refine aj ?_|refine ab ?_|refine aa fun C=>?_|refine ac ?_|refine ah ?_)
 refine aY (fun k:Nat=>⟨ft [(0,.c (.v (.string s))),(1,.c (.v (.int .i64 (k:Int))))],eW [],0,[],44⟩)
  (fun N k=>k+N=s.size∧eV s a=eV s k) (s.size-a) a ⟨omq,rfl⟩ ?_ ?_
 ·(refine aL _ _ rfl rfl ?_ ?_<;>exact tdy0)
 rintro N k ⟨hN,hr⟩
 try dsimp only
 repeat' (first|(apply ay;first|refine ak ?_|refine a7 ?_|refine aA ?_)|refine aj ?_|refine ab ?_|refine aa fun C=>?_|refine ac ?_)
 refine ae rqf (fun hk=>?_) fun hk=>?_
 ·have hk':k<s.size:=by simpa using hk
  clear hk
  by_cases hb:blB (bAt s k)=true
  ·have hp:eV s a=eV s (k+1):=by rw [hr,jk hk' hb]
   simp only [blB,Bool.or_eq_true,dqt] at hb
   repeat' (first|(apply ay;first|refine bH ?_|(refine aK ?_ ?_<;>intro hG<;>(try cases hG))|refine ak ?_|refine ai ?_|refine aR ?_|refine aw ?_|refine aB ?_|refine bV ?_)|refine aj ?_|refine ab ?_|refine aa fun C=>?_|refine ac ?_|refine ah ?_|refine al ?_|(refine ae rqf ?_ ?_<;>intro hC<;>(try cases hC)))
   all_goals first
    | (exfalso;simp only [beq_iff_eq,beq_eq_false_iff_ne,ne_eq,Bool.false_eq_true,Bool.true_eq_false] at *;first|omega|assumption)
    | (refine⟨N-1,k+1,omq,⟨omq,hp⟩,?_⟩;(refine aL _ _ rfl rfl ?_ ?_<;>(repeat' (first|exact TmOk.nil|exact RwOk.nil|refine TmOk.cons ?_ ?_|refine RwOk.cons ?_ ?_|rfl|(refine rnV_id' rfl ?_;exact byc)|(refine cK ?_;first|rfl|omega|(rw [bB omq omq];omega))|(refine bg rfl ?_;exact byc)|exact dP rfl rfl|(refine rw_mid rqf rqf ?_ ?_<;>exact byc)|(refine rw_rn' rfl rfl ?_;simp;done)))))
  ·have hb':¬(bAt s k=32∨bAt s k=9∨bAt s k=10∨bAt s k=13):=by simpa [blB] using hb
   by_cases h35:bAt s k=35
   ·have hp:eV s a=eV s (bL (neB 10) s s.size k):=by rw [hr,lZ hk' h35]
    have c1:=po hs (a:=k) (c:=10) omq omq
    have h1:=(fh hk' (show neB 10 (bAt s k)=true by simp [neB,h35])).2
    have h2:=(bP (p:=neB 10) (s:=s) s.size k omq omq).2.1
    generalize bL (neB 10) s s.size k=e at c1 h1 h2 hp
    repeat' (first|(apply ay;first|refine bH ?_|(refine aK ?_ ?_<;>intro hG<;>(try cases hG))|refine ak ?_|refine ai ?_|refine aH c1 ?_|refine aR ?_|refine aw ?_|refine aB ?_|refine bV ?_)|refine aj ?_|refine ab ?_|refine aa fun C=>?_|refine ac ?_|refine ah ?_|refine al ?_|(refine ae rqf ?_ ?_<;>intro hC<;>(try cases hC)))
    all_goals first
     | (exfalso;simp only [beq_iff_eq,beq_eq_false_iff_ne,ne_eq,Bool.false_eq_true,Bool.true_eq_false] at *;first|omega|assumption)
     | (refine⟨s.size-e,e,omq,⟨omq,hp⟩,?_⟩;(refine aL _ _ rfl rfl ?_ ?_<;>(repeat' (first|exact TmOk.nil|exact RwOk.nil|refine TmOk.cons ?_ ?_|refine RwOk.cons ?_ ?_|rfl|(refine rnV_id' rfl ?_;exact byc)|(refine cK ?_;first|rfl|omega|(rw [bB omq omq];omega))|(refine bg rfl ?_;exact byc)|exact dP rfl rfl|(refine rw_mid rqf rqf ?_ ?_<;>exact byc)|(refine rw_rn' rfl rfl ?_;simp;done)))))
   ·rw [hr,gO fun h=>h.2.elim hb h35]
    repeat' (first|(apply ay;first|refine bH ?_|(refine aK ?_ ?_<;>intro hG<;>(try cases hG))|refine ak ?_|refine ai ?_|refine aR ?_|refine aw ?_|refine aB ?_|refine bV ?_)|refine aj ?_|refine ab ?_|refine aa fun C=>?_|refine ac ?_|refine ah ?_|refine al ?_|(refine ae rqf ?_ ?_<;>intro hC<;>(try cases hC)))
    all_goals first
     | (exfalso;simp only [beq_iff_eq,beq_eq_false_iff_ne,ne_eq,Bool.false_eq_true,Bool.true_eq_false] at *;first|omega|assumption)
     | (refine am ?_;refine bA rfl aJ ⟨?_,rfl⟩;rfl)
 ·have hk':¬k<s.size:=by simpa using hk
  rw [hr,gO fun h=>hk' h.1]
  repeat' (first|(apply ay;first|refine ak ?_|refine ai ?_)|refine aj ?_|refine ab ?_|refine aa fun C=>?_|refine ac ?_|refine aE ?_)
  exact eo
theorem zt4 {s:ByteArray}(hs:s.size≤1048576){a:Nat}(ha:a<s.size)(rex:Bool):Ctr prog 87 [.c (.v (.string s)),.c (.v (.int .i64 (a:Int))),.c (.v (.bool rex))] [] (.tu [.ag [.v (.int .i64 (em s a rex).k),.v (.int .i64 (em s a rex).n),.v (.string (em s a rex).s)],.c (.v (.int .i64 ((em s a rex).e:Int)))]) []:=by
 have cd:=iv (cZ s a)
 have cl:=lV (cZ s a)
 have cq:=ug hs ha
 have hlt:=cZ s a
 refine az func87 rfl rfl ?_
 unfold em
 cases h1:cW (bAt s a) with
 | true =>
  rw [h1] at cd
  rw [if_pos rfl]
  have c1:=zk hs (a:=a) omq
  have hr:=bP (p:=cW) (s:=s) s.size a omq omq
  have hd:kD cW (bz s a (bL cW s s.size a))=true:=gt fun j hj=>by
   rw [bO hr.1 hr.2.1] at hj
   rw [d6 hr.2.1 hj]
   exact hr.2.2.1 _ omq omq
  have g1:=hr.1
  have g2:=hr.2.1
  clear hr
  generalize bL cW s s.size a=e at c1 hd g1 g2 ⊢
  have c2:=zr4 hd
  repeat' (first|(apply ay;first|refine ak ?_|refine ai ?_|refine aH cd ?_|refine aH c1 ?_|refine aH c2 ?_|refine bh ?_|refine bJ ?_|refine bV ?_|refine fy ?_|refine au ?_)|refine aj ?_|refine ab ?_|refine aa fun C=>?_|refine ac ?_|refine ah ?_|refine aq rfl ?_)
  exact rtq6
 | false =>
  rw [h1] at cd
  rw [if_neg (by simp)]
  cases h2:ic (bAt s a) with
  | true =>
   rw [h2] at cl
   rw [if_pos rfl]
   have c1:=zl hs (a:=a) omq
   have hr:=bP (p:=ldB) (s:=s) s.size a omq omq
   have g1:=hr.1
   have g2:=hr.2.1
   clear hr
   generalize bL ldB s s.size a=e at c1 g1 g2 ⊢
   repeat' (first|(apply ay;first|refine ak ?_|refine ai ?_|refine aH cd ?_|refine aH cl ?_|refine aH c1 ?_|refine bh ?_|refine bJ ?_|refine bV ?_|refine fy ?_|refine au ?_)|refine aj ?_|refine ab ?_|refine aa fun C=>?_|refine ac ?_|refine ah ?_|refine aq rfl ?_|refine ar rfl ?_)
   exact rtq6
  | false =>
   rw [h2] at cl
   rw [if_neg (by simp)]
   by_cases h39:bAt s a=39
   ·rw [if_pos h39]
    have c3:=cq 3
    generalize kF s a 3=q at c3 ⊢
    obtain⟨q1,q2,q3,q4⟩:=q
    repeat' (first|(apply ay;first|refine ak ?_|refine ai ?_|refine aH cd ?_|refine aH cl ?_|refine aR ?_|refine bJ ?_|refine bV ?_)|refine aj ?_|refine ab ?_|refine aa fun C=>?_|refine ac ?_|refine ah ?_|refine ar rfl ?_)
    refine ae rqf (fun hC=>?_) fun hC=>?_
    ·repeat' (first|(apply ay;first|refine ak ?_|refine ai ?_|refine db c3 ?_|refine bh ?_|refine b9 ?_|refine dA (v:=.ag _) ?_)|refine aj ?_|refine ab ?_|refine aa fun C=>?_|refine ac ?_)
     exact rtq6
    ·exfalso;simp only [beq_eq_false_iff_ne,ne_eq] at hC;omega
   ·rw [if_neg h39]
    repeat' (first|(apply ay;first|refine ak ?_|refine ai ?_|refine aH cd ?_|refine aH cl ?_|refine aR ?_|refine bJ ?_|refine bV ?_)|refine aj ?_|refine ab ?_|refine aa fun C=>?_|refine ac ?_|refine ah ?_|refine ar rfl ?_)
    refine ae rqf (fun hC=>?_) fun _=>?_
    ·exfalso;simp only [beq_iff_eq] at hC;omega
    by_cases h47:bAt s a=47∧rex=true
    ·rw [if_pos h47]
     obtain⟨h47,rfl⟩:=h47
     have c3:=cq 4
     generalize kF s a 4=q at c3 ⊢
     obtain⟨q1,q2,q3,q4⟩:=q
     repeat' (first|(apply ay;first|refine bH ?_|(refine aK ?_ ?_<;>intro hG<;>(try cases hG))|refine ak ?_|refine ai ?_|refine db c3 ?_|refine a7 ?_|refine bh ?_|refine aR ?_|refine aA ?_|refine aw ?_|refine aB ?_|refine b9 ?_|refine dA (v:=.ag _) ?_|refine fy ?_|refine au ?_)|refine aj ?_|refine ab ?_|refine aa fun C=>?_|refine ac ?_|refine al ?_|(refine ae rqf ?_ ?_<;>intro hC<;>(try cases hC)))
     all_goals first
      | (exfalso;simp only [beq_iff_eq,beq_eq_false_iff_ne,ne_eq,Bool.false_eq_true,Bool.true_eq_false] at *;first|omega|assumption)
      | (refine am ?_;refine bA rfl (cg (aG (bi (aO rfl (aO rfl (aO rfl aQ)))) (aG aJ bj))) ⟨?_,rfl⟩;rfl)
    ·rw [if_neg h47]
     have h47':bAt s a≠47∨rex=false:=by
      by_cases e:bAt s a=47
      ·right;cases rex with
       | false=>rfl
       | true=>exact absurd ⟨e,rfl⟩ h47
      ·exact .inl e
     have ha1:(a:Int)+1=((a+1:Nat):Int):=by omega
     have ha2:(a:Int)+2=((a+2:Nat):Int):=by omega
     have cm:=sq (bz s a (a+2))
     by_cases hz:a+1<s.size
     ·cases hm:eI (bz s a (a+2)) with
      | true =>
       rw [hm] at cm
       rw [if_pos ⟨hz,rfl⟩]
       rcases h47' with e|rfl
       ·repeat' (first|(apply ay;first|refine bH ?_|(refine aK ?_ ?_<;>intro hG<;>(try cases hG))|refine ak ?_|refine ai ?_|refine aH cm ?_|refine a7 ?_|refine bh ?_|refine aR ?_|refine aA ?_|refine aw ?_|refine aB ?_|refine fy ?_|refine au ?_)|refine aj ?_|refine ab ?_|refine aa fun C=>?_|refine ac ?_|refine al ?_|(refine ae rqf ?_ ?_<;>intro hC<;>(try cases hC)))
        all_goals first
         | (exfalso;simp only [beq_iff_eq,beq_eq_false_iff_ne,ne_eq,Bool.false_eq_true,Bool.true_eq_false,dqt,dqn] at *;first|omega|assumption)
         | (refine am ?_;refine bA rfl (cg (aG (bi (aO rfl (aO rfl (aO rfl aQ)))) (aG aJ bj))) ⟨?_,rfl⟩;rfl)
       ·repeat' (first|(apply ay;first|refine bH ?_|(refine aK ?_ ?_<;>intro hG<;>(try cases hG))|refine ak ?_|refine ai ?_|refine aH cm ?_|refine a7 ?_|refine bh ?_|refine aR ?_|refine aA ?_|refine aw ?_|refine aB ?_|refine fy ?_|refine au ?_)|refine aj ?_|refine ab ?_|refine aa fun C=>?_|refine ac ?_|refine al ?_|(refine ae rqf ?_ ?_<;>intro hC<;>(try cases hC)))
        all_goals first
         | (exfalso;simp only [beq_iff_eq,beq_eq_false_iff_ne,ne_eq,Bool.false_eq_true,Bool.true_eq_false,dqt,dqn] at *;first|omega|assumption)
         | (refine am ?_;refine bA rfl (cg (aG (bi (aO rfl (aO rfl (aO rfl aQ)))) (aG aJ bj))) ⟨?_,rfl⟩;rfl)
      | false =>
       rw [hm] at cm
       rw [if_neg (by simp)]
       rcases h47' with e|rfl
       ·repeat' (first|(apply ay;first|refine bH ?_|(refine aK ?_ ?_<;>intro hG<;>(try cases hG))|refine ak ?_|refine ai ?_|refine aH cm ?_|refine a7 ?_|refine bh ?_|refine aR ?_|refine aA ?_|refine aw ?_|refine aB ?_|refine fy ?_|refine au ?_)|refine aj ?_|refine ab ?_|refine aa fun C=>?_|refine ac ?_|refine al ?_|(refine ae rqf ?_ ?_<;>intro hC<;>(try cases hC)))
        all_goals first
         | (exfalso;simp only [beq_iff_eq,beq_eq_false_iff_ne,ne_eq,Bool.false_eq_true,Bool.true_eq_false,dqt,dqn] at *;first|omega|assumption)
         | (refine am ?_;refine bA rfl (cg (aG (bi (aO rfl (aO rfl (aO rfl aQ)))) (aG aJ bj))) ⟨?_,rfl⟩;rfl)
       ·repeat' (first|(apply ay;first|refine bH ?_|(refine aK ?_ ?_<;>intro hG<;>(try cases hG))|refine ak ?_|refine ai ?_|refine aH cm ?_|refine a7 ?_|refine bh ?_|refine aR ?_|refine aA ?_|refine aw ?_|refine aB ?_|refine fy ?_|refine au ?_)|refine aj ?_|refine ab ?_|refine aa fun C=>?_|refine ac ?_|refine al ?_|(refine ae rqf ?_ ?_<;>intro hC<;>(try cases hC)))
        all_goals first
         | (exfalso;simp only [beq_iff_eq,beq_eq_false_iff_ne,ne_eq,Bool.false_eq_true,Bool.true_eq_false,dqt,dqn] at *;first|omega|assumption)
         | (refine am ?_;refine bA rfl (cg (aG (bi (aO rfl (aO rfl (aO rfl aQ)))) (aG aJ bj))) ⟨?_,rfl⟩;rfl)
     ·rw [if_neg fun h=>hz h.1]
      rcases h47' with e|rfl
      ·repeat' (first|(apply ay;first|refine bH ?_|(refine aK ?_ ?_<;>intro hG<;>(try cases hG))|refine ak ?_|refine ai ?_|refine a7 ?_|refine bh ?_|refine aR ?_|refine aA ?_|refine aw ?_|refine aB ?_|refine fy ?_|refine au ?_)|refine aj ?_|refine ab ?_|refine aa fun C=>?_|refine ac ?_|refine al ?_|(refine ae rqf ?_ ?_<;>intro hC<;>(try cases hC)))
       all_goals first
        | (exfalso;simp only [beq_iff_eq,beq_eq_false_iff_ne,ne_eq,Bool.false_eq_true,Bool.true_eq_false,dqt,dqn] at *;first|omega|assumption)
        | (refine am ?_;refine bA rfl (cg (aG (bi (aO rfl (aO rfl (aO rfl aQ)))) (aG aJ bj))) ⟨?_,rfl⟩;rfl)
      ·repeat' (first|(apply ay;first|refine bH ?_|(refine aK ?_ ?_<;>intro hG<;>(try cases hG))|refine ak ?_|refine ai ?_|refine a7 ?_|refine bh ?_|refine aR ?_|refine aA ?_|refine aw ?_|refine aB ?_|refine fy ?_|refine au ?_)|refine aj ?_|refine ab ?_|refine aa fun C=>?_|refine ac ?_|refine al ?_|(refine ae rqf ?_ ?_<;>intro hC<;>(try cases hC)))
       all_goals first
        | (exfalso;simp only [beq_iff_eq,beq_eq_false_iff_ne,ne_eq,Bool.false_eq_true,Bool.true_eq_false,dqt,dqn] at *;first|omega|assumption)
        | (refine am ?_;refine bA rfl (cg (aG (bi (aO rfl (aO rfl (aO rfl aQ)))) (aG aJ bj))) ⟨?_,rfl⟩;rfl)
theorem tdy2 {p:Prop}(h:p:=by repeat' (first|exact TmOk.nil|exact RwOk.nil|refine TmOk.cons ?_ ?_|refine RwOk.cons ?_ ?_|rfl|exact bg rfl (by assumption)|exact bg rfl (bytC_cloB _)|(refine rnV_id' rfl ?_;exact byc)|(refine cK ?_;first|rfl|omega|(rw [bB omq omq];omega))|(refine bg rfl ?_;exact byc)|exact dP rfl rfl|(refine rw_mid rqf rqf ?_ ?_<;>exact byc)|(refine rw_rn' rfl rfl ?_;simp;done))):p:=h
theorem ss {l:List E}{e:E}:owL (l++[e])=owL l++owE e:=by rw [fG];show owL l++(owE e++[])=_;rw [List.append_nil]
theorem wl {s:ByteArray}(hs:s.size≤1048576):Ctr prog 53 [.c (.v (.string s))] [] (.tu [.c (.ow 63 (i6 s).1.length 3 (owL (i6 s).1)),.c (.v (.int .i64 (i6 s).2))]) []:=by
 have c0:=sr hs (a:=0) (Nat.zero_le _)
 have hp0:=wi (s:=s) (a:=0) (Nat.zero_le _)
 unfold i6
 obtain⟨⟨L,P⟩,hL⟩:∃r,uf s (eV s 0) false []=r:=⟨_,rfl⟩
 rw [hL]
 dsimp only
 generalize eV s 0=a0 at c0 hp0 hL
 refine az func53 rfl rfl ?_
 repeat' (first|(apply ay;first|refine ak ?_|refine ai ?_|refine aH c0 ?_|refine dT ?_)|refine aj ?_|refine ab ?_|refine aa fun C=>?_|refine ac ?_|refine ah ?_)
 refine aY (fun d:Nat×Bool×List E=>⟨ft [(0,.c (.v (.string s))),(4,.c (.sl 9 d.2.2.length)),(5,.c (.v (.bool d.2.1))),(6,.c (.v (.int .i64 (d.1:Int))))],eW [(9,9,⟨63,3,d.2.2.length,false,owL d.2.2⟩)],0,[9],49⟩)
  (fun N d=>d.1+N=s.size∧d.2.2.length≤2000∧uf s d.1 d.2.1 d.2.2=(L,P)) (s.size-a0) (a0,false,[]) ⟨by dsimp only;omega,Nat.zero_le _,hL⟩ ?_ ?_
 ·show Gh _ _
  (refine aL _ _ rfl rfl ?_ ?_<;>exact tdy2)
 rintro N ⟨k,rex,out⟩ ⟨hN,hl,hI⟩
 dsimp only at hN hl hI ⊢
 by_cases hk:k<s.size
 ·have c1:=zt4 hs hk rex
  have hlt:=oa (rex:=rex) hk
  have hy:=qI (rex:=rex) (out:=out) hk
  have hn:=zb2 (rex:=rex) (out:=out) hk
  have hz:(em s k rex).s.size≤1048576:=zp4 hs hk
  unfold Tk.ok Tk.E at hy
  unfold Tk.ok at hn
  obtain⟨⟨q1,q2,q3,e⟩,hq⟩:∃q,em s k rex=q:=⟨_,rfl⟩
  rw [hq] at c1 hlt hy hn hz
  dsimp only at c1 hlt hy hn hz
  clear hq
  have c2:=od hz q1 q2
  have c3:=sr hs hlt.2
  have hp:=wi (s:=s) hlt.2
  cases ho:bY q1 q2 q3 with
  | false =>
   rw [ho] at c2 hn
   rw [hn (by simp)] at hI
   obtain⟨rfl,rfl⟩:=Prod.mk.injEq ..▸hI
   repeat' (first|(apply ay;first|refine bH ?_|(refine aK ?_ ?_<;>intro hG<;>(try cases hG))|refine ak ?_|refine cI (v:=.tu _) ?_|refine ai ?_|refine bM ?_|refine db c1 ?_|refine aH c2 ?_|refine a7 ?_|refine bh ?_|refine aA ?_|refine bI ?_|refine aB ?_|refine b9 ?_|refine dA (v:=.ag _) ?_|refine bJ ?_|refine dT ?_)|refine aj ?_|refine ab ?_|refine aa fun C=>?_|refine ac ?_|refine ah ?_|refine al ?_|refine aE ?_|(refine ae rqf ?_ ?_<;>intro hC<;>(try cases hC)))
   all_goals first
    | (exfalso;simp only [dqt,dqn] at *;omega)
    | (refine am ?_
       exact bA rfl (cg (aG (jg (bE (rw:=⟨63,3,0,false,[]⟩) rfl rfl rfl rfl aQ)) (aG aJ bj))) ⟨rfl,rfl⟩)
  | true =>
   rw [ho] at c2 hn hy
   by_cases hm:out.length=2000
   ·rw [hn (by simp [hm])] at hI
    obtain⟨rfl,rfl⟩:=Prod.mk.injEq ..▸hI
    repeat' (first|(apply ay;first|refine bH ?_|(refine aK ?_ ?_<;>intro hG<;>(try cases hG))|refine ak ?_|refine cI (v:=.tu _) ?_|refine ai ?_|refine bf ?_|refine aI ?_|refine bM ?_|refine db c1 ?_|refine aH c2 ?_|refine a7 ?_|refine cJ ?_|refine dz ?_|refine bh ?_|refine ao ?_|refine aC ?_|refine aA ?_|refine bI ?_|refine aB ?_|refine b9 ?_|refine dA (v:=.ag _) ?_|refine bJ ?_|refine dT ?_)|refine aj ?_|refine ab ?_|refine aa fun C=>?_|refine ac ?_|refine ah ?_|refine al ?_|refine aE ?_|(refine ae rqf ?_ ?_<;>intro hC<;>(try cases hC)))
    all_goals first
     | (exfalso;simp only [dqt,dqn,beq_iff_eq,beq_eq_false_iff_ne,ne_eq] at *;omega)
     | (refine am ?_
        exact bA rfl (cg (aG (jg (bE (rw:=⟨63,3,0,false,[]⟩) rfl rfl rfl rfl aQ)) (aG aJ bj))) ⟨rfl,rfl⟩)
   ·rw [hy rfl hm] at hI
    clear hn hy ho c0
    generalize eV s e=b at c3 hp hI
    by_cases h5:q1=5
    ·subst h5
     rw [show oT 5 q3=(q3.toList==(⟨#[126]⟩:ByteArray).toList) by rw [bytes_beq];simp [oT]] at hI
     repeat' (first|(apply ay;first|(refine aK ?_ ?_<;>intro hG<;>(try cases hG))|refine ak ?_|refine cI (v:=.tu _) ?_|refine ai ?_|refine bf ?_|refine aI ?_|refine bM ?_|refine db c1 ?_|refine aH c2 ?_|refine aH c3 ?_|refine a7 ?_|refine cJ ?_|refine dz ?_|refine bh ?_|refine ao ?_|refine aC ?_|refine aA ?_|refine bI ?_|refine aB ?_|refine b9 ?_|refine dA (v:=.ag _) ?_|refine bJ ?_|refine dT ?_)|refine aj ?_|refine ab ?_|refine aa fun C=>?_|refine ac ?_|refine ah ?_|refine al ?_|refine aE ?_|(refine ae rqf ?_ ?_<;>intro hC<;>(try cases hC)))
     all_goals first
      | (exfalso;simp only [dqt,dqn,beq_iff_eq,beq_eq_false_iff_ne,ne_eq] at *;omega)
      | (refine⟨s.size-b,(b,q3.toList==(⟨#[126]⟩:ByteArray).toList,out++[tokE 5 q2 q3]),omq,⟨by dsimp only;omega,by dsimp only;rw [lla,List.length_singleton];omega,hI⟩,?_⟩
         dsimp only
         rw [lla,List.length_singleton]
         (refine eL (fun j=>if j=9 then 36 else j) _ _ rfl rfl ?_ ?_<;>(repeat' (first|exact TmOk.nil|exact RwOk.nil|refine TmOk.cons ?_ ?_|refine RwOk.cons ?_ ?_|rfl|exact bg rfl (by assumption)|exact bg rfl (bytC_cloB _)|(refine rnV_id' rfl ?_;exact byc)|(refine cK ?_;first|rfl|omega|(rw [bB omq omq];omega))|(refine bg rfl ?_;exact byc)|exact dP rfl rfl|(refine rw_mid rqf rqf ?_ ?_<;>exact byc)|(refine rw_rn' rfl rfl ?_;simp;done))))
         exact fH (r:=⟨63,3,out.length+1,false,owL out++[.v (.int .i64 5),.v (.int .i64 q2),.v (.string q3)]⟩) rfl (by rw [ss];rfl) (a8 _))
    ·rw [show oT q1 q3=false by simp [oT,h5]] at hI
     repeat' (first|(apply ay;first|refine bH ?_|(refine aK ?_ ?_<;>intro hG<;>(try cases hG))|refine ak ?_|refine cI (v:=.tu _) ?_|refine ai ?_|refine bf ?_|refine aI ?_|refine bM ?_|refine db c1 ?_|refine aH c2 ?_|refine aH c3 ?_|refine a7 ?_|refine cJ ?_|refine dz ?_|refine bh ?_|refine ao ?_|refine aC ?_|refine aA ?_|refine bI ?_|refine aB ?_|refine b9 ?_|refine dA (v:=.ag _) ?_|refine bJ ?_|refine dT ?_)|refine aj ?_|refine ab ?_|refine aa fun C=>?_|refine ac ?_|refine ah ?_|refine al ?_|refine aE ?_|(refine ae rqf ?_ ?_<;>intro hC<;>(try cases hC)))
     all_goals first
      | (exfalso;simp only [dqt,dqn,beq_iff_eq,beq_eq_false_iff_ne,ne_eq] at *;first|omega|contradiction)
      | (refine⟨s.size-b,(b,false,out++[tokE q1 q2 q3]),omq,⟨by dsimp only;omega,by dsimp only;rw [lla,List.length_singleton];omega,hI⟩,?_⟩
         dsimp only
         rw [lla,List.length_singleton]
         (refine eL (fun j=>if j=9 then 36 else j) _ _ rfl rfl ?_ ?_<;>(repeat' (first|exact TmOk.nil|exact RwOk.nil|refine TmOk.cons ?_ ?_|refine RwOk.cons ?_ ?_|rfl|exact bg rfl (by assumption)|exact bg rfl (bytC_cloB _)|(refine rnV_id' rfl ?_;exact byc)|(refine cK ?_;first|rfl|omega|(rw [bB omq omq];omega))|(refine bg rfl ?_;exact byc)|exact dP rfl rfl|(refine rw_mid rqf rqf ?_ ?_<;>exact byc)|(refine rw_rn' rfl rfl ?_;simp;done))))
         exact fH (r:=⟨63,3,out.length+1,false,owL out++[.v (.int .i64 q1),.v (.int .i64 q2),.v (.string q3)]⟩) rfl (by rw [ss];rfl) (a8 _))
 ·rw [qH hk] at hI
  obtain⟨rfl,rfl⟩:=Prod.mk.injEq ..▸hI
  repeat' (first|(apply ay;first|refine ak ?_|refine ai ?_|refine a7 ?_|refine aA ?_)|refine aj ?_|refine ab ?_|refine aa fun C=>?_|refine ac ?_|refine ah ?_|refine al ?_|refine aE ?_|(refine ae rqf ?_ ?_<;>intro hC<;>(try cases hC)))
  all_goals first
   | (exfalso;simp only [dqt,dqn] at *;omega)
   | (refine am ?_
      exact bA rfl (cg (aG (jg (bE (rw:=⟨63,3,out.length,false,owL out⟩) rfl rfl rfl (a8 _) aQ)) (aG aJ bj))) ⟨rfl,rfl⟩)
end Go.Proofs.YtomolhbkdhjofaaGreatDoor
namespace Go.Proofs.YtomolhbkdhjofaaGreatDoor
open Go.RowKit Go.Shelf Go.Proofs.Tryz
def qJ:Go.Shelf.Ren:=⟨fun|137=>39|217=>60|266=>97|n=>n,fun|9=>9|5=>5|3=>3|n=>n,fun|n=>n⟩
theorem zu4:Go.Proofs.Lays.n137 prog qJ:={
 mixed:=by kernel_rfl
 f137:=func39.trans (congrArg some krq)
 f217:=func60.trans (congrArg some krq)
 f266:=func97.trans (congrArg some krq)
 t3:=underlying3
 a3:=Tryz.isAgg3
 z3:=Tryz.sizeOf3
 v3:=Tryz.zeroValue3
 t5:=underlying5
 a5:=Tryz.isAgg5
 z5:=Tryz.sizeOf5
 v5:=Tryz.zeroValue5
 t9:=underlying9
 a9:=Tryz.isAgg9
 z9:=Tryz.sizeOf9
 v9:=Tryz.zeroValue9 }
end Go.Proofs.YtomolhbkdhjofaaGreatDoor
namespace Go.Proofs.YtomolhbkdhjofaaGreatDoor
open Go.RowKit Go.Shelf Go.Proofs.Tryz
def l8:Go.Shelf.Ren:=⟨fun|156=>71|165=>103|166=>104|169=>105|240=>132|241=>133|276=>146|277=>147|n=>n,fun|31=>58|9=>9|3=>3|4=>4|0=>0|20=>20|72=>107|76=>84|70=>105|37=>22|75=>83|127=>130|164=>152|5=>5|80=>109|n=>n,fun|n=>n⟩
theorem wm:Go.Proofs.Lays.n156 prog l8:={
 mixed:=by kernel_rfl
 f156:=func71.trans (congrArg some krq)
 f165:=func103.trans (congrArg some krq)
 f166:=func104.trans (congrArg some krq)
 f169:=func105.trans (congrArg some krq)
 f240:=func132.trans (congrArg some krq)
 f241:=func133.trans (congrArg some krq)
 f276:=func146.trans (congrArg some krq)
 f277:=func147.trans (congrArg some krq)
 t0:=underlying0
 a0:=Tryz.isAgg0
 z0:=Tryz.sizeOf0
 v0:=Tryz.zeroValue0
 t3:=underlying3
 a3:=Tryz.isAgg3
 z3:=Tryz.sizeOf3
 v3:=Tryz.zeroValue3
 t4:=underlying4
 a4:=Tryz.isAgg4
 z4:=Tryz.sizeOf4
 v4:=Tryz.zeroValue4
 t9:=underlying9
 a9:=Tryz.isAgg9
 z9:=Tryz.sizeOf9
 v9:=Tryz.zeroValue9
 t20:=underlying20
 a20:=Tryz.isAgg20
 z20:=Tryz.sizeOf20
 v20:=Tryz.zeroValue20
 t31:=underlying58
 a31:=Tryz.isAgg58
 z31:=Tryz.sizeOf58
 v31:=Tryz.zeroValue58
 t37:=underlying22
 a37:=Tryz.isAgg22
 z37:=Tryz.sizeOf22
 v37:=Tryz.zeroValue22
 t70:=underlying105
 a70:=Tryz.isAgg105
 z70:=Tryz.sizeOf105
 v70:=Tryz.zeroValue105
 t72:=underlying107
 a72:=Tryz.isAgg107
 z72:=Tryz.sizeOf107
 v72:=Tryz.zeroValue107
 t75:=underlying83
 a75:=Tryz.isAgg83
 z75:=Tryz.sizeOf83
 v75:=Tryz.zeroValue83
 t76:=underlying84
 a76:=Tryz.isAgg84
 z76:=Tryz.sizeOf84
 v76:=Tryz.zeroValue84
 t127:=underlying130
 a127:=Tryz.isAgg130
 z127:=Tryz.sizeOf130
 v127:=Tryz.zeroValue130
 t164:=underlying152
 a164:=Tryz.isAgg152
 z164:=Tryz.sizeOf152
 v164:=Tryz.zeroValue152 }
theorem Builder_Extra_156:Builder.Extra prog l8:={
 sizeBuilder:=by kernel_rfl
 liesBuilder:=by kernel_rfl
 t5:=underlying5
 a5:=Tryz.isAgg5
 z5:=Tryz.sizeOf5
 v5:=Tryz.zeroValue5
 infoByte:=by kernel_rfl
 cellsByte:=by kernel_rfl
 sizeByte:=by kernel_rfl
 neB5:=by decide }
end Go.Proofs.YtomolhbkdhjofaaGreatDoor
namespace Go.Proofs.YtomolhbkdhjofaaGreatDoor
open Go.RowKit Go.Proofs.Tryz
theorem jF {P:Program}{f:FuncId}{ins:List AV}{v:Value}(he:yC P f=true)(hv:qg v=true)
 (hc:∀(w:World) (St:Nat→Prop) (φ:Nat→Lc) (K:Nat→Prop) (us:List Value),VRL w St φ K ins us→Calls P f us.toArray w fun e w'=>e=.returned v∧Below w.heap.size w w'):Ctr P f ins [] (.c (.v v)) []:=by
 refine⟨he,fun w St φ F us' hent=>?_⟩
 refine (hc w St φ _ us' hent.args).mono ?_
 rintro e w' ⟨rfl,hb⟩
 refine⟨_,_,v,fun _=>False,fun _=>[],[],⟨rfl,rfl⟩,rfl,⟨⟨hb.os,hb.tape,hb.output,hb.size,fun b hlt _=>.inl (hb.block b hlt)⟩,?_,by simp,rfl,fun i cs hi=>by simp at hi,fun i hi=>by simp at hi,fun i hi=>by simp at hi,fun i j hi=>by simp at hi,fun i b lo hi=>by simp at hi,fun b hb=>by simp at hb,fun b hb=>hb.elim⟩⟩
 simp only [VRF,CR]
 exact⟨trivial,hv,trivial⟩
theorem fU (s:ByteArray){c:Nat}(_hc:c<256):Ctr prog 39 [.c (.v (.string s)),.c (.v (.int .u8 (c:Int)))] [] (.c (.v (.int .i64 (Lib.indexByte s.data.toList (UInt8.ofNat c))))) []:=by
 refine jF krq rfl fun w St φ K us h=>?_
 simp only [VRL,VR,CR] at h
 obtain⟨u,us1,rfl,⟨rfl,-⟩,u2,us2,rfl,⟨rfl,-⟩,rfl⟩:=h
 refine (Go.Proofs.Any.strings_IndexByte zu4 s (c:Int) w).mono ?_
 rintro e w' ⟨rfl,rfl⟩
 exact⟨rfl,Below.refl _ _⟩
def lu:E→ByteArray
 | .str s=>s
 | _=>ByteArray.empty
theorem wn {w:World}{St:Nat→Prop}{φ:Nat→Lc}{K:Nat→Prop}:∀{l:List E} {us:List Value} {fp:List Nat},(∀e∈l,∃s,e=.str s)→CRL w St φ K (acL l) us fp→us=l.map fun e=>.string (lu e)
 | [],us,fp,_,h=>by
  simp only [acL,CRL] at h
  exact h.1
 | e :: r,us,fp,he,h=>by
  obtain⟨s,rfl⟩:=he e mcs
  have h':CRL w St φ K (.v (.string s) :: acL r) us fp:=h
  simp only [CRL] at h'
  obtain⟨u,us',f1,f2,rfl,rfl,h1,h2⟩:=h'
  simp only [CR] at h1
  obtain⟨rfl,-⟩:=h1
  rw [wn (fun e he'=>he e (mco _ he')) h2]
  rfl
def gP (l:List E)(sep:ByteArray):ByteArray:=⟨(Lib.join (l.map fun e=>(lu e).data.toList) sep.data.toList).toArray⟩
theorem zc2 {l:List E}(hl:∀e∈l,∃s,e=.str s)(sep:ByteArray)(hn:l.length≤1073741824)(hsz:(gP l sep).size≤140737488355328):Ctr prog 71 [.c (.ro l.length 1 (acL l)),.c (.v (.string sep))] [] (.c (.v (.string (gP l sep)))) []:=by
 refine jF krq rfl fun w St φ K us h=>?_
 simp only [VRL,VR,CR] at h
 obtain⟨u,us1,rfl,⟨-,A,c,rfl,⟨h1,h2,h3⟩,h4,h5⟩,u2,us2,rfl,⟨rfl,-⟩,rfl⟩:=h
 cases l with
 | nil=>exact (Go.Proofs.Any.strings_Join_none wm Builder_Extra_156 A c sep w).mono fun e w' ⟨he,hw⟩=>⟨he,hw▸Below.refl _ _⟩
 | cons x r =>
  obtain⟨b,o,us,rfl,-,hb,hc,hcr⟩:=h5 (by simp)
  have hus:=wn hl hcr
  have e1:(x :: r).length=((x :: r).map lu).length:=by simp
  have e2:gP (x :: r) sep=⟨(Lib.join (((x :: r).map lu).map (·.data.toList)) sep.data.toList).toArray⟩:=by unfold gP;rw [List.map_map];rfl
  rw [e2] at hsz ⊢
  rw [e1] at hn h1 ⊢
  refine Go.Proofs.Any.strings_Join wm Builder_Extra_156 b o c ((x :: r).map lu) sep w (fun j y hy=>hc j _ ?_) hb omq h1 ?_
  ·rw [hus,List.getElem?_map]
   rw [List.getElem?_map] at hy
   cases hq:(x :: r)[j]? with
   | none=>rw [hq] at hy;cases hy
   | some e=>rw [hq] at hy;simp at hy;simp [hy]
  ·have:(ByteArray.mk (Lib.join (((x :: r).map lu).map (·.data.toList)) sep.data.toList).toArray).size=(Lib.join (((x :: r).map lu).map (·.data.toList)) sep.data.toList).length:=by show (List.toArray _).size=_;rw [List.size_toArray]
   rw [this] at hsz
   exact hsz
end Go.Proofs.YtomolhbkdhjofaaGreatDoor
