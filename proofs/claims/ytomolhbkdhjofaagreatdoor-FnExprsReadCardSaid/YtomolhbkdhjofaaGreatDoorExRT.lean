/- T -/
import Derived.Test.YtomolhbkdhjofaaGreatDoorExRS
set_option maxHeartbeats 0
set_option maxRecDepth 100000
namespace Go.Proofs.YtomolhbkdhjofaaGreatDoor
open Go.RowKit Go.Proofs.Tryz
theorem qn {p:Prop}(h:p:=by refine am ?_;refine dO rfl (bi (aO rfl (aO rfl (bE rfl rfl rfl cls0 aQ)))) rfl (by first|rfl|(simp [bu,clo,a8,aM,bl,bk,aZ];done)) rfl ⟨?_,?_⟩<;>rfl):p:=h
def fQ (s:ByteArray)(p:PS):List AC:=[.v (.string s),.v (.int .i64 (p.a:Int)),.v (.bool p.b),.v (.int .i64 (p.d:Int))]
def isP (s:ByteArray)(c:Nat)(p:PS):PS:=if isB s c p then p.go 1 else p
theorem mr {s:ByteArray}(hs:s.size≤1048576){c:Nat}(hc:c<256){p:PS}:Ctr prog 149 [.c (.pt 0 0),.c (.v (.int .u8 (c:Int)))] [fQ s p] (.c (.v (.bool (isB s c p)))) [fQ s (isP s c p)]:=by
 obtain⟨a,d,b⟩:=p
 refine az func149 rfl rfl ?_
 unfold fQ
 dsimp only
 cases b with
 | true =>
  have hr:isB s c ⟨a,d,true⟩=false:=rfl
  unfold isP
  rw [hr]
  repeat' (first|(apply ay;refine ai ?_)|refine aj ?_|refine ab ?_|(apply da;first|refine fg ?_|(refine e7 ?_ ?_<;>intro hG<;>(try cases hG))|(apply dC;refine aD ?_)|refine dZ ?_|refine bW ?_|refine aD ?_)|refine aj ?_|refine ab ?_|refine aa fun C=>?_|refine av krq krq fun C=>?_|refine ac ?_|refine aq rfl ?_)
  refine am ?_;refine dO rfl aJ rfl (by first|rfl|(simp [bu,clo,a8,aM,bl,bk,aZ];done)) rfl ⟨?_,?_⟩<;>rfl
 | false =>
  by_cases hlt:a<s.size
  ·by_cases he:bAt s a=c
   ·have hr:isB s c ⟨a,d,false⟩=true:=by unfold isB;rw [decide_eq_true hlt,he];simp
    unfold isP
    rw [hr]
    subst he
    repeat' (first|(apply ay;refine ai ?_)|refine aj ?_|refine ab ?_|(apply da;first|refine fg ?_|(refine e7 ?_ ?_<;>intro hG<;>(try cases hG))|(apply dC;refine aD ?_)|refine dZ ?_|refine bW ?_|refine dJ ?_|(apply fF;refine aD ?_)|refine eU ?_|refine aD ?_)|refine aj ?_|refine ab ?_|refine aa fun C=>?_|refine av krq krq fun C=>?_|refine ac ?_)
    ·exfalso;simp only [dqt] at hG;omega
    ·refine ae rqf (fun hC=>absurd hC (by simp)) fun hC=>?_
     repeat' (first|(apply ay;first|refine ak ?_|refine ai ?_|refine bf ?_|refine aI ?_|refine bh ?_|refine aw ?_|refine au ?_)|refine aj ?_|refine ab ?_|refine aa fun C=>?_|refine ac ?_|refine al ?_)
     refine am ?_;refine dO rfl aJ rfl (by first|rfl|(simp [bu,clo,a8,aM,bl,bk,aZ];done)) rfl ⟨?_,?_⟩<;>rfl
   ·have hr:isB s c ⟨a,d,false⟩=false:=by unfold isB;simp [he]
    unfold isP
    rw [hr]
    repeat' (first|(apply ay;refine ai ?_)|refine aj ?_|refine ab ?_|(apply da;first|refine fg ?_|(refine e7 ?_ ?_<;>intro hG<;>(try cases hG))|(apply dC;refine aD ?_)|refine dZ ?_|refine bW ?_|refine dJ ?_|(apply fF;refine aD ?_)|refine eU ?_|refine aD ?_)|refine aj ?_|refine ab ?_|refine aa fun C=>?_|refine av krq krq fun C=>?_|refine ac ?_)
    ·exfalso;simp only [dqt] at hG;omega
    ·refine ae rqf (fun hC=>?_) fun hC=>absurd (bne_eq_false_iff_eq.1 hC) omq
     repeat' (first|(apply ay;refine ai ?_)|refine aj ?_|refine ab ?_|refine aa fun C=>?_|refine ac ?_)
     refine am ?_;refine dO rfl aJ rfl (by first|rfl|(simp [bu,clo,a8,aM,bl,bk,aZ];done)) rfl ⟨?_,?_⟩<;>rfl
  ·have hr:isB s c ⟨a,d,false⟩=false:=by unfold isB;simp [hlt]
   unfold isP
   rw [hr]
   repeat' (first|(apply ay;refine ai ?_)|refine aj ?_|refine ab ?_|(apply da;first|refine fg ?_|(refine e7 ?_ ?_<;>intro hG<;>(try cases hG))|(apply dC;refine aD ?_)|refine dZ ?_|refine bW ?_|refine dJ ?_|(apply fF;refine aD ?_)|refine aD ?_)|refine aj ?_|refine ab ?_|refine aa fun C=>?_|refine av krq krq fun C=>?_|refine ac ?_)
   ·refine aq rfl ?_
    repeat' (first|(apply ay;refine ai ?_)|refine aj ?_|refine ab ?_|refine aa fun C=>?_|refine ac ?_)
    refine am ?_;refine dO rfl aJ rfl (by first|rfl|(simp [bu,clo,a8,aM,bl,bk,aZ];done)) rfl ⟨?_,?_⟩<;>rfl
   ·exfalso;simp only [dqn] at hG;omega
theorem ms {s:ByteArray}{p:PS}:Ctr prog 184 [.c (.pt 0 0)] [fQ s p] (.ag (owE dv)) [fQ s p.bad]:=by
 obtain⟨a,d,b⟩:=p
 refine az func184 rfl rfl ?_
 unfold fQ
 dsimp only
 repeat' (first|(apply ay;first|refine ak ?_|refine bf ?_|refine bh ?_|refine bJ ?_|refine au ?_)|refine aj ?_|refine ab ?_|refine aa fun C=>?_|refine ac ?_)
 refine bc (cR 900 (i:=2) 112 3 rfl rfl (pre:=[_,_]) (post:=[]) rfl) ?_;refine am ?_;refine dO rfl (bi (aO rfl (aO rfl (bE rfl rfl rfl cls0 aQ)))) rfl (by first|rfl|(simp [bu,clo,a8,aM,bl,bk,aZ];done)) rfl ⟨?_,?_⟩<;>rfl
theorem jp {s:ByteArray}{c:Nat}{p:PS}(h:isB s c p=true):isP s c p=p.go 1:=if_pos h
theorem mt {s:ByteArray}{c:Nat}{p:PS}(h:isB s c p=false):isP s c p=p:=by unfold isP;rw [h];rfl
theorem xn {s:ByteArray}(hs:s.size≤1048576){alt:PS→E×PS}{p:PS}(hp:Pre s p)(hb:p.b=false)(hg:p.d≤7→GoodS s ⟨p.a,p.d+1,p.b⟩ (alt ⟨p.a,p.d+1,p.b⟩))
 (ha:p.d≤7→Ctr prog 134 [.c (.pt 0 0)] [fQ s ⟨p.a,p.d+1,p.b⟩] (.ag (owE (alt ⟨p.a,p.d+1,p.b⟩).1)) [fQ s (alt ⟨p.a,p.d+1,p.b⟩).2]) :
 Ctr prog 185 [.c (.pt 0 0)] [fQ s p] (.ag (owE (eg s alt p).1)) [fQ s (eg s alt p).2]:=by
 obtain⟨a,d,b⟩:=p
 have hb:b=false:=hb
 subst hb
 dsimp only at ha hg
 have hpd:d≤8:=hp.2.2 rfl
 have h41:=mr hs (c:=41) omq (p:=⟨a,d,false⟩)
 cases h1:isB s 41 ⟨a,d,false⟩ with
 | true =>
  have hr:eg s alt ⟨a,d,false⟩=(du 9 ByteArray.empty [],⟨a+1,d,false⟩):=by unfold eg;rw [if_pos h1];rfl
  rw [hr]
  rw [jp h1,h1] at h41
  refine az func185 rfl rfl ?_
  unfold fQ at h41 ⊢
  dsimp only [PS.go] at h41 ⊢
  repeat' (first|(apply ay;first|refine ak ?_|refine aF 0 (h41) ?_|refine bh ?_|refine bJ ?_|refine au ?_)|refine aj ?_|refine ab ?_|refine aa fun C=>?_|refine ac ?_|refine aq rfl ?_)
  refine bc (cR 900 (i:=2) 112 3 rfl rfl (pre:=[_,_]) (post:=[]) rfl) ?_;refine am ?_;refine dO rfl (bi (aO rfl (aO rfl (bE rfl rfl rfl cls0 aQ)))) rfl (by first|rfl|(simp [bu,clo,a8,aM,bl,bk,aZ];done)) rfl ⟨?_,?_⟩<;>rfl
 | false =>
  rw [mt h1,h1] at h41
  by_cases h8:8<d+1
  ·have hr:eg s alt ⟨a,d,false⟩=(dv,⟨a,d+1,true⟩):=by unfold eg;rw [if_neg (by rw [h1];simp),if_pos h8]
   rw [hr]
   have hbad:=ms (s:=s) (p:=⟨a,d+1,false⟩)
   refine az func185 rfl rfl ?_
   unfold fQ at h41 hbad ⊢
   dsimp only [PS.bad] at h41 hbad ⊢
   repeat' (first|(apply ay;first|refine ak ?_|refine bf ?_|refine aI ?_|refine aF 0 (h41) ?_|refine bh ?_|refine aX ?_|refine aw ?_|refine bJ ?_|refine au ?_)|refine aj ?_|refine ab ?_|refine aa fun C=>?_|refine ac ?_|refine al ?_|refine ar rfl ?_)
   refine ae rqf (fun hC=>?_) fun hC=>by exfalso;simp only [dqn] at hC;omega
   repeat' (first|(apply ay;first|refine ak ?_|refine aF 0 (hbad) ?_|refine bh ?_)|refine aj ?_|refine ab ?_|refine aa fun C=>?_|refine ac ?_)
   exact qn
  ·have hic:=ha omq
   obtain⟨g1,g2,g3,g4,g5,g6⟩:=hg omq
   clear ha hg
   have hr:eg s alt ⟨a,d,false⟩=if isB s 41 ⟨(alt ⟨a,d+1,false⟩).2.a,(alt ⟨a,d+1,false⟩).2.d-1,(alt ⟨a,d+1,false⟩).2.b⟩ then ((alt ⟨a,d+1,false⟩).1,⟨(alt ⟨a,d+1,false⟩).2.a+1,(alt ⟨a,d+1,false⟩).2.d-1,(alt ⟨a,d+1,false⟩).2.b⟩) else (dv,⟨(alt ⟨a,d+1,false⟩).2.a,(alt ⟨a,d+1,false⟩).2.d-1,true⟩):=by unfold eg;rw [if_neg (by rw [h1];simp),if_neg h8];rfl
   rw [hr]
   clear hr
   obtain⟨⟨e,q⟩,hq⟩:∃r,alt ⟨a,d+1,false⟩=r:=⟨_,rfl⟩
   rw [hq] at hic g1 g2 g3 g4 g5 g6 ⊢
   dsimp only at hic g1 g2 g3 g4 g5 g6 ⊢
   cases g1 with
   | mk k t l hk ht hl2 =>
   obtain⟨qa,qd,qb⟩:=q
   dsimp only at hic g2 g3 g4 g5 g6 ⊢
   have hqd:((qd:Nat):Int)-1=((qd-1:Nat):Int):=by omega
   have hbad:=ms (s:=s) (p:=⟨qa,qd-1,qb⟩)
   have h41b:=mr hs (c:=41) omq (p:=⟨qa,qd-1,qb⟩)
   cases h2:isB s 41 ⟨qa,qd-1,qb⟩ with
   | true =>
    rw [jp h2,h2] at h41b
    rw [if_pos rfl]
    refine az func185 rfl rfl ?_
    unfold fQ at h41 hic h41b ⊢
    dsimp only [PS.go] at h41 hic h41b ⊢
    rw [←hqd] at h41b ⊢
    repeat' (first|(apply ay;first|refine ak ?_|refine bf ?_|refine aI ?_|refine aF 0 (h41) ?_|refine bh ?_|refine aX ?_|refine aw ?_|refine bJ ?_|refine au ?_)|refine aj ?_|refine ab ?_|refine aa fun C=>?_|refine ac ?_|refine al ?_|refine ar rfl ?_)
    refine ae rqf (fun hC=>by exfalso;simp only [dqt] at hC;omega) fun hC=>?_
    repeat' (first|(apply ay;first|refine ak ?_|refine bf ?_|refine aI ?_|refine bM ?_|refine aF 0 (hic) ?_|refine aF 0 (h41b) ?_|refine bh ?_|refine bI ?_|refine cu ?_|refine bJ ?_|refine au ?_)|refine aj ?_|refine ab ?_|refine aa fun C=>?_|refine ac ?_|refine al ?_|refine ar rfl ?_)
    exact qn
   | false =>
    rw [mt h2,h2] at h41b
    rw [if_neg (by simp)]
    refine az func185 rfl rfl ?_
    unfold fQ at h41 hic h41b hbad ⊢
    dsimp only [PS.bad] at h41 hic h41b hbad ⊢
    rw [←hqd] at h41b hbad ⊢
    repeat' (first|(apply ay;first|refine ak ?_|refine bf ?_|refine aI ?_|refine aF 0 (h41) ?_|refine bh ?_|refine aX ?_|refine aw ?_|refine bJ ?_|refine au ?_)|refine aj ?_|refine ab ?_|refine aa fun C=>?_|refine ac ?_|refine al ?_|refine ar rfl ?_)
    refine ae rqf (fun hC=>by exfalso;simp only [dqt] at hC;omega) fun hC=>?_
    repeat' (first|(apply ay;first|refine ak ?_|refine bf ?_|refine aI ?_|refine aF 0 (hic) ?_|refine aF 0 (h41b) ?_|refine aF 0 (hbad) ?_|refine bh ?_|refine bI ?_|refine cu ?_|refine bJ ?_|refine au ?_)|refine aj ?_|refine ab ?_|refine aa fun C=>?_|refine ac ?_|refine al ?_|refine aq rfl ?_)
    exact qn
theorem zT {s:ByteArray}{alt:PS→E×PS}{a d c:Nat}(ha:a<s.size)(hc:bAt s a=c):dR s alt ⟨a,d,false⟩=eZ s alt c ⟨a+1,d,false⟩:=by
 unfold dR
 rw [if_neg (by simp;exact ha),hc];rfl
theorem zU {s:ByteArray}(hs:s.size≤1048576){alt:PS→E×PS}{p:PS}(hp:Pre s p)
 (hgr:p.b=false→p.a<s.size→Ctr prog 185 [.c (.pt 0 0)] [fQ s (p.go 1)] (.ag (owE (eg s alt (p.go 1)).1)) [fQ s (eg s alt (p.go 1)).2])
 (hgg:p.b=false→p.a<s.size→GoodS s (p.go 1) (eg s alt (p.go 1))) :
 Ctr prog 177 [.c (.pt 0 0)] [fQ s p] (.ag (owE (dR s alt p).1)) [fQ s (dR s alt p).2]:=by
 obtain⟨a,d,b⟩:=p
 have hple:a≤s.size:=hp.1
 have hbad0:=ms (s:=s) (p:=⟨a,d,b⟩)
 cases b with
 | true =>
  have hr:dR s alt ⟨a,d,true⟩=(dv,⟨a,d,true⟩):=by unfold dR;rw [if_pos (.inl rfl)];rfl
  rw [hr]
  refine az func177 rfl rfl ?_
  unfold fQ at hbad0 ⊢
  dsimp only [PS.bad] at hbad0 ⊢
  repeat' (first|(apply ay;first|refine ak ?_|refine aF 0 (hbad0) ?_|refine bh ?_|refine bJ ?_)|refine aj ?_|refine ab ?_|(apply da;first|refine fg ?_|(refine e7 ?_ ?_<;>intro hG<;>(try cases hG))|(apply dC;refine aD ?_)|refine dZ ?_|refine bW ?_|refine aD ?_)|refine aj ?_|refine ab ?_|refine aa fun C=>?_|refine av krq krq fun C=>?_|refine ac ?_|refine aq rfl ?_)
  exact qn
 | false =>
 by_cases hlt:a<s.size
 ·have hgr:=hgr rfl hlt
  have hgg:=hgg rfl hlt
  obtain⟨u,hu⟩:∃u:UInt8,bAt s a=u.toNat:=⟨UInt8.ofNat (bAt s a),by rw [UInt8.toNat_ofNat'];have:=cZ s a;omega⟩
  obtain⟨c,hc⟩:∃c,u.toNat=c:=⟨_,rfl⟩
  have hcl:c<256:=hc▸u.toNat_lt
  rw [zT hlt (hu.trans hc)]
  have hlb:=oy hcl
  have hbad1:=ms (s:=s) (p:=⟨a+1,d,false⟩)
  have hq1:(PS.mk a d false).go 1=⟨a+1,d,false⟩:=rfl
  rw [hq1] at hgr hgg
  refine az func177 rfl rfl ?_
  unfold fQ at hgr hbad1 ⊢
  dsimp only [PS.bad] at hgr hbad1 ⊢
  have hbu:bAt s a=c:=hu.trans hc
  repeat' (first|(apply ay;refine bJ ?_)|refine aj ?_|refine ab ?_|(apply da;first|(refine e7 ?_ ?_<;>intro hG<;>(try cases hG))|(apply dC;refine aD ?_)|refine dZ ?_|refine bW ?_|refine dJ ?_|(apply fF;refine aD ?_)|refine aD ?_)|refine aj ?_|refine ab ?_|refine aa fun C=>?_|refine av krq krq fun C=>?_|refine ac ?_)
  refine ae rqf (fun hC=>by exfalso;simp only [dqt] at hC;omega) fun hC=>?_
  have hu':bAt s a=u.toNat:=hu
  repeat' (first|(apply ay;first|refine ak ?_|refine ai ?_|refine bf ?_|refine aI ?_|refine bh ?_|refine aR ?_|refine aw ?_|refine au ?_)|refine aj ?_|refine ab ?_|(apply da;first|(apply dC;refine aD ?_)|(apply iu;refine aD ?_)|refine dZ ?_|refine bW ?_|refine eU ?_|refine aD ?_)|refine aj ?_|refine ab ?_|refine aa fun C=>?_|refine av krq krq fun C=>?_|refine ac ?_|refine ah ?_|refine al ?_)
  rw [hbu]
  by_cases h3:c=46∨c=94∨c=36
  ·obtain⟨kk,hr,hkk⟩:∃kk:Int,eZ s alt c ⟨a+1,d,false⟩=(du kk ByteArray.empty [],⟨a+1,d,false⟩)∧((c=46∧kk=2)∨(c=94∧kk=10)∨(c=36∧kk=11)):=by
    rcases h3 with h|h|h
    ·exact⟨2,by rw [h];rfl,.inl ⟨h,rfl⟩⟩
    ·exact⟨10,by rw [h];rfl,.inr (.inl ⟨h,rfl⟩)⟩
    ·exact⟨11,by rw [h];rfl,.inr (.inr ⟨h,rfl⟩)⟩
   rw [hr]
   clear hr h3
   rcases hkk with ⟨h,rfl⟩|⟨h,rfl⟩|⟨h,rfl⟩
   all_goals
    rw [h]
    repeat' (first|(apply ay;first|refine ak ?_|refine ai ?_|refine bh ?_|refine aR ?_|refine au ?_)|refine aj ?_|refine ab ?_|refine aa fun C=>?_|refine ac ?_|refine aq rfl ?_|refine ar rfl ?_)
    refine bc (cR 900 (i:=2) 112 3 rfl rfl (pre:=[_,_]) (post:=[]) rfl) ?_;refine am ?_;refine dO rfl (bi (aO rfl (aO rfl (bE rfl rfl rfl cls0 aQ)))) rfl (by first|rfl|(simp [bu,clo,a8,aM,bl,bk,aZ];done)) rfl ⟨?_,?_⟩<;>rfl
  have h46:c≠46:=fun h=>h3 (.inl h)
  have h94:c≠94:=fun h=>h3 (.inr (.inl h))
  have h36:c≠36:=fun h=>h3 (.inr (.inr h))
  by_cases h40:c=40
  ·have hr:eZ s alt c ⟨a+1,d,false⟩=eg s alt ⟨a+1,d,false⟩:=by rw [h40];rfl
   rw [hr]
   rw [h40]
   obtain⟨⟨e,q⟩,hq⟩:∃r,eg s alt ⟨a+1,d,false⟩=r:=⟨_,rfl⟩
   rw [hq] at hgr hgg ⊢
   have hfi:Fine e:=hgg.fine
   cases hfi with
   | mk k t l hk ht hl2 =>
   dsimp only at hgr ⊢
   repeat' (first|(apply ay;first|refine ak ?_|refine ai ?_|refine aF 0 (hgr) ?_|refine bh ?_|refine aR ?_)|refine aj ?_|refine ab ?_|refine aa fun C=>?_|refine ac ?_|refine aq rfl ?_|refine ar rfl ?_)
   exact qn
  iterate 3
   refine ae rqf (fun hC=>absurd (eq_of_beq hC) omq) fun hC=>?_
   repeat' (first|(apply ay;first|refine ak ?_|refine ai ?_|refine aR ?_)|refine aj ?_|refine ab ?_|refine aa fun C=>?_|refine ac ?_)
  refine ae rqf (fun hC=>absurd (eq_of_beq hC) omq) fun hC=>?_
  cases hl:ma c with
  | true =>
   have hr:eZ s alt c ⟨a+1,d,false⟩=(du 1 (wO c) [],⟨a+1,d,false⟩):=kh hl
   rw [hr]
   rw [hl] at hlb
   subst hc
   repeat' (first|(apply ay;first|refine ak ?_|refine ai ?_|refine aH hlb ?_|refine bh ?_|(apply si;refine au ?_)|refine dT ?_|refine au ?_)|refine aj ?_|refine ab ?_|refine aa fun C=>?_|refine ac ?_|refine aq rfl ?_)
   refine bc (cR 900 (i:=2) 112 3 rfl rfl (pre:=[_,_]) (post:=[]) rfl) ?_;refine am ?_;refine dO rfl (bi (aO rfl (aO rfl (bE rfl rfl rfl cls0 aQ)))) rfl (by first|rfl|(simp [bu,clo,a8,aM,bl,bk,aZ];done)) rfl ⟨?_,?_⟩<;>rfl
  | false =>
   rw [hl] at hlb
   by_cases h91:c=91
   ·subst h91
    obtain⟨g1,g2,g3,g4⟩:=jO (s:=s) (c:=93) s.size (a+1) omq omq
    have hr:eZ s alt 91 ⟨a+1,d,false⟩=if isB s 93 ⟨eS s 93 s.size (a+1),d,false⟩ then (du 3 (bz s (a+1) (eS s 93 s.size (a+1))) [],⟨eS s 93 s.size (a+1)+1,d,false⟩) else (dv,⟨eS s 93 s.size (a+1),d,true⟩):=rfl
    rw [hr]
    clear hr
    generalize eS s 93 s.size (a+1)=w at *
    have hisb:=mr hs (c:=93) omq (p:=⟨w,d,false⟩)
    have hbadw:=ms (s:=s) (p:=⟨w,d,false⟩)
    have ea:(a:Int)+1=((a+1:Nat):Int):=by omega
    repeat' (first|(apply ay;first|refine ak ?_|refine ai ?_|refine bf ?_|refine aI ?_|refine aH hlb ?_|refine cH ?_|refine au ?_)|refine aj ?_|refine ab ?_|refine aa fun C=>?_|refine ac ?_|refine ah ?_|refine al ?_|refine ar rfl ?_)
    refine aY (fun j:Nat=>⟨ft [(0,.c (.pt 0 0)),(2,.c (.pt 2 0)),(4,.c (.v (.int .i64 ((a+1:Nat):Int))))],eW [(0,0,⟨0,0,0,true,[.v (.string s),.v (.int .i64 (j:Int)),.v (.bool false),.v (.int .i64 (d:Int))]⟩),(2,2,⟨112,0,0,true,[.v (.int .i64 0),.v (.string ByteArray.empty),.v (.slice none 0 0)]⟩)],1,[0,2],119⟩)
     (fun N j=>j+N=w∧a+1≤j) (w-(a+1)) (a+1) ⟨omq,omq⟩ ?_ ?_
    ·(refine aL _ _ rfl rfl ?_ ?_<;>exact tdy0)
    rintro N j ⟨hN,hj⟩
    by_cases hjw:j<w
    ·have hlt2:j<s.size:=by omega
     have hne:=g3 j hj hjw
     repeat' (first|(apply da;first|refine fg ?_|(refine e7 ?_ ?_<;>intro hG<;>(try cases hG))|(apply dC;refine aD ?_)|refine dZ ?_|refine bW ?_|refine dJ ?_|(apply fF;refine aD ?_)|refine eU ?_|refine aD ?_)|refine aj ?_|refine ab ?_|refine av krq krq fun C=>?_|refine ac ?_)
     ·refine ae rqf (fun hC=>?_) fun hC=>absurd (bne_eq_false_iff_eq.1 hC) omq
      repeat' (first|(apply ay;first|refine ak ?_|refine bf ?_|refine aI ?_|refine bh ?_|refine aw ?_|refine au ?_)|refine aj ?_|refine ab ?_|refine aa fun C=>?_|refine ah ?_|refine al ?_)
      refine⟨N-1,j+1,omq,⟨omq,omq⟩,?_⟩
      (refine aL _ _ rfl rfl ?_ ?_<;>exact tdy0)
     ·exfalso;simp only [dqn] at hG;omega
    ·obtain rfl:j=w:=by omega
     by_cases hws:j<s.size
     ·have hb93:=g4 hws
      have hi:isB s 93 ⟨j,d,false⟩=true:=by unfold isB;rw [decide_eq_true hws,hb93];rfl
      rw [jp hi,hi] at hisb
      rw [if_pos hi]
      unfold fQ at hisb
      dsimp only [PS.go] at hisb ⊢
      repeat' (first|(apply da;first|refine fg ?_|(refine e7 ?_ ?_<;>intro hG<;>(try cases hG))|(apply dC;refine aD ?_)|refine dZ ?_|refine bW ?_|refine dJ ?_|(apply fF;refine aD ?_)|refine eU ?_|refine aD ?_)|refine aj ?_|refine ab ?_|refine av krq krq fun C=>?_|refine ac ?_)
      ·rw [hb93]
       repeat' (first|(apply ay;first|refine ak ?_|refine bM ?_|refine aF 0 (hisb) ?_|refine bh ?_|refine bI ?_)|refine aj ?_|refine ab ?_|(apply da;first|(apply dC;refine aD ?_)|refine dZ ?_|refine bW ?_|refine li ?_|refine pi ?_|refine ir ?_|refine aD ?_)|refine aj ?_|refine ab ?_|refine aa fun C=>?_|refine av krq krq fun C=>?_|refine ac ?_|refine al ?_|refine aE ?_|refine ar rfl ?_)
       refine bc (cR 900 (i:=2) 112 3 rfl rfl (pre:=[_,_]) (post:=[]) rfl) ?_;refine am ?_;refine dO rfl (bi (aO rfl (aO rfl (bE rfl rfl rfl cls0 aQ)))) rfl (by first|rfl|(simp [bu,clo,a8,aM,bl,bk,aZ];done)) rfl ⟨?_,?_⟩<;>rfl
      ·exfalso;simp only [dqn] at hG;omega
     ·have hi:isB s 93 ⟨j,d,false⟩=false:=by unfold isB;rw [decide_eq_false hws];rfl
      rw [mt hi,hi] at hisb
      rw [if_neg (by rw [hi];simp)]
      unfold fQ at hisb hbadw
      dsimp only [PS.bad] at hisb hbadw ⊢
      repeat' (first|(apply da;first|refine fg ?_|(refine e7 ?_ ?_<;>intro hG<;>(try cases hG))|(apply dC;refine aD ?_)|refine dZ ?_|refine bW ?_|refine dJ ?_|(apply fF;refine aD ?_)|refine eU ?_|refine aD ?_)|refine aj ?_|refine ab ?_|refine av krq krq fun C=>?_|refine ac ?_)
      ·exfalso;simp only [dqt] at hG;omega
      ·repeat' (first|(apply ay;first|refine ak ?_|refine aF 0 (hisb) ?_|refine aF 0 (hbadw) ?_|refine bh ?_|refine bI ?_)|refine aj ?_|refine ab ?_|(apply da;first|(apply dC;refine aD ?_)|refine dZ ?_|refine bW ?_|refine li ?_|refine pi ?_|refine ir ?_|refine aD ?_)|refine aj ?_|refine ab ?_|refine aa fun C=>?_|refine av krq krq fun C=>?_|refine ac ?_|refine aE ?_|refine aq rfl ?_|refine ar rfl ?_)
       exact qn
   ·have hr:eZ s alt c ⟨a+1,d,false⟩=(dv,⟨a+1,d,true⟩):=pv hl h46 h94 h36 h40 h91
    rw [hr]
    repeat' (first|(apply ay;first|refine ak ?_|refine ai ?_|refine aH hlb ?_|refine cH ?_)|refine aj ?_|refine ab ?_|refine aa fun C=>?_|refine ac ?_|refine ar rfl ?_)
    refine ae rqf (fun hC=>?_) fun hC=>absurd (bne_eq_false_iff_eq.1 hC) omq
    repeat' (first|(apply ay;first|refine ak ?_|refine aF 0 (hbad1) ?_|refine bh ?_)|refine aj ?_|refine ab ?_|refine aa fun C=>?_|refine ac ?_)
    exact qn
 ·have hr:dR s alt ⟨a,d,false⟩=(dv,⟨a,d,true⟩):=by unfold dR;rw [if_pos (.inr (by dsimp only;omega))];rfl
  rw [hr]
  refine az func177 rfl rfl ?_
  unfold fQ at hbad0 ⊢
  dsimp only [PS.bad] at hbad0 ⊢
  repeat' (first|(apply ay;refine bJ ?_)|refine aj ?_|refine ab ?_|(apply da;first|(refine e7 ?_ ?_<;>intro hG<;>(try cases hG))|(apply dC;refine aD ?_)|refine dZ ?_|refine bW ?_|refine dJ ?_|(apply fF;refine aD ?_)|refine aD ?_)|refine aj ?_|refine ab ?_|refine aa fun C=>?_|refine av krq krq fun C=>?_|refine ac ?_)
  refine ae rqf (fun hC=>?_) fun hC=>by exfalso;simp only [dqn] at hC;omega
  repeat' (first|(apply ay;first|refine ak ?_|refine aF 0 (hbad0) ?_|refine bh ?_)|refine aj ?_|refine ab ?_|refine aa fun C=>?_|refine ac ?_)
  exact qn
theorem zV {s:ByteArray}(hs:s.size≤1048576){atom:PS→E×PS}{p:PS}(hg:GoodS s p (atom p))
 (ha:Ctr prog 177 [.c (.pt 0 0)] [fQ s p] (.ag (owE (atom p).1)) [fQ s (atom p).2]) :
 Ctr prog 163 [.c (.pt 0 0)] [fQ s p] (.ag (owE (fc s atom p).1)) [fQ s (fc s atom p).2]:=by
 have hr:fc s atom p=if isB s 42 (atom p).2 then (du 6 ByteArray.empty [(atom p).1],(atom p).2.go 1) else if isB s 43 (atom p).2 then (du 7 ByteArray.empty [(atom p).1],(atom p).2.go 1) else if isB s 63 (atom p).2 then (du 8 ByteArray.empty [(atom p).1],(atom p).2.go 1) else atom p:=rfl
 rw [hr]
 clear hr
 obtain⟨⟨e,q⟩,hq⟩:∃r,atom p=r:=⟨_,rfl⟩
 rw [hq] at ha hg ⊢
 have hfi:Fine e:=hg.fine
 clear hg hq
 dsimp only at ha ⊢
 cases hfi with
 | mk k t l hk ht hl2 =>
 have b1:=mr hs (c:=42) omq (p:=q)
 have b2:=mr hs (c:=43) omq (p:=q)
 have b3:=mr hs (c:=63) omq (p:=q)
 obtain⟨qa,qd,qb⟩:=q
 refine az func163 rfl rfl ?_
 cases h1:isB s 42 ⟨qa,qd,qb⟩ with
 | true =>
  rw [jp h1,h1] at b1
  rw [if_pos rfl]
  unfold fQ at ha b1 ⊢
  dsimp only [PS.go] at ha b1 ⊢
  repeat' (first|(apply ay;first|refine ak ?_|refine ai ?_|refine bM ?_|refine aF 0 (ha) ?_|refine aF 0 (b1) ?_|refine bh ?_|refine bJ ?_|refine dT ?_|refine au ?_)|refine aj ?_|refine ab ?_|refine aa fun C=>?_|refine ac ?_|refine ah ?_|refine aq rfl ?_)
  refine bc (dU (i:=10) (j:=600) rfl rfl rfl (pre:=[_,_]) (post:=[]) rfl) ?_
  exact qn
 | false =>
  rw [mt h1,h1] at b1
  rw [if_neg (by simp)]
  cases h2:isB s 43 ⟨qa,qd,qb⟩ with
  | true =>
   rw [jp h2,h2] at b2
   rw [if_pos rfl]
   unfold fQ at ha b1 b2 ⊢
   dsimp only [PS.go] at ha b1 b2 ⊢
   repeat' (first|(apply ay;first|refine ak ?_|refine ai ?_|refine bM ?_|refine aF 0 (ha) ?_|refine aF 0 (b1) ?_|refine aF 0 (b2) ?_|refine bh ?_|refine bJ ?_|refine dT ?_|refine au ?_)|refine aj ?_|refine ab ?_|refine aa fun C=>?_|refine ac ?_|refine ah ?_|refine aq rfl ?_|refine ar rfl ?_)
   refine bc (dU (i:=16) (j:=600) rfl rfl rfl (pre:=[_,_]) (post:=[]) rfl) ?_
   exact qn
  | false =>
   rw [mt h2,h2] at b2
   rw [if_neg (by simp)]
   cases h3:isB s 63 ⟨qa,qd,qb⟩ with
   | true =>
    rw [jp h3,h3] at b3
    rw [if_pos rfl]
    unfold fQ at ha b1 b2 b3 ⊢
    dsimp only [PS.go] at ha b1 b2 b3 ⊢
    repeat' (first|(apply ay;first|refine ak ?_|refine ai ?_|refine bM ?_|refine aF 0 (ha) ?_|refine aF 0 (b1) ?_|refine aF 0 (b2) ?_|refine aF 0 (b3) ?_|refine bh ?_|refine bJ ?_|refine dT ?_|refine au ?_)|refine aj ?_|refine ab ?_|refine aa fun C=>?_|refine ac ?_|refine ah ?_|refine aq rfl ?_|refine ar rfl ?_)
    refine bc (dU (i:=22) (j:=600) rfl rfl rfl (pre:=[_,_]) (post:=[]) rfl) ?_
    exact qn
   | false =>
    rw [mt h3,h3] at b3
    rw [if_neg (by simp)]
    unfold fQ at ha b1 b2 b3 ⊢
    dsimp only at ha b1 b2 b3 ⊢
    repeat' (first|(apply ay;first|refine ak ?_|refine ai ?_|refine bM ?_|refine aF 0 (ha) ?_|refine aF 0 (b1) ?_|refine aF 0 (b2) ?_|refine aF 0 (b3) ?_|refine bh ?_|refine bJ ?_)|refine aj ?_|refine ab ?_|refine aa fun C=>?_|refine ac ?_|refine ah ?_|refine al ?_|refine ar rfl ?_)
    exact qn
theorem xp {s:ByteArray}{a d v:Nat}{b:Bool}(hv:bAt s a=v):goS s ⟨a,d,b⟩=(!b&&decide (a<s.size)&&!(v==124)&&!(v==41)):=by unfold goS;rw [hv]
theorem qY {s:ByteArray}{item:PS→E×PS}{p:PS}(h:goS s p=false):∀(n:Nat) (l:List E),cz s item n l p=(l,p)
 | 0,_=>rfl
 | n+1,l=>by unfold cz;rw [if_neg (by rw [h];simp)]
theorem qZ {s:ByteArray}{cat:PS→E×PS}{p:PS}(h:isB s 124 p=false):∀(n:Nat) (l:List E),cC s cat n l p=(l,p)
 | 0,_=>rfl
 | n+1,l=>by unfold cC;rw [if_neg (by rw [h];simp)]
theorem zn5 {s:ByteArray}(hs:s.size≤1048576){item:PS→E×PS}{p0:PS}(hp:Pre s p0)
 (hg:∀q,Pre s q→p0.a≤q.a→GoodS s q (item q)∧((item q).2.b=false→q.a<(item q).2.a))
 (hi:∀q,Pre s q→p0.a≤q.a→Ctr prog 163 [.c (.pt 0 0)] [fQ s q] (.ag (owE (item q).1)) [fQ s (item q).2]) :
 Ctr prog 148 [.c (.pt 0 0)] [fQ s p0] (.ag (owE (qk s item p0).1)) [fQ s (qk s item p0).2]:=by
 have hic0:=hi p0 hp (nlr _)
 obtain⟨hg0,hu0⟩:=hg p0 hp (nlr _)
 have hL0:=GoodLS.one hg0
 have hr:qk s item p0=(kW 4 (cz s item (s.size+1) [(item p0).1] (item p0).2).1,(cz s item (s.size+1) [(item p0).1] (item p0).2).2):=rfl
 rw [hr]
 clear hr
 obtain⟨⟨e,q0⟩,hq0⟩:∃r,item p0=r:=⟨_,rfl⟩
 rw [hq0] at hic0 hg0 hL0 hu0 ⊢
 have hfi:Fine e:=hg0.fine
 dsimp only at hic0 hL0 hu0 ⊢
 cases hfi with
 | mk k t l hk ht hl2 =>
 refine az func148 rfl rfl ?_
 repeat' (first|(apply ay;first|refine ak ?_|refine ai ?_|refine aF 0 (hic0) ?_|refine bJ ?_|refine dT ?_)|refine aj ?_|refine ab ?_|refine aa fun C=>?_|refine ac ?_|refine ah ?_)
 refine aY (fun q:List E×PS=>⟨ft [(0,.c (.pt 0 0)),(2,.c (.pt 2 0)),(3,.c (.sl 9 q.1.length))],eW [(0,0,⟨0,0,0,true,fQ s q.2⟩),(2,2,⟨112,0,0,true,[.v (.int .i64 0),.v (.string ByteArray.empty),.v (.slice none 0 0)]⟩),(9,9,⟨112,3,q.1.length,false,owL q.1⟩)],1,[0,2,9],61⟩)
  (fun N q=>GoodLS s p0 q.1 q.2∧(q.2.b=true∨s.size+2≤q.2.a+N)∧cz s item N q.1 q.2=cz s item (s.size+1) [du k t l] q0) (s.size+1) ([du k t l],q0) ⟨hL0,by
    cases hb:q0.b with
    | true=>exact .inl rfl
    | false=>right;have:=hu0 hb;dsimp only;omega,rfl⟩ ?_ ?_
 ·refine (dU (i:=6) (j:=600) rfl rfl rfl (pre:=[_,_]) (post:=[]) rfl).trans ?_
  (refine eL (fun j=>if j=9 then 6 else j) _ _ rfl rfl ?_ ?_<;>exact tdy0)
 rintro N ⟨L,q⟩ ⟨hgl,hN,htot⟩
 dsimp only at hgl hN htot ⊢
 have hpre:=hgl.pre hp
 obtain⟨a,d,b⟩:=q
 obtain⟨v,hv⟩:∃v,bAt s a=v:=⟨_,rfl⟩
 have hgp:=xp (d:=d) (b:=b) hv
 have hlen:=hgl.len.1
 have hale:a≤s.size:=hgl.le
 dsimp only at hlen
 cases hgo:goS s ⟨a,d,b⟩ with
 | true =>
  obtain⟨hb,hlt,hv1,hv2⟩:=zp2 hgo
  dsimp only at hb hlt hv1 hv2 hN
  subst hb
  rw [hv] at hv1 hv2
  have hN:=hN.resolve_left (by simp)
  obtain⟨M,rfl⟩:∃M,N=M+1:=⟨N-1,omq⟩
  have hic:=hi _ hpre hgl.ge
  have hgd:=hg _ hpre hgl.ge
  have hst:cz s item (M+1) L ⟨a,d,false⟩=cz s item M (L++[(item ⟨a,d,false⟩).1]) (item ⟨a,d,false⟩).2:=by
   show (if goS s ⟨a,d,false⟩ then _ else _)=_
   rw [if_pos hgo]
  rw [hst] at htot
  clear hst hi hg hic0
  have hgl2:=hgl.step rfl hgd
  obtain⟨⟨e2,q2⟩,hq2⟩:∃r,item ⟨a,d,false⟩=r:=⟨_,rfl⟩
  rw [hq2] at hic htot hgd hgl2
  dsimp only at hic htot hgd hgl2
  have hfi2:Fine e2:=hgd.1.fine
  cases hfi2 with
  | mk k' t' l' hk' ht' hl2' =>
  unfold fQ at hic ⊢
  dsimp only at hic ⊢
  repeat' (first|(apply da;first|refine fg ?_|(refine e7 ?_ ?_<;>intro hG<;>(try cases hG))|(apply dC;refine aD ?_)|refine dZ ?_|refine bW ?_|refine dJ ?_|(apply fF;refine aD ?_)|refine eU ?_|refine aD ?_)|refine aj ?_|refine ab ?_|refine av krq krq fun C=>?_|refine ac ?_)
  all_goals first
   | (exfalso;clear hic hgl hgl2 hgd hL0 hg0 htot hN hpre;simp only [dqn,bne_eq_false_iff_eq] at hG;omega)
   | skip
  rw [hv]
  refine ae rqf (fun hC=>?_) fun hC=>absurd (bne_eq_false_iff_eq.1 hC) omq
  repeat' (first|(apply ay;first|refine ak ?_|refine ai ?_|refine aF 0 (hic) ?_|refine dz ?_|refine dT ?_)|refine aj ?_|refine ab ?_|refine aa fun C=>?_|refine ah ?_|refine al ?_)
  refine⟨M,(L++[du k' t' l'],q2),omq,⟨hgl2,?_,htot⟩,?_⟩
  ·dsimp only
   cases hb2:q2.b with
   | true=>exact .inl rfl
   | false=>right;have:=hgd.2 hb2;(try dsimp only at this);omega
  ·dsimp only
   rw [lla,List.length_singleton]
   refine (dU (i:=52) (j:=5100) rfl rfl rfl (pre:=owL L++[.v (.int .i64 k'),.v (.string t')]) (post:=[]) (by rw [List.append_assoc];rfl)).trans ?_
   (refine eL (fun j=>if j=9 then 52 else j) _ _ rfl rfl ?_ ?_<;>(repeat' (first|exact TmOk.nil|exact RwOk.nil|refine TmOk.cons ?_ ?_|refine RwOk.cons ?_ ?_|rfl|(refine rnV_id' rfl ?_;exact byc)|(refine cK ?_;first|rfl|omega|(rw [bB omq omq];omega))|(refine bg rfl ?_;exact byc)|exact dP rfl rfl|(refine rw_mid rqf rqf ?_ ?_<;>exact byc)|(refine rw_rn' rfl rfl ?_;simp;done))))
   exact fH (r:=⟨112,3,L.length+1,false,(owL L++[.v (.int .i64 k'),.v (.string t')])++[.ow 112 l'.length 3 (owL l')]⟩) rfl (by rw [fG,List.append_assoc];rfl) (by first|rfl|(simp [oS,bu,clo,bk,aM,bl,a8,aZ];done))
 | false =>
  rw [qY hgo] at htot
  rw [←htot]
  rw [hgo] at hgp
  have hfine:=hgl.fine
  have hne:=hgl.ne
  clear htot hi hg hic0 hN hL0 hgl hpre hg0
  have hgo':b=true∨s.size≤a∨v=124∨v=41:=by
   cases b with
   | true=>exact .inl rfl
   | false=>right;simp at hgp;omega
  unfold fQ
  dsimp only
  match L,hfine,hne with
  | [],_,h0=>exact absurd h0 (by simp)
  | [x],hf,_ =>
   have hx:=hf x (List.mem_singleton.2 rfl)
   cases hx with
   | mk k' t' l' hk' ht' hl2' =>
   cases b<;>repeat' (first|(apply da;first|refine fg ?_|(refine e7 ?_ ?_<;>intro hG<;>(try cases hG))|(apply dC;refine aD ?_)|refine dZ ?_|refine bW ?_|refine dJ ?_|(apply fF;refine aD ?_)|refine eU ?_|refine aD ?_)|refine aj ?_|refine ab ?_|refine av krq krq fun C=>?_|refine ac ?_)
   all_goals first
    | refine ar rfl ?_
    | refine ae rqf (fun hC=>by exfalso;clear hfine;simp only [bne_iff_ne,ne_eq,Bool.false_eq_true,false_or,dqt] at *;omega) fun hC=>?_
   all_goals
    refine bc (y8 800 (i:=9) rfl rfl (pre:=[.v (.int .i64 k'),.v (.string t')]) (post:=[]) rfl) ?_
    repeat' (first|(apply ay;first|refine ak ?_|refine bM ?_|refine cJ ?_|refine bh ?_|refine eG ?_|refine ao ?_)|refine aj ?_|refine ab ?_|refine aa fun C=>?_|refine ac ?_|refine aE ?_|refine aq rfl ?_)
    exact qn
  | x :: y :: r,hf,_ =>
   have hlen2:(x :: y :: r).length=r.length+2:=rfl
   cases b<;>repeat' (first|(apply da;first|refine fg ?_|(refine e7 ?_ ?_<;>intro hG<;>(try cases hG))|(apply dC;refine aD ?_)|refine dZ ?_|refine bW ?_|refine dJ ?_|(apply fF;refine aD ?_)|refine eU ?_|refine aD ?_)|refine aj ?_|refine ab ?_|refine av krq krq fun C=>?_|refine ac ?_)
   all_goals first
    | refine ar rfl ?_
    | refine ae rqf (fun hC=>by exfalso;clear hfine;simp only [bne_iff_ne,ne_eq,Bool.false_eq_true,false_or,dqt] at *;omega) fun hC=>?_
   all_goals
    repeat' (first|(apply ay;first|refine ak ?_|refine cJ ?_|refine ao ?_)|refine aj ?_|refine ab ?_|refine aa fun C=>?_|refine ac ?_|refine aE ?_)
    refine ae rqf (fun hC=>by exfalso;simp at hC;omega) fun hC=>?_
    repeat' (first|(apply ay;first|refine ak ?_|refine bh ?_|refine au ?_)|refine aj ?_|refine ab ?_|refine aa fun C=>?_|refine ac ?_|refine al ?_)
    exact qn
theorem zW {s:ByteArray}{atom:PS→E×PS}{p:PS}{e:E}{a d:Nat}{b:Bool}(h:atom p=(e,⟨a,d,b⟩)):kX s atom p =
 (if bAt s a=42 then (du 6 ByteArray.empty [e],⟨a+1,d,b⟩) else if bAt s a=43 then (du 7 ByteArray.empty [e],⟨a+1,d,b⟩) else if bAt s a=63 then (du 8 ByteArray.empty [e],⟨a+1,d,b⟩) else (e,⟨a,d,b⟩)):=by
 unfold kX
 rw [h];rfl
theorem zf8 {s:ByteArray}(hs:s.size≤1048576){atom:PS→E×PS}{p:PS}(hg:Good s p (atom p) 1 1 0)
 (ha:Ctr prog 181 [.c (.pt 0 0)] [gy s p] (.ag (owE (atom p).1)) [gy s (atom p).2]) :
 Ctr prog 168 [.c (.pt 0 0)] [gy s p] (.ag (owE (kX s atom p).1)) [gy s (kX s atom p).2]:=by
 obtain⟨⟨e,q⟩,hq⟩:∃r,atom p=r:=⟨_,rfl⟩
 rw [hq] at ha hg
 have hn3:=nF hs (p:=q)
 have hle:q.a≤s.size:=hg.le
 obtain⟨qa,qd,qb⟩:=q
 rw [zW hq]
 clear hq
 have hfi:Fine e:=hg.fine
 clear hg
 unfold gy at *
 dsimp only at ha hn3 hle ⊢
 cases hfi with
 | mk k t l hk ht hl2 =>
 generalize hv:bAt s qa=v at *
 refine az func168 rfl rfl ?_
 have hb3:(⟨5,1,3,false,[.v (.int .u8 42),.v (.int .u8 43),.v (.int .u8 63)]⟩:Row).cs.length=3:=rfl
 repeat' (first|(apply ay;first|refine ak ?_|refine aF 0 (ha) ?_|refine bh ?_|refine bJ ?_|refine dT ?_)|refine aj ?_|refine ab ?_|refine aa fun C=>?_|refine ac ?_)
 refine n_cvm ?_ (e:=5) krq krq
 repeat' (first|(apply ay;first|refine ak ?_|refine bC ?_)|refine aj ?_|refine ab ?_|refine ah ?_)
 refine aY (fun j:Nat=>⟨ft [(0,.c (.pt 0 0)),(2,.c (.pt 2 0)),(3,.c (.pt 3 0)),(9,.c (.ro 3 1 [.v (.int .u8 42),.v (.int .u8 43),.v (.int .u8 63)])),(10,.c (.v (.int .i64 3))),(11,.c (.v (.int .i64 j)))],eW [(0,0,⟨0,0,0,true,[.v (.string s),.v (.int .i64 qa),.v (.int .i64 qd),.v (.bool qb)]⟩),(2,2,⟨112,0,0,true,[.v (.int .i64 0),.v (.string ByteArray.empty),.v (.slice none 0 0)]⟩),(3,3,⟨112,0,0,true,[.v (.int .i64 k),.v (.string t),.sl 5 l.length]⟩),(5,5,⟨112,3,l.length,false,owL l⟩)],1,[0,2,3,5],34⟩)
  (fun N j=>j+N=3∧(1≤j→v≠42)∧(2≤j→v≠43)∧(3≤j→v≠63)) 3 0 ⟨omq,omq,omq,omq⟩ ?_ ?_
 ·(refine eL (fun j=>if j=5 then 800 else j) _ _ rfl rfl ?_ ?_<;>exact tdy0)
 rintro N j ⟨hN,hj1,hj2,hj3⟩
 obtain rfl|rfl|rfl|rfl:j=0∨j=1∨j=2∨j=3:=by omega
 ·by_cases hv0:v=42
  ·rw [if_pos hv0]
   subst hv0
   have hlt:qa<s.size:=dG (by rw [hv];decide)
   repeat' (first|(apply ay;first|refine ak ?_|refine ai ?_|refine bf ?_|refine aI ?_|refine dD ?_|refine bM ?_|refine aF 0 (hn3) ?_|refine bh ?_|(apply mW;refine au ?_)|refine aR ?_|refine aA ?_|refine aw ?_|refine dT ?_|refine au ?_)|refine aj ?_|refine ab ?_|refine aa fun C=>?_|refine ac ?_|refine ah ?_|refine al ?_|refine aq rfl ?_)
   refine bc (dU (i:=30) (j:=5) rfl rfl rfl (pre:=[_,_]) (post:=[]) rfl) ?_
   refine am ?_;refine dO rfl (bi (aO rfl (aO rfl (bE rfl rfl rfl cls0 aQ)))) rfl (by first|rfl|(simp [bu,clo,a8,aM,bl,bk,aZ];done)) rfl ⟨?_,?_⟩
   ·rfl
   ·rfl
  ·repeat' (first|(apply ay;first|refine ak ?_|refine ai ?_|refine dD ?_|refine aF 0 (hn3) ?_|(apply mW;refine au ?_)|refine aR ?_|refine aA ?_)|refine aj ?_|refine ab ?_|refine aa fun C=>?_|refine ac ?_|refine ah ?_|refine al ?_|refine aq rfl ?_)
   refine ae rqf (fun hC=>absurd (eq_of_beq hC) omq) fun hC=>?_
   repeat' (first|(apply ay;first|refine ak ?_|refine aw ?_)|refine aj ?_|refine ab ?_|refine aa fun C=>?_|refine al ?_)
   refine⟨N-1,1,omq,⟨omq,omq,omq,omq⟩,?_⟩
   (refine aL _ _ rfl rfl ?_ ?_<;>exact tdy0)
 ·by_cases hv1:v=43
  ·rw [if_neg (hj1 omq),if_pos hv1]
   subst hv1
   have hlt:qa<s.size:=dG (by rw [hv];decide)
   repeat' (first|(apply ay;first|refine ak ?_|refine ai ?_|refine bf ?_|refine aI ?_|refine dD ?_|refine bM ?_|refine aF 0 (hn3) ?_|refine bh ?_|(apply mW;refine au ?_)|refine aR ?_|refine aA ?_|refine aw ?_|refine dT ?_|refine au ?_)|refine aj ?_|refine ab ?_|refine aa fun C=>?_|refine ac ?_|refine ah ?_|refine al ?_|refine aq rfl ?_)
   refine bc (dU (i:=30) (j:=5) rfl rfl rfl (pre:=[_,_]) (post:=[]) rfl) ?_
   refine am ?_;refine dO rfl (bi (aO rfl (aO rfl (bE rfl rfl rfl cls0 aQ)))) rfl (by first|rfl|(simp [bu,clo,a8,aM,bl,bk,aZ];done)) rfl ⟨?_,?_⟩
   ·rfl
   ·rfl
  ·repeat' (first|(apply ay;first|refine ak ?_|refine ai ?_|refine dD ?_|refine aF 0 (hn3) ?_|(apply mW;refine au ?_)|refine aR ?_|refine aA ?_)|refine aj ?_|refine ab ?_|refine aa fun C=>?_|refine ac ?_|refine ah ?_|refine al ?_|refine aq rfl ?_)
   refine ae rqf (fun hC=>absurd (eq_of_beq hC) omq) fun hC=>?_
   repeat' (first|(apply ay;first|refine ak ?_|refine aw ?_)|refine aj ?_|refine ab ?_|refine aa fun C=>?_|refine al ?_)
   refine⟨N-1,2,omq,⟨omq,omq,omq,omq⟩,?_⟩
   (refine aL _ _ rfl rfl ?_ ?_<;>exact tdy0)
 ·by_cases hv2:v=63
  ·rw [if_neg (hj1 omq),if_neg (hj2 omq),if_pos hv2]
   subst hv2
   have hlt:qa<s.size:=dG (by rw [hv];decide)
   repeat' (first|(apply ay;first|refine ak ?_|refine ai ?_|refine bf ?_|refine aI ?_|refine dD ?_|refine bM ?_|refine aF 0 (hn3) ?_|refine bh ?_|(apply mW;refine au ?_)|refine aR ?_|refine aA ?_|refine aw ?_|refine dT ?_|refine au ?_)|refine aj ?_|refine ab ?_|refine aa fun C=>?_|refine ac ?_|refine ah ?_|refine al ?_|refine aq rfl ?_)
   refine bc (dU (i:=30) (j:=5) rfl rfl rfl (pre:=[_,_]) (post:=[]) rfl) ?_
   refine am ?_;refine dO rfl (bi (aO rfl (aO rfl (bE rfl rfl rfl cls0 aQ)))) rfl (by first|rfl|(simp [bu,clo,a8,aM,bl,bk,aZ];done)) rfl ⟨?_,?_⟩
   ·rfl
   ·rfl
  ·repeat' (first|(apply ay;first|refine ak ?_|refine ai ?_|refine dD ?_|refine aF 0 (hn3) ?_|(apply mW;refine au ?_)|refine aR ?_|refine aA ?_)|refine aj ?_|refine ab ?_|refine aa fun C=>?_|refine ac ?_|refine ah ?_|refine al ?_|refine aq rfl ?_)
   refine ae rqf (fun hC=>absurd (eq_of_beq hC) omq) fun hC=>?_
   repeat' (first|(apply ay;first|refine ak ?_|refine aw ?_)|refine aj ?_|refine ab ?_|refine aa fun C=>?_|refine al ?_)
   refine⟨N-1,3,omq,⟨omq,omq,omq,omq⟩,?_⟩
   (refine aL _ _ rfl rfl ?_ ?_<;>exact tdy0)
 ·rw [if_neg (hj1 omq),if_neg (hj2 omq),if_neg (hj3 omq)]
  repeat' (first|(apply ay;first|refine bM ?_|refine bh ?_|refine aA ?_)|refine aj ?_|refine ab ?_|refine aa fun C=>?_|refine ac ?_|refine aE ?_|refine ar rfl ?_)
  refine am ?_;refine dO rfl (bi (aO rfl (aO rfl (bE rfl rfl rfl cls0 aQ)))) rfl (by first|rfl|(simp [bu,clo,a8,aM,bl,bk,aZ];done)) rfl ⟨?_,?_⟩
  ·rfl
  ·rfl
end Go.Proofs.YtomolhbkdhjofaaGreatDoor
