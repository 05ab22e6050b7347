/- T -/
import Derived.Test.YtomolhbkdhjofaaGreatDoorParXX
set_option maxHeartbeats 0
set_option maxRecDepth 100000
namespace Go.Proofs.YtomolhbkdhjofaaGreatDoor
open Go.RowKit Go.Proofs.Tryz
theorem pS {p:Prop}(h:p:=by refine am ?_;refine d8 rfl (bh (aS rfl (aS rfl (bB rfl rfl rfl cls0 aV)))) rfl (by first|rfl|(simp [bl,clo,a8,aL,bj,bi,aX];done)) rfl ⟨?_,?_⟩<;>rfl):p:=h
def ff (s:ByteArray)(p:PS):List AC:=[.v (.string s),.v (.int .i64 (p.a:Int)),.v (.bool p.b),.v (.int .i64 (p.d:Int))]
def isP (s:ByteArray)(c:Nat)(p:PS):PS:=if isB s c p then p.go 1 else p
theorem lH {s:ByteArray}(hs:s.size≤1048576){c:Nat}(hc:c<256){p:PS}:Ctr prog 149 [.c (.pt 0 0),.c (.v (.int .u8 (c:Int)))] [ff s p] (.c (.v (.bool (isB s c p)))) [ff s (isP s c p)]:=by
 obtain⟨a,d,b⟩:=p
 refine ay func149 rfl rfl ?_
 unfold ff
 dsimp only
 cases b with
 | true =>
  have hr:isB s c ⟨a,d,true⟩=false:=rfl
  unfold isP
  rw [hr]
  repeat' (first|(apply av;refine ai ?_)|refine aj ?_|refine ab ?_|(apply dc;first|refine fE ?_|(refine fB ?_ ?_<;>intro hG<;>(try cases hG))|(apply dx;refine aH ?_)|refine d5 ?_|refine cg ?_|refine aH ?_)|refine aj ?_|refine ab ?_|refine aa fun C=>?_|refine au (by kernel_rfl) (by kernel_rfl) fun C=>?_|refine ac ?_|refine aq rfl ?_)
  refine am ?_;refine d8 rfl aJ rfl (by first|rfl|(simp [bl,clo,a8,aL,bj,bi,aX];done)) rfl ⟨?_,?_⟩<;>rfl
 | false =>
  by_cases hlt:a<s.size
  ·by_cases he:bAt s a=c
   ·have hr:isB s c ⟨a,d,false⟩=true:=by unfold isB;rw [decide_eq_true hlt,he];simp
    unfold isP
    rw [hr]
    subst he
    repeat' (first|(apply av;refine ai ?_)|refine aj ?_|refine ab ?_|(apply dc;first|refine fE ?_|(refine fB ?_ ?_<;>intro hG<;>(try cases hG))|(apply dx;refine aH ?_)|refine d5 ?_|refine cg ?_|refine eO ?_|(apply fD;refine aH ?_)|refine iF ?_|refine aH ?_)|refine aj ?_|refine ab ?_|refine aa fun C=>?_|refine au (by kernel_rfl) (by kernel_rfl) fun C=>?_|refine ac ?_)
    ·exfalso;simp only [decide_eq_true_iff] at hG;omega
    ·refine ae (by rfl) (fun hC=>absurd hC (by simp)) fun hC=>?_
     repeat' (first|(apply av;first|refine ak ?_|refine ai ?_|refine ba ?_|refine aI ?_|refine bg ?_|refine aw ?_|refine az ?_)|refine aj ?_|refine ab ?_|refine aa fun C=>?_|refine ac ?_|refine al ?_)
     refine am ?_;refine d8 rfl aJ rfl (by first|rfl|(simp [bl,clo,a8,aL,bj,bi,aX];done)) rfl ⟨?_,?_⟩<;>rfl
   ·have hr:isB s c ⟨a,d,false⟩=false:=by unfold isB;simp [he]
    unfold isP
    rw [hr]
    repeat' (first|(apply av;refine ai ?_)|refine aj ?_|refine ab ?_|(apply dc;first|refine fE ?_|(refine fB ?_ ?_<;>intro hG<;>(try cases hG))|(apply dx;refine aH ?_)|refine d5 ?_|refine cg ?_|refine eO ?_|(apply fD;refine aH ?_)|refine iF ?_|refine aH ?_)|refine aj ?_|refine ab ?_|refine aa fun C=>?_|refine au (by kernel_rfl) (by kernel_rfl) fun C=>?_|refine ac ?_)
    ·exfalso;simp only [decide_eq_true_iff] at hG;omega
    ·refine ae (by rfl) (fun hC=>?_) fun hC=>absurd (bne_eq_false_iff_eq.1 hC) omq
     repeat' (first|(apply av;refine ai ?_)|refine aj ?_|refine ab ?_|refine aa fun C=>?_|refine ac ?_)
     refine am ?_;refine d8 rfl aJ rfl (by first|rfl|(simp [bl,clo,a8,aL,bj,bi,aX];done)) rfl ⟨?_,?_⟩<;>rfl
  ·have hr:isB s c ⟨a,d,false⟩=false:=by unfold isB;simp [hlt]
   unfold isP
   rw [hr]
   repeat' (first|(apply av;refine ai ?_)|refine aj ?_|refine ab ?_|(apply dc;first|refine fE ?_|(refine fB ?_ ?_<;>intro hG<;>(try cases hG))|(apply dx;refine aH ?_)|refine d5 ?_|refine cg ?_|refine eO ?_|(apply fD;refine aH ?_)|refine aH ?_)|refine aj ?_|refine ab ?_|refine aa fun C=>?_|refine au (by kernel_rfl) (by kernel_rfl) fun C=>?_|refine ac ?_)
   ·refine aq rfl ?_
    repeat' (first|(apply av;refine ai ?_)|refine aj ?_|refine ab ?_|refine aa fun C=>?_|refine ac ?_)
    refine am ?_;refine d8 rfl aJ rfl (by first|rfl|(simp [bl,clo,a8,aL,bj,bi,aX];done)) rfl ⟨?_,?_⟩<;>rfl
   ·exfalso;simp only [decide_eq_false_iff_not] at hG;omega
theorem lI {s:ByteArray}{p:PS}:Ctr prog 184 [.c (.pt 0 0)] [ff s p] (.ag (owE cZ)) [ff s p.bad]:=by
 obtain⟨a,d,b⟩:=p
 refine ay func184 rfl rfl ?_
 unfold ff
 dsimp only
 repeat' (first|(apply av;first|refine ak ?_|refine ba ?_|refine bg ?_|refine bI ?_|refine az ?_)|refine aj ?_|refine ab ?_|refine aa fun C=>?_|refine ac ?_)
 refine a7 (cR 900 (i:=2) 112 3 rfl rfl (pre:=[_,_]) (post:=[]) rfl) ?_;refine am ?_;refine d8 rfl (bh (aS rfl (aS rfl (bB rfl rfl rfl cls0 aV)))) rfl (by first|rfl|(simp [bl,clo,a8,aL,bj,bi,aX];done)) rfl ⟨?_,?_⟩<;>rfl
theorem iM {s:ByteArray}{c:Nat}{p:PS}(h:isB s c p=true):isP s c p=p.go 1:=if_pos h
theorem lJ {s:ByteArray}{c:Nat}{p:PS}(h:isB s c p=false):isP s c p=p:=by unfold isP;rw [h];rfl
theorem wN {s:ByteArray}(hs:s.size≤1048576){alt:PS→E×PS}{p:PS}(hp:Pre s p)(hb:p.b=false)(hg:p.d≤7→GoodS s ⟨p.a,p.d+1,p.b⟩ (alt ⟨p.a,p.d+1,p.b⟩))
 (ha:p.d≤7→Ctr prog 134 [.c (.pt 0 0)] [ff s ⟨p.a,p.d+1,p.b⟩] (.ag (owE (alt ⟨p.a,p.d+1,p.b⟩).1)) [ff s (alt ⟨p.a,p.d+1,p.b⟩).2]) :
 Ctr prog 185 [.c (.pt 0 0)] [ff s p] (.ag (owE (dN s alt p).1)) [ff s (dN s alt p).2]:=by
 obtain⟨a,d,b⟩:=p
 have hb:b=false:=hb
 subst hb
 dsimp only at ha hg
 have hpd:d≤8:=hp.2.2 rfl
 have h41:=lH hs (c:=41) omq (p:=⟨a,d,false⟩)
 cases h1:isB s 41 ⟨a,d,false⟩ with
 | true =>
  have hr:dN s alt ⟨a,d,false⟩=(cY 9 ByteArray.empty [],⟨a+1,d,false⟩):=by unfold dN;rw [if_pos h1];rfl
  rw [hr]
  rw [iM h1,h1] at h41
  refine ay func185 rfl rfl ?_
  unfold ff at h41 ⊢
  dsimp only [PS.go] at h41 ⊢
  repeat' (first|(apply av;first|refine ak ?_|refine aF 0 (h41) ?_|refine bg ?_|refine bI ?_|refine az ?_)|refine aj ?_|refine ab ?_|refine aa fun C=>?_|refine ac ?_|refine aq rfl ?_)
  refine a7 (cR 900 (i:=2) 112 3 rfl rfl (pre:=[_,_]) (post:=[]) rfl) ?_;refine am ?_;refine d8 rfl (bh (aS rfl (aS rfl (bB rfl rfl rfl cls0 aV)))) rfl (by first|rfl|(simp [bl,clo,a8,aL,bj,bi,aX];done)) rfl ⟨?_,?_⟩<;>rfl
 | false =>
  rw [lJ h1,h1] at h41
  by_cases h8:8<d+1
  ·have hr:dN s alt ⟨a,d,false⟩=(cZ,⟨a,d+1,true⟩):=by unfold dN;rw [if_neg (by rw [h1];simp),if_pos h8]
   rw [hr]
   have hbad:=lI (s:=s) (p:=⟨a,d+1,false⟩)
   refine ay func185 rfl rfl ?_
   unfold ff at h41 hbad ⊢
   dsimp only [PS.bad] at h41 hbad ⊢
   repeat' (first|(apply av;first|refine ak ?_|refine ba ?_|refine aI ?_|refine aF 0 (h41) ?_|refine bg ?_|refine bu ?_|refine aw ?_|refine bI ?_|refine az ?_)|refine aj ?_|refine ab ?_|refine aa fun C=>?_|refine ac ?_|refine al ?_|refine ar rfl ?_)
   refine ae (by rfl) (fun hC=>?_) fun hC=>by exfalso;simp only [decide_eq_false_iff_not] at hC;omega
   repeat' (first|(apply av;first|refine ak ?_|refine aF 0 (hbad) ?_|refine bg ?_)|refine aj ?_|refine ab ?_|refine aa fun C=>?_|refine ac ?_)
   exact pS
  ·have hic:=ha omq
   obtain⟨g1,g2,g3,g4,g5,g6⟩:=hg omq
   clear ha hg
   have hr:dN s alt ⟨a,d,false⟩=if isB s 41 ⟨(alt ⟨a,d+1,false⟩).2.a,(alt ⟨a,d+1,false⟩).2.d-1,(alt ⟨a,d+1,false⟩).2.b⟩ then ((alt ⟨a,d+1,false⟩).1,⟨(alt ⟨a,d+1,false⟩).2.a+1,(alt ⟨a,d+1,false⟩).2.d-1,(alt ⟨a,d+1,false⟩).2.b⟩) else (cZ,⟨(alt ⟨a,d+1,false⟩).2.a,(alt ⟨a,d+1,false⟩).2.d-1,true⟩):=by unfold dN;rw [if_neg (by rw [h1];simp),if_neg h8];rfl
   rw [hr]
   clear hr
   obtain⟨⟨e,q⟩,hq⟩:∃r,alt ⟨a,d+1,false⟩=r:=⟨_,rfl⟩
   rw [hq] at hic g1 g2 g3 g4 g5 g6 ⊢
   dsimp only at hic g1 g2 g3 g4 g5 g6 ⊢
   cases g1 with
   | mk k t l hk ht hl2 =>
   obtain⟨qa,qd,qb⟩:=q
   dsimp only at hic g2 g3 g4 g5 g6 ⊢
   have hqd:((qd:Nat):Int)-1=((qd-1:Nat):Int):=by omega
   have hbad:=lI (s:=s) (p:=⟨qa,qd-1,qb⟩)
   have h41b:=lH hs (c:=41) omq (p:=⟨qa,qd-1,qb⟩)
   cases h2:isB s 41 ⟨qa,qd-1,qb⟩ with
   | true =>
    rw [iM h2,h2] at h41b
    rw [if_pos rfl]
    refine ay func185 rfl rfl ?_
    unfold ff at h41 hic h41b ⊢
    dsimp only [PS.go] at h41 hic h41b ⊢
    rw [←hqd] at h41b ⊢
    repeat' (first|(apply av;first|refine ak ?_|refine ba ?_|refine aI ?_|refine aF 0 (h41) ?_|refine bg ?_|refine bu ?_|refine aw ?_|refine bI ?_|refine az ?_)|refine aj ?_|refine ab ?_|refine aa fun C=>?_|refine ac ?_|refine al ?_|refine ar rfl ?_)
    refine ae (by rfl) (fun hC=>by exfalso;simp only [decide_eq_true_iff] at hC;omega) fun hC=>?_
    repeat' (first|(apply av;first|refine ak ?_|refine ba ?_|refine aI ?_|refine bL ?_|refine aF 0 (hic) ?_|refine aF 0 (h41b) ?_|refine bg ?_|refine bM ?_|refine ed ?_|refine bI ?_|refine az ?_)|refine aj ?_|refine ab ?_|refine aa fun C=>?_|refine ac ?_|refine al ?_|refine ar rfl ?_)
    exact pS
   | false =>
    rw [lJ h2,h2] at h41b
    rw [if_neg (by simp)]
    refine ay func185 rfl rfl ?_
    unfold ff at h41 hic h41b hbad ⊢
    dsimp only [PS.bad] at h41 hic h41b hbad ⊢
    rw [←hqd] at h41b hbad ⊢
    repeat' (first|(apply av;first|refine ak ?_|refine ba ?_|refine aI ?_|refine aF 0 (h41) ?_|refine bg ?_|refine bu ?_|refine aw ?_|refine bI ?_|refine az ?_)|refine aj ?_|refine ab ?_|refine aa fun C=>?_|refine ac ?_|refine al ?_|refine ar rfl ?_)
    refine ae (by rfl) (fun hC=>by exfalso;simp only [decide_eq_true_iff] at hC;omega) fun hC=>?_
    repeat' (first|(apply av;first|refine ak ?_|refine ba ?_|refine aI ?_|refine aF 0 (hic) ?_|refine aF 0 (h41b) ?_|refine aF 0 (hbad) ?_|refine bg ?_|refine bM ?_|refine ed ?_|refine bI ?_|refine az ?_)|refine aj ?_|refine ab ?_|refine aa fun C=>?_|refine ac ?_|refine al ?_|refine aq rfl ?_)
    exact pS
theorem zuQ {s:ByteArray}{alt:PS→E×PS}{a d c:Nat}(ha:a<s.size)(hc:bAt s a=c):dt s alt ⟨a,d,false⟩=eE s alt c ⟨a+1,d,false⟩:=by
 unfold dt
 rw [if_neg (by simp;exact ha),hc];rfl
theorem zvQ {s:ByteArray}(hs:s.size≤1048576){alt:PS→E×PS}{p:PS}(hp:Pre s p)
 (hgr:p.b=false→p.a<s.size→Ctr prog 185 [.c (.pt 0 0)] [ff s (p.go 1)] (.ag (owE (dN s alt (p.go 1)).1)) [ff s (dN s alt (p.go 1)).2])
 (hgg:p.b=false→p.a<s.size→GoodS s (p.go 1) (dN s alt (p.go 1))) :
 Ctr prog 177 [.c (.pt 0 0)] [ff s p] (.ag (owE (dt s alt p).1)) [ff s (dt s alt p).2]:=by
 obtain⟨a,d,b⟩:=p
 have hple:a≤s.size:=hp.1
 have hbad0:=lI (s:=s) (p:=⟨a,d,b⟩)
 cases b with
 | true =>
  have hr:dt s alt ⟨a,d,true⟩=(cZ,⟨a,d,true⟩):=by unfold dt;rw [if_pos (.inl rfl)];rfl
  rw [hr]
  refine ay func177 rfl rfl ?_
  unfold ff at hbad0 ⊢
  dsimp only [PS.bad] at hbad0 ⊢
  repeat' (first|(apply av;first|refine ak ?_|refine aF 0 (hbad0) ?_|refine bg ?_|refine bI ?_)|refine aj ?_|refine ab ?_|(apply dc;first|refine fE ?_|(refine fB ?_ ?_<;>intro hG<;>(try cases hG))|(apply dx;refine aH ?_)|refine d5 ?_|refine cg ?_|refine aH ?_)|refine aj ?_|refine ab ?_|refine aa fun C=>?_|refine au (by kernel_rfl) (by kernel_rfl) fun C=>?_|refine ac ?_|refine aq rfl ?_)
  exact pS
 | false =>
 by_cases hlt:a<s.size
 ·have hgr:=hgr rfl hlt
  have hgg:=hgg rfl hlt
  obtain⟨u,hu⟩:∃u:UInt8,bAt s a=u.toNat:=⟨UInt8.ofNat (bAt s a),by rw [UInt8.toNat_ofNat'];have:=cI s a;omega⟩
  obtain⟨c,hc⟩:∃c,u.toNat=c:=⟨_,rfl⟩
  have hcl:c<256:=hc▸u.toNat_lt
  rw [zuQ hlt (hu.trans hc)]
  have hlb:=nU hcl
  have hbad1:=lI (s:=s) (p:=⟨a+1,d,false⟩)
  have hq1:(PS.mk a d false).go 1=⟨a+1,d,false⟩:=rfl
  rw [hq1] at hgr hgg
  refine ay func177 rfl rfl ?_
  unfold ff at hgr hbad1 ⊢
  dsimp only [PS.bad] at hgr hbad1 ⊢
  have hbu:bAt s a=c:=hu.trans hc
  repeat' (first|(apply av;refine bI ?_)|refine aj ?_|refine ab ?_|(apply dc;first|(refine fB ?_ ?_<;>intro hG<;>(try cases hG))|(apply dx;refine aH ?_)|refine d5 ?_|refine cg ?_|refine eO ?_|(apply fD;refine aH ?_)|refine aH ?_)|refine aj ?_|refine ab ?_|refine aa fun C=>?_|refine au (by kernel_rfl) (by kernel_rfl) fun C=>?_|refine ac ?_)
  refine ae (by rfl) (fun hC=>by exfalso;simp only [decide_eq_true_iff] at hC;omega) fun hC=>?_
  have hu':bAt s a=u.toNat:=hu
  repeat' (first|(apply av;first|refine ak ?_|refine ai ?_|refine ba ?_|refine aI ?_|refine bg ?_|refine aW ?_|refine aw ?_|refine az ?_)|refine aj ?_|refine ab ?_|(apply dc;first|(apply dx;refine aH ?_)|(apply ki;refine aH ?_)|refine d5 ?_|refine cg ?_|refine iF ?_|refine aH ?_)|refine aj ?_|refine ab ?_|refine aa fun C=>?_|refine au (by kernel_rfl) (by kernel_rfl) fun C=>?_|refine ac ?_|refine ah ?_|refine al ?_)
  rw [hbu]
  by_cases h3:c=46∨c=94∨c=36
  ·obtain⟨kk,hr,hkk⟩:∃kk:Int,eE s alt c ⟨a+1,d,false⟩=(cY kk ByteArray.empty [],⟨a+1,d,false⟩)∧((c=46∧kk=2)∨(c=94∧kk=10)∨(c=36∧kk=11)):=by
    rcases h3 with h|h|h
    ·exact⟨2,by rw [h];rfl,.inl ⟨h,rfl⟩⟩
    ·exact⟨10,by rw [h];rfl,.inr (.inl ⟨h,rfl⟩)⟩
    ·exact⟨11,by rw [h];rfl,.inr (.inr ⟨h,rfl⟩)⟩
   rw [hr]
   clear hr h3
   rcases hkk with ⟨h,rfl⟩|⟨h,rfl⟩|⟨h,rfl⟩
   all_goals
    rw [h]
    repeat' (first|(apply av;first|refine ak ?_|refine ai ?_|refine bg ?_|refine aW ?_|refine az ?_)|refine aj ?_|refine ab ?_|refine aa fun C=>?_|refine ac ?_|refine aq rfl ?_|refine ar rfl ?_)
    refine a7 (cR 900 (i:=2) 112 3 rfl rfl (pre:=[_,_]) (post:=[]) rfl) ?_;refine am ?_;refine d8 rfl (bh (aS rfl (aS rfl (bB rfl rfl rfl cls0 aV)))) rfl (by first|rfl|(simp [bl,clo,a8,aL,bj,bi,aX];done)) rfl ⟨?_,?_⟩<;>rfl
  have h46:c≠46:=fun h=>h3 (.inl h)
  have h94:c≠94:=fun h=>h3 (.inr (.inl h))
  have h36:c≠36:=fun h=>h3 (.inr (.inr h))
  by_cases h40:c=40
  ·have hr:eE s alt c ⟨a+1,d,false⟩=dN s alt ⟨a+1,d,false⟩:=by rw [h40];rfl
   rw [hr]
   rw [h40]
   obtain⟨⟨e,q⟩,hq⟩:∃r,dN s alt ⟨a+1,d,false⟩=r:=⟨_,rfl⟩
   rw [hq] at hgr hgg ⊢
   have hfi:Fine e:=hgg.fine
   cases hfi with
   | mk k t l hk ht hl2 =>
   dsimp only at hgr ⊢
   repeat' (first|(apply av;first|refine ak ?_|refine ai ?_|refine aF 0 (hgr) ?_|refine bg ?_|refine aW ?_)|refine aj ?_|refine ab ?_|refine aa fun C=>?_|refine ac ?_|refine aq rfl ?_|refine ar rfl ?_)
   exact pS
  iterate 3
   refine ae (by rfl) (fun hC=>absurd (eq_of_beq hC) omq) fun hC=>?_
   repeat' (first|(apply av;first|refine ak ?_|refine ai ?_|refine aW ?_)|refine aj ?_|refine ab ?_|refine aa fun C=>?_|refine ac ?_)
  refine ae (by rfl) (fun hC=>absurd (eq_of_beq hC) omq) fun hC=>?_
  cases hl:ls c with
  | true =>
   have hr:eE s alt c ⟨a+1,d,false⟩=(cY 1 (wl c) [],⟨a+1,d,false⟩):=jE hl
   rw [hr]
   rw [hl] at hlb
   subst hc
   repeat' (first|(apply av;first|refine ak ?_|refine ai ?_|refine aG hlb ?_|refine bg ?_|(apply f_cv;refine az ?_)|refine ec ?_|refine az ?_)|refine aj ?_|refine ab ?_|refine aa fun C=>?_|refine ac ?_|refine aq rfl ?_)
   refine a7 (cR 900 (i:=2) 112 3 rfl rfl (pre:=[_,_]) (post:=[]) rfl) ?_;refine am ?_;refine d8 rfl (bh (aS rfl (aS rfl (bB rfl rfl rfl cls0 aV)))) rfl (by first|rfl|(simp [bl,clo,a8,aL,bj,bi,aX];done)) rfl ⟨?_,?_⟩<;>rfl
  | false =>
   rw [hl] at hlb
   by_cases h91:c=91
   ·subst h91
    obtain⟨g1,g2,g3,g4⟩:=jj (s:=s) (c:=93) s.size (a+1) omq omq
    have hr:eE s alt 91 ⟨a+1,d,false⟩=if isB s 93 ⟨ep s 93 s.size (a+1),d,false⟩ then (cY 3 (bk s (a+1) (ep s 93 s.size (a+1))) [],⟨ep s 93 s.size (a+1)+1,d,false⟩) else (cZ,⟨ep s 93 s.size (a+1),d,true⟩):=rfl
    rw [hr]
    clear hr
    generalize ep s 93 s.size (a+1)=w at *
    have hisb:=lH hs (c:=93) omq (p:=⟨w,d,false⟩)
    have hbadw:=lI (s:=s) (p:=⟨w,d,false⟩)
    have ea:(a:Int)+1=((a+1:Nat):Int):=by omega
    repeat' (first|(apply av;first|refine ak ?_|refine ai ?_|refine ba ?_|refine aI ?_|refine aG hlb ?_|refine eg ?_|refine az ?_)|refine aj ?_|refine ab ?_|refine aa fun C=>?_|refine ac ?_|refine ah ?_|refine al ?_|refine ar rfl ?_)
    refine aZ (fun j:Nat=>⟨e8 [(0,.c (.pt 0 0)),(2,.c (.pt 2 0)),(4,.c (.v (.int .i64 ((a+1:Nat):Int))))],eT [(0,0,⟨0,0,0,true,[.v (.string s),.v (.int .i64 (j:Int)),.v (.bool false),.v (.int .i64 (d:Int))]⟩),(2,2,⟨112,0,0,true,[.v (.int .i64 0),.v (.string ByteArray.empty),.v (.slice none 0 0)]⟩)],1,[0,2],119⟩)
     (fun N j=>j+N=w∧a+1≤j) (w-(a+1)) (a+1) ⟨omq,omq⟩ ?_ ?_
    ·(refine aN _ _ rfl rfl ?_ ?_<;>exact tdy0)
    rintro N j ⟨hN,hj⟩
    by_cases hjw:j<w
    ·have hlt2:j<s.size:=by omega
     have hne:=g3 j hj hjw
     repeat' (first|(apply dc;first|refine fE ?_|(refine fB ?_ ?_<;>intro hG<;>(try cases hG))|(apply dx;refine aH ?_)|refine d5 ?_|refine cg ?_|refine eO ?_|(apply fD;refine aH ?_)|refine iF ?_|refine aH ?_)|refine aj ?_|refine ab ?_|refine au (by kernel_rfl) (by kernel_rfl) fun C=>?_|refine ac ?_)
     ·refine ae (by rfl) (fun hC=>?_) fun hC=>absurd (bne_eq_false_iff_eq.1 hC) omq
      repeat' (first|(apply av;first|refine ak ?_|refine ba ?_|refine aI ?_|refine bg ?_|refine aw ?_|refine az ?_)|refine aj ?_|refine ab ?_|refine aa fun C=>?_|refine ah ?_|refine al ?_)
      refine⟨N-1,j+1,omq,⟨omq,omq⟩,?_⟩
      (refine aN _ _ rfl rfl ?_ ?_<;>exact tdy0)
     ·exfalso;simp only [decide_eq_false_iff_not] at hG;omega
    ·obtain rfl:j=w:=by omega
     by_cases hws:j<s.size
     ·have hb93:=g4 hws
      have hi:isB s 93 ⟨j,d,false⟩=true:=by unfold isB;rw [decide_eq_true hws,hb93];rfl
      rw [iM hi,hi] at hisb
      rw [if_pos hi]
      unfold ff at hisb
      dsimp only [PS.go] at hisb ⊢
      repeat' (first|(apply dc;first|refine fE ?_|(refine fB ?_ ?_<;>intro hG<;>(try cases hG))|(apply dx;refine aH ?_)|refine d5 ?_|refine cg ?_|refine eO ?_|(apply fD;refine aH ?_)|refine iF ?_|refine aH ?_)|refine aj ?_|refine ab ?_|refine au (by kernel_rfl) (by kernel_rfl) fun C=>?_|refine ac ?_)
      ·rw [hb93]
       repeat' (first|(apply av;first|refine ak ?_|refine bL ?_|refine aF 0 (hisb) ?_|refine bg ?_|refine bM ?_)|refine aj ?_|refine ab ?_|(apply dc;first|(apply dx;refine aH ?_)|refine d5 ?_|refine cg ?_|refine mK ?_|refine rJ ?_|refine yJ ?_|refine aH ?_)|refine aj ?_|refine ab ?_|refine aa fun C=>?_|refine au (by kernel_rfl) (by kernel_rfl) fun C=>?_|refine ac ?_|refine al ?_|refine aB ?_|refine ar rfl ?_)
       refine a7 (cR 900 (i:=2) 112 3 rfl rfl (pre:=[_,_]) (post:=[]) rfl) ?_;refine am ?_;refine d8 rfl (bh (aS rfl (aS rfl (bB rfl rfl rfl cls0 aV)))) rfl (by first|rfl|(simp [bl,clo,a8,aL,bj,bi,aX];done)) rfl ⟨?_,?_⟩<;>rfl
      ·exfalso;simp only [decide_eq_false_iff_not] at hG;omega
     ·have hi:isB s 93 ⟨j,d,false⟩=false:=by unfold isB;rw [decide_eq_false hws];rfl
      rw [lJ hi,hi] at hisb
      rw [if_neg (by rw [hi];simp)]
      unfold ff at hisb hbadw
      dsimp only [PS.bad] at hisb hbadw ⊢
      repeat' (first|(apply dc;first|refine fE ?_|(refine fB ?_ ?_<;>intro hG<;>(try cases hG))|(apply dx;refine aH ?_)|refine d5 ?_|refine cg ?_|refine eO ?_|(apply fD;refine aH ?_)|refine iF ?_|refine aH ?_)|refine aj ?_|refine ab ?_|refine au (by kernel_rfl) (by kernel_rfl) fun C=>?_|refine ac ?_)
      ·exfalso;simp only [decide_eq_true_iff] at hG;omega
      ·repeat' (first|(apply av;first|refine ak ?_|refine aF 0 (hisb) ?_|refine aF 0 (hbadw) ?_|refine bg ?_|refine bM ?_)|refine aj ?_|refine ab ?_|(apply dc;first|(apply dx;refine aH ?_)|refine d5 ?_|refine cg ?_|refine mK ?_|refine rJ ?_|refine yJ ?_|refine aH ?_)|refine aj ?_|refine ab ?_|refine aa fun C=>?_|refine au (by kernel_rfl) (by kernel_rfl) fun C=>?_|refine ac ?_|refine aB ?_|refine aq rfl ?_|refine ar rfl ?_)
       exact pS
   ·have hr:eE s alt c ⟨a+1,d,false⟩=(cZ,⟨a+1,d,true⟩):=o7 hl h46 h94 h36 h40 h91
    rw [hr]
    repeat' (first|(apply av;first|refine ak ?_|refine ai ?_|refine aG hlb ?_|refine eg ?_)|refine aj ?_|refine ab ?_|refine aa fun C=>?_|refine ac ?_|refine ar rfl ?_)
    refine ae (by rfl) (fun hC=>?_) fun hC=>absurd (bne_eq_false_iff_eq.1 hC) omq
    repeat' (first|(apply av;first|refine ak ?_|refine aF 0 (hbad1) ?_|refine bg ?_)|refine aj ?_|refine ab ?_|refine aa fun C=>?_|refine ac ?_)
    exact pS
 ·have hr:dt s alt ⟨a,d,false⟩=(cZ,⟨a,d,true⟩):=by unfold dt;rw [if_pos (.inr (by dsimp only;omega))];rfl
  rw [hr]
  refine ay func177 rfl rfl ?_
  unfold ff at hbad0 ⊢
  dsimp only [PS.bad] at hbad0 ⊢
  repeat' (first|(apply av;refine bI ?_)|refine aj ?_|refine ab ?_|(apply dc;first|(refine fB ?_ ?_<;>intro hG<;>(try cases hG))|(apply dx;refine aH ?_)|refine d5 ?_|refine cg ?_|refine eO ?_|(apply fD;refine aH ?_)|refine aH ?_)|refine aj ?_|refine ab ?_|refine aa fun C=>?_|refine au (by kernel_rfl) (by kernel_rfl) fun C=>?_|refine ac ?_)
  refine ae (by rfl) (fun hC=>?_) fun hC=>by exfalso;simp only [decide_eq_false_iff_not] at hC;omega
  repeat' (first|(apply av;first|refine ak ?_|refine aF 0 (hbad0) ?_|refine bg ?_)|refine aj ?_|refine ab ?_|refine aa fun C=>?_|refine ac ?_)
  exact pS
theorem zwQ {s:ByteArray}(hs:s.size≤1048576){atom:PS→E×PS}{p:PS}(hg:GoodS s p (atom p))
 (ha:Ctr prog 177 [.c (.pt 0 0)] [ff s p] (.ag (owE (atom p).1)) [ff s (atom p).2]) :
 Ctr prog 163 [.c (.pt 0 0)] [ff s p] (.ag (owE (eH s atom p).1)) [ff s (eH s atom p).2]:=by
 have hr:eH s atom p=if isB s 42 (atom p).2 then (cY 6 ByteArray.empty [(atom p).1],(atom p).2.go 1) else if isB s 43 (atom p).2 then (cY 7 ByteArray.empty [(atom p).1],(atom p).2.go 1) else if isB s 63 (atom p).2 then (cY 8 ByteArray.empty [(atom p).1],(atom p).2.go 1) else atom p:=rfl
 rw [hr]
 clear hr
 obtain⟨⟨e,q⟩,hq⟩:∃r,atom p=r:=⟨_,rfl⟩
 rw [hq] at ha hg ⊢
 have hfi:Fine e:=hg.fine
 clear hg hq
 dsimp only at ha ⊢
 cases hfi with
 | mk k t l hk ht hl2 =>
 have b1:=lH hs (c:=42) omq (p:=q)
 have b2:=lH hs (c:=43) omq (p:=q)
 have b3:=lH hs (c:=63) omq (p:=q)
 obtain⟨qa,qd,qb⟩:=q
 refine ay func163 rfl rfl ?_
 cases h1:isB s 42 ⟨qa,qd,qb⟩ with
 | true =>
  rw [iM h1,h1] at b1
  rw [if_pos rfl]
  unfold ff at ha b1 ⊢
  dsimp only [PS.go] at ha b1 ⊢
  repeat' (first|(apply av;first|refine ak ?_|refine ai ?_|refine bL ?_|refine aF 0 (ha) ?_|refine aF 0 (b1) ?_|refine bg ?_|refine bI ?_|refine ec ?_|refine az ?_)|refine aj ?_|refine ab ?_|refine aa fun C=>?_|refine ac ?_|refine ah ?_|refine aq rfl ?_)
  refine a7 (dA (i:=10) (j:=600) rfl rfl rfl (pre:=[_,_]) (post:=[]) rfl) ?_
  exact pS
 | false =>
  rw [lJ h1,h1] at b1
  rw [if_neg (by simp)]
  cases h2:isB s 43 ⟨qa,qd,qb⟩ with
  | true =>
   rw [iM h2,h2] at b2
   rw [if_pos rfl]
   unfold ff at ha b1 b2 ⊢
   dsimp only [PS.go] at ha b1 b2 ⊢
   repeat' (first|(apply av;first|refine ak ?_|refine ai ?_|refine bL ?_|refine aF 0 (ha) ?_|refine aF 0 (b1) ?_|refine aF 0 (b2) ?_|refine bg ?_|refine bI ?_|refine ec ?_|refine az ?_)|refine aj ?_|refine ab ?_|refine aa fun C=>?_|refine ac ?_|refine ah ?_|refine aq rfl ?_|refine ar rfl ?_)
   refine a7 (dA (i:=16) (j:=600) rfl rfl rfl (pre:=[_,_]) (post:=[]) rfl) ?_
   exact pS
  | false =>
   rw [lJ h2,h2] at b2
   rw [if_neg (by simp)]
   cases h3:isB s 63 ⟨qa,qd,qb⟩ with
   | true =>
    rw [iM h3,h3] at b3
    rw [if_pos rfl]
    unfold ff at ha b1 b2 b3 ⊢
    dsimp only [PS.go] at ha b1 b2 b3 ⊢
    repeat' (first|(apply av;first|refine ak ?_|refine ai ?_|refine bL ?_|refine aF 0 (ha) ?_|refine aF 0 (b1) ?_|refine aF 0 (b2) ?_|refine aF 0 (b3) ?_|refine bg ?_|refine bI ?_|refine ec ?_|refine az ?_)|refine aj ?_|refine ab ?_|refine aa fun C=>?_|refine ac ?_|refine ah ?_|refine aq rfl ?_|refine ar rfl ?_)
    refine a7 (dA (i:=22) (j:=600) rfl rfl rfl (pre:=[_,_]) (post:=[]) rfl) ?_
    exact pS
   | false =>
    rw [lJ h3,h3] at b3
    rw [if_neg (by simp)]
    unfold ff at ha b1 b2 b3 ⊢
    dsimp only at ha b1 b2 b3 ⊢
    repeat' (first|(apply av;first|refine ak ?_|refine ai ?_|refine bL ?_|refine aF 0 (ha) ?_|refine aF 0 (b1) ?_|refine aF 0 (b2) ?_|refine aF 0 (b3) ?_|refine bg ?_|refine bI ?_)|refine aj ?_|refine ab ?_|refine aa fun C=>?_|refine ac ?_|refine ah ?_|refine al ?_|refine ar rfl ?_)
    exact pS
theorem wO {s:ByteArray}{a d v:Nat}{b:Bool}(hv:bAt s a=v):goS s ⟨a,d,b⟩=(!b&&decide (a<s.size)&&!(v==124)&&!(v==41)):=by unfold goS;rw [hv]
theorem qJ {s:ByteArray}{item:PS→E×PS}{p:PS}(h:goS s p=false):∀(n:Nat) (l:List E),bW s item n l p=(l,p)
 | 0,_=>rfl
 | n+1,l=>by unfold bW;rw [if_neg (by rw [h];simp)]
theorem qK {s:ByteArray}{cat:PS→E×PS}{p:PS}(h:isB s 124 p=false):∀(n:Nat) (l:List E),bZ s cat n l p=(l,p)
 | 0,_=>rfl
 | n+1,l=>by unfold bZ;rw [if_neg (by rw [h];simp)]
theorem zr4 {s:ByteArray}(hs:s.size≤1048576){item:PS→E×PS}{p0:PS}(hp:Pre s p0)
 (hg:∀q,Pre s q→p0.a≤q.a→GoodS s q (item q)∧((item q).2.b=false→q.a<(item q).2.a))
 (hi:∀q,Pre s q→p0.a≤q.a→Ctr prog 163 [.c (.pt 0 0)] [ff s q] (.ag (owE (item q).1)) [ff s (item q).2]) :
 Ctr prog 148 [.c (.pt 0 0)] [ff s p0] (.ag (owE (pQ s item p0).1)) [ff s (pQ s item p0).2]:=by
 have hic0:=hi p0 hp (Nat.le_refl _)
 obtain⟨hg0,hu0⟩:=hg p0 hp (Nat.le_refl _)
 have hL0:=GoodLS.one hg0
 have hr:pQ s item p0=(kl 4 (bW s item (s.size+1) [(item p0).1] (item p0).2).1,(bW s item (s.size+1) [(item p0).1] (item p0).2).2):=rfl
 rw [hr]
 clear hr
 obtain⟨⟨e,q0⟩,hq0⟩:∃r,item p0=r:=⟨_,rfl⟩
 rw [hq0] at hic0 hg0 hL0 hu0 ⊢
 have hfi:Fine e:=hg0.fine
 dsimp only at hic0 hL0 hu0 ⊢
 cases hfi with
 | mk k t l hk ht hl2 =>
 refine ay func148 rfl rfl ?_
 repeat' (first|(apply av;first|refine ak ?_|refine ai ?_|refine aF 0 (hic0) ?_|refine bI ?_|refine ec ?_)|refine aj ?_|refine ab ?_|refine aa fun C=>?_|refine ac ?_|refine ah ?_)
 refine aZ (fun q:List E×PS=>⟨e8 [(0,.c (.pt 0 0)),(2,.c (.pt 2 0)),(3,.c (.sl 9 q.1.length))],eT [(0,0,⟨0,0,0,true,ff s q.2⟩),(2,2,⟨112,0,0,true,[.v (.int .i64 0),.v (.string ByteArray.empty),.v (.slice none 0 0)]⟩),(9,9,⟨112,3,q.1.length,false,owL q.1⟩)],1,[0,2,9],61⟩)
  (fun N q=>GoodLS s p0 q.1 q.2∧(q.2.b=true∨s.size+2≤q.2.a+N)∧bW s item N q.1 q.2=bW s item (s.size+1) [cY k t l] q0) (s.size+1) ([cY k t l],q0) ⟨hL0,by
    cases hb:q0.b with
    | true=>exact .inl rfl
    | false=>right;have:=hu0 hb;dsimp only;omega,rfl⟩ ?_ ?_
 ·refine (dA (i:=6) (j:=600) rfl rfl rfl (pre:=[_,_]) (post:=[]) rfl).trans ?_
  (refine eu (fun j=>if j=9 then 6 else j) _ _ rfl rfl ?_ ?_<;>exact tdy0)
 rintro N ⟨L,q⟩ ⟨hgl,hN,htot⟩
 dsimp only at hgl hN htot ⊢
 have hpre:=hgl.pre hp
 obtain⟨a,d,b⟩:=q
 obtain⟨v,hv⟩:∃v,bAt s a=v:=⟨_,rfl⟩
 have hgp:=wO (d:=d) (b:=b) hv
 have hlen:=hgl.len.1
 have hale:a≤s.size:=hgl.le
 dsimp only at hlen
 cases hgo:goS s ⟨a,d,b⟩ with
 | true =>
  obtain⟨hb,hlt,hv1,hv2⟩:=zu1 hgo
  dsimp only at hb hlt hv1 hv2 hN
  subst hb
  rw [hv] at hv1 hv2
  have hN:=hN.resolve_left (by simp)
  obtain⟨M,rfl⟩:∃M,N=M+1:=⟨N-1,omq⟩
  have hic:=hi _ hpre hgl.ge
  have hgd:=hg _ hpre hgl.ge
  have hst:bW s item (M+1) L ⟨a,d,false⟩=bW s item M (L++[(item ⟨a,d,false⟩).1]) (item ⟨a,d,false⟩).2:=by
   show (if goS s ⟨a,d,false⟩ then _ else _)=_
   rw [if_pos hgo]
  rw [hst] at htot
  clear hst hi hg hic0
  have hgl2:=hgl.step rfl hgd
  obtain⟨⟨e2,q2⟩,hq2⟩:∃r,item ⟨a,d,false⟩=r:=⟨_,rfl⟩
  rw [hq2] at hic htot hgd hgl2
  dsimp only at hic htot hgd hgl2
  have hfi2:Fine e2:=hgd.1.fine
  cases hfi2 with
  | mk k' t' l' hk' ht' hl2' =>
  unfold ff at hic ⊢
  dsimp only at hic ⊢
  repeat' (first|(apply dc;first|refine fE ?_|(refine fB ?_ ?_<;>intro hG<;>(try cases hG))|(apply dx;refine aH ?_)|refine d5 ?_|refine cg ?_|refine eO ?_|(apply fD;refine aH ?_)|refine iF ?_|refine aH ?_)|refine aj ?_|refine ab ?_|refine au (by kernel_rfl) (by kernel_rfl) fun C=>?_|refine ac ?_)
  all_goals first
   | (exfalso;clear hic hgl hgl2 hgd hL0 hg0 htot hN hpre;simp only [decide_eq_false_iff_not,bne_eq_false_iff_eq] at hG;omega)
   | skip
  rw [hv]
  refine ae (by rfl) (fun hC=>?_) fun hC=>absurd (bne_eq_false_iff_eq.1 hC) omq
  repeat' (first|(apply av;first|refine ak ?_|refine ai ?_|refine aF 0 (hic) ?_|refine ip ?_|refine ec ?_)|refine aj ?_|refine ab ?_|refine aa fun C=>?_|refine ah ?_|refine al ?_)
  refine⟨M,(L++[cY k' t' l'],q2),omq,⟨hgl2,?_,htot⟩,?_⟩
  ·dsimp only
   cases hb2:q2.b with
   | true=>exact .inl rfl
   | false=>right;have:=hgd.2 hb2;(try dsimp only at this);omega
  ·dsimp only
   rw [List.length_append,List.length_singleton]
   refine (dA (i:=52) (j:=5100) rfl rfl rfl (pre:=owL L++[.v (.int .i64 k'),.v (.string t')]) (post:=[]) (by rw [List.append_assoc];rfl)).trans ?_
   (refine eu (fun j=>if j=9 then 52 else j) _ _ rfl rfl ?_ ?_<;>(repeat' (first|exact TmOk.nil|exact RwOk.nil|refine TmOk.cons ?_ ?_|refine RwOk.cons ?_ ?_|rfl|(refine rnV_id' rfl ?_;exact byc)|(refine cE ?_;first|rfl|omega|(rw [bA omq omq];omega))|(refine bf rfl ?_;exact byc)|exact dH rfl rfl|(refine rw_mid (by rfl) (by rfl) ?_ ?_<;>exact byc)|(refine rw_rn' rfl rfl ?_;simp;done))))
   exact fa (r:=⟨112,3,L.length+1,false,(owL L++[.v (.int .i64 k'),.v (.string t')])++[.ow 112 l'.length 3 (owL l')]⟩) rfl (by rw [fj,List.append_assoc];rfl) (by first|rfl|(simp [oO,bl,clo,bi,aL,bj,a8,aX];done))
 | false =>
  rw [qJ hgo] at htot
  rw [←htot]
  rw [hgo] at hgp
  have hfine:=hgl.fine
  have hne:=hgl.ne
  clear htot hi hg hic0 hN hL0 hgl hpre hg0
  have hgo':b=true∨s.size≤a∨v=124∨v=41:=by
   cases b with
   | true=>exact .inl rfl
   | false=>right;simp at hgp;omega
  unfold ff
  dsimp only
  match L,hfine,hne with
  | [],_,h0=>exact absurd h0 (by simp)
  | [x],hf,_ =>
   have hx:=hf x (List.mem_singleton.2 rfl)
   cases hx with
   | mk k' t' l' hk' ht' hl2' =>
   cases b<;>repeat' (first|(apply dc;first|refine fE ?_|(refine fB ?_ ?_<;>intro hG<;>(try cases hG))|(apply dx;refine aH ?_)|refine d5 ?_|refine cg ?_|refine eO ?_|(apply fD;refine aH ?_)|refine iF ?_|refine aH ?_)|refine aj ?_|refine ab ?_|refine au (by kernel_rfl) (by kernel_rfl) fun C=>?_|refine ac ?_)
   all_goals first
    | refine ar rfl ?_
    | refine ae (by rfl) (fun hC=>by exfalso;clear hfine;simp only [bne_iff_ne,ne_eq,Bool.false_eq_true,false_or,decide_eq_true_iff] at *;omega) fun hC=>?_
   all_goals
    refine a7 (yF 800 (i:=9) rfl rfl (pre:=[.v (.int .i64 k'),.v (.string t')]) (post:=[]) rfl) ?_
    repeat' (first|(apply av;first|refine ak ?_|refine bL ?_|refine cU ?_|refine bg ?_|refine fc ?_|refine ao ?_)|refine aj ?_|refine ab ?_|refine aa fun C=>?_|refine ac ?_|refine aB ?_|refine aq rfl ?_)
    exact pS
  | x :: y :: r,hf,_ =>
   have hlen2:(x :: y :: r).length=r.length+2:=rfl
   cases b<;>repeat' (first|(apply dc;first|refine fE ?_|(refine fB ?_ ?_<;>intro hG<;>(try cases hG))|(apply dx;refine aH ?_)|refine d5 ?_|refine cg ?_|refine eO ?_|(apply fD;refine aH ?_)|refine iF ?_|refine aH ?_)|refine aj ?_|refine ab ?_|refine au (by kernel_rfl) (by kernel_rfl) fun C=>?_|refine ac ?_)
   all_goals first
    | refine ar rfl ?_
    | refine ae (by rfl) (fun hC=>by exfalso;clear hfine;simp only [bne_iff_ne,ne_eq,Bool.false_eq_true,false_or,decide_eq_true_iff] at *;omega) fun hC=>?_
   all_goals
    repeat' (first|(apply av;first|refine ak ?_|refine cU ?_|refine ao ?_)|refine aj ?_|refine ab ?_|refine aa fun C=>?_|refine ac ?_|refine aB ?_)
    refine ae (by rfl) (fun hC=>by exfalso;simp at hC;omega) fun hC=>?_
    repeat' (first|(apply av;first|refine ak ?_|refine bg ?_|refine az ?_)|refine aj ?_|refine ab ?_|refine aa fun C=>?_|refine ac ?_|refine al ?_)
    exact pS
end Go.Proofs.YtomolhbkdhjofaaGreatDoor
