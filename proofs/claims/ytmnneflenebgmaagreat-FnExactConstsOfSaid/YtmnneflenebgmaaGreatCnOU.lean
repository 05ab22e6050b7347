/- T -/
import Derived.Test.YtmnneflenebgmaaGreatCnOT
set_option maxHeartbeats 0
set_option maxRecDepth 100000
namespace Go.Proofs.YtmnneflenebgmaaGreat
open Go.RowKit Go.Proofs.Tryz
theorem oV {p:Prop}(h:p:=by refine am ?_;refine eo rfl (cq (bC rfl (bC rfl (bZ rfl rfl rfl cls0 bj)))) rfl (by first|rfl|(simp [bf,clo,ba,aH,bq,bp,aZ];done)) rfl ⟨?_,?_⟩<;>rfl):p:=h
def eH (s:ByteArray)(p:PS):List AC:=[.v (.string s),.v (.int .i64 (p.a:Int)),.v (.bool p.b),.v (.int .i64 (p.d:Int))]
def isP (s:ByteArray)(c:Nat)(p:PS):PS:=if isB s c p then p.go 1 else p
theorem kH {s:ByteArray}(hs:s.size≤1048576){c:Nat}(hc:c<256){p:PS}:Ctr prog 261 [.c (.pt 0 0),.c (.v (.int .u8 (c:Int)))] [eH s p] (.c (.v (.bool (isB s c p)))) [eH s (isP s c p)]:=by
 obtain⟨a,d,b⟩:=p
 refine av func261 rfl rfl ?_
 unfold eH
 dsimp only
 cases b with
 | true =>
  have hr:isB s c ⟨a,d,true⟩=false:=rfl
  unfold isP
  rw [hr]
  repeat' (first|(apply ay;refine ak ?_)|refine al ?_|refine ab ?_|(apply fH;first|refine nh ?_|(refine lK ?_ ?_<;>intro hG<;>(try cases hG))|(apply gg;refine bg ?_)|refine gX ?_|refine dJ ?_|refine bg ?_)|refine al ?_|refine ab ?_|refine aa fun C=>?_|refine ar (by kernel_rfl) (by kernel_rfl) fun C=>?_|refine ae ?_|refine az rfl ?_)
  refine am ?_;refine eo rfl aN rfl (by first|rfl|(simp [bf,clo,ba,aH,bq,bp,aZ];done)) rfl ⟨?_,?_⟩<;>rfl
 | false =>
  by_cases hlt:a<s.size
  ·by_cases he:bAt s a=c
   ·have hr:isB s c ⟨a,d,false⟩=true:=by unfold isB;rw [decide_eq_true hlt,he];simp
    unfold isP
    rw [hr]
    subst he
    repeat' (first|(apply ay;refine ak ?_)|refine al ?_|refine ab ?_|(apply fH;first|refine nh ?_|(refine lK ?_ ?_<;>intro hG<;>(try cases hG))|(apply gg;refine bg ?_)|refine gX ?_|refine dJ ?_|refine fw ?_|(apply lL;refine bg ?_)|refine iS ?_|refine bg ?_)|refine al ?_|refine ab ?_|refine aa fun C=>?_|refine ar (by kernel_rfl) (by kernel_rfl) fun C=>?_|refine ae ?_)
    ·exfalso;simp only [decide_eq_true_iff] at hG;omega
    ·refine aj (by rfl) (fun hC=>absurd hC (by simp)) fun hC=>?_
     repeat' (first|(apply ay;first|refine ao ?_|refine ak ?_|refine bd ?_|refine aL ?_|refine cG ?_|refine aD ?_|refine aS ?_)|refine al ?_|refine ab ?_|refine aa fun C=>?_|refine ae ?_|refine ai ?_)
     refine am ?_;refine eo rfl aN rfl (by first|rfl|(simp [bf,clo,ba,aH,bq,bp,aZ];done)) rfl ⟨?_,?_⟩<;>rfl
   ·have hr:isB s c ⟨a,d,false⟩=false:=by unfold isB;simp [he]
    unfold isP
    rw [hr]
    repeat' (first|(apply ay;refine ak ?_)|refine al ?_|refine ab ?_|(apply fH;first|refine nh ?_|(refine lK ?_ ?_<;>intro hG<;>(try cases hG))|(apply gg;refine bg ?_)|refine gX ?_|refine dJ ?_|refine fw ?_|(apply lL;refine bg ?_)|refine iS ?_|refine bg ?_)|refine al ?_|refine ab ?_|refine aa fun C=>?_|refine ar (by kernel_rfl) (by kernel_rfl) fun C=>?_|refine ae ?_)
    ·exfalso;simp only [decide_eq_true_iff] at hG;omega
    ·refine aj (by rfl) (fun hC=>?_) fun hC=>absurd (bne_eq_false_iff_eq.1 hC) omq
     repeat' (first|(apply ay;refine ak ?_)|refine al ?_|refine ab ?_|refine aa fun C=>?_|refine ae ?_)
     refine am ?_;refine eo rfl aN rfl (by first|rfl|(simp [bf,clo,ba,aH,bq,bp,aZ];done)) rfl ⟨?_,?_⟩<;>rfl
  ·have hr:isB s c ⟨a,d,false⟩=false:=by unfold isB;simp [hlt]
   unfold isP
   rw [hr]
   repeat' (first|(apply ay;refine ak ?_)|refine al ?_|refine ab ?_|(apply fH;first|refine nh ?_|(refine lK ?_ ?_<;>intro hG<;>(try cases hG))|(apply gg;refine bg ?_)|refine gX ?_|refine dJ ?_|refine fw ?_|(apply lL;refine bg ?_)|refine bg ?_)|refine al ?_|refine ab ?_|refine aa fun C=>?_|refine ar (by kernel_rfl) (by kernel_rfl) fun C=>?_|refine ae ?_)
   ·refine az rfl ?_
    repeat' (first|(apply ay;refine ak ?_)|refine al ?_|refine ab ?_|refine aa fun C=>?_|refine ae ?_)
    refine am ?_;refine eo rfl aN rfl (by first|rfl|(simp [bf,clo,ba,aH,bq,bp,aZ];done)) rfl ⟨?_,?_⟩<;>rfl
   ·exfalso;simp only [decide_eq_false_iff_not] at hG;omega
theorem kI {s:ByteArray}{p:PS}:Ctr prog 273 [.c (.pt 0 0)] [eH s p] (.ag (owE cV)) [eH s p.bad]:=by
 obtain⟨a,d,b⟩:=p
 refine av func273 rfl rfl ?_
 unfold eH
 dsimp only
 repeat' (first|(apply ay;first|refine ao ?_|refine bd ?_|refine cG ?_|refine dn ?_|refine aS ?_)|refine al ?_|refine ab ?_|refine aa fun C=>?_|refine ae ?_)
 refine bH (dZ 900 (i:=2) 39 3 rfl rfl (pre:=[_,_]) (post:=[]) rfl) ?_;refine am ?_;refine eo rfl (cq (bC rfl (bC rfl (bZ rfl rfl rfl cls0 bj)))) rfl (by first|rfl|(simp [bf,clo,ba,aH,bq,bp,aZ];done)) rfl ⟨?_,?_⟩<;>rfl
theorem g9 {s:ByteArray}{c:Nat}{p:PS}(h:isB s c p=true):isP s c p=p.go 1:=if_pos h
theorem kJ {s:ByteArray}{c:Nat}{p:PS}(h:isB s c p=false):isP s c p=p:=by unfold isP;rw [h];rfl
theorem vj {s:ByteArray}(hs:s.size≤1048576){alt:PS→E×PS}{p:PS}(hp:Pre s p)(hb:p.b=false)(hg:p.d≤7→GoodS s ⟨p.a,p.d+1,p.b⟩ (alt ⟨p.a,p.d+1,p.b⟩))
 (ha:p.d≤7→Ctr prog 258 [.c (.pt 0 0)] [eH s ⟨p.a,p.d+1,p.b⟩] (.ag (owE (alt ⟨p.a,p.d+1,p.b⟩).1)) [eH s (alt ⟨p.a,p.d+1,p.b⟩).2]) :
 Ctr prog 274 [.c (.pt 0 0)] [eH s p] (.ag (owE (dD s alt p).1)) [eH s (dD s alt p).2]:=by
 obtain⟨a,d,b⟩:=p
 have hb:b=false:=hb
 subst hb
 dsimp only at ha hg
 have hpd:d≤8:=hp.2.2 rfl
 have h41:=kH hs (c:=41) omq (p:=⟨a,d,false⟩)
 cases h1:isB s 41 ⟨a,d,false⟩ with
 | true =>
  have hr:dD s alt ⟨a,d,false⟩=(cU 9 ByteArray.empty [],⟨a+1,d,false⟩):=by unfold dD;rw [if_pos h1];rfl
  rw [hr]
  rw [g9 h1,h1] at h41
  refine av func274 rfl rfl ?_
  unfold eH at h41 ⊢
  dsimp only [PS.go] at h41 ⊢
  repeat' (first|(apply ay;first|refine ao ?_|refine be 0 (h41) ?_|refine cG ?_|refine dn ?_|refine aS ?_)|refine al ?_|refine ab ?_|refine aa fun C=>?_|refine ae ?_|refine az rfl ?_)
  refine bH (dZ 900 (i:=2) 39 3 rfl rfl (pre:=[_,_]) (post:=[]) rfl) ?_;refine am ?_;refine eo rfl (cq (bC rfl (bC rfl (bZ rfl rfl rfl cls0 bj)))) rfl (by first|rfl|(simp [bf,clo,ba,aH,bq,bp,aZ];done)) rfl ⟨?_,?_⟩<;>rfl
 | false =>
  rw [kJ h1,h1] at h41
  by_cases h8:8<d+1
  ·have hr:dD s alt ⟨a,d,false⟩=(cV,⟨a,d+1,true⟩):=by unfold dD;rw [if_neg (by rw [h1];simp),if_pos h8]
   rw [hr]
   have hbad:=kI (s:=s) (p:=⟨a,d+1,false⟩)
   refine av func274 rfl rfl ?_
   unfold eH at h41 hbad ⊢
   dsimp only [PS.bad] at h41 hbad ⊢
   repeat' (first|(apply ay;first|refine ao ?_|refine bd ?_|refine aL ?_|refine be 0 (h41) ?_|refine cG ?_|refine a8 ?_|refine aD ?_|refine dn ?_|refine aS ?_)|refine al ?_|refine ab ?_|refine aa fun C=>?_|refine ae ?_|refine ai ?_|refine aE rfl ?_)
   refine aj (by rfl) (fun hC=>?_) fun hC=>by exfalso;simp only [decide_eq_false_iff_not] at hC;omega
   repeat' (first|(apply ay;first|refine ao ?_|refine be 0 (hbad) ?_|refine cG ?_)|refine al ?_|refine ab ?_|refine aa fun C=>?_|refine ae ?_)
   exact oV
  ·have hic:=ha omq
   obtain⟨g1,g2,g3,g4,g5,g6⟩:=hg omq
   clear ha hg
   have hr:dD s alt ⟨a,d,false⟩=if isB s 41 ⟨(alt ⟨a,d+1,false⟩).2.a,(alt ⟨a,d+1,false⟩).2.d-1,(alt ⟨a,d+1,false⟩).2.b⟩ then ((alt ⟨a,d+1,false⟩).1,⟨(alt ⟨a,d+1,false⟩).2.a+1,(alt ⟨a,d+1,false⟩).2.d-1,(alt ⟨a,d+1,false⟩).2.b⟩) else (cV,⟨(alt ⟨a,d+1,false⟩).2.a,(alt ⟨a,d+1,false⟩).2.d-1,true⟩):=by unfold dD;rw [if_neg (by rw [h1];simp),if_neg h8];rfl
   rw [hr]
   clear hr
   obtain⟨⟨e,q⟩,hq⟩:∃r,alt ⟨a,d+1,false⟩=r:=⟨_,rfl⟩
   rw [hq] at hic g1 g2 g3 g4 g5 g6 ⊢
   dsimp only at hic g1 g2 g3 g4 g5 g6 ⊢
   cases g1 with
   | mk k t l hk ht hl2 =>
   obtain⟨qa,qd,qb⟩:=q
   dsimp only at hic g2 g3 g4 g5 g6 ⊢
   have hqd:((qd:Nat):Int)-1=((qd-1:Nat):Int):=by omega
   have hbad:=kI (s:=s) (p:=⟨qa,qd-1,qb⟩)
   have h41b:=kH hs (c:=41) omq (p:=⟨qa,qd-1,qb⟩)
   cases h2:isB s 41 ⟨qa,qd-1,qb⟩ with
   | true =>
    rw [g9 h2,h2] at h41b
    rw [if_pos rfl]
    refine av func274 rfl rfl ?_
    unfold eH at h41 hic h41b ⊢
    dsimp only [PS.go] at h41 hic h41b ⊢
    rw [←hqd] at h41b ⊢
    repeat' (first|(apply ay;first|refine ao ?_|refine bd ?_|refine aL ?_|refine be 0 (h41) ?_|refine cG ?_|refine a8 ?_|refine aD ?_|refine dn ?_|refine aS ?_)|refine al ?_|refine ab ?_|refine aa fun C=>?_|refine ae ?_|refine ai ?_|refine aE rfl ?_)
    refine aj (by rfl) (fun hC=>by exfalso;simp only [decide_eq_true_iff] at hC;omega) fun hC=>?_
    repeat' (first|(apply ay;first|refine ao ?_|refine bd ?_|refine aL ?_|refine bu ?_|refine be 0 (hic) ?_|refine be 0 (h41b) ?_|refine cG ?_|refine bF ?_|refine im ?_|refine dn ?_|refine aS ?_)|refine al ?_|refine ab ?_|refine aa fun C=>?_|refine ae ?_|refine ai ?_|refine aE rfl ?_)
    exact oV
   | false =>
    rw [kJ h2,h2] at h41b
    rw [if_neg (by simp)]
    refine av func274 rfl rfl ?_
    unfold eH at h41 hic h41b hbad ⊢
    dsimp only [PS.bad] at h41 hic h41b hbad ⊢
    rw [←hqd] at h41b hbad ⊢
    repeat' (first|(apply ay;first|refine ao ?_|refine bd ?_|refine aL ?_|refine be 0 (h41) ?_|refine cG ?_|refine a8 ?_|refine aD ?_|refine dn ?_|refine aS ?_)|refine al ?_|refine ab ?_|refine aa fun C=>?_|refine ae ?_|refine ai ?_|refine aE rfl ?_)
    refine aj (by rfl) (fun hC=>by exfalso;simp only [decide_eq_true_iff] at hC;omega) fun hC=>?_
    repeat' (first|(apply ay;first|refine ao ?_|refine bd ?_|refine aL ?_|refine be 0 (hic) ?_|refine be 0 (h41b) ?_|refine be 0 (hbad) ?_|refine cG ?_|refine bF ?_|refine im ?_|refine dn ?_|refine aS ?_)|refine al ?_|refine ab ?_|refine aa fun C=>?_|refine ae ?_|refine ai ?_|refine az rfl ?_)
    exact oV
theorem xQ {s:ByteArray}{alt:PS→E×PS}{a d c:Nat}(ha:a<s.size)(hc:bAt s a=c):dh s alt ⟨a,d,false⟩=d8 s alt c ⟨a+1,d,false⟩:=by
 unfold dh
 rw [if_neg (by simp;exact ha),hc];rfl
theorem xR {s:ByteArray}(hs:s.size≤1048576){alt:PS→E×PS}{p:PS}(hp:Pre s p)
 (hgr:p.b=false→p.a<s.size→Ctr prog 274 [.c (.pt 0 0)] [eH s (p.go 1)] (.ag (owE (dD s alt (p.go 1)).1)) [eH s (dD s alt (p.go 1)).2])
 (hgg:p.b=false→p.a<s.size→GoodS s (p.go 1) (dD s alt (p.go 1))) :
 Ctr prog 269 [.c (.pt 0 0)] [eH s p] (.ag (owE (dh s alt p).1)) [eH s (dh s alt p).2]:=by
 obtain⟨a,d,b⟩:=p
 have hple:a≤s.size:=hp.1
 have hbad0:=kI (s:=s) (p:=⟨a,d,b⟩)
 cases b with
 | true =>
  have hr:dh s alt ⟨a,d,true⟩=(cV,⟨a,d,true⟩):=by unfold dh;rw [if_pos (.inl rfl)];rfl
  rw [hr]
  refine av func269 rfl rfl ?_
  unfold eH at hbad0 ⊢
  dsimp only [PS.bad] at hbad0 ⊢
  repeat' (first|(apply ay;first|refine ao ?_|refine be 0 (hbad0) ?_|refine cG ?_|refine dn ?_)|refine al ?_|refine ab ?_|(apply fH;first|refine nh ?_|(refine lK ?_ ?_<;>intro hG<;>(try cases hG))|(apply gg;refine bg ?_)|refine gX ?_|refine dJ ?_|refine bg ?_)|refine al ?_|refine ab ?_|refine aa fun C=>?_|refine ar (by kernel_rfl) (by kernel_rfl) fun C=>?_|refine ae ?_|refine az rfl ?_)
  exact oV
 | false =>
 by_cases hlt:a<s.size
 ·have hgr:=hgr rfl hlt
  have hgg:=hgg rfl hlt
  obtain⟨u,hu⟩:∃u:UInt8,bAt s a=u.toNat:=⟨UInt8.ofNat (bAt s a),by rw [UInt8.toNat_ofNat'];have:=fu s a;omega⟩
  obtain⟨c,hc⟩:∃c,u.toNat=c:=⟨_,rfl⟩
  have hcl:c<256:=hc▸u.toNat_lt
  rw [xQ hlt (hu.trans hc)]
  have hlb:=mO hcl
  have hbad1:=kI (s:=s) (p:=⟨a+1,d,false⟩)
  have hq1:(PS.mk a d false).go 1=⟨a+1,d,false⟩:=rfl
  rw [hq1] at hgr hgg
  refine av func269 rfl rfl ?_
  unfold eH at hgr hbad1 ⊢
  dsimp only [PS.bad] at hgr hbad1 ⊢
  have hbu:bAt s a=c:=hu.trans hc
  repeat' (first|(apply ay;refine dn ?_)|refine al ?_|refine ab ?_|(apply fH;first|(refine lK ?_ ?_<;>intro hG<;>(try cases hG))|(apply gg;refine bg ?_)|refine gX ?_|refine dJ ?_|refine fw ?_|(apply lL;refine bg ?_)|refine bg ?_)|refine al ?_|refine ab ?_|refine aa fun C=>?_|refine ar (by kernel_rfl) (by kernel_rfl) fun C=>?_|refine ae ?_)
  refine aj (by rfl) (fun hC=>by exfalso;simp only [decide_eq_true_iff] at hC;omega) fun hC=>?_
  have hu':bAt s a=u.toNat:=hu
  repeat' (first|(apply ay;first|refine ao ?_|refine ak ?_|refine bd ?_|refine aL ?_|refine cG ?_|refine bQ ?_|refine aD ?_|refine aS ?_)|refine al ?_|refine ab ?_|(apply fH;first|(apply gg;refine bg ?_)|(apply d_as;refine bg ?_)|refine gX ?_|refine dJ ?_|refine iS ?_|refine bg ?_)|refine al ?_|refine ab ?_|refine aa fun C=>?_|refine ar (by kernel_rfl) (by kernel_rfl) fun C=>?_|refine ae ?_|refine ah ?_|refine ai ?_)
  rw [hbu]
  by_cases h3:c=46∨c=94∨c=36
  ·obtain⟨kk,hr,hkk⟩:∃kk:Int,d8 s alt c ⟨a+1,d,false⟩=(cU kk ByteArray.empty [],⟨a+1,d,false⟩)∧((c=46∧kk=2)∨(c=94∧kk=10)∨(c=36∧kk=11)):=by
    rcases h3 with h|h|h
    ·exact⟨2,by rw [h];rfl,.inl ⟨h,rfl⟩⟩
    ·exact⟨10,by rw [h];rfl,.inr (.inl ⟨h,rfl⟩)⟩
    ·exact⟨11,by rw [h];rfl,.inr (.inr ⟨h,rfl⟩)⟩
   rw [hr]
   clear hr h3
   rcases hkk with ⟨h,rfl⟩|⟨h,rfl⟩|⟨h,rfl⟩
   all_goals
    rw [h]
    repeat' (first|(apply ay;first|refine ao ?_|refine ak ?_|refine cG ?_|refine bQ ?_|refine aS ?_)|refine al ?_|refine ab ?_|refine aa fun C=>?_|refine ae ?_|refine az rfl ?_|refine aE rfl ?_)
    refine bH (dZ 900 (i:=2) 39 3 rfl rfl (pre:=[_,_]) (post:=[]) rfl) ?_;refine am ?_;refine eo rfl (cq (bC rfl (bC rfl (bZ rfl rfl rfl cls0 bj)))) rfl (by first|rfl|(simp [bf,clo,ba,aH,bq,bp,aZ];done)) rfl ⟨?_,?_⟩<;>rfl
  have h46:c≠46:=fun h=>h3 (.inl h)
  have h94:c≠94:=fun h=>h3 (.inr (.inl h))
  have h36:c≠36:=fun h=>h3 (.inr (.inr h))
  by_cases h40:c=40
  ·have hr:d8 s alt c ⟨a+1,d,false⟩=dD s alt ⟨a+1,d,false⟩:=by rw [h40];rfl
   rw [hr]
   rw [h40]
   obtain⟨⟨e,q⟩,hq⟩:∃r,dD s alt ⟨a+1,d,false⟩=r:=⟨_,rfl⟩
   rw [hq] at hgr hgg ⊢
   have hfi:Fine e:=hgg.fine
   cases hfi with
   | mk k t l hk ht hl2 =>
   dsimp only at hgr ⊢
   repeat' (first|(apply ay;first|refine ao ?_|refine ak ?_|refine be 0 (hgr) ?_|refine cG ?_|refine bQ ?_)|refine al ?_|refine ab ?_|refine aa fun C=>?_|refine ae ?_|refine az rfl ?_|refine aE rfl ?_)
   exact oV
  iterate 3
   refine aj (by rfl) (fun hC=>absurd (eq_of_beq hC) omq) fun hC=>?_
   repeat' (first|(apply ay;first|refine ao ?_|refine ak ?_|refine bQ ?_)|refine al ?_|refine ab ?_|refine aa fun C=>?_|refine ae ?_)
  refine aj (by rfl) (fun hC=>absurd (eq_of_beq hC) omq) fun hC=>?_
  cases hl:lm c with
  | true =>
   have hr:d8 s alt c ⟨a+1,d,false⟩=(cU 1 (uN c) [],⟨a+1,d,false⟩):=iX hl
   rw [hr]
   rw [hl] at hlb
   subst hc
   repeat' (first|(apply ay;first|refine ao ?_|refine ak ?_|refine aI hlb ?_|refine cG ?_|(apply f_cv;refine aS ?_)|refine gh ?_|refine aS ?_)|refine al ?_|refine ab ?_|refine aa fun C=>?_|refine ae ?_|refine az rfl ?_)
   refine bH (dZ 900 (i:=2) 39 3 rfl rfl (pre:=[_,_]) (post:=[]) rfl) ?_;refine am ?_;refine eo rfl (cq (bC rfl (bC rfl (bZ rfl rfl rfl cls0 bj)))) rfl (by first|rfl|(simp [bf,clo,ba,aH,bq,bp,aZ];done)) rfl ⟨?_,?_⟩<;>rfl
  | false =>
   rw [hl] at hlb
   by_cases h91:c=91
   ·subst h91
    obtain⟨g1,g2,g3,g4⟩:=iD (s:=s) (c:=93) s.size (a+1) omq omq
    have hr:d8 s alt 91 ⟨a+1,d,false⟩=if isB s 93 ⟨dY s 93 s.size (a+1),d,false⟩ then (cU 3 (eV s (a+1) (dY s 93 s.size (a+1))) [],⟨dY s 93 s.size (a+1)+1,d,false⟩) else (cV,⟨dY s 93 s.size (a+1),d,true⟩):=rfl
    rw [hr]
    clear hr
    generalize dY s 93 s.size (a+1)=w at *
    have hisb:=kH hs (c:=93) omq (p:=⟨w,d,false⟩)
    have hbadw:=kI (s:=s) (p:=⟨w,d,false⟩)
    have ea:(a:Int)+1=((a+1:Nat):Int):=by omega
    repeat' (first|(apply ay;first|refine ao ?_|refine ak ?_|refine bd ?_|refine aL ?_|refine aI hlb ?_|refine e8 ?_|refine aS ?_)|refine al ?_|refine ab ?_|refine aa fun C=>?_|refine ae ?_|refine ah ?_|refine ai ?_|refine aE rfl ?_)
    refine aP (fun j:Nat=>⟨dA [(0,.c (.pt 0 0)),(2,.c (.pt 2 0)),(4,.c (.v (.int .i64 ((a+1:Nat):Int))))],dq [(0,0,⟨0,0,0,true,[.v (.string s),.v (.int .i64 (j:Int)),.v (.bool false),.v (.int .i64 (d:Int))]⟩),(2,2,⟨39,0,0,true,[.v (.int .i64 0),.v (.string ByteArray.empty),.v (.slice none 0 0)]⟩)],1,[0,2],119⟩)
     (fun N j=>j+N=w∧a+1≤j) (w-(a+1)) (a+1) ⟨omq,omq⟩ ?_ ?_
    ·(refine aC _ _ rfl rfl ?_ ?_<;>exact tdy0)
    rintro N j ⟨hN,hj⟩
    by_cases hjw:j<w
    ·have hlt2:j<s.size:=by omega
     have hne:=g3 j hj hjw
     repeat' (first|(apply fH;first|refine nh ?_|(refine lK ?_ ?_<;>intro hG<;>(try cases hG))|(apply gg;refine bg ?_)|refine gX ?_|refine dJ ?_|refine fw ?_|(apply lL;refine bg ?_)|refine iS ?_|refine bg ?_)|refine al ?_|refine ab ?_|refine ar (by kernel_rfl) (by kernel_rfl) fun C=>?_|refine ae ?_)
     ·refine aj (by rfl) (fun hC=>?_) fun hC=>absurd (bne_eq_false_iff_eq.1 hC) omq
      repeat' (first|(apply ay;first|refine ao ?_|refine bd ?_|refine aL ?_|refine cG ?_|refine aD ?_|refine aS ?_)|refine al ?_|refine ab ?_|refine aa fun C=>?_|refine ah ?_|refine ai ?_)
      refine⟨N-1,j+1,omq,⟨omq,omq⟩,?_⟩
      (refine aC _ _ rfl rfl ?_ ?_<;>exact tdy0)
     ·exfalso;simp only [decide_eq_false_iff_not] at hG;omega
    ·obtain rfl:j=w:=by omega
     by_cases hws:j<s.size
     ·have hb93:=g4 hws
      have hi:isB s 93 ⟨j,d,false⟩=true:=by unfold isB;rw [decide_eq_true hws,hb93];rfl
      rw [g9 hi,hi] at hisb
      rw [if_pos hi]
      unfold eH at hisb
      dsimp only [PS.go] at hisb ⊢
      repeat' (first|(apply fH;first|refine nh ?_|(refine lK ?_ ?_<;>intro hG<;>(try cases hG))|(apply gg;refine bg ?_)|refine gX ?_|refine dJ ?_|refine fw ?_|(apply lL;refine bg ?_)|refine iS ?_|refine bg ?_)|refine al ?_|refine ab ?_|refine ar (by kernel_rfl) (by kernel_rfl) fun C=>?_|refine ae ?_)
      ·rw [hb93]
       repeat' (first|(apply ay;first|refine ao ?_|refine bu ?_|refine be 0 (hisb) ?_|refine cG ?_|refine bF ?_)|refine al ?_|refine ab ?_|(apply fH;first|(apply gg;refine bg ?_)|refine gX ?_|refine dJ ?_|refine o_st ?_|refine o_al ?_|refine o_ssl ?_|refine bg ?_)|refine al ?_|refine ab ?_|refine aa fun C=>?_|refine ar (by kernel_rfl) (by kernel_rfl) fun C=>?_|refine ae ?_|refine ai ?_|refine au ?_|refine aE rfl ?_)
       refine bH (dZ 900 (i:=2) 39 3 rfl rfl (pre:=[_,_]) (post:=[]) rfl) ?_;refine am ?_;refine eo rfl (cq (bC rfl (bC rfl (bZ rfl rfl rfl cls0 bj)))) rfl (by first|rfl|(simp [bf,clo,ba,aH,bq,bp,aZ];done)) rfl ⟨?_,?_⟩<;>rfl
      ·exfalso;simp only [decide_eq_false_iff_not] at hG;omega
     ·have hi:isB s 93 ⟨j,d,false⟩=false:=by unfold isB;rw [decide_eq_false hws];rfl
      rw [kJ hi,hi] at hisb
      rw [if_neg (by rw [hi];simp)]
      unfold eH at hisb hbadw
      dsimp only [PS.bad] at hisb hbadw ⊢
      repeat' (first|(apply fH;first|refine nh ?_|(refine lK ?_ ?_<;>intro hG<;>(try cases hG))|(apply gg;refine bg ?_)|refine gX ?_|refine dJ ?_|refine fw ?_|(apply lL;refine bg ?_)|refine iS ?_|refine bg ?_)|refine al ?_|refine ab ?_|refine ar (by kernel_rfl) (by kernel_rfl) fun C=>?_|refine ae ?_)
      ·exfalso;simp only [decide_eq_true_iff] at hG;omega
      ·repeat' (first|(apply ay;first|refine ao ?_|refine be 0 (hisb) ?_|refine be 0 (hbadw) ?_|refine cG ?_|refine bF ?_)|refine al ?_|refine ab ?_|(apply fH;first|(apply gg;refine bg ?_)|refine gX ?_|refine dJ ?_|refine o_st ?_|refine o_al ?_|refine o_ssl ?_|refine bg ?_)|refine al ?_|refine ab ?_|refine aa fun C=>?_|refine ar (by kernel_rfl) (by kernel_rfl) fun C=>?_|refine ae ?_|refine au ?_|refine az rfl ?_|refine aE rfl ?_)
       exact oV
   ·have hr:d8 s alt c ⟨a+1,d,false⟩=(cV,⟨a+1,d,true⟩):=nU hl h46 h94 h36 h40 h91
    rw [hr]
    repeat' (first|(apply ay;first|refine ao ?_|refine ak ?_|refine aI hlb ?_|refine e8 ?_)|refine al ?_|refine ab ?_|refine aa fun C=>?_|refine ae ?_|refine aE rfl ?_)
    refine aj (by rfl) (fun hC=>?_) fun hC=>absurd (bne_eq_false_iff_eq.1 hC) omq
    repeat' (first|(apply ay;first|refine ao ?_|refine be 0 (hbad1) ?_|refine cG ?_)|refine al ?_|refine ab ?_|refine aa fun C=>?_|refine ae ?_)
    exact oV
 ·have hr:dh s alt ⟨a,d,false⟩=(cV,⟨a,d,true⟩):=by unfold dh;rw [if_pos (.inr (by dsimp only;omega))];rfl
  rw [hr]
  refine av func269 rfl rfl ?_
  unfold eH at hbad0 ⊢
  dsimp only [PS.bad] at hbad0 ⊢
  repeat' (first|(apply ay;refine dn ?_)|refine al ?_|refine ab ?_|(apply fH;first|(refine lK ?_ ?_<;>intro hG<;>(try cases hG))|(apply gg;refine bg ?_)|refine gX ?_|refine dJ ?_|refine fw ?_|(apply lL;refine bg ?_)|refine bg ?_)|refine al ?_|refine ab ?_|refine aa fun C=>?_|refine ar (by kernel_rfl) (by kernel_rfl) fun C=>?_|refine ae ?_)
  refine aj (by rfl) (fun hC=>?_) fun hC=>by exfalso;simp only [decide_eq_false_iff_not] at hC;omega
  repeat' (first|(apply ay;first|refine ao ?_|refine be 0 (hbad0) ?_|refine cG ?_)|refine al ?_|refine ab ?_|refine aa fun C=>?_|refine ae ?_)
  exact oV
theorem xS {s:ByteArray}(hs:s.size≤1048576){atom:PS→E×PS}{p:PS}(hg:GoodS s p (atom p))
 (ha:Ctr prog 269 [.c (.pt 0 0)] [eH s p] (.ag (owE (atom p).1)) [eH s (atom p).2]) :
 Ctr prog 264 [.c (.pt 0 0)] [eH s p] (.ag (owE (ee s atom p).1)) [eH s (ee s atom p).2]:=by
 have hr:ee s atom p=if isB s 42 (atom p).2 then (cU 6 ByteArray.empty [(atom p).1],(atom p).2.go 1) else if isB s 43 (atom p).2 then (cU 7 ByteArray.empty [(atom p).1],(atom p).2.go 1) else if isB s 63 (atom p).2 then (cU 8 ByteArray.empty [(atom p).1],(atom p).2.go 1) else atom p:=rfl
 rw [hr]
 clear hr
 obtain⟨⟨e,q⟩,hq⟩:∃r,atom p=r:=⟨_,rfl⟩
 rw [hq] at ha hg ⊢
 have hfi:Fine e:=hg.fine
 clear hg hq
 dsimp only at ha ⊢
 cases hfi with
 | mk k t l hk ht hl2 =>
 have b1:=kH hs (c:=42) omq (p:=q)
 have b2:=kH hs (c:=43) omq (p:=q)
 have b3:=kH hs (c:=63) omq (p:=q)
 obtain⟨qa,qd,qb⟩:=q
 refine av func264 rfl rfl ?_
 cases h1:isB s 42 ⟨qa,qd,qb⟩ with
 | true =>
  rw [g9 h1,h1] at b1
  rw [if_pos rfl]
  unfold eH at ha b1 ⊢
  dsimp only [PS.go] at ha b1 ⊢
  repeat' (first|(apply ay;first|refine ao ?_|refine ak ?_|refine bu ?_|refine be 0 (ha) ?_|refine be 0 (b1) ?_|refine cG ?_|refine dn ?_|refine gh ?_|refine aS ?_)|refine al ?_|refine ab ?_|refine aa fun C=>?_|refine ae ?_|refine ah ?_|refine az rfl ?_)
  refine bH (dN (i:=10) (j:=600) rfl rfl rfl (pre:=[_,_]) (post:=[]) rfl) ?_
  exact oV
 | false =>
  rw [kJ h1,h1] at b1
  rw [if_neg (by simp)]
  cases h2:isB s 43 ⟨qa,qd,qb⟩ with
  | true =>
   rw [g9 h2,h2] at b2
   rw [if_pos rfl]
   unfold eH at ha b1 b2 ⊢
   dsimp only [PS.go] at ha b1 b2 ⊢
   repeat' (first|(apply ay;first|refine ao ?_|refine ak ?_|refine bu ?_|refine be 0 (ha) ?_|refine be 0 (b1) ?_|refine be 0 (b2) ?_|refine cG ?_|refine dn ?_|refine gh ?_|refine aS ?_)|refine al ?_|refine ab ?_|refine aa fun C=>?_|refine ae ?_|refine ah ?_|refine az rfl ?_|refine aE rfl ?_)
   refine bH (dN (i:=16) (j:=600) rfl rfl rfl (pre:=[_,_]) (post:=[]) rfl) ?_
   exact oV
  | false =>
   rw [kJ h2,h2] at b2
   rw [if_neg (by simp)]
   cases h3:isB s 63 ⟨qa,qd,qb⟩ with
   | true =>
    rw [g9 h3,h3] at b3
    rw [if_pos rfl]
    unfold eH at ha b1 b2 b3 ⊢
    dsimp only [PS.go] at ha b1 b2 b3 ⊢
    repeat' (first|(apply ay;first|refine ao ?_|refine ak ?_|refine bu ?_|refine be 0 (ha) ?_|refine be 0 (b1) ?_|refine be 0 (b2) ?_|refine be 0 (b3) ?_|refine cG ?_|refine dn ?_|refine gh ?_|refine aS ?_)|refine al ?_|refine ab ?_|refine aa fun C=>?_|refine ae ?_|refine ah ?_|refine az rfl ?_|refine aE rfl ?_)
    refine bH (dN (i:=22) (j:=600) rfl rfl rfl (pre:=[_,_]) (post:=[]) rfl) ?_
    exact oV
   | false =>
    rw [kJ h3,h3] at b3
    rw [if_neg (by simp)]
    unfold eH at ha b1 b2 b3 ⊢
    dsimp only at ha b1 b2 b3 ⊢
    repeat' (first|(apply ay;first|refine ao ?_|refine ak ?_|refine bu ?_|refine be 0 (ha) ?_|refine be 0 (b1) ?_|refine be 0 (b2) ?_|refine be 0 (b3) ?_|refine cG ?_|refine dn ?_)|refine al ?_|refine ab ?_|refine aa fun C=>?_|refine ae ?_|refine ah ?_|refine ai ?_|refine aE rfl ?_)
    exact oV
theorem vk {s:ByteArray}{a d v:Nat}{b:Bool}(hv:bAt s a=v):goS s ⟨a,d,b⟩=(!b&&decide (a<s.size)&&!(v==124)&&!(v==41)):=by unfold goS;rw [hv]
theorem pw {s:ByteArray}{item:PS→E×PS}{p:PS}(h:goS s p=false):∀(n:Nat) (l:List E),bY s item n l p=(l,p)
 | 0,_=>rfl
 | n+1,l=>by unfold bY;rw [if_neg (by rw [h];simp)]
theorem px {s:ByteArray}{cat:PS→E×PS}{p:PS}(h:isB s 124 p=false):∀(n:Nat) (l:List E),b9 s cat n l p=(l,p)
 | 0,_=>rfl
 | n+1,l=>by unfold b9;rw [if_neg (by rw [h];simp)]
theorem zy {s:ByteArray}(hs:s.size≤1048576){item:PS→E×PS}{p0:PS}(hp:Pre s p0)
 (hg:∀q,Pre s q→p0.a≤q.a→GoodS s q (item q)∧((item q).2.b=false→q.a<(item q).2.a))
 (hi:∀q,Pre s q→p0.a≤q.a→Ctr prog 264 [.c (.pt 0 0)] [eH s q] (.ag (owE (item q).1)) [eH s (item q).2]) :
 Ctr prog 260 [.c (.pt 0 0)] [eH s p0] (.ag (owE (oR s item p0).1)) [eH s (oR s item p0).2]:=by
 have hic0:=hi p0 hp (Nat.le_refl _)
 obtain⟨hg0,hu0⟩:=hg p0 hp (Nat.le_refl _)
 have hL0:=GoodLS.one hg0
 have hr:oR s item p0=(jB 4 (bY s item (s.size+1) [(item p0).1] (item p0).2).1,(bY s item (s.size+1) [(item p0).1] (item p0).2).2):=rfl
 rw [hr]
 clear hr
 obtain⟨⟨e,q0⟩,hq0⟩:∃r,item p0=r:=⟨_,rfl⟩
 rw [hq0] at hic0 hg0 hL0 hu0 ⊢
 have hfi:Fine e:=hg0.fine
 dsimp only at hic0 hL0 hu0 ⊢
 cases hfi with
 | mk k t l hk ht hl2 =>
 refine av func260 rfl rfl ?_
 repeat' (first|(apply ay;first|refine ao ?_|refine ak ?_|refine be 0 (hic0) ?_|refine dn ?_|refine gh ?_)|refine al ?_|refine ab ?_|refine aa fun C=>?_|refine ae ?_|refine ah ?_)
 refine aP (fun q:List E×PS=>⟨dA [(0,.c (.pt 0 0)),(2,.c (.pt 2 0)),(3,.c (.sl 9 q.1.length))],dq [(0,0,⟨0,0,0,true,eH s q.2⟩),(2,2,⟨39,0,0,true,[.v (.int .i64 0),.v (.string ByteArray.empty),.v (.slice none 0 0)]⟩),(9,9,⟨39,3,q.1.length,false,owL q.1⟩)],1,[0,2,9],61⟩)
  (fun N q=>GoodLS s p0 q.1 q.2∧(q.2.b=true∨s.size+2≤q.2.a+N)∧bY s item N q.1 q.2=bY s item (s.size+1) [cU k t l] q0) (s.size+1) ([cU k t l],q0) ⟨hL0,by
    cases hb:q0.b with
    | true=>exact .inl rfl
    | false=>right;have:=hu0 hb;dsimp only;omega,rfl⟩ ?_ ?_
 ·refine (dN (i:=6) (j:=600) rfl rfl rfl (pre:=[_,_]) (post:=[]) rfl).trans ?_
  (refine fW (fun j=>if j=9 then 6 else j) _ _ rfl rfl ?_ ?_<;>exact tdy0)
 rintro N ⟨L,q⟩ ⟨hgl,hN,htot⟩
 dsimp only at hgl hN htot ⊢
 have hpre:=hgl.pre hp
 obtain⟨a,d,b⟩:=q
 obtain⟨v,hv⟩:∃v,bAt s a=v:=⟨_,rfl⟩
 have hgp:=vk (d:=d) (b:=b) hv
 have hlen:=hgl.len.1
 have hale:a≤s.size:=hgl.le
 dsimp only at hlen
 cases hgo:goS s ⟨a,d,b⟩ with
 | true =>
  obtain⟨hb,hlt,hv1,hv2⟩:=zrQ hgo
  dsimp only at hb hlt hv1 hv2 hN
  subst hb
  rw [hv] at hv1 hv2
  have hN:=hN.resolve_left (by simp)
  obtain⟨M,rfl⟩:∃M,N=M+1:=⟨N-1,omq⟩
  have hic:=hi _ hpre hgl.ge
  have hgd:=hg _ hpre hgl.ge
  have hst:bY s item (M+1) L ⟨a,d,false⟩=bY s item M (L++[(item ⟨a,d,false⟩).1]) (item ⟨a,d,false⟩).2:=by
   show (if goS s ⟨a,d,false⟩ then _ else _)=_
   rw [if_pos hgo]
  rw [hst] at htot
  clear hst hi hg hic0
  have hgl2:=hgl.step rfl hgd
  obtain⟨⟨e2,q2⟩,hq2⟩:∃r,item ⟨a,d,false⟩=r:=⟨_,rfl⟩
  rw [hq2] at hic htot hgd hgl2
  dsimp only at hic htot hgd hgl2
  have hfi2:Fine e2:=hgd.1.fine
  cases hfi2 with
  | mk k' t' l' hk' ht' hl2' =>
  unfold eH at hic ⊢
  dsimp only at hic ⊢
  repeat' (first|(apply fH;first|refine nh ?_|(refine lK ?_ ?_<;>intro hG<;>(try cases hG))|(apply gg;refine bg ?_)|refine gX ?_|refine dJ ?_|refine fw ?_|(apply lL;refine bg ?_)|refine iS ?_|refine bg ?_)|refine al ?_|refine ab ?_|refine ar (by kernel_rfl) (by kernel_rfl) fun C=>?_|refine ae ?_)
  all_goals first
   | (exfalso;clear hic hgl hgl2 hgd hL0 hg0 htot hN hpre;simp only [decide_eq_false_iff_not,bne_eq_false_iff_eq] at hG;omega)
   | skip
  rw [hv]
  refine aj (by rfl) (fun hC=>?_) fun hC=>absurd (bne_eq_false_iff_eq.1 hC) omq
  repeat' (first|(apply ay;first|refine ao ?_|refine ak ?_|refine be 0 (hic) ?_|refine ll ?_|refine gh ?_)|refine al ?_|refine ab ?_|refine aa fun C=>?_|refine ah ?_|refine ai ?_)
  refine⟨M,(L++[cU k' t' l'],q2),omq,⟨hgl2,?_,htot⟩,?_⟩
  ·dsimp only
   cases hb2:q2.b with
   | true=>exact .inl rfl
   | false=>right;have:=hgd.2 hb2;(try dsimp only at this);omega
  ·dsimp only
   rw [List.length_append,List.length_singleton]
   refine (dN (i:=52) (j:=5100) rfl rfl rfl (pre:=owL L++[.v (.int .i64 k'),.v (.string t')]) (post:=[]) (by rw [List.append_assoc];rfl)).trans ?_
   (refine fW (fun j=>if j=9 then 52 else j) _ _ rfl rfl ?_ ?_<;>(repeat' (first|exact TmOk.nil|exact RwOk.nil|refine TmOk.cons ?_ ?_|refine RwOk.cons ?_ ?_|rfl|(refine rnV_id' rfl ?_;exact byc)|(refine bv ?_;first|rfl|omega|(rw [aW omq omq];omega))|(refine aK rfl ?_;exact byc)|exact cb rfl rfl|(refine rw_mid (by rfl) (by rfl) ?_ ?_<;>exact byc)|(refine rw_rn' rfl rfl ?_;simp;done))))
   exact lj (r:=⟨39,3,L.length+1,false,(owL L++[.v (.int .i64 k'),.v (.string t')])++[.ow 39 l'.length 3 (owL l')]⟩) rfl (by rw [ff,List.append_assoc];rfl) (by first|rfl|(simp [rJ,bf,clo,bp,aH,bq,ba,aZ];done))
 | false =>
  rw [pw hgo] at htot
  rw [←htot]
  rw [hgo] at hgp
  have hfine:=hgl.fine
  have hne:=hgl.ne
  clear htot hi hg hic0 hN hL0 hgl hpre hg0
  have hgo':b=true∨s.size≤a∨v=124∨v=41:=by
   cases b with
   | true=>exact .inl rfl
   | false=>right;simp at hgp;omega
  unfold eH
  dsimp only
  match L,hfine,hne with
  | [],_,h0=>exact absurd h0 (by simp)
  | [x],hf,_ =>
   have hx:=hf x (List.mem_singleton.2 rfl)
   cases hx with
   | mk k' t' l' hk' ht' hl2' =>
   cases b<;>repeat' (first|(apply fH;first|refine nh ?_|(refine lK ?_ ?_<;>intro hG<;>(try cases hG))|(apply gg;refine bg ?_)|refine gX ?_|refine dJ ?_|refine fw ?_|(apply lL;refine bg ?_)|refine iS ?_|refine bg ?_)|refine al ?_|refine ab ?_|refine ar (by kernel_rfl) (by kernel_rfl) fun C=>?_|refine ae ?_)
   all_goals first
    | refine aE rfl ?_
    | refine aj (by rfl) (fun hC=>by exfalso;clear hfine;simp only [bne_iff_ne,ne_eq,Bool.false_eq_true,false_or,decide_eq_true_iff] at *;omega) fun hC=>?_
   all_goals
    refine bH (gW 800 (i:=9) rfl rfl (pre:=[.v (.int .i64 k'),.v (.string t')]) (post:=[]) rfl) ?_
    repeat' (first|(apply ay;first|refine ao ?_|refine bu ?_|refine gp ?_|refine cG ?_|refine uo ?_|refine aq ?_)|refine al ?_|refine ab ?_|refine aa fun C=>?_|refine ae ?_|refine au ?_|refine az rfl ?_)
    exact oV
  | x :: y :: r,hf,_ =>
   have hlen2:(x :: y :: r).length=r.length+2:=rfl
   cases b<;>repeat' (first|(apply fH;first|refine nh ?_|(refine lK ?_ ?_<;>intro hG<;>(try cases hG))|(apply gg;refine bg ?_)|refine gX ?_|refine dJ ?_|refine fw ?_|(apply lL;refine bg ?_)|refine iS ?_|refine bg ?_)|refine al ?_|refine ab ?_|refine ar (by kernel_rfl) (by kernel_rfl) fun C=>?_|refine ae ?_)
   all_goals first
    | refine aE rfl ?_
    | refine aj (by rfl) (fun hC=>by exfalso;clear hfine;simp only [bne_iff_ne,ne_eq,Bool.false_eq_true,false_or,decide_eq_true_iff] at *;omega) fun hC=>?_
   all_goals
    repeat' (first|(apply ay;first|refine ao ?_|refine gp ?_|refine aq ?_)|refine al ?_|refine ab ?_|refine aa fun C=>?_|refine ae ?_|refine au ?_)
    refine aj (by rfl) (fun hC=>by exfalso;simp at hC;omega) fun hC=>?_
    repeat' (first|(apply ay;first|refine ao ?_|refine cG ?_|refine aS ?_)|refine al ?_|refine ab ?_|refine aa fun C=>?_|refine ae ?_|refine ai ?_)
    exact oV
end Go.Proofs.YtmnneflenebgmaaGreat
