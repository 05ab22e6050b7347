/- T -/
import Derived.Test.YtomolhbkdhjofaaGreatDoorParXAJ
set_option maxHeartbeats 0
set_option maxRecDepth 100000
namespace Go.Proofs.YtomolhbkdhjofaaGreatDoor
open Go.RowKit Go.Proofs.Tryz
def HI (L:List T3)(f:Nat)(g:RI→E×RI):Prop:=∀q:RI,TI L q→(q.b=false→L.length+1≤q.a+f)→Ctr prog 26 [.c (.pt 0 0)] [dz L q] (.ag (owE (g q).1)) [dz L (g q).2]
theorem zy5 {L:List T3}{g:RI→E×RI}{en:ByteArray}{n:Nat}{l:List E}{r:RI}(h:r.b=true∨isI L r 0 en=true):lsI L g en n l r=(l,r):=by
 cases n with
 | zero=>rfl
 | succ n=>unfold lsI;rw [if_pos h]
theorem zdQ {L:List T3}(hL:L.length≤2000){f:Nat}(hf:f≤3000){g:RI→E×RI}(hg:GI L f g)(hi:HI L f g)(en:ByteArray){r:RI}(ht:TI L r)(hr:r.b=false→L.length+1≤r.a+f)(ha:r.a≤30000) :
 Ctr prog 112 [.c (.pt 0 0),.c (.v (.string en))] [dz L r] (.c (.ow 26 (ov L g en r).1.length 4 (owL (ov L g en r).1))) [dz L (ov L g en r).2]:=by
 refine ay func112 rfl rfl ?_
 repeat' (first|(apply av;refine ai ?_)|refine aj ?_|refine ab ?_|refine aa fun C=>?_|refine ac ?_|refine ah ?_)
 refine aZ (fun q:List E×RI=>⟨e8 [(0,.c (.pt 0 0)),(1,.c (.v (.string en))),(5,.c (.sl 9 q.1.length))],eT [(0,0,⟨0,0,0,true,dz L q.2⟩),(9,9,⟨26,4,q.1.length,false,owL q.1⟩)],1,[0,9],33⟩)
  (fun N q=>TI L q.2∧(q.2.b=false→L.length+2≤q.2.a+N∧L.length+1≤q.2.a+f)∧q.2.a≤60000∧q.1.length+N=L.length+2∧lsI L g en N q.1 q.2=lsI L g en (L.length+2) [] r) (L.length+2) ([],r) ⟨ht,fun h=>⟨by dsimp only;omega,hr h⟩,by dsimp only;omega,by simp,rfl⟩ ?_ ?_
 ·refine (jR 9 (t:=5) 26 4 rfl rfl).trans ?_
  (refine aN _ _ rfl rfl ?_ ?_<;>exact tdy2)
 rintro N ⟨l,q⟩ ⟨k1,k2,k3,k4,k5⟩
 dsimp only at k1 k2 k3 k4 k5 ⊢
 by_cases hend:q.b=true∨isI L q 0 en=true
 ·rw [zy5 hend] at k5
  have cw:=eY hL (r:=q) omq en
  unfold ov
  rw [←k5]
  dsimp only
  clear k5 hi hg
  have c1:=pH hL (r:=q) omq (j:=0) omq (z:=0) rfl en
  obtain⟨a,b⟩:=q
  rcases hend with h|h
  ·have h:b=true:=h
   subst h
   clear c1
   unfold dz at *
   dsimp only at cw ⊢
   repeat' (first|(apply av;first|refine bC ?_|(refine aK ?_ ?_<;>intro hG<;>(try cases hG))|refine ak ?_|refine ai ?_|refine ba ?_|refine aI ?_|refine iw 0 [30] (cw) ?_ (hl:=cH (by rfl) bX)|refine bM ?_|refine aA ?_|refine ec ?_|refine az ?_)|refine aj ?_|refine ab ?_|refine aa fun C=>?_|refine ac ?_|refine aB ?_|refine ar rfl ?_)
   exact rtq4
  ·rw [h] at c1
   unfold dz at *
   dsimp only at cw c1 ⊢
   cases b with
   | true =>
    repeat' (first|(apply av;first|refine bC ?_|(refine aK ?_ ?_<;>intro hG<;>(try cases hG))|refine ak ?_|refine ai ?_|refine ba ?_|refine aI ?_|refine iw 0 [30] (cw) ?_ (hl:=cH (by rfl) bX)|refine bM ?_|refine aA ?_|refine ec ?_|refine az ?_)|refine aj ?_|refine ab ?_|refine aa fun C=>?_|refine ac ?_|refine aB ?_|refine ar rfl ?_)
    exact rtq4
   | false =>
    repeat' (first|(apply av;first|(refine aK ?_ ?_<;>intro hG<;>(try cases hG))|refine ak ?_|refine ai ?_|refine ba ?_|refine aI ?_|refine aF 0 (c1) ?_|refine iw 0 [30] (cw) ?_ (hl:=cH (by rfl) bX)|refine bM ?_|refine aA ?_|refine ec ?_|refine az ?_)|refine aj ?_|refine ab ?_|refine aa fun C=>?_|refine ac ?_|refine aB ?_|refine ar rfl ?_)
    exact rtq4
 ·have hb:q.b=false:=by cases h:q.b with
   | false=>rfl
   | true=>exact absurd (.inl h) hend
  have hni:isI L q 0 en=false:=by cases h:isI L q 0 en with
   | false=>rfl
   | true=>exact absurd (.inr h) hend
  obtain⟨k6,k7⟩:=k2 hb
  have hqa:q.a≤L.length:=k1 (by rw [hb];rfl)
  obtain⟨M,rfl⟩:∃M,N=M+1:=⟨N-1,omq⟩
  have c1:=pH hL (r:=q) omq (j:=0) omq (z:=0) rfl en
  rw [hni] at c1
  have hst:lsI L g en (M+1) l q=lsI L g en M (l++[(g (if l=[] then q else waI L q ⟨#[44]⟩)).1]) (g (if l=[] then q else waI L q ⟨#[44]⟩)).2:=by
   show (if q.b=true∨isI L q 0 en=true then _ else _)=_
   rw [if_neg hend]
  rw [hst] at k5
  clear hst hend
  have key:∀q1:RI,TI L q1→q.a≤q1.a∧(q1.b.toNat=0→q1.a≤L.length)→PI L f q1 (g q1).1 (g q1).2:=fun q1 h1 _=>hg q1 h1
  by_cases hl:l=[]
  ·rw [if_pos hl] at k5
   subst hl
   have hic:=hi q k1 (fun _=>k7)
   have hgd:=hg q k1
   obtain⟨⟨e,q2⟩,hq2⟩:∃x,g q=x:=⟨_,rfl⟩
   rw [hq2] at hic hgd k5
   dsimp only at hic hgd k5
   have hn:=hgd.n
   have hfe:=hgd.fine
   clear hgd key hi hg
   cases hfe with
   | mk k n s m hk hn0 hs hm =>
   obtain⟨a,b⟩:=q
   have hb:b=false:=hb
   subst hb
   have hb0:(false).toNat=0:=rfl
   dsimp only at hn hqa k6 k7 k3
   unfold dz at c1 hic ⊢
   dsimp only at c1 hic ⊢
   repeat' (first|(apply av;first|(refine aK ?_ ?_<;>intro hG<;>(try cases hG))|refine ak ?_|refine ai ?_|refine ba ?_|refine aI ?_|refine aF 0 (c1) ?_|refine aF 0 (hic) ?_|refine cU ?_|refine ip ?_|refine bu ?_|refine bM ?_|refine aA ?_|refine ec ?_|refine az ?_)|refine aj ?_|refine ab ?_|refine aa fun C=>?_|refine ac ?_|refine ah ?_|refine al ?_|refine aq rfl ?_|refine ar rfl ?_)
   refine⟨M,([xE k n s m],q2),omq,⟨fun h=>(hn.2.2.1 h).1,fun h=>?_,by dsimp only;omega,by simp at k4 ⊢;omega,k5⟩,?_⟩
   ·have h0:q2.b.toNat=0:=by rw [h];rfl
    have:=hn.2.2.1 h0
    dsimp only
    omega
   dsimp only
   refine (dA (i:=27) (j:=2600) rfl rfl rfl (pre:=[.v (.int .i64 k),.v (.int .i64 n),.v (.string s)]) (post:=[]) rfl).trans ?_
   (refine eu (fun j=>if j=9 then 27 else j) _ _ rfl rfl ?_ ?_<;>exact tdy2)
  ·rw [if_neg hl] at k5
   have hw:=ox L q ⟨#[44]⟩
   have cw:=eY hL (r:=q) omq ⟨#[44]⟩
   have hll:0<l.length:=List.length_pos_iff.2 hl
   obtain⟨q1,hq1⟩:∃x,waI L q ⟨#[44]⟩=x:=⟨_,rfl⟩
   rw [hq1] at cw hw k5
   have ht1:TI L q1:=fun h=>by have:=(hw.2 h).2;omega
   have hic:=hi q1 ht1 (fun _=>by omega)
   have hgd:=hg q1 ht1
   obtain⟨⟨e,q2⟩,hq2⟩:∃x,g q1=x:=⟨_,rfl⟩
   rw [hq2] at hic hgd k5
   dsimp only at hic hgd k5
   have hn:=hgd.n
   have hfe:=hgd.fine
   clear hgd key hi hg
   cases hfe with
   | mk k n s m hk hn0 hs hm =>
   obtain⟨a,b⟩:=q
   have hb:b=false:=hb
   subst hb
   have hb0:(false).toNat=0:=rfl
   obtain⟨a1,b1⟩:=q1
   dsimp only at hn hw hqa k6 k7 k3
   unfold dz at c1 cw hic ⊢
   dsimp only at c1 cw hic ⊢
   repeat' (first|(apply av;first|(refine aK ?_ ?_<;>intro hG<;>(try cases hG))|refine ak ?_|refine ba ?_|refine aI ?_|refine aF 0 (c1) ?_|refine bM ?_|refine aA ?_|refine az ?_)|refine aj ?_|refine ab ?_|refine aa fun C=>?_|refine ac ?_)
   refine aq rfl ?_
   repeat' (first|(apply av;first|refine ak ?_|refine cU ?_|refine bu ?_)|refine aj ?_|refine ab ?_|refine aa fun C=>?_|refine ac ?_|refine ah ?_|refine al ?_)
   refine ae (by rfl) (fun hC=>?_) fun hC=>by exfalso;simp only [decide_eq_false_iff_not] at hC;omega
   repeat' (first|(apply av;first|refine ak ?_|refine ai ?_|refine iw 0 [21] (cw) ?_ (hl:=cH (by rfl) bX)|refine aF 0 (hic) ?_|refine ip ?_|refine ec ?_)|refine aj ?_|refine ab ?_|refine aa fun C=>?_)
   refine⟨M,(l++[xE k n s m],q2),omq,⟨fun h=>(hn.2.2.1 h).1,fun h=>?_,by dsimp only;omega,by simp at k4 ⊢;omega,k5⟩,?_⟩
   ·have h0:q2.b.toNat=0:=by rw [h];rfl
    have:=hn.2.2.1 h0
    dsimp only
    omega
   dsimp only
   rw [List.length_append,List.length_singleton]
   refine (dA (i:=27) (j:=2600) rfl rfl rfl (pre:=owL l++[.v (.int .i64 k),.v (.int .i64 n),.v (.string s)]) (post:=[]) (by rw [List.append_assoc];rfl)).trans ?_
   (refine eu (fun j=>if j=9 then 27 else j) _ _ rfl rfl ?_ ?_<;>(repeat' (first|exact TmOk.nil|exact RwOk.nil|refine TmOk.cons ?_ ?_|refine RwOk.cons ?_ ?_|rfl|exact fa rfl rfl (sG _ _)|exact fa rfl rfl bX|exact fa rfl rfl (pG _ _)|exact fa rfl rfl dX|(refine rnV_id' rfl ?_;exact byc)|(refine cE ?_;first|rfl|omega|(rw [bA omq omq];omega))|(refine bf rfl ?_;exact byc)|exact dH rfl rfl|(refine rw_mid (by rfl) (by rfl) ?_ ?_<;>exact byc)|(refine rw_rn' rfl rfl ?_;simp;done))))
   exact fa (r:=⟨26,4,l.length+1,false,(owL l++[.v (.int .i64 k),.v (.int .i64 n),.v (.string s)])++[.ow 26 m.length 4 (owL m)]⟩) rfl (by rw [fj,List.append_assoc];rfl) (by first|rfl|(simp [oO,bl,clo,bi,aL,bj,a8,aX];done))
end Go.Proofs.YtomolhbkdhjofaaGreatDoor
