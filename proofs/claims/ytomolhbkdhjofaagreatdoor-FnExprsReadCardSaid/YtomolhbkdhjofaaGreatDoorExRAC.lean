/- T -/
import Derived.Test.YtomolhbkdhjofaaGreatDoorExRAB
set_option maxHeartbeats 0
set_option maxRecDepth 100000
namespace Go.Proofs.YtomolhbkdhjofaaGreatDoor
open Go.RowKit Go.Proofs.Tryz
theorem fL {L:List T3}(hL:L.length≤2000){r:RI}(ha:r.a≤100000)(s:ByteArray):Ctr prog 84 [.c (.pt 0 0),.c (.ro 1 1 [.v (.string s)])] [dX L r] (.tu []) [dX L (waI L r s)]:=by
 have c1:=pY hL ha (j:=0) omq (z:=0) rfl s
 obtain⟨a,b⟩:=r
 obtain⟨b2,hb2⟩:∃x,(b||!isI L ⟨a,b⟩ 0 s)=x:=⟨_,rfl⟩
 unfold waI
 dsimp only at ha ⊢
 rw [hb2]
 unfold dX at *
 dsimp only at c1 ⊢
 refine az func84 rfl rfl ?_
 repeat' (first|(apply ay;first|refine ak ?_|refine bC ?_)|refine aj ?_|refine ab ?_|refine aa fun C=>?_|refine ac ?_|refine ah ?_)
 refine aY (fun d:Nat×Int×Bool=>⟨ft [(0,.c (.pt 0 0)),(6,.c (.ro 1 1 [.v (.string s)])),(7,.c (.v (.int .i64 1))),(8,.c (.v (.int .i64 d.1)))],eW [(0,0,⟨0,0,0,true,[.ro (L.map T3.E).length 3 (acL (L.map T3.E)),.v (.int .i64 d.2.1),.v (.bool d.2.2)]⟩)],1,[0],27⟩)
  (fun N d=>(d.1=0∧N=1∧d.2.1=(a:Int)∧d.2.2=b)∨(d.1=1∧d.2.1=((a+1:Nat):Int)∧d.2.2=b2)) 1 (0,(a:Int),b) (.inl ⟨rfl,rfl,rfl,rfl⟩) ?_ ?_
 ·(refine aL _ _ rfl rfl ?_ ?_<;>exact tdy3)
 rintro N ⟨j,x,y⟩ hd
 dsimp only at hd ⊢
 rcases hd with ⟨rfl,rfl,rfl,rfl⟩|⟨rfl,rfl,rfl⟩
 ·cases hi:isI L ⟨a,y⟩ 0 s with
  | true =>
   rw [hi] at c1 hb2
   obtain rfl:y=b2:=by rw [←hb2];simp
   repeat' (first|(apply ay;first|refine ak ?_|refine ai ?_|refine bf ?_|refine aI ?_|refine dD ?_|refine aF 0 (c1) ?_|refine bh ?_|(apply mW;refine au ?_)|refine aA ?_|refine aw ?_|refine bI ?_|refine au ?_)|refine aj ?_|refine ab ?_|refine aa fun C=>?_|refine ac ?_|refine ah ?_|refine al ?_|refine aq rfl ?_|refine ar rfl ?_)
   refine⟨0,(1,((a+1:Nat):Int),y),omq,.inr ⟨rfl,rfl,rfl⟩,?_⟩
   (refine aL _ _ rfl rfl ?_ ?_<;>exact tdy3)
  | false =>
   rw [hi] at c1 hb2
   obtain rfl:true=b2:=by rw [←hb2];simp
   repeat' (first|(apply ay;first|refine ak ?_|refine ai ?_|refine bf ?_|refine aI ?_|refine dD ?_|refine aF 0 (c1) ?_|refine bh ?_|(apply mW;refine au ?_)|refine aA ?_|refine aw ?_|refine bI ?_|refine au ?_)|refine aj ?_|refine ab ?_|refine aa fun C=>?_|refine ac ?_|refine ah ?_|refine al ?_|refine aq rfl ?_)
   refine⟨0,(1,((a+1:Nat):Int),true),omq,.inr ⟨rfl,rfl,rfl⟩,?_⟩
   (refine aL _ _ rfl rfl ?_ ?_<;>exact tdy3)
 ·repeat' (first|(apply ay;refine aA ?_)|refine aj ?_|refine ab ?_|refine aa fun C=>?_|refine ac ?_|refine aE ?_|refine ar rfl ?_)
  exact dO (x:=.tu []) rfl rfl rfl cA rfl ⟨rfl,rfl⟩
theorem oO {L:List T3}(hL:L.length≤2000){r:RI}(ha:r.a≤100000)(k:Int):Ctr prog 85 [.c (.pt 0 0),.c (.v (.int .i64 k))] [dX L r] (.ag [.v (.int .i64 (taI L r k).1.1),.v (.int .i64 (taI L r k).1.2.1),.v (.string (taI L r k).1.2.2)]) [dX L (taI L r k).2]:=by
 have c1:=iF hL ha (j:=0) omq (z:=0) rfl
 refine az func85 rfl rfl ?_
 unfold taI
 dsimp only
 rw [Nat.add_zero] at c1
 obtain⟨a,b⟩:=r
 unfold dX at *
 dsimp only at ha c1 ⊢
 generalize tAt L a=t at *
 obtain⟨k',n,u⟩:=t
 dsimp only at c1 ⊢
 by_cases hk:k'=k
 ·subst hk
  rw [show (b||!decide (k'=k'))=b by simp]
  repeat' (first|(apply ay;first|refine ak ?_|refine bf ?_|refine aI ?_|refine aF 0 (c1) ?_|refine bh ?_|refine aN ?_|refine bJ ?_)|refine aj ?_|refine ab ?_|refine aa fun C=>?_|refine ac ?_)
  refine ae rqf (fun hC=>by exfalso;simp at hC) fun hC=>?_
  repeat' (first|(apply ay;first|refine ak ?_|refine bf ?_|refine aI ?_|refine bM ?_|refine bh ?_|refine aw ?_|refine au ?_)|refine aj ?_|refine ab ?_|refine aa fun C=>?_|refine ac ?_|refine al ?_)
  refine am ?_;refine dO rfl (bi (aO rfl (aO rfl (aO rfl aQ)))) rfl clsR rfl ⟨?_,?_⟩
  ·rfl
  ·rfl
 ·rw [show (b||!decide (k'=k))=true by simp [hk]]
  repeat' (first|(apply ay;first|refine ak ?_|refine bf ?_|refine aI ?_|refine aF 0 (c1) ?_|refine bh ?_|refine aN ?_|refine bJ ?_)|refine aj ?_|refine ab ?_|refine aa fun C=>?_|refine ac ?_)
  refine ae rqf (fun hC=>?_) fun hC=>by exfalso;simp at hC;exact hk hC
  repeat' (first|(apply ay;first|refine ak ?_|refine bf ?_|refine aI ?_|refine bM ?_|refine bh ?_|refine aw ?_|refine au ?_)|refine aj ?_|refine ab ?_|refine aa fun C=>?_|refine ac ?_)
  refine am ?_;refine dO rfl (bi (aO rfl (aO rfl (aO rfl aQ)))) rfl clsR rfl ⟨?_,?_⟩
  ·rfl
  ·rfl
def HI (L:List T3)(f:Nat)(g:RI→E×RI):Prop:=∀q:RI,TI L q→(q.b=false→L.length+1≤q.a+f)→Ctr prog 26 [.c (.pt 0 0)] [dX L q] (.ag (owE (g q).1)) [dX L (g q).2]
theorem zs6 {L:List T3}{g:RI→E×RI}{en:ByteArray}{n:Nat}{l:List E}{r:RI}(h:r.b=true∨isI L r 0 en=true):lsI L g en n l r=(l,r):=by
 cases n with
 | zero=>rfl
 | succ n=>unfold lsI;rw [if_pos h]
theorem zvQ {L:List T3}(hL:L.length≤2000){f:Nat}(hf:f≤3000){g:RI→E×RI}(hg:GI L f g)(hi:HI L f g)(en:ByteArray){r:RI}(ht:TI L r)(hr:r.b=false→L.length+1≤r.a+f)(ha:r.a≤30000) :
 Ctr prog 112 [.c (.pt 0 0),.c (.v (.string en))] [dX L r] (.c (.ow 26 (oU L g en r).1.length 4 (owL (oU L g en r).1))) [dX L (oU L g en r).2]:=by
 refine az func112 rfl rfl ?_
 repeat' (first|(apply ay;refine ai ?_)|refine aj ?_|refine ab ?_|refine aa fun C=>?_|refine ac ?_|refine ah ?_)
 refine aY (fun q:List E×RI=>⟨ft [(0,.c (.pt 0 0)),(1,.c (.v (.string en))),(5,.c (.sl 9 q.1.length))],eW [(0,0,⟨0,0,0,true,dX L q.2⟩),(9,9,⟨26,4,q.1.length,false,owL q.1⟩)],1,[0,9],33⟩)
  (fun N q=>TI L q.2∧(q.2.b=false→L.length+2≤q.2.a+N∧L.length+1≤q.2.a+f)∧q.2.a≤60000∧q.1.length+N=L.length+2∧lsI L g en N q.1 q.2=lsI L g en (L.length+2) [] r) (L.length+2) ([],r) ⟨ht,fun h=>⟨by dsimp only;omega,hr h⟩,by dsimp only;omega,by simp,rfl⟩ ?_ ?_
 ·refine (kz 9 (t:=5) 26 4 rfl rfl).trans ?_
  (refine aL _ _ rfl rfl ?_ ?_<;>exact tdy3)
 rintro N ⟨l,q⟩ ⟨k1,k2,k3,k4,k5⟩
 dsimp only at k1 k2 k3 k4 k5 ⊢
 by_cases hend:q.b=true∨isI L q 0 en=true
 ·rw [zs6 hend] at k5
  have cw:=fL hL (r:=q) omq en
  unfold oU
  rw [←k5]
  dsimp only
  clear k5 hi hg
  have c1:=pY hL (r:=q) omq (j:=0) omq (z:=0) rfl en
  obtain⟨a,b⟩:=q
  rcases hend with h|h
  ·have h:b=true:=h
   subst h
   clear c1
   unfold dX at *
   dsimp only at cw ⊢
   repeat' (first|(apply ay;first|refine bH ?_|(refine aK ?_ ?_<;>intro hG<;>(try cases hG))|refine ak ?_|refine ai ?_|refine bf ?_|refine aI ?_|refine fD 0 [30] (cw) ?_ (hl:=bF rqf cA)|refine bI ?_|refine aB ?_|refine dT ?_|refine au ?_)|refine aj ?_|refine ab ?_|refine aa fun C=>?_|refine ac ?_|refine aE ?_|refine ar rfl ?_)
   exact rtq4
  ·rw [h] at c1
   unfold dX at *
   dsimp only at cw c1 ⊢
   cases b with
   | true =>
    repeat' (first|(apply ay;first|refine bH ?_|(refine aK ?_ ?_<;>intro hG<;>(try cases hG))|refine ak ?_|refine ai ?_|refine bf ?_|refine aI ?_|refine fD 0 [30] (cw) ?_ (hl:=bF rqf cA)|refine bI ?_|refine aB ?_|refine dT ?_|refine au ?_)|refine aj ?_|refine ab ?_|refine aa fun C=>?_|refine ac ?_|refine aE ?_|refine ar rfl ?_)
    exact rtq4
   | false =>
    repeat' (first|(apply ay;first|(refine aK ?_ ?_<;>intro hG<;>(try cases hG))|refine ak ?_|refine ai ?_|refine bf ?_|refine aI ?_|refine aF 0 (c1) ?_|refine fD 0 [30] (cw) ?_ (hl:=bF rqf cA)|refine bI ?_|refine aB ?_|refine dT ?_|refine au ?_)|refine aj ?_|refine ab ?_|refine aa fun C=>?_|refine ac ?_|refine aE ?_|refine ar rfl ?_)
    exact rtq4
 ·have hb:q.b=false:=by cases h:q.b with
   | false=>rfl
   | true=>exact absurd (.inl h) hend
  have hni:isI L q 0 en=false:=by cases h:isI L q 0 en with
   | false=>rfl
   | true=>exact absurd (.inr h) hend
  obtain⟨k6,k7⟩:=k2 hb
  have hqa:q.a≤L.length:=k1 (by rw [hb];rfl)
  obtain⟨M,rfl⟩:∃M,N=M+1:=⟨N-1,omq⟩
  have c1:=pY hL (r:=q) omq (j:=0) omq (z:=0) rfl en
  rw [hni] at c1
  have hst:lsI L g en (M+1) l q=lsI L g en M (l++[(g (if l=[] then q else waI L q ⟨#[44]⟩)).1]) (g (if l=[] then q else waI L q ⟨#[44]⟩)).2:=by
   show (if q.b=true∨isI L q 0 en=true then _ else _)=_
   rw [if_neg hend]
  rw [hst] at k5
  clear hst hend
  have key:∀q1:RI,TI L q1→q.a≤q1.a∧(q1.b.toNat=0→q1.a≤L.length)→PI L f q1 (g q1).1 (g q1).2:=fun q1 h1 _=>hg q1 h1
  by_cases hl:l=[]
  ·rw [if_pos hl] at k5
   subst hl
   have hic:=hi q k1 (fun _=>k7)
   have hgd:=hg q k1
   obtain⟨⟨e,q2⟩,hq2⟩:∃x,g q=x:=⟨_,rfl⟩
   rw [hq2] at hic hgd k5
   dsimp only at hic hgd k5
   have hn:=hgd.n
   have hfe:=hgd.fine
   clear hgd key hi hg
   cases hfe with
   | mk k n s m hk hn0 hs hm =>
   obtain⟨a,b⟩:=q
   have hb:b=false:=hb
   subst hb
   have hb0:(false).toNat=0:=rfl
   dsimp only at hn hqa k6 k7 k3
   unfold dX at c1 hic ⊢
   dsimp only at c1 hic ⊢
   repeat' (first|(apply ay;first|(refine aK ?_ ?_<;>intro hG<;>(try cases hG))|refine ak ?_|refine ai ?_|refine bf ?_|refine aI ?_|refine aF 0 (c1) ?_|refine aF 0 (hic) ?_|refine cJ ?_|refine dz ?_|refine aX ?_|refine bI ?_|refine aB ?_|refine dT ?_|refine au ?_)|refine aj ?_|refine ab ?_|refine aa fun C=>?_|refine ac ?_|refine ah ?_|refine al ?_|refine aq rfl ?_|refine ar rfl ?_)
   refine⟨M,([xE k n s m],q2),omq,⟨fun h=>(hn.2.2.1 h).1,fun h=>?_,by dsimp only;omega,by simp at k4 ⊢;omega,k5⟩,?_⟩
   ·have h0:q2.b.toNat=0:=by rw [h];rfl
    have:=hn.2.2.1 h0
    dsimp only
    omega
   dsimp only
   refine (dU (i:=27) (j:=2600) rfl rfl rfl (pre:=[.v (.int .i64 k),.v (.int .i64 n),.v (.string s)]) (post:=[]) rfl).trans ?_
   (refine eL (fun j=>if j=9 then 27 else j) _ _ rfl rfl ?_ ?_<;>exact tdy3)
  ·rw [if_neg hl] at k5
   have hw:=oV L q ⟨#[44]⟩
   have cw:=fL hL (r:=q) omq ⟨#[44]⟩
   have hll:0<l.length:=List.length_pos_iff.2 hl
   obtain⟨q1,hq1⟩:∃x,waI L q ⟨#[44]⟩=x:=⟨_,rfl⟩
   rw [hq1] at cw hw k5
   have ht1:TI L q1:=fun h=>by have:=(hw.2 h).2;omega
   have hic:=hi q1 ht1 (fun _=>by omega)
   have hgd:=hg q1 ht1
   obtain⟨⟨e,q2⟩,hq2⟩:∃x,g q1=x:=⟨_,rfl⟩
   rw [hq2] at hic hgd k5
   dsimp only at hic hgd k5
   have hn:=hgd.n
   have hfe:=hgd.fine
   clear hgd key hi hg
   cases hfe with
   | mk k n s m hk hn0 hs hm =>
   obtain⟨a,b⟩:=q
   have hb:b=false:=hb
   subst hb
   have hb0:(false).toNat=0:=rfl
   obtain⟨a1,b1⟩:=q1
   dsimp only at hn hw hqa k6 k7 k3
   unfold dX at c1 cw hic ⊢
   dsimp only at c1 cw hic ⊢
   repeat' (first|(apply ay;first|(refine aK ?_ ?_<;>intro hG<;>(try cases hG))|refine ak ?_|refine bf ?_|refine aI ?_|refine aF 0 (c1) ?_|refine bI ?_|refine aB ?_|refine au ?_)|refine aj ?_|refine ab ?_|refine aa fun C=>?_|refine ac ?_)
   refine aq rfl ?_
   repeat' (first|(apply ay;first|refine ak ?_|refine cJ ?_|refine aX ?_)|refine aj ?_|refine ab ?_|refine aa fun C=>?_|refine ac ?_|refine ah ?_|refine al ?_)
   refine ae rqf (fun hC=>?_) fun hC=>by exfalso;simp only [dqn] at hC;omega
   repeat' (first|(apply ay;first|refine ak ?_|refine ai ?_|refine fD 0 [21] (cw) ?_ (hl:=bF rqf cA)|refine aF 0 (hic) ?_|refine dz ?_|refine dT ?_)|refine aj ?_|refine ab ?_|refine aa fun C=>?_)
   refine⟨M,(l++[xE k n s m],q2),omq,⟨fun h=>(hn.2.2.1 h).1,fun h=>?_,by dsimp only;omega,by simp at k4 ⊢;omega,k5⟩,?_⟩
   ·have h0:q2.b.toNat=0:=by rw [h];rfl
    have:=hn.2.2.1 h0
    dsimp only
    omega
   dsimp only
   rw [lla,List.length_singleton]
   refine (dU (i:=27) (j:=2600) rfl rfl rfl (pre:=owL l++[.v (.int .i64 k),.v (.int .i64 n),.v (.string s)]) (post:=[]) (by rw [List.append_assoc];rfl)).trans ?_
   (refine eL (fun j=>if j=9 then 27 else j) _ _ rfl rfl ?_ ?_<;>(repeat' (first|exact TmOk.nil|exact RwOk.nil|refine TmOk.cons ?_ ?_|refine RwOk.cons ?_ ?_|rfl|exact fH rfl rfl (tf _ _)|exact fH rfl rfl cA|exact fH rfl rfl (pX _ _)|exact fH rfl rfl eC|(refine rnV_id' rfl ?_;exact byc)|(refine cK ?_;first|rfl|omega|(rw [bB omq omq];omega))|(refine bg rfl ?_;exact byc)|exact dP rfl rfl|(refine rw_mid rqf rqf ?_ ?_<;>exact byc)|(refine rw_rn' rfl rfl ?_;simp;done))))
   exact fH (r:=⟨26,4,l.length+1,false,(owL l++[.v (.int .i64 k),.v (.int .i64 n),.v (.string s)])++[.ow 26 m.length 4 (owL m)]⟩) rfl (by rw [fG,List.append_assoc];rfl) (by first|rfl|(simp [oS,bu,clo,bk,aM,bl,a8,aZ];done))
theorem fY {p:Prop}(h:p:=by refine am ?_;refine dO rfl (bi (aO rfl (aO rfl (aO rfl (bE rfl rfl rfl cls0 aQ))))) rfl clsR rfl ⟨?_,?_⟩<;>rfl):p:=h
theorem aV {s t:ByteArray}(h:(s.toList==t.toList)=true):s=t:=by rw [nd,dqt] at h;exact h
theorem gA {s t:ByteArray}(h:(s.toList==t.toList)=false):s≠t:=by rw [nd,dqn] at h;exact h
theorem iG {L:List T3}(hL:L.length≤2000){f:Nat}(hf:f≤3000){g:RI→E×RI}(hg:GI L f g)(hi:HI L f g)(k:Int){r:RI}(hb:r.b=false)(hr:L.length+1≤r.a+(f+1))(ha:r.a<L.length) :
 Ctr prog 83 [.c (.pt 0 0),.c (.v (.int .i64 k))] [dX L r] (.ag (owE (lD L g k ByteArray.empty r).1)) [dX L (lD L g k ByteArray.empty r).2]:=by
 obtain⟨a,b⟩:=r
 have hb:b=false:=hb
 subst hb
 dsimp only at hr ha
 unfold lD
 have hu:RI.up ⟨a,false⟩=⟨a+1,false⟩:=rfl
 rw [hu]
 have hw:=oV L ⟨a+1,false⟩ ⟨#[40]⟩
 have c1:=fL hL (r:=⟨a+1,false⟩) (by dsimp only;omega) ⟨#[40]⟩
 obtain⟨q,hq⟩:∃q,waI L ⟨a+1,false⟩ ⟨#[40]⟩=q:=⟨_,rfl⟩
 rw [hq] at c1 hw ⊢
 dsimp only at hw
 have c2:=zvQ hL hf hg hi ⟨#[41]⟩ (r:=q) (fun h=>by have:=hw.2 h;omega) (fun _=>by omega) omq
 obtain⟨⟨l,q2⟩,hq2⟩:∃x,oU L g ⟨#[41]⟩ q=x:=⟨_,rfl⟩
 rw [hq2] at c2 ⊢
 dsimp only at c2 ⊢
 clear hw hq hq2 hg hi
 refine az func83 rfl rfl ?_
 unfold dX at *
 dsimp only at c1 c2 ⊢
 repeat' (first|(apply ay;first|refine ak ?_|refine bf ?_|refine aI ?_|refine fD 0 [13] (c1) ?_ (hl:=bF rqf cA)|refine aF 0 (c2) ?_|refine bh ?_|refine aw ?_|refine bJ ?_|refine dT ?_|refine au ?_)|refine aj ?_|refine ab ?_|refine aa fun C=>?_|refine ac ?_)
 exact fY
theorem p6 {L:List T3}(hL:L.length≤2000){f:Nat}(hf:f≤3000){g:RI→E×RI}(hg:GI L f g)(hi:HI L f g){r:RI}(hb:r.b=false)(hr:L.length+1≤r.a+(f+1))(ha:r.a<L.length)(ht:(tAt L r.a).2.2=⟨#[108,101,110,103,116,104]⟩) :
 Ctr prog 49 [.c (.pt 0 0)] [dX L r] (.ag (owE (cU L g ⟨#[108,101,110,103,116,104]⟩ r).1)) [dX L (cU L g ⟨#[108,101,110,103,116,104]⟩ r).2]:=by
 have c2:=iG hL hf hg hi 12 hb hr ha
 obtain⟨a,b⟩:=r
 have hb:b=false:=hb
 subst hb
 dsimp only at hr ha ht
 have c1:=iF hL (r:=⟨a,false⟩) (by dsimp only;omega) (j:=0) omq (z:=0) rfl
 rw [show (⟨a,false⟩:RI).a+0=a from rfl] at c1
 obtain⟨⟨tk,tn,ts⟩,htt⟩:∃t,tAt L a=t:=⟨_,rfl⟩
 rw [htt] at c1 ht
 dsimp only at c1 ht
 subst ht
 have e:cU L g ⟨#[108,101,110,103,116,104]⟩ ⟨a,false⟩=lD L g 12 ByteArray.empty ⟨a,false⟩:=by
  unfold cU
  rw [if_pos rfl]
 rw [e]
 have hex:∃l q2,lD L g 12 ByteArray.empty ⟨a,false⟩=(xE 12 0 ByteArray.empty l,q2):=⟨_,_,rfl⟩
 obtain⟨l,q2,hq2⟩:=hex
 rw [hq2] at c2 ⊢
 dsimp only at c2 ⊢
 clear e hq2 hg hi
 refine az func49 rfl rfl ?_
 unfold dX at *
 dsimp only at c1 c2 ⊢
 repeat' (first|(apply ay;first|refine ak ?_|refine ai ?_|refine aF 0 (c1) ?_|refine aC ?_|refine bJ ?_|refine au ?_)|refine aj ?_|refine ab ?_|refine aa fun C=>?_|refine ac ?_|refine ah ?_)
 refine ae rqf (fun hC=>?_) fun hC=>absurd rfl (gA hC)
 repeat' (first|(apply ay;first|refine ak ?_|refine aF 0 (c2) ?_|refine bh ?_)|refine aj ?_|refine ab ?_|refine aa fun C=>?_|refine ac ?_)
 exact fY
theorem p7 {L:List T3}(hL:L.length≤2000){f:Nat}(hf:f≤3000){g:RI→E×RI}(hg:GI L f g)(hi:HI L f g){r:RI}(hb:r.b=false)(hr:L.length+1≤r.a+(f+1))(ha:r.a<L.length)(ht:(tAt L r.a).2.2=⟨#[115,117,98,115,116,114]⟩) :
 Ctr prog 49 [.c (.pt 0 0)] [dX L r] (.ag (owE (cU L g ⟨#[115,117,98,115,116,114]⟩ r).1)) [dX L (cU L g ⟨#[115,117,98,115,116,114]⟩ r).2]:=by
 have c2:=iG hL hf hg hi 13 hb hr ha
 obtain⟨a,b⟩:=r
 have hb:b=false:=hb
 subst hb
 dsimp only at hr ha ht
 have c1:=iF hL (r:=⟨a,false⟩) (by dsimp only;omega) (j:=0) omq (z:=0) rfl
 rw [show (⟨a,false⟩:RI).a+0=a from rfl] at c1
 obtain⟨⟨tk,tn,ts⟩,htt⟩:∃t,tAt L a=t:=⟨_,rfl⟩
 rw [htt] at c1 ht
 dsimp only at c1 ht
 subst ht
 have e:cU L g ⟨#[115,117,98,115,116,114]⟩ ⟨a,false⟩=lD L g 13 ByteArray.empty ⟨a,false⟩:=by
  unfold cU
  rw [if_neg (show ¬(⟨#[115,117,98,115,116,114]⟩:ByteArray)=⟨#[108,101,110,103,116,104]⟩ by decide)];rw [if_pos rfl]
 rw [e]
 have hex:∃l q2,lD L g 13 ByteArray.empty ⟨a,false⟩=(xE 13 0 ByteArray.empty l,q2):=⟨_,_,rfl⟩
 obtain⟨l,q2,hq2⟩:=hex
 rw [hq2] at c2 ⊢
 dsimp only at c2 ⊢
 clear e hq2 hg hi
 refine az func49 rfl rfl ?_
 unfold dX at *
 dsimp only at c1 c2 ⊢
 repeat' (first|(apply ay;first|refine ak ?_|refine ai ?_|refine aF 0 (c1) ?_|refine aC ?_|refine bJ ?_|refine au ?_)|refine aj ?_|refine ab ?_|refine aa fun C=>?_|refine ac ?_|refine ah ?_)
 refine ae rqf (fun hC=>absurd (aV hC) (by decide)) fun hC=>?_
 repeat' (first|(apply ay;first|refine ai ?_|refine aC ?_)|refine aj ?_|refine ab ?_|refine aa fun C=>?_|refine ac ?_)
 refine ae rqf (fun hC=>?_) fun hC=>absurd rfl (gA hC)
 repeat' (first|(apply ay;first|refine ak ?_|refine aF 0 (c2) ?_|refine bh ?_)|refine aj ?_|refine ab ?_|refine aa fun C=>?_|refine ac ?_)
 exact fY
theorem rv {L:List T3}(hL:L.length≤2000){f:Nat}(hf:f≤3000){g:RI→E×RI}(hg:GI L f g)(hi:HI L f g){r:RI}(hb:r.b=false)(hr:L.length+1≤r.a+(f+1))(ha:r.a<L.length)(ht:(tAt L r.a).2.2=⟨#[105,110,100,101,120]⟩) :
 Ctr prog 49 [.c (.pt 0 0)] [dX L r] (.ag (owE (cU L g ⟨#[105,110,100,101,120]⟩ r).1)) [dX L (cU L g ⟨#[105,110,100,101,120]⟩ r).2]:=by
 have c2:=iG hL hf hg hi 16 hb hr ha
 obtain⟨a,b⟩:=r
 have hb:b=false:=hb
 subst hb
 dsimp only at hr ha ht
 have c1:=iF hL (r:=⟨a,false⟩) (by dsimp only;omega) (j:=0) omq (z:=0) rfl
 rw [show (⟨a,false⟩:RI).a+0=a from rfl] at c1
 obtain⟨⟨tk,tn,ts⟩,htt⟩:∃t,tAt L a=t:=⟨_,rfl⟩
 rw [htt] at c1 ht
 dsimp only at c1 ht
 subst ht
 have e:cU L g ⟨#[105,110,100,101,120]⟩ ⟨a,false⟩=lD L g 16 ByteArray.empty ⟨a,false⟩:=by
  unfold cU
  rw [if_neg (show ¬(⟨#[105,110,100,101,120]⟩:ByteArray)=⟨#[108,101,110,103,116,104]⟩ by decide)];rw [if_neg (show ¬(⟨#[105,110,100,101,120]⟩:ByteArray)=⟨#[115,117,98,115,116,114]⟩ by decide)];rw [if_pos rfl]
 rw [e]
 have hex:∃l q2,lD L g 16 ByteArray.empty ⟨a,false⟩=(xE 16 0 ByteArray.empty l,q2):=⟨_,_,rfl⟩
 obtain⟨l,q2,hq2⟩:=hex
 rw [hq2] at c2 ⊢
 dsimp only at c2 ⊢
 clear e hq2 hg hi
 refine az func49 rfl rfl ?_
 unfold dX at *
 dsimp only at c1 c2 ⊢
 repeat' (first|(apply ay;first|refine ak ?_|refine ai ?_|refine aF 0 (c1) ?_|refine aC ?_|refine bJ ?_|refine au ?_)|refine aj ?_|refine ab ?_|refine aa fun C=>?_|refine ac ?_|refine ah ?_)
 refine ae rqf (fun hC=>absurd (aV hC) (by decide)) fun hC=>?_
 repeat' (first|(apply ay;first|refine ai ?_|refine aC ?_)|refine aj ?_|refine ab ?_|refine aa fun C=>?_|refine ac ?_)
 refine ae rqf (fun hC=>absurd (aV hC) (by decide)) fun hC=>?_
 repeat' (first|(apply ay;first|refine ai ?_|refine aC ?_)|refine aj ?_|refine ab ?_|refine aa fun C=>?_|refine ac ?_)
 refine ae rqf (fun hC=>?_) fun hC=>absurd rfl (gA hC)
 repeat' (first|(apply ay;first|refine ak ?_|refine aF 0 (c2) ?_|refine bh ?_)|refine aj ?_|refine ab ?_|refine aa fun C=>?_|refine ac ?_)
 exact fY
theorem ry {L:List T3}(hL:L.length≤2000){f:Nat}(hf:f≤3000){g:RI→E×RI}(hg:GI L f g)(hi:HI L f g){r:RI}(hb:r.b=false)(hr:L.length+1≤r.a+(f+1))(ha:r.a<L.length)(ht:(tAt L r.a).2.2=⟨#[117,112,112,101,114]⟩) :
 Ctr prog 49 [.c (.pt 0 0)] [dX L r] (.ag (owE (cU L g ⟨#[117,112,112,101,114]⟩ r).1)) [dX L (cU L g ⟨#[117,112,112,101,114]⟩ r).2]:=by
 have c2:=iG hL hf hg hi 17 hb hr ha
 obtain⟨a,b⟩:=r
 have hb:b=false:=hb
 subst hb
 dsimp only at hr ha ht
 have c1:=iF hL (r:=⟨a,false⟩) (by dsimp only;omega) (j:=0) omq (z:=0) rfl
 rw [show (⟨a,false⟩:RI).a+0=a from rfl] at c1
 obtain⟨⟨tk,tn,ts⟩,htt⟩:∃t,tAt L a=t:=⟨_,rfl⟩
 rw [htt] at c1 ht
 dsimp only at c1 ht
 subst ht
 have e:cU L g ⟨#[117,112,112,101,114]⟩ ⟨a,false⟩=lD L g 17 ByteArray.empty ⟨a,false⟩:=by
  unfold cU
  rw [if_neg (show ¬(⟨#[117,112,112,101,114]⟩:ByteArray)=⟨#[108,101,110,103,116,104]⟩ by decide)];rw [if_neg (show ¬(⟨#[117,112,112,101,114]⟩:ByteArray)=⟨#[115,117,98,115,116,114]⟩ by decide)];rw [if_neg (show ¬(⟨#[117,112,112,101,114]⟩:ByteArray)=⟨#[105,110,100,101,120]⟩ by decide)];rw [if_pos rfl]
 rw [e]
 have hex:∃l q2,lD L g 17 ByteArray.empty ⟨a,false⟩=(xE 17 0 ByteArray.empty l,q2):=⟨_,_,rfl⟩
 obtain⟨l,q2,hq2⟩:=hex
 rw [hq2] at c2 ⊢
 dsimp only at c2 ⊢
 clear e hq2 hg hi
 refine az func49 rfl rfl ?_
 unfold dX at *
 dsimp only at c1 c2 ⊢
 repeat' (first|(apply ay;first|refine ak ?_|refine ai ?_|refine aF 0 (c1) ?_|refine aC ?_|refine bJ ?_|refine au ?_)|refine aj ?_|refine ab ?_|refine aa fun C=>?_|refine ac ?_|refine ah ?_)
 refine ae rqf (fun hC=>absurd (aV hC) (by decide)) fun hC=>?_
 repeat' (first|(apply ay;first|refine ai ?_|refine aC ?_)|refine aj ?_|refine ab ?_|refine aa fun C=>?_|refine ac ?_)
 refine ae rqf (fun hC=>absurd (aV hC) (by decide)) fun hC=>?_
 repeat' (first|(apply ay;first|refine ai ?_|refine aC ?_)|refine aj ?_|refine ab ?_|refine aa fun C=>?_|refine ac ?_)
 refine ae rqf (fun hC=>absurd (aV hC) (by decide)) fun hC=>?_
 repeat' (first|(apply ay;first|refine ai ?_|refine aC ?_)|refine aj ?_|refine ab ?_|refine aa fun C=>?_|refine ac ?_)
 refine ae rqf (fun hC=>?_) fun hC=>absurd rfl (gA hC)
 repeat' (first|(apply ay;first|refine ak ?_|refine aF 0 (c2) ?_|refine bh ?_)|refine aj ?_|refine ab ?_|refine aa fun C=>?_|refine ac ?_)
 exact fY
theorem zwQ {L:List T3}(hL:L.length≤2000){f:Nat}(hf:f≤3000){g:RI→E×RI}{r:RI}(hb:r.b=false)(hr:L.length+1≤r.a+(f+1))(ha:r.a<L.length)(ht:(tAt L r.a).2.2=⟨#[110,114]⟩) :
 Ctr prog 49 [.c (.pt 0 0)] [dX L r] (.ag (owE (cU L g ⟨#[110,114]⟩ r).1)) [dX L (cU L g ⟨#[110,114]⟩ r).2]:=by
 obtain⟨a,b⟩:=r
 have hb:b=false:=hb
 subst hb
 dsimp only at hr ha ht
 have c1:=iF hL (r:=⟨a,false⟩) (by dsimp only;omega) (j:=0) omq (z:=0) rfl
 rw [show (⟨a,false⟩:RI).a+0=a from rfl] at c1
 obtain⟨⟨tk,tn,ts⟩,htt⟩:∃t,tAt L a=t:=⟨_,rfl⟩
 rw [htt] at c1 ht
 dsimp only at c1 ht
 subst ht
 have e:cU L g ⟨#[110,114]⟩ ⟨a,false⟩=(xE 14 0 ByteArray.empty [],⟨a+1,false⟩):=by
  unfold cU
  rw [if_neg (show ¬(⟨#[110,114]⟩:ByteArray)=⟨#[108,101,110,103,116,104]⟩ by decide)];rw [if_neg (show ¬(⟨#[110,114]⟩:ByteArray)=⟨#[115,117,98,115,116,114]⟩ by decide)];rw [if_neg (show ¬(⟨#[110,114]⟩:ByteArray)=⟨#[105,110,100,101,120]⟩ by decide)];rw [if_neg (show ¬(⟨#[110,114]⟩:ByteArray)=⟨#[117,112,112,101,114]⟩ by decide)];rw [if_pos rfl];rfl
 rw [e]
 clear e
 refine az func49 rfl rfl ?_
 unfold dX at *
 dsimp only at c1 ⊢
 repeat' (first|(apply ay;first|refine ak ?_|refine ai ?_|refine aF 0 (c1) ?_|refine aC ?_|refine bJ ?_|refine au ?_)|refine aj ?_|refine ab ?_|refine aa fun C=>?_|refine ac ?_|refine ah ?_)
 refine ae rqf (fun hC=>absurd (aV hC) (by decide)) fun hC=>?_
 repeat' (first|(apply ay;first|refine ai ?_|refine aC ?_)|refine aj ?_|refine ab ?_|refine aa fun C=>?_|refine ac ?_)
 refine ae rqf (fun hC=>absurd (aV hC) (by decide)) fun hC=>?_
 repeat' (first|(apply ay;first|refine ai ?_|refine aC ?_)|refine aj ?_|refine ab ?_|refine aa fun C=>?_|refine ac ?_)
 refine ae rqf (fun hC=>absurd (aV hC) (by decide)) fun hC=>?_
 repeat' (first|(apply ay;first|refine ai ?_|refine aC ?_)|refine aj ?_|refine ab ?_|refine aa fun C=>?_|refine ac ?_)
 refine ae rqf (fun hC=>absurd (aV hC) (by decide)) fun hC=>?_
 repeat' (first|(apply ay;first|refine ai ?_|refine aC ?_)|refine aj ?_|refine ab ?_|refine aa fun C=>?_|refine ac ?_)
 refine ae rqf (fun hC=>?_) fun hC=>absurd rfl (gA hC)
 repeat' (first|(apply ay;first|refine ak ?_|refine bf ?_|refine aI ?_|refine bh ?_|refine aw ?_|refine au ?_)|refine aj ?_|refine ab ?_|refine aa fun C=>?_|refine ac ?_)
 refine bc (cR 90000 (i:=2) 26 4 rfl rfl (pre:=[_,_,_]) (post:=[]) rfl) ?_
 exact fY
theorem za1 {L:List T3}(hL:L.length≤2000){f:Nat}(hf:f≤3000){g:RI→E×RI}{r:RI}(hb:r.b=false)(hr:L.length+1≤r.a+(f+1))(ha:r.a<L.length)(ht:(tAt L r.a).2.2=⟨#[110,102]⟩) :
 Ctr prog 49 [.c (.pt 0 0)] [dX L r] (.ag (owE (cU L g ⟨#[110,102]⟩ r).1)) [dX L (cU L g ⟨#[110,102]⟩ r).2]:=by
 obtain⟨a,b⟩:=r
 have hb:b=false:=hb
 subst hb
 dsimp only at hr ha ht
 have c1:=iF hL (r:=⟨a,false⟩) (by dsimp only;omega) (j:=0) omq (z:=0) rfl
 rw [show (⟨a,false⟩:RI).a+0=a from rfl] at c1
 obtain⟨⟨tk,tn,ts⟩,htt⟩:∃t,tAt L a=t:=⟨_,rfl⟩
 rw [htt] at c1 ht
 dsimp only at c1 ht
 subst ht
 have e:cU L g ⟨#[110,102]⟩ ⟨a,false⟩=(xE 15 0 ByteArray.empty [],⟨a+1,false⟩):=by
  unfold cU
  rw [if_neg (show ¬(⟨#[110,102]⟩:ByteArray)=⟨#[108,101,110,103,116,104]⟩ by decide)];rw [if_neg (show ¬(⟨#[110,102]⟩:ByteArray)=⟨#[115,117,98,115,116,114]⟩ by decide)];rw [if_neg (show ¬(⟨#[110,102]⟩:ByteArray)=⟨#[105,110,100,101,120]⟩ by decide)];rw [if_neg (show ¬(⟨#[110,102]⟩:ByteArray)=⟨#[117,112,112,101,114]⟩ by decide)];rw [if_neg (show ¬(⟨#[110,102]⟩:ByteArray)=⟨#[110,114]⟩ by decide)];rw [if_pos rfl];rfl
 rw [e]
 clear e
 refine az func49 rfl rfl ?_
 unfold dX at *
 dsimp only at c1 ⊢
 repeat' (first|(apply ay;first|refine ak ?_|refine ai ?_|refine aF 0 (c1) ?_|refine aC ?_|refine bJ ?_|refine au ?_)|refine aj ?_|refine ab ?_|refine aa fun C=>?_|refine ac ?_|refine ah ?_)
 refine ae rqf (fun hC=>absurd (aV hC) (by decide)) fun hC=>?_
 repeat' (first|(apply ay;first|refine ai ?_|refine aC ?_)|refine aj ?_|refine ab ?_|refine aa fun C=>?_|refine ac ?_)
 refine ae rqf (fun hC=>absurd (aV hC) (by decide)) fun hC=>?_
 repeat' (first|(apply ay;first|refine ai ?_|refine aC ?_)|refine aj ?_|refine ab ?_|refine aa fun C=>?_|refine ac ?_)
 refine ae rqf (fun hC=>absurd (aV hC) (by decide)) fun hC=>?_
 repeat' (first|(apply ay;first|refine ai ?_|refine aC ?_)|refine aj ?_|refine ab ?_|refine aa fun C=>?_|refine ac ?_)
 refine ae rqf (fun hC=>absurd (aV hC) (by decide)) fun hC=>?_
 repeat' (first|(apply ay;first|refine ai ?_|refine aC ?_)|refine aj ?_|refine ab ?_|refine aa fun C=>?_|refine ac ?_)
 refine ae rqf (fun hC=>absurd (aV hC) (by decide)) fun hC=>?_
 repeat' (first|(apply ay;first|refine ai ?_|refine aC ?_)|refine aj ?_|refine ab ?_|refine aa fun C=>?_|refine ac ?_)
 refine ae rqf (fun hC=>?_) fun hC=>absurd rfl (gA hC)
 repeat' (first|(apply ay;first|refine ak ?_|refine bf ?_|refine aI ?_|refine bh ?_|refine aw ?_|refine au ?_)|refine aj ?_|refine ab ?_|refine aa fun C=>?_|refine ac ?_)
 refine bc (cR 90000 (i:=2) 26 4 rfl rfl (pre:=[_,_,_]) (post:=[]) rfl) ?_
 exact fY
theorem uN {L:List T3}(hL:L.length≤2000)(hok:okL L){f:Nat}(hf:f≤3000){g:RI→E×RI}(hg:GI L f g)(hi:HI L f g){r:RI}(hb:r.b=false)(hr:L.length+1≤r.a+(f+1))(ha:r.a<L.length)(ht:(tAt L r.a).2.2=⟨#[103,115,117,98]⟩) :
 Ctr prog 49 [.c (.pt 0 0)] [dX L r] (.ag (owE (cU L g ⟨#[103,115,117,98]⟩ r).1)) [dX L (cU L g ⟨#[103,115,117,98]⟩ r).2]:=by
 obtain⟨a,b⟩:=r
 have hb:b=false:=hb
 subst hb
 dsimp only at hr ha ht
 have c1:=iF hL (r:=⟨a,false⟩) (by dsimp only;omega) (j:=0) omq (z:=0) rfl
 rw [show (⟨a,false⟩:RI).a+0=a from rfl] at c1
 obtain⟨⟨tk,tn,ts⟩,htt⟩:∃t,tAt L a=t:=⟨_,rfl⟩
 rw [htt] at c1 ht
 dsimp only at c1 ht
 subst ht
 have e:cU L g ⟨#[103,115,117,98]⟩ ⟨a,false⟩=pS L g ⟨a+1,false⟩:=by
  unfold cU
  rw [if_neg (show ¬(⟨#[103,115,117,98]⟩:ByteArray)=⟨#[108,101,110,103,116,104]⟩ by decide)];rw [if_neg (show ¬(⟨#[103,115,117,98]⟩:ByteArray)=⟨#[115,117,98,115,116,114]⟩ by decide)];rw [if_neg (show ¬(⟨#[103,115,117,98]⟩:ByteArray)=⟨#[105,110,100,101,120]⟩ by decide)];rw [if_neg (show ¬(⟨#[103,115,117,98]⟩:ByteArray)=⟨#[117,112,112,101,114]⟩ by decide)];rw [if_neg (show ¬(⟨#[103,115,117,98]⟩:ByteArray)=⟨#[110,114]⟩ by decide)];rw [if_neg (show ¬(⟨#[103,115,117,98]⟩:ByteArray)=⟨#[110,102]⟩ by decide)];rw [if_pos rfl];rfl
 rw [e]
 clear e
 unfold pS
 dsimp only
 have w1:=oV L ⟨a+1,false⟩ ⟨#[40]⟩
 have k1:=fL hL (r:=⟨a+1,false⟩) (by dsimp only;omega) ⟨#[40]⟩
 generalize waI L ⟨a+1,false⟩ ⟨#[40]⟩=r1 at *
 dsimp only at w1
 have t1:TI L r1:=fun h=>by have:=w1.2 h;omega
 have g1:=hg r1 t1
 have k2:=hi r1 t1 (fun _=>by omega)
 have n1:=g1.n
 have f1:=g1.fine
 clear g1
 generalize g r1=x1 at *
 have w2:=oV L x1.2 ⟨#[126]⟩
 have k3:=fL hL (r:=x1.2) omq ⟨#[126]⟩
 generalize waI L x1.2 ⟨#[126]⟩=r2 at *
 have t3:=ta_f hok r2 (k:=4) (by decide)
 have k4:=oO hL (r:=r2) omq 4
 generalize taI L r2 4=x3 at *
 have w4:=oV L x3.2 ⟨#[44]⟩
 have k5:=fL hL (r:=x3.2) omq ⟨#[44]⟩
 generalize waI L x3.2 ⟨#[44]⟩=r4 at *
 have bb1:=ed r1.b;have bb2:=ed x1.2.b;have bb3:=ed r2.b;have bb4:=ed x3.2.b
 have t4:TI L r4:=fun h=>by have:=w4.2 h;omega
 have g5:=hg r4 t4
 have k6:=hi r4 t4 (fun _=>by omega)
 have n5:=g5.n
 have f5:=g5.fine
 clear g5 hg hi
 generalize g r4=x5 at *
 have k7:=fL hL (r:=x5.2) omq ⟨#[41]⟩
 generalize waI L x5.2 ⟨#[41]⟩=r6 at *
 obtain⟨y1,q1⟩:=x1
 obtain⟨⟨u1,u2,u3⟩,q3⟩:=x3
 obtain⟨y5,q5⟩:=x5
 dsimp only at *
 clear w1 t1 n1 w2 t3 w4 t4 n5 bb1 bb2 bb3 bb4
 cases f1 with
 | mk m1 m2 m3 m4 _ _ _ _ =>
 cases f5 with
 | mk h1 h2 h3 h4 _ _ _ _ =>
 refine az func49 rfl rfl ?_
 unfold dX at *
 dsimp only at c1 k1 k2 k3 k4 k5 k6 k7 ⊢
 repeat' (first|(apply ay;first|refine ak ?_|refine ai ?_|refine aF 0 (c1) ?_|refine aC ?_|refine bJ ?_|refine au ?_)|refine aj ?_|refine ab ?_|refine aa fun C=>?_|refine ac ?_|refine ah ?_)
 refine ae rqf (fun hC=>absurd (aV hC) (by decide)) fun hC=>?_
 repeat' (first|(apply ay;first|refine ai ?_|refine aC ?_)|refine aj ?_|refine ab ?_|refine aa fun C=>?_|refine ac ?_)
 refine ae rqf (fun hC=>absurd (aV hC) (by decide)) fun hC=>?_
 repeat' (first|(apply ay;first|refine ai ?_|refine aC ?_)|refine aj ?_|refine ab ?_|refine aa fun C=>?_|refine ac ?_)
 refine ae rqf (fun hC=>absurd (aV hC) (by decide)) fun hC=>?_
 repeat' (first|(apply ay;first|refine ai ?_|refine aC ?_)|refine aj ?_|refine ab ?_|refine aa fun C=>?_|refine ac ?_)
 refine ae rqf (fun hC=>absurd (aV hC) (by decide)) fun hC=>?_
 repeat' (first|(apply ay;first|refine ai ?_|refine aC ?_)|refine aj ?_|refine ab ?_|refine aa fun C=>?_|refine ac ?_)
 refine ae rqf (fun hC=>absurd (aV hC) (by decide)) fun hC=>?_
 repeat' (first|(apply ay;first|refine ai ?_|refine aC ?_)|refine aj ?_|refine ab ?_|refine aa fun C=>?_|refine ac ?_)
 refine ae rqf (fun hC=>absurd (aV hC) (by decide)) fun hC=>?_
 repeat' (first|(apply ay;first|refine ai ?_|refine aC ?_)|refine aj ?_|refine ab ?_|refine aa fun C=>?_|refine ac ?_)
 refine ae rqf (fun hC=>?_) fun hC=>absurd rfl (gA hC)
 repeat' (first|(apply ay;first|refine ak ?_|refine ai ?_|refine bf ?_|refine aI ?_|refine bM ?_|refine fD 0 [59] (k1) ?_ (hl:=bF rqf cA)|refine fD 0 [64] (k3) ?_ (hl:=bF rqf cA)|refine fD 0 [70] (k5) ?_ (hl:=bF rqf cA)|refine fD 0 [75] (k7) ?_ (hl:=bF rqf cA)|refine aF 0 (k4) ?_|refine aF 0 (k2) ?_|refine aF 0 (k6) ?_|refine bh ?_|refine aw ?_|refine bJ ?_|refine dT ?_|refine au ?_)|refine aj ?_|refine ab ?_|refine aa fun C=>?_|refine ac ?_)
 refine bc (dU (i:=80) (j:=6300) rfl rfl rfl (pre:=[_,_,_]) (post:=[_,_,_,_]) rfl) ?_
 refine bc (dU (i:=80) (j:=7400) rfl rfl rfl (pre:=[_,_,_,_,_,_,_]) (post:=[]) rfl) ?_
 exact fY
theorem uO {L:List T3}(hL:L.length≤2000){f:Nat}(hf:f≤3000){g:RI→E×RI}(hg:GI L f g)(hi:HI L f g){r:RI}(hb:r.b=false)(hr:L.length+1≤r.a+(f+1))(ha:r.a<L.length){ts:ByteArray}(ht:(tAt L r.a).2.2=ts)(h0:ts≠⟨#[108,101,110,103,116,104]⟩)(h1:ts≠⟨#[115,117,98,115,116,114]⟩)(h2:ts≠⟨#[105,110,100,101,120]⟩)(h3:ts≠⟨#[117,112,112,101,114]⟩)(h4:ts≠⟨#[110,114]⟩)(h5:ts≠⟨#[110,102]⟩)(h6:ts≠⟨#[103,115,117,98]⟩) :
 Ctr prog 49 [.c (.pt 0 0)] [dX L r] (.ag (owE (cU L g ts r).1)) [dX L (cU L g ts r).2]:=by
 have c2:=iG hL hf hg hi 11 hb hr ha
 obtain⟨a,b⟩:=r
 have hb:b=false:=hb
 subst hb
 dsimp only at hr ha ht
 have c1:=iF hL (r:=⟨a,false⟩) (by dsimp only;omega) (j:=0) omq (z:=0) rfl
 rw [show (⟨a,false⟩:RI).a+0=a from rfl] at c1
 obtain⟨⟨tk,tn,ts'⟩,htt⟩:∃t,tAt L a=t:=⟨_,rfl⟩
 rw [htt] at c1 ht
 dsimp only at c1 ht
 subst ht
 have c3:=pY hL (r:=⟨a,false⟩) (by dsimp only;omega) (j:=1) omq (z:=1) rfl ⟨#[40]⟩
 have c4:=pY hL (r:=⟨a+1,false⟩) (by dsimp only;omega) (j:=0) omq (z:=0) rfl ⟨#[91]⟩
 have e:cU L g ts' ⟨a,false⟩=if isI L ⟨a,false⟩ 1 ⟨#[40]⟩=true then lD L g 11 ts' ⟨a,false⟩ else if isI L ⟨a+1,false⟩ 0 ⟨#[91]⟩=true then (xE 4 0 ts' [(g ⟨a+2,false⟩).1],waI L (g ⟨a+2,false⟩).2 ⟨#[93]⟩) else (xE 3 0 ts' [],⟨a+1,false⟩):=by
  unfold cU
  rw [if_neg h0];rw [if_neg h1];rw [if_neg h2];rw [if_neg h3];rw [if_neg h4];rw [if_neg h5];rw [if_neg h6];rfl
 rw [e]
 clear e
 cases hi1:isI L ⟨a,false⟩ 1 ⟨#[40]⟩ with
 | true =>
  rw [if_pos rfl]
  rw [hi1] at c3
  have hex:∃l q2,lD L g 11 ByteArray.empty ⟨a,false⟩=(xE 11 0 ByteArray.empty l,q2)∧lD L g 11 ts' ⟨a,false⟩=(xE 11 0 ts' l,q2):=⟨_,_,rfl,rfl⟩
  obtain⟨l,q2,hq2,hq3⟩:=hex
  rw [hq2] at c2
  rw [hq3]
  dsimp only at c2 ⊢
  clear hq2 hq3 hg hi c4
  refine az func49 rfl rfl ?_
  unfold dX at *
  dsimp only at c1 c2 c3 ⊢
  repeat' (first|(apply ay;first|refine ak ?_|refine ai ?_|refine aF 0 (c1) ?_|refine aC ?_|refine bJ ?_|refine au ?_)|refine aj ?_|refine ab ?_|refine aa fun C=>?_|refine ac ?_|refine ah ?_)
  refine ae rqf (fun hC=>absurd (aV hC) h0) fun hC=>?_
  repeat' (first|(apply ay;first|refine ai ?_|refine aC ?_)|refine aj ?_|refine ab ?_|refine aa fun C=>?_|refine ac ?_)
  refine ae rqf (fun hC=>absurd (aV hC) h1) fun hC=>?_
  repeat' (first|(apply ay;first|refine ai ?_|refine aC ?_)|refine aj ?_|refine ab ?_|refine aa fun C=>?_|refine ac ?_)
  refine ae rqf (fun hC=>absurd (aV hC) h2) fun hC=>?_
  repeat' (first|(apply ay;first|refine ai ?_|refine aC ?_)|refine aj ?_|refine ab ?_|refine aa fun C=>?_|refine ac ?_)
  refine ae rqf (fun hC=>absurd (aV hC) h3) fun hC=>?_
  repeat' (first|(apply ay;first|refine ai ?_|refine aC ?_)|refine aj ?_|refine ab ?_|refine aa fun C=>?_|refine ac ?_)
  refine ae rqf (fun hC=>absurd (aV hC) h4) fun hC=>?_
  repeat' (first|(apply ay;first|refine ai ?_|refine aC ?_)|refine aj ?_|refine ab ?_|refine aa fun C=>?_|refine ac ?_)
  refine ae rqf (fun hC=>absurd (aV hC) h5) fun hC=>?_
  repeat' (first|(apply ay;first|refine ai ?_|refine aC ?_)|refine aj ?_|refine ab ?_|refine aa fun C=>?_|refine ac ?_)
  refine ae rqf (fun hC=>absurd (aV hC) h6) fun hC=>?_
  repeat' (first|(apply ay;first|refine ak ?_|refine aF 0 (c3) ?_)|refine aj ?_|refine ab ?_|refine aa fun C=>?_|refine ac ?_|refine al ?_)
  repeat' (first|(apply ay;first|refine ak ?_|refine bf ?_|refine bM ?_|refine aF 0 (c2) ?_|refine bh ?_|refine bJ ?_)|refine aj ?_|refine ab ?_|refine aa fun C=>?_|refine ac ?_|refine aq rfl ?_)
  exact fY
 | false =>
  rw [if_neg (by simp)]
  rw [hi1] at c3
  clear c2
  cases hi2:isI L ⟨a+1,false⟩ 0 ⟨#[91]⟩ with
  | true =>
   have hlt:=mK hi2
   dsimp only at hlt
   rw [if_pos rfl]
   rw [hi2] at c4
   have t1:TI L ⟨a+2,false⟩:=fun h=>by dsimp only;omega
   have g1:=hg ⟨a+2,false⟩ t1
   have k2:=hi ⟨a+2,false⟩ t1 (fun _=>by dsimp only;omega)
   have n1:=g1.n
   have f1:=g1.fine
   clear g1 hg hi
   generalize g ⟨a+2,false⟩=x1 at *
   dsimp only at n1
   have k7:=fL hL (r:=x1.2) omq ⟨#[93]⟩
   generalize waI L x1.2 ⟨#[93]⟩=r6 at *
   obtain⟨y1,q1⟩:=x1
   dsimp only at *
   clear n1
   cases f1 with
   | mk m1 m2 m3 m4 _ _ _ _ =>
   refine az func49 rfl rfl ?_
   unfold dX at *
   dsimp only at c1 c3 c4 k2 k7 ⊢
   repeat' (first|(apply ay;first|refine ak ?_|refine ai ?_|refine aF 0 (c1) ?_|refine aC ?_|refine bJ ?_|refine au ?_)|refine aj ?_|refine ab ?_|refine aa fun C=>?_|refine ac ?_|refine ah ?_)
   refine ae rqf (fun hC=>absurd (aV hC) h0) fun hC=>?_
   repeat' (first|(apply ay;first|refine ai ?_|refine aC ?_)|refine aj ?_|refine ab ?_|refine aa fun C=>?_|refine ac ?_)
   refine ae rqf (fun hC=>absurd (aV hC) h1) fun hC=>?_
   repeat' (first|(apply ay;first|refine ai ?_|refine aC ?_)|refine aj ?_|refine ab ?_|refine aa fun C=>?_|refine ac ?_)
   refine ae rqf (fun hC=>absurd (aV hC) h2) fun hC=>?_
   repeat' (first|(apply ay;first|refine ai ?_|refine aC ?_)|refine aj ?_|refine ab ?_|refine aa fun C=>?_|refine ac ?_)
   refine ae rqf (fun hC=>absurd (aV hC) h3) fun hC=>?_
   repeat' (first|(apply ay;first|refine ai ?_|refine aC ?_)|refine aj ?_|refine ab ?_|refine aa fun C=>?_|refine ac ?_)
   refine ae rqf (fun hC=>absurd (aV hC) h4) fun hC=>?_
   repeat' (first|(apply ay;first|refine ai ?_|refine aC ?_)|refine aj ?_|refine ab ?_|refine aa fun C=>?_|refine ac ?_)
   refine ae rqf (fun hC=>absurd (aV hC) h5) fun hC=>?_
   repeat' (first|(apply ay;first|refine ai ?_|refine aC ?_)|refine aj ?_|refine ab ?_|refine aa fun C=>?_|refine ac ?_)
   refine ae rqf (fun hC=>absurd (aV hC) h6) fun hC=>?_
   repeat' (first|(apply ay;first|refine ak ?_|refine aF 0 (c3) ?_)|refine aj ?_|refine ab ?_|refine aa fun C=>?_|refine ac ?_|refine al ?_)
   repeat' (first|(apply ay;first|refine ak ?_|refine bf ?_|refine aI ?_|refine bM ?_|refine aF 0 (c4) ?_|refine fD 0 [111] (k7) ?_ (hl:=bF rqf cA)|refine aF 0 (k2) ?_|refine bh ?_|refine aw ?_|refine bJ ?_|refine dT ?_|refine au ?_)|refine aj ?_|refine ab ?_|refine aa fun C=>?_|refine ac ?_|refine al ?_|refine aq rfl ?_|refine ar rfl ?_)
   refine bc (dU (i:=108) (j:=10800) rfl rfl rfl (pre:=[_,_,_]) (post:=[]) rfl) ?_
   exact fY
  | false =>
   rw [if_neg (by simp)]
   rw [hi2] at c4
   clear hg hi
   refine az func49 rfl rfl ?_
   unfold dX at *
   dsimp only at c1 c3 c4 ⊢
   repeat' (first|(apply ay;first|refine ak ?_|refine ai ?_|refine aF 0 (c1) ?_|refine aC ?_|refine bJ ?_|refine au ?_)|refine aj ?_|refine ab ?_|refine aa fun C=>?_|refine ac ?_|refine ah ?_)
   refine ae rqf (fun hC=>absurd (aV hC) h0) fun hC=>?_
   repeat' (first|(apply ay;first|refine ai ?_|refine aC ?_)|refine aj ?_|refine ab ?_|refine aa fun C=>?_|refine ac ?_)
   refine ae rqf (fun hC=>absurd (aV hC) h1) fun hC=>?_
   repeat' (first|(apply ay;first|refine ai ?_|refine aC ?_)|refine aj ?_|refine ab ?_|refine aa fun C=>?_|refine ac ?_)
   refine ae rqf (fun hC=>absurd (aV hC) h2) fun hC=>?_
   repeat' (first|(apply ay;first|refine ai ?_|refine aC ?_)|refine aj ?_|refine ab ?_|refine aa fun C=>?_|refine ac ?_)
   refine ae rqf (fun hC=>absurd (aV hC) h3) fun hC=>?_
   repeat' (first|(apply ay;first|refine ai ?_|refine aC ?_)|refine aj ?_|refine ab ?_|refine aa fun C=>?_|refine ac ?_)
   refine ae rqf (fun hC=>absurd (aV hC) h4) fun hC=>?_
   repeat' (first|(apply ay;first|refine ai ?_|refine aC ?_)|refine aj ?_|refine ab ?_|refine aa fun C=>?_|refine ac ?_)
   refine ae rqf (fun hC=>absurd (aV hC) h5) fun hC=>?_
   repeat' (first|(apply ay;first|refine ai ?_|refine aC ?_)|refine aj ?_|refine ab ?_|refine aa fun C=>?_|refine ac ?_)
   refine ae rqf (fun hC=>absurd (aV hC) h6) fun hC=>?_
   repeat' (first|(apply ay;first|refine ak ?_|refine aF 0 (c3) ?_)|refine aj ?_|refine ab ?_|refine aa fun C=>?_|refine ac ?_|refine al ?_)
   repeat' (first|(apply ay;first|refine ak ?_|refine bf ?_|refine aI ?_|refine aF 0 (c4) ?_|refine bh ?_|refine aw ?_|refine au ?_)|refine aj ?_|refine ab ?_|refine aa fun C=>?_|refine ac ?_|refine al ?_|refine ar rfl ?_)
   refine bc (cR 90000 (i:=2) 26 4 rfl rfl (pre:=[_,_,_]) (post:=[]) rfl) ?_
   exact fY
theorem zt6 {L:List T3}(hL:L.length≤2000)(hok:okL L){f:Nat}(hf:f≤3000){g:RI→E×RI}(hg:GI L f g)(hi:HI L f g){r:RI}(hb:r.b=false)(hr:L.length+1≤r.a+(f+1))(ha:r.a<L.length) :
 Ctr prog 49 [.c (.pt 0 0)] [dX L r] (.ag (owE (cU L g (tAt L r.a).2.2 r).1)) [dX L (cU L g (tAt L r.a).2.2 r).2]:=by
 have ht:(tAt L r.a).2.2=(tAt L r.a).2.2:=rfl
 generalize htt:(tAt L r.a).2.2=ts at ht
 clear ht
 by_cases h0:ts=⟨#[108,101,110,103,116,104]⟩
 ·subst h0;exact p6 hL hf hg hi hb hr ha htt
 by_cases h1:ts=⟨#[115,117,98,115,116,114]⟩
 ·subst h1;exact p7 hL hf hg hi hb hr ha htt
 by_cases h2:ts=⟨#[105,110,100,101,120]⟩
 ·subst h2;exact rv hL hf hg hi hb hr ha htt
 by_cases h3:ts=⟨#[117,112,112,101,114]⟩
 ·subst h3;exact ry hL hf hg hi hb hr ha htt
 by_cases h4:ts=⟨#[110,114]⟩
 ·subst h4;exact zwQ hL hf hb hr ha htt
 by_cases h5:ts=⟨#[110,102]⟩
 ·subst h5;exact za1 hL hf hb hr ha htt
 by_cases h6:ts=⟨#[103,115,117,98]⟩
 ·subst h6;exact uN hL hok hf hg hi hb hr ha htt
 exact uO hL hf hg hi hb hr ha htt h0 h1 h2 h3 h4 h5 h6
end Go.Proofs.YtomolhbkdhjofaaGreatDoor
