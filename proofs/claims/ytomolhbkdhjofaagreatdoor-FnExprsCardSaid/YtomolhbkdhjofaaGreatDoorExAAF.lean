/- T -/
import Derived.Test.YtomolhbkdhjofaaGreatDoorExAAE
set_option maxHeartbeats 0
set_option maxRecDepth 100000
namespace Go.Proofs.YtomolhbkdhjofaaGreatDoor
open Go.RowKit Go.Proofs.Tryz
theorem ly {p:Prop}(h:p:=by refine am ?_;refine dw rfl (aZ (aE rfl (aE rfl (aE rfl (ba rfl rfl rfl cls0 aL))))) rfl clsR rfl ⟨?_,?_⟩<;>rfl):p:=h
theorem bA {s t:ByteArray}(h:(s.toList==t.toList)=true):s=t:=by rw [ni,decide_eq_true_iff] at h;exact h
theorem jJ {s t:ByteArray}(h:(s.toList==t.toList)=false):s≠t:=by rw [ni,decide_eq_false_iff_not] at h;exact h
theorem gH {L:List T3}(hL:L.length≤2000){f:Nat}(hf:f≤3000){g:RI→E×RI}(hg:GI L f g)(hi:HI L f g)(k:Int){r:RI}(hb:r.b=false)(hr:L.length+1≤r.a+(f+1))(ha:r.a<L.length) :
 Ctr prog 83 [.c (.pt 0 0),.c (.v (.int .i64 k))] [di L r] (.ag (owE (j9 L g k ByteArray.empty r).1)) [di L (j9 L g k ByteArray.empty r).2]:=by
 obtain⟨a,b⟩:=r
 have hb:b=false:=hb
 subst hb
 dsimp only at hr ha
 unfold j9
 have hu:RI.up ⟨a,false⟩=⟨a+1,false⟩:=rfl
 rw [hu]
 have hw:=nz L ⟨a+1,false⟩ ⟨#[40]⟩
 have c1:=eB hL (r:=⟨a+1,false⟩) (by dsimp only;omega) ⟨#[40]⟩
 obtain⟨q,hq⟩:∃q,waI L ⟨a+1,false⟩ ⟨#[40]⟩=q:=⟨_,rfl⟩
 rw [hq] at c1 hw ⊢
 dsimp only at hw
 have c2:=yK hL hf hg hi ⟨#[41]⟩ (r:=q) (fun h=>by have:=hw.2 h;omega) (fun _=>by omega) omq
 obtain⟨⟨l,q2⟩,hq2⟩:∃x,ny L g ⟨#[41]⟩ q=x:=⟨_,rfl⟩
 rw [hq2] at c2 ⊢
 dsimp only at c2 ⊢
 clear hw hq hq2 hg hi
 refine av func83 rfl rfl ?_
 unfold di at *
 dsimp only at c1 c2 ⊢
 repeat' (first|(apply ay;first|refine al ?_|refine bj ?_|refine aI ?_|refine d8 0 [13] (c1) ?_ (hl:=bz (by rfl) bW)|refine aK 0 (c2) ?_|refine bC ?_|refine aw ?_|refine bZ ?_|refine dX ?_|refine az ?_)|refine ak ?_|refine ab ?_|refine aa fun C=>?_|refine ac ?_)
 exact ly
theorem oO {L:List T3}(hL:L.length≤2000){f:Nat}(hf:f≤3000){g:RI→E×RI}(hg:GI L f g)(hi:HI L f g){r:RI}(hb:r.b=false)(hr:L.length+1≤r.a+(f+1))(ha:r.a<L.length)(ht:(tAt L r.a).2.2=⟨#[108,101,110,103,116,104]⟩) :
 Ctr prog 49 [.c (.pt 0 0)] [di L r] (.ag (owE (cu L g ⟨#[108,101,110,103,116,104]⟩ r).1)) [di L (cu L g ⟨#[108,101,110,103,116,104]⟩ r).2]:=by
 have c2:=gH hL hf hg hi 12 hb hr ha
 obtain⟨a,b⟩:=r
 have hb:b=false:=hb
 subst hb
 dsimp only at hr ha ht
 have c1:=gG hL (r:=⟨a,false⟩) (by dsimp only;omega) (j:=0) omq (z:=0) rfl
 rw [show (⟨a,false⟩:RI).a+0=a from rfl] at c1
 obtain⟨⟨tk,tn,ts⟩,htt⟩:∃t,tAt L a=t:=⟨_,rfl⟩
 rw [htt] at c1 ht
 dsimp only at c1 ht
 subst ht
 have e:cu L g ⟨#[108,101,110,103,116,104]⟩ ⟨a,false⟩=j9 L g 12 ByteArray.empty ⟨a,false⟩:=by
  unfold cu
  rw [if_pos rfl]
 rw [e]
 have hex:∃l q2,j9 L g 12 ByteArray.empty ⟨a,false⟩=(xE 12 0 ByteArray.empty l,q2):=⟨_,_,rfl⟩
 obtain⟨l,q2,hq2⟩:=hex
 rw [hq2] at c2 ⊢
 dsimp only at c2 ⊢
 clear e hq2 hg hi
 refine av func49 rfl rfl ?_
 unfold di at *
 dsimp only at c1 c2 ⊢
 repeat' (first|(apply ay;first|refine al ?_|refine ai ?_|refine aK 0 (c1) ?_|refine aQ ?_|refine bZ ?_|refine az ?_)|refine ak ?_|refine ab ?_|refine aa fun C=>?_|refine ac ?_|refine ah ?_)
 refine ae (by rfl) (fun hC=>?_) fun hC=>absurd rfl (jJ hC)
 repeat' (first|(apply ay;first|refine al ?_|refine aK 0 (c2) ?_|refine bC ?_)|refine ak ?_|refine ab ?_|refine aa fun C=>?_|refine ac ?_)
 exact ly
theorem oP {L:List T3}(hL:L.length≤2000){f:Nat}(hf:f≤3000){g:RI→E×RI}(hg:GI L f g)(hi:HI L f g){r:RI}(hb:r.b=false)(hr:L.length+1≤r.a+(f+1))(ha:r.a<L.length)(ht:(tAt L r.a).2.2=⟨#[115,117,98,115,116,114]⟩) :
 Ctr prog 49 [.c (.pt 0 0)] [di L r] (.ag (owE (cu L g ⟨#[115,117,98,115,116,114]⟩ r).1)) [di L (cu L g ⟨#[115,117,98,115,116,114]⟩ r).2]:=by
 have c2:=gH hL hf hg hi 13 hb hr ha
 obtain⟨a,b⟩:=r
 have hb:b=false:=hb
 subst hb
 dsimp only at hr ha ht
 have c1:=gG hL (r:=⟨a,false⟩) (by dsimp only;omega) (j:=0) omq (z:=0) rfl
 rw [show (⟨a,false⟩:RI).a+0=a from rfl] at c1
 obtain⟨⟨tk,tn,ts⟩,htt⟩:∃t,tAt L a=t:=⟨_,rfl⟩
 rw [htt] at c1 ht
 dsimp only at c1 ht
 subst ht
 have e:cu L g ⟨#[115,117,98,115,116,114]⟩ ⟨a,false⟩=j9 L g 13 ByteArray.empty ⟨a,false⟩:=by
  unfold cu
  rw [if_neg (show ¬(⟨#[115,117,98,115,116,114]⟩:ByteArray)=⟨#[108,101,110,103,116,104]⟩ by decide)];rw [if_pos rfl]
 rw [e]
 have hex:∃l q2,j9 L g 13 ByteArray.empty ⟨a,false⟩=(xE 13 0 ByteArray.empty l,q2):=⟨_,_,rfl⟩
 obtain⟨l,q2,hq2⟩:=hex
 rw [hq2] at c2 ⊢
 dsimp only at c2 ⊢
 clear e hq2 hg hi
 refine av func49 rfl rfl ?_
 unfold di at *
 dsimp only at c1 c2 ⊢
 repeat' (first|(apply ay;first|refine al ?_|refine ai ?_|refine aK 0 (c1) ?_|refine aQ ?_|refine bZ ?_|refine az ?_)|refine ak ?_|refine ab ?_|refine aa fun C=>?_|refine ac ?_|refine ah ?_)
 refine ae (by rfl) (fun hC=>absurd (bA hC) (by decide)) fun hC=>?_
 repeat' (first|(apply ay;first|refine ai ?_|refine aQ ?_)|refine ak ?_|refine ab ?_|refine aa fun C=>?_|refine ac ?_)
 refine ae (by rfl) (fun hC=>?_) fun hC=>absurd rfl (jJ hC)
 repeat' (first|(apply ay;first|refine al ?_|refine aK 0 (c2) ?_|refine bC ?_)|refine ak ?_|refine ab ?_|refine aa fun C=>?_|refine ac ?_)
 exact ly
theorem p8 {L:List T3}(hL:L.length≤2000){f:Nat}(hf:f≤3000){g:RI→E×RI}(hg:GI L f g)(hi:HI L f g){r:RI}(hb:r.b=false)(hr:L.length+1≤r.a+(f+1))(ha:r.a<L.length)(ht:(tAt L r.a).2.2=⟨#[105,110,100,101,120]⟩) :
 Ctr prog 49 [.c (.pt 0 0)] [di L r] (.ag (owE (cu L g ⟨#[105,110,100,101,120]⟩ r).1)) [di L (cu L g ⟨#[105,110,100,101,120]⟩ r).2]:=by
 have c2:=gH hL hf hg hi 16 hb hr ha
 obtain⟨a,b⟩:=r
 have hb:b=false:=hb
 subst hb
 dsimp only at hr ha ht
 have c1:=gG hL (r:=⟨a,false⟩) (by dsimp only;omega) (j:=0) omq (z:=0) rfl
 rw [show (⟨a,false⟩:RI).a+0=a from rfl] at c1
 obtain⟨⟨tk,tn,ts⟩,htt⟩:∃t,tAt L a=t:=⟨_,rfl⟩
 rw [htt] at c1 ht
 dsimp only at c1 ht
 subst ht
 have e:cu L g ⟨#[105,110,100,101,120]⟩ ⟨a,false⟩=j9 L g 16 ByteArray.empty ⟨a,false⟩:=by
  unfold cu
  rw [if_neg (show ¬(⟨#[105,110,100,101,120]⟩:ByteArray)=⟨#[108,101,110,103,116,104]⟩ by decide)];rw [if_neg (show ¬(⟨#[105,110,100,101,120]⟩:ByteArray)=⟨#[115,117,98,115,116,114]⟩ by decide)];rw [if_pos rfl]
 rw [e]
 have hex:∃l q2,j9 L g 16 ByteArray.empty ⟨a,false⟩=(xE 16 0 ByteArray.empty l,q2):=⟨_,_,rfl⟩
 obtain⟨l,q2,hq2⟩:=hex
 rw [hq2] at c2 ⊢
 dsimp only at c2 ⊢
 clear e hq2 hg hi
 refine av func49 rfl rfl ?_
 unfold di at *
 dsimp only at c1 c2 ⊢
 repeat' (first|(apply ay;first|refine al ?_|refine ai ?_|refine aK 0 (c1) ?_|refine aQ ?_|refine bZ ?_|refine az ?_)|refine ak ?_|refine ab ?_|refine aa fun C=>?_|refine ac ?_|refine ah ?_)
 refine ae (by rfl) (fun hC=>absurd (bA hC) (by decide)) fun hC=>?_
 repeat' (first|(apply ay;first|refine ai ?_|refine aQ ?_)|refine ak ?_|refine ab ?_|refine aa fun C=>?_|refine ac ?_)
 refine ae (by rfl) (fun hC=>absurd (bA hC) (by decide)) fun hC=>?_
 repeat' (first|(apply ay;first|refine ai ?_|refine aQ ?_)|refine ak ?_|refine ab ?_|refine aa fun C=>?_|refine ac ?_)
 refine ae (by rfl) (fun hC=>?_) fun hC=>absurd rfl (jJ hC)
 repeat' (first|(apply ay;first|refine al ?_|refine aK 0 (c2) ?_|refine bC ?_)|refine ak ?_|refine ab ?_|refine aa fun C=>?_|refine ac ?_)
 exact ly
theorem p9 {L:List T3}(hL:L.length≤2000){f:Nat}(hf:f≤3000){g:RI→E×RI}(hg:GI L f g)(hi:HI L f g){r:RI}(hb:r.b=false)(hr:L.length+1≤r.a+(f+1))(ha:r.a<L.length)(ht:(tAt L r.a).2.2=⟨#[117,112,112,101,114]⟩) :
 Ctr prog 49 [.c (.pt 0 0)] [di L r] (.ag (owE (cu L g ⟨#[117,112,112,101,114]⟩ r).1)) [di L (cu L g ⟨#[117,112,112,101,114]⟩ r).2]:=by
 have c2:=gH hL hf hg hi 17 hb hr ha
 obtain⟨a,b⟩:=r
 have hb:b=false:=hb
 subst hb
 dsimp only at hr ha ht
 have c1:=gG hL (r:=⟨a,false⟩) (by dsimp only;omega) (j:=0) omq (z:=0) rfl
 rw [show (⟨a,false⟩:RI).a+0=a from rfl] at c1
 obtain⟨⟨tk,tn,ts⟩,htt⟩:∃t,tAt L a=t:=⟨_,rfl⟩
 rw [htt] at c1 ht
 dsimp only at c1 ht
 subst ht
 have e:cu L g ⟨#[117,112,112,101,114]⟩ ⟨a,false⟩=j9 L g 17 ByteArray.empty ⟨a,false⟩:=by
  unfold cu
  rw [if_neg (show ¬(⟨#[117,112,112,101,114]⟩:ByteArray)=⟨#[108,101,110,103,116,104]⟩ by decide)];rw [if_neg (show ¬(⟨#[117,112,112,101,114]⟩:ByteArray)=⟨#[115,117,98,115,116,114]⟩ by decide)];rw [if_neg (show ¬(⟨#[117,112,112,101,114]⟩:ByteArray)=⟨#[105,110,100,101,120]⟩ by decide)];rw [if_pos rfl]
 rw [e]
 have hex:∃l q2,j9 L g 17 ByteArray.empty ⟨a,false⟩=(xE 17 0 ByteArray.empty l,q2):=⟨_,_,rfl⟩
 obtain⟨l,q2,hq2⟩:=hex
 rw [hq2] at c2 ⊢
 dsimp only at c2 ⊢
 clear e hq2 hg hi
 refine av func49 rfl rfl ?_
 unfold di at *
 dsimp only at c1 c2 ⊢
 repeat' (first|(apply ay;first|refine al ?_|refine ai ?_|refine aK 0 (c1) ?_|refine aQ ?_|refine bZ ?_|refine az ?_)|refine ak ?_|refine ab ?_|refine aa fun C=>?_|refine ac ?_|refine ah ?_)
 refine ae (by rfl) (fun hC=>absurd (bA hC) (by decide)) fun hC=>?_
 repeat' (first|(apply ay;first|refine ai ?_|refine aQ ?_)|refine ak ?_|refine ab ?_|refine aa fun C=>?_|refine ac ?_)
 refine ae (by rfl) (fun hC=>absurd (bA hC) (by decide)) fun hC=>?_
 repeat' (first|(apply ay;first|refine ai ?_|refine aQ ?_)|refine ak ?_|refine ab ?_|refine aa fun C=>?_|refine ac ?_)
 refine ae (by rfl) (fun hC=>absurd (bA hC) (by decide)) fun hC=>?_
 repeat' (first|(apply ay;first|refine ai ?_|refine aQ ?_)|refine ak ?_|refine ab ?_|refine aa fun C=>?_|refine ac ?_)
 refine ae (by rfl) (fun hC=>?_) fun hC=>absurd rfl (jJ hC)
 repeat' (first|(apply ay;first|refine al ?_|refine aK 0 (c2) ?_|refine bC ?_)|refine ak ?_|refine ab ?_|refine aa fun C=>?_|refine ac ?_)
 exact ly
theorem yL {L:List T3}(hL:L.length≤2000){f:Nat}(hf:f≤3000){g:RI→E×RI}{r:RI}(hb:r.b=false)(hr:L.length+1≤r.a+(f+1))(ha:r.a<L.length)(ht:(tAt L r.a).2.2=⟨#[110,114]⟩) :
 Ctr prog 49 [.c (.pt 0 0)] [di L r] (.ag (owE (cu L g ⟨#[110,114]⟩ r).1)) [di L (cu L g ⟨#[110,114]⟩ r).2]:=by
 obtain⟨a,b⟩:=r
 have hb:b=false:=hb
 subst hb
 dsimp only at hr ha ht
 have c1:=gG hL (r:=⟨a,false⟩) (by dsimp only;omega) (j:=0) omq (z:=0) rfl
 rw [show (⟨a,false⟩:RI).a+0=a from rfl] at c1
 obtain⟨⟨tk,tn,ts⟩,htt⟩:∃t,tAt L a=t:=⟨_,rfl⟩
 rw [htt] at c1 ht
 dsimp only at c1 ht
 subst ht
 have e:cu L g ⟨#[110,114]⟩ ⟨a,false⟩=(xE 14 0 ByteArray.empty [],⟨a+1,false⟩):=by
  unfold cu
  rw [if_neg (show ¬(⟨#[110,114]⟩:ByteArray)=⟨#[108,101,110,103,116,104]⟩ by decide)];rw [if_neg (show ¬(⟨#[110,114]⟩:ByteArray)=⟨#[115,117,98,115,116,114]⟩ by decide)];rw [if_neg (show ¬(⟨#[110,114]⟩:ByteArray)=⟨#[105,110,100,101,120]⟩ by decide)];rw [if_neg (show ¬(⟨#[110,114]⟩:ByteArray)=⟨#[117,112,112,101,114]⟩ by decide)];rw [if_pos rfl];rfl
 rw [e]
 clear e
 refine av func49 rfl rfl ?_
 unfold di at *
 dsimp only at c1 ⊢
 repeat' (first|(apply ay;first|refine al ?_|refine ai ?_|refine aK 0 (c1) ?_|refine aQ ?_|refine bZ ?_|refine az ?_)|refine ak ?_|refine ab ?_|refine aa fun C=>?_|refine ac ?_|refine ah ?_)
 refine ae (by rfl) (fun hC=>absurd (bA hC) (by decide)) fun hC=>?_
 repeat' (first|(apply ay;first|refine ai ?_|refine aQ ?_)|refine ak ?_|refine ab ?_|refine aa fun C=>?_|refine ac ?_)
 refine ae (by rfl) (fun hC=>absurd (bA hC) (by decide)) fun hC=>?_
 repeat' (first|(apply ay;first|refine ai ?_|refine aQ ?_)|refine ak ?_|refine ab ?_|refine aa fun C=>?_|refine ac ?_)
 refine ae (by rfl) (fun hC=>absurd (bA hC) (by decide)) fun hC=>?_
 repeat' (first|(apply ay;first|refine ai ?_|refine aQ ?_)|refine ak ?_|refine ab ?_|refine aa fun C=>?_|refine ac ?_)
 refine ae (by rfl) (fun hC=>absurd (bA hC) (by decide)) fun hC=>?_
 repeat' (first|(apply ay;first|refine ai ?_|refine aQ ?_)|refine ak ?_|refine ab ?_|refine aa fun C=>?_|refine ac ?_)
 refine ae (by rfl) (fun hC=>?_) fun hC=>absurd rfl (jJ hC)
 repeat' (first|(apply ay;first|refine al ?_|refine bj ?_|refine aI ?_|refine bC ?_|refine aw ?_|refine az ?_)|refine ak ?_|refine ab ?_|refine aa fun C=>?_|refine ac ?_)
 refine bk (cP 90000 (i:=2) 26 4 rfl rfl (pre:=[_,_,_]) (post:=[]) rfl) ?_
 exact ly
theorem yM {L:List T3}(hL:L.length≤2000){f:Nat}(hf:f≤3000){g:RI→E×RI}{r:RI}(hb:r.b=false)(hr:L.length+1≤r.a+(f+1))(ha:r.a<L.length)(ht:(tAt L r.a).2.2=⟨#[110,102]⟩) :
 Ctr prog 49 [.c (.pt 0 0)] [di L r] (.ag (owE (cu L g ⟨#[110,102]⟩ r).1)) [di L (cu L g ⟨#[110,102]⟩ r).2]:=by
 obtain⟨a,b⟩:=r
 have hb:b=false:=hb
 subst hb
 dsimp only at hr ha ht
 have c1:=gG hL (r:=⟨a,false⟩) (by dsimp only;omega) (j:=0) omq (z:=0) rfl
 rw [show (⟨a,false⟩:RI).a+0=a from rfl] at c1
 obtain⟨⟨tk,tn,ts⟩,htt⟩:∃t,tAt L a=t:=⟨_,rfl⟩
 rw [htt] at c1 ht
 dsimp only at c1 ht
 subst ht
 have e:cu L g ⟨#[110,102]⟩ ⟨a,false⟩=(xE 15 0 ByteArray.empty [],⟨a+1,false⟩):=by
  unfold cu
  rw [if_neg (show ¬(⟨#[110,102]⟩:ByteArray)=⟨#[108,101,110,103,116,104]⟩ by decide)];rw [if_neg (show ¬(⟨#[110,102]⟩:ByteArray)=⟨#[115,117,98,115,116,114]⟩ by decide)];rw [if_neg (show ¬(⟨#[110,102]⟩:ByteArray)=⟨#[105,110,100,101,120]⟩ by decide)];rw [if_neg (show ¬(⟨#[110,102]⟩:ByteArray)=⟨#[117,112,112,101,114]⟩ by decide)];rw [if_neg (show ¬(⟨#[110,102]⟩:ByteArray)=⟨#[110,114]⟩ by decide)];rw [if_pos rfl];rfl
 rw [e]
 clear e
 refine av func49 rfl rfl ?_
 unfold di at *
 dsimp only at c1 ⊢
 repeat' (first|(apply ay;first|refine al ?_|refine ai ?_|refine aK 0 (c1) ?_|refine aQ ?_|refine bZ ?_|refine az ?_)|refine ak ?_|refine ab ?_|refine aa fun C=>?_|refine ac ?_|refine ah ?_)
 refine ae (by rfl) (fun hC=>absurd (bA hC) (by decide)) fun hC=>?_
 repeat' (first|(apply ay;first|refine ai ?_|refine aQ ?_)|refine ak ?_|refine ab ?_|refine aa fun C=>?_|refine ac ?_)
 refine ae (by rfl) (fun hC=>absurd (bA hC) (by decide)) fun hC=>?_
 repeat' (first|(apply ay;first|refine ai ?_|refine aQ ?_)|refine ak ?_|refine ab ?_|refine aa fun C=>?_|refine ac ?_)
 refine ae (by rfl) (fun hC=>absurd (bA hC) (by decide)) fun hC=>?_
 repeat' (first|(apply ay;first|refine ai ?_|refine aQ ?_)|refine ak ?_|refine ab ?_|refine aa fun C=>?_|refine ac ?_)
 refine ae (by rfl) (fun hC=>absurd (bA hC) (by decide)) fun hC=>?_
 repeat' (first|(apply ay;first|refine ai ?_|refine aQ ?_)|refine ak ?_|refine ab ?_|refine aa fun C=>?_|refine ac ?_)
 refine ae (by rfl) (fun hC=>absurd (bA hC) (by decide)) fun hC=>?_
 repeat' (first|(apply ay;first|refine ai ?_|refine aQ ?_)|refine ak ?_|refine ab ?_|refine aa fun C=>?_|refine ac ?_)
 refine ae (by rfl) (fun hC=>?_) fun hC=>absurd rfl (jJ hC)
 repeat' (first|(apply ay;first|refine al ?_|refine bj ?_|refine aI ?_|refine bC ?_|refine aw ?_|refine az ?_)|refine ak ?_|refine ab ?_|refine aa fun C=>?_|refine ac ?_)
 refine bk (cP 90000 (i:=2) 26 4 rfl rfl (pre:=[_,_,_]) (post:=[]) rfl) ?_
 exact ly
theorem sM {L:List T3}(hL:L.length≤2000)(hok:okL L){f:Nat}(hf:f≤3000){g:RI→E×RI}(hg:GI L f g)(hi:HI L f g){r:RI}(hb:r.b=false)(hr:L.length+1≤r.a+(f+1))(ha:r.a<L.length)(ht:(tAt L r.a).2.2=⟨#[103,115,117,98]⟩) :
 Ctr prog 49 [.c (.pt 0 0)] [di L r] (.ag (owE (cu L g ⟨#[103,115,117,98]⟩ r).1)) [di L (cu L g ⟨#[103,115,117,98]⟩ r).2]:=by
 obtain⟨a,b⟩:=r
 have hb:b=false:=hb
 subst hb
 dsimp only at hr ha ht
 have c1:=gG hL (r:=⟨a,false⟩) (by dsimp only;omega) (j:=0) omq (z:=0) rfl
 rw [show (⟨a,false⟩:RI).a+0=a from rfl] at c1
 obtain⟨⟨tk,tn,ts⟩,htt⟩:∃t,tAt L a=t:=⟨_,rfl⟩
 rw [htt] at c1 ht
 dsimp only at c1 ht
 subst ht
 have e:cu L g ⟨#[103,115,117,98]⟩ ⟨a,false⟩=oI L g ⟨a+1,false⟩:=by
  unfold cu
  rw [if_neg (show ¬(⟨#[103,115,117,98]⟩:ByteArray)=⟨#[108,101,110,103,116,104]⟩ by decide)];rw [if_neg (show ¬(⟨#[103,115,117,98]⟩:ByteArray)=⟨#[115,117,98,115,116,114]⟩ by decide)];rw [if_neg (show ¬(⟨#[103,115,117,98]⟩:ByteArray)=⟨#[105,110,100,101,120]⟩ by decide)];rw [if_neg (show ¬(⟨#[103,115,117,98]⟩:ByteArray)=⟨#[117,112,112,101,114]⟩ by decide)];rw [if_neg (show ¬(⟨#[103,115,117,98]⟩:ByteArray)=⟨#[110,114]⟩ by decide)];rw [if_neg (show ¬(⟨#[103,115,117,98]⟩:ByteArray)=⟨#[110,102]⟩ by decide)];rw [if_pos rfl];rfl
 rw [e]
 clear e
 unfold oI
 dsimp only
 have w1:=nz L ⟨a+1,false⟩ ⟨#[40]⟩
 have k1:=eB hL (r:=⟨a+1,false⟩) (by dsimp only;omega) ⟨#[40]⟩
 generalize waI L ⟨a+1,false⟩ ⟨#[40]⟩=r1 at *
 dsimp only at w1
 have t1:TI L r1:=fun h=>by have:=w1.2 h;omega
 have g1:=hg r1 t1
 have k2:=hi r1 t1 (fun _=>by omega)
 have n1:=g1.n
 have f1:=g1.fine
 clear g1
 generalize g r1=x1 at *
 have w2:=nz L x1.2 ⟨#[126]⟩
 have k3:=eB hL (r:=x1.2) omq ⟨#[126]⟩
 generalize waI L x1.2 ⟨#[126]⟩=r2 at *
 have t3:=zR hok r2 (k:=4) (by decide)
 have k4:=nj hL (r:=r2) omq 4
 generalize taI L r2 4=x3 at *
 have w4:=nz L x3.2 ⟨#[44]⟩
 have k5:=eB hL (r:=x3.2) omq ⟨#[44]⟩
 generalize waI L x3.2 ⟨#[44]⟩=r4 at *
 have bb1:=gF r1.b;have bb2:=gF x1.2.b;have bb3:=gF r2.b;have bb4:=gF x3.2.b
 have t4:TI L r4:=fun h=>by have:=w4.2 h;omega
 have g5:=hg r4 t4
 have k6:=hi r4 t4 (fun _=>by omega)
 have n5:=g5.n
 have f5:=g5.fine
 clear g5 hg hi
 generalize g r4=x5 at *
 have k7:=eB hL (r:=x5.2) omq ⟨#[41]⟩
 generalize waI L x5.2 ⟨#[41]⟩=r6 at *
 obtain⟨y1,q1⟩:=x1
 obtain⟨⟨u1,u2,u3⟩,q3⟩:=x3
 obtain⟨y5,q5⟩:=x5
 dsimp only at *
 clear w1 t1 n1 w2 t3 w4 t4 n5 bb1 bb2 bb3 bb4
 cases f1 with
 | mk m1 m2 m3 m4 _ _ _ _ =>
 cases f5 with
 | mk h1 h2 h3 h4 _ _ _ _ =>
 refine av func49 rfl rfl ?_
 unfold di at *
 dsimp only at c1 k1 k2 k3 k4 k5 k6 k7 ⊢
 repeat' (first|(apply ay;first|refine al ?_|refine ai ?_|refine aK 0 (c1) ?_|refine aQ ?_|refine bZ ?_|refine az ?_)|refine ak ?_|refine ab ?_|refine aa fun C=>?_|refine ac ?_|refine ah ?_)
 refine ae (by rfl) (fun hC=>absurd (bA hC) (by decide)) fun hC=>?_
 repeat' (first|(apply ay;first|refine ai ?_|refine aQ ?_)|refine ak ?_|refine ab ?_|refine aa fun C=>?_|refine ac ?_)
 refine ae (by rfl) (fun hC=>absurd (bA hC) (by decide)) fun hC=>?_
 repeat' (first|(apply ay;first|refine ai ?_|refine aQ ?_)|refine ak ?_|refine ab ?_|refine aa fun C=>?_|refine ac ?_)
 refine ae (by rfl) (fun hC=>absurd (bA hC) (by decide)) fun hC=>?_
 repeat' (first|(apply ay;first|refine ai ?_|refine aQ ?_)|refine ak ?_|refine ab ?_|refine aa fun C=>?_|refine ac ?_)
 refine ae (by rfl) (fun hC=>absurd (bA hC) (by decide)) fun hC=>?_
 repeat' (first|(apply ay;first|refine ai ?_|refine aQ ?_)|refine ak ?_|refine ab ?_|refine aa fun C=>?_|refine ac ?_)
 refine ae (by rfl) (fun hC=>absurd (bA hC) (by decide)) fun hC=>?_
 repeat' (first|(apply ay;first|refine ai ?_|refine aQ ?_)|refine ak ?_|refine ab ?_|refine aa fun C=>?_|refine ac ?_)
 refine ae (by rfl) (fun hC=>absurd (bA hC) (by decide)) fun hC=>?_
 repeat' (first|(apply ay;first|refine ai ?_|refine aQ ?_)|refine ak ?_|refine ab ?_|refine aa fun C=>?_|refine ac ?_)
 refine ae (by rfl) (fun hC=>?_) fun hC=>absurd rfl (jJ hC)
 repeat' (first|(apply ay;first|refine al ?_|refine ai ?_|refine bj ?_|refine aI ?_|refine bN ?_|refine d8 0 [59] (k1) ?_ (hl:=bz (by rfl) bW)|refine d8 0 [64] (k3) ?_ (hl:=bz (by rfl) bW)|refine d8 0 [70] (k5) ?_ (hl:=bz (by rfl) bW)|refine d8 0 [75] (k7) ?_ (hl:=bz (by rfl) bW)|refine aK 0 (k4) ?_|refine aK 0 (k2) ?_|refine aK 0 (k6) ?_|refine bC ?_|refine aw ?_|refine bZ ?_|refine dX ?_|refine az ?_)|refine ak ?_|refine ab ?_|refine aa fun C=>?_|refine ac ?_)
 refine bk (em (i:=80) (j:=6300) rfl rfl rfl (pre:=[_,_,_]) (post:=[_,_,_,_]) rfl) ?_
 refine bk (em (i:=80) (j:=7400) rfl rfl rfl (pre:=[_,_,_,_,_,_,_]) (post:=[]) rfl) ?_
 exact ly
theorem sN {L:List T3}(hL:L.length≤2000){f:Nat}(hf:f≤3000){g:RI→E×RI}(hg:GI L f g)(hi:HI L f g){r:RI}(hb:r.b=false)(hr:L.length+1≤r.a+(f+1))(ha:r.a<L.length){ts:ByteArray}(ht:(tAt L r.a).2.2=ts)(h0:ts≠⟨#[108,101,110,103,116,104]⟩)(h1:ts≠⟨#[115,117,98,115,116,114]⟩)(h2:ts≠⟨#[105,110,100,101,120]⟩)(h3:ts≠⟨#[117,112,112,101,114]⟩)(h4:ts≠⟨#[110,114]⟩)(h5:ts≠⟨#[110,102]⟩)(h6:ts≠⟨#[103,115,117,98]⟩) :
 Ctr prog 49 [.c (.pt 0 0)] [di L r] (.ag (owE (cu L g ts r).1)) [di L (cu L g ts r).2]:=by
 have c2:=gH hL hf hg hi 11 hb hr ha
 obtain⟨a,b⟩:=r
 have hb:b=false:=hb
 subst hb
 dsimp only at hr ha ht
 have c1:=gG hL (r:=⟨a,false⟩) (by dsimp only;omega) (j:=0) omq (z:=0) rfl
 rw [show (⟨a,false⟩:RI).a+0=a from rfl] at c1
 obtain⟨⟨tk,tn,ts'⟩,htt⟩:∃t,tAt L a=t:=⟨_,rfl⟩
 rw [htt] at c1 ht
 dsimp only at c1 ht
 subst ht
 have c3:=oM hL (r:=⟨a,false⟩) (by dsimp only;omega) (j:=1) omq (z:=1) rfl ⟨#[40]⟩
 have c4:=oM hL (r:=⟨a+1,false⟩) (by dsimp only;omega) (j:=0) omq (z:=0) rfl ⟨#[91]⟩
 have e:cu L g ts' ⟨a,false⟩=if isI L ⟨a,false⟩ 1 ⟨#[40]⟩=true then j9 L g 11 ts' ⟨a,false⟩ else if isI L ⟨a+1,false⟩ 0 ⟨#[91]⟩=true then (xE 4 0 ts' [(g ⟨a+2,false⟩).1],waI L (g ⟨a+2,false⟩).2 ⟨#[93]⟩) else (xE 3 0 ts' [],⟨a+1,false⟩):=by
  unfold cu
  rw [if_neg h0];rw [if_neg h1];rw [if_neg h2];rw [if_neg h3];rw [if_neg h4];rw [if_neg h5];rw [if_neg h6];rfl
 rw [e]
 clear e
 cases hi1:isI L ⟨a,false⟩ 1 ⟨#[40]⟩ with
 | true =>
  rw [if_pos rfl]
  rw [hi1] at c3
  have hex:∃l q2,j9 L g 11 ByteArray.empty ⟨a,false⟩=(xE 11 0 ByteArray.empty l,q2)∧j9 L g 11 ts' ⟨a,false⟩=(xE 11 0 ts' l,q2):=⟨_,_,rfl,rfl⟩
  obtain⟨l,q2,hq2,hq3⟩:=hex
  rw [hq2] at c2
  rw [hq3]
  dsimp only at c2 ⊢
  clear hq2 hq3 hg hi c4
  refine av func49 rfl rfl ?_
  unfold di at *
  dsimp only at c1 c2 c3 ⊢
  repeat' (first|(apply ay;first|refine al ?_|refine ai ?_|refine aK 0 (c1) ?_|refine aQ ?_|refine bZ ?_|refine az ?_)|refine ak ?_|refine ab ?_|refine aa fun C=>?_|refine ac ?_|refine ah ?_)
  refine ae (by rfl) (fun hC=>absurd (bA hC) h0) fun hC=>?_
  repeat' (first|(apply ay;first|refine ai ?_|refine aQ ?_)|refine ak ?_|refine ab ?_|refine aa fun C=>?_|refine ac ?_)
  refine ae (by rfl) (fun hC=>absurd (bA hC) h1) fun hC=>?_
  repeat' (first|(apply ay;first|refine ai ?_|refine aQ ?_)|refine ak ?_|refine ab ?_|refine aa fun C=>?_|refine ac ?_)
  refine ae (by rfl) (fun hC=>absurd (bA hC) h2) fun hC=>?_
  repeat' (first|(apply ay;first|refine ai ?_|refine aQ ?_)|refine ak ?_|refine ab ?_|refine aa fun C=>?_|refine ac ?_)
  refine ae (by rfl) (fun hC=>absurd (bA hC) h3) fun hC=>?_
  repeat' (first|(apply ay;first|refine ai ?_|refine aQ ?_)|refine ak ?_|refine ab ?_|refine aa fun C=>?_|refine ac ?_)
  refine ae (by rfl) (fun hC=>absurd (bA hC) h4) fun hC=>?_
  repeat' (first|(apply ay;first|refine ai ?_|refine aQ ?_)|refine ak ?_|refine ab ?_|refine aa fun C=>?_|refine ac ?_)
  refine ae (by rfl) (fun hC=>absurd (bA hC) h5) fun hC=>?_
  repeat' (first|(apply ay;first|refine ai ?_|refine aQ ?_)|refine ak ?_|refine ab ?_|refine aa fun C=>?_|refine ac ?_)
  refine ae (by rfl) (fun hC=>absurd (bA hC) h6) fun hC=>?_
  repeat' (first|(apply ay;first|refine al ?_|refine aK 0 (c3) ?_)|refine ak ?_|refine ab ?_|refine aa fun C=>?_|refine ac ?_|refine aj ?_)
  repeat' (first|(apply ay;first|refine al ?_|refine bj ?_|refine bN ?_|refine aK 0 (c2) ?_|refine bC ?_|refine bZ ?_)|refine ak ?_|refine ab ?_|refine aa fun C=>?_|refine ac ?_|refine aq rfl ?_)
  exact ly
 | false =>
  rw [if_neg (by simp)]
  rw [hi1] at c3
  clear c2
  cases hi2:isI L ⟨a+1,false⟩ 0 ⟨#[91]⟩ with
  | true =>
   have hlt:=lf hi2
   dsimp only at hlt
   rw [if_pos rfl]
   rw [hi2] at c4
   have t1:TI L ⟨a+2,false⟩:=fun h=>by dsimp only;omega
   have g1:=hg ⟨a+2,false⟩ t1
   have k2:=hi ⟨a+2,false⟩ t1 (fun _=>by dsimp only;omega)
   have n1:=g1.n
   have f1:=g1.fine
   clear g1 hg hi
   generalize g ⟨a+2,false⟩=x1 at *
   dsimp only at n1
   have k7:=eB hL (r:=x1.2) omq ⟨#[93]⟩
   generalize waI L x1.2 ⟨#[93]⟩=r6 at *
   obtain⟨y1,q1⟩:=x1
   dsimp only at *
   clear n1
   cases f1 with
   | mk m1 m2 m3 m4 _ _ _ _ =>
   refine av func49 rfl rfl ?_
   unfold di at *
   dsimp only at c1 c3 c4 k2 k7 ⊢
   repeat' (first|(apply ay;first|refine al ?_|refine ai ?_|refine aK 0 (c1) ?_|refine aQ ?_|refine bZ ?_|refine az ?_)|refine ak ?_|refine ab ?_|refine aa fun C=>?_|refine ac ?_|refine ah ?_)
   refine ae (by rfl) (fun hC=>absurd (bA hC) h0) fun hC=>?_
   repeat' (first|(apply ay;first|refine ai ?_|refine aQ ?_)|refine ak ?_|refine ab ?_|refine aa fun C=>?_|refine ac ?_)
   refine ae (by rfl) (fun hC=>absurd (bA hC) h1) fun hC=>?_
   repeat' (first|(apply ay;first|refine ai ?_|refine aQ ?_)|refine ak ?_|refine ab ?_|refine aa fun C=>?_|refine ac ?_)
   refine ae (by rfl) (fun hC=>absurd (bA hC) h2) fun hC=>?_
   repeat' (first|(apply ay;first|refine ai ?_|refine aQ ?_)|refine ak ?_|refine ab ?_|refine aa fun C=>?_|refine ac ?_)
   refine ae (by rfl) (fun hC=>absurd (bA hC) h3) fun hC=>?_
   repeat' (first|(apply ay;first|refine ai ?_|refine aQ ?_)|refine ak ?_|refine ab ?_|refine aa fun C=>?_|refine ac ?_)
   refine ae (by rfl) (fun hC=>absurd (bA hC) h4) fun hC=>?_
   repeat' (first|(apply ay;first|refine ai ?_|refine aQ ?_)|refine ak ?_|refine ab ?_|refine aa fun C=>?_|refine ac ?_)
   refine ae (by rfl) (fun hC=>absurd (bA hC) h5) fun hC=>?_
   repeat' (first|(apply ay;first|refine ai ?_|refine aQ ?_)|refine ak ?_|refine ab ?_|refine aa fun C=>?_|refine ac ?_)
   refine ae (by rfl) (fun hC=>absurd (bA hC) h6) fun hC=>?_
   repeat' (first|(apply ay;first|refine al ?_|refine aK 0 (c3) ?_)|refine ak ?_|refine ab ?_|refine aa fun C=>?_|refine ac ?_|refine aj ?_)
   repeat' (first|(apply ay;first|refine al ?_|refine bj ?_|refine aI ?_|refine bN ?_|refine aK 0 (c4) ?_|refine d8 0 [111] (k7) ?_ (hl:=bz (by rfl) bW)|refine aK 0 (k2) ?_|refine bC ?_|refine aw ?_|refine bZ ?_|refine dX ?_|refine az ?_)|refine ak ?_|refine ab ?_|refine aa fun C=>?_|refine ac ?_|refine aj ?_|refine aq rfl ?_|refine au rfl ?_)
   refine bk (em (i:=108) (j:=10800) rfl rfl rfl (pre:=[_,_,_]) (post:=[]) rfl) ?_
   exact ly
  | false =>
   rw [if_neg (by simp)]
   rw [hi2] at c4
   clear hg hi
   refine av func49 rfl rfl ?_
   unfold di at *
   dsimp only at c1 c3 c4 ⊢
   repeat' (first|(apply ay;first|refine al ?_|refine ai ?_|refine aK 0 (c1) ?_|refine aQ ?_|refine bZ ?_|refine az ?_)|refine ak ?_|refine ab ?_|refine aa fun C=>?_|refine ac ?_|refine ah ?_)
   refine ae (by rfl) (fun hC=>absurd (bA hC) h0) fun hC=>?_
   repeat' (first|(apply ay;first|refine ai ?_|refine aQ ?_)|refine ak ?_|refine ab ?_|refine aa fun C=>?_|refine ac ?_)
   refine ae (by rfl) (fun hC=>absurd (bA hC) h1) fun hC=>?_
   repeat' (first|(apply ay;first|refine ai ?_|refine aQ ?_)|refine ak ?_|refine ab ?_|refine aa fun C=>?_|refine ac ?_)
   refine ae (by rfl) (fun hC=>absurd (bA hC) h2) fun hC=>?_
   repeat' (first|(apply ay;first|refine ai ?_|refine aQ ?_)|refine ak ?_|refine ab ?_|refine aa fun C=>?_|refine ac ?_)
   refine ae (by rfl) (fun hC=>absurd (bA hC) h3) fun hC=>?_
   repeat' (first|(apply ay;first|refine ai ?_|refine aQ ?_)|refine ak ?_|refine ab ?_|refine aa fun C=>?_|refine ac ?_)
   refine ae (by rfl) (fun hC=>absurd (bA hC) h4) fun hC=>?_
   repeat' (first|(apply ay;first|refine ai ?_|refine aQ ?_)|refine ak ?_|refine ab ?_|refine aa fun C=>?_|refine ac ?_)
   refine ae (by rfl) (fun hC=>absurd (bA hC) h5) fun hC=>?_
   repeat' (first|(apply ay;first|refine ai ?_|refine aQ ?_)|refine ak ?_|refine ab ?_|refine aa fun C=>?_|refine ac ?_)
   refine ae (by rfl) (fun hC=>absurd (bA hC) h6) fun hC=>?_
   repeat' (first|(apply ay;first|refine al ?_|refine aK 0 (c3) ?_)|refine ak ?_|refine ab ?_|refine aa fun C=>?_|refine ac ?_|refine aj ?_)
   repeat' (first|(apply ay;first|refine al ?_|refine bj ?_|refine aI ?_|refine aK 0 (c4) ?_|refine bC ?_|refine aw ?_|refine az ?_)|refine ak ?_|refine ab ?_|refine aa fun C=>?_|refine ac ?_|refine aj ?_|refine au rfl ?_)
   refine bk (cP 90000 (i:=2) 26 4 rfl rfl (pre:=[_,_,_]) (post:=[]) rfl) ?_
   exact ly
theorem zw2 {L:List T3}(hL:L.length≤2000)(hok:okL L){f:Nat}(hf:f≤3000){g:RI→E×RI}(hg:GI L f g)(hi:HI L f g){r:RI}(hb:r.b=false)(hr:L.length+1≤r.a+(f+1))(ha:r.a<L.length) :
 Ctr prog 49 [.c (.pt 0 0)] [di L r] (.ag (owE (cu L g (tAt L r.a).2.2 r).1)) [di L (cu L g (tAt L r.a).2.2 r).2]:=by
 have ht:(tAt L r.a).2.2=(tAt L r.a).2.2:=rfl
 generalize htt:(tAt L r.a).2.2=ts at ht
 clear ht
 by_cases h0:ts=⟨#[108,101,110,103,116,104]⟩
 ·subst h0;exact oO hL hf hg hi hb hr ha htt
 by_cases h1:ts=⟨#[115,117,98,115,116,114]⟩
 ·subst h1;exact oP hL hf hg hi hb hr ha htt
 by_cases h2:ts=⟨#[105,110,100,101,120]⟩
 ·subst h2;exact p8 hL hf hg hi hb hr ha htt
 by_cases h3:ts=⟨#[117,112,112,101,114]⟩
 ·subst h3;exact p9 hL hf hg hi hb hr ha htt
 by_cases h4:ts=⟨#[110,114]⟩
 ·subst h4;exact yL hL hf hb hr ha htt
 by_cases h5:ts=⟨#[110,102]⟩
 ·subst h5;exact yM hL hf hb hr ha htt
 by_cases h6:ts=⟨#[103,115,117,98]⟩
 ·subst h6;exact sM hL hok hf hg hi hb hr ha htt
 exact sN hL hf hg hi hb hr ha htt h0 h1 h2 h3 h4 h5 h6
end Go.Proofs.YtomolhbkdhjofaaGreatDoor
