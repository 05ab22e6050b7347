/- T -/
import Derived.Test.YtomolhbkdhjofaaGreatDoorExRAC
set_option maxHeartbeats 0
set_option maxRecDepth 100000
namespace Go.Proofs.YtomolhbkdhjofaaGreatDoor
open Go.RowKit Go.Proofs.Tryz
theorem yh {L:List T3}{r:RS}{k:Int}{s:ByteArray}(h:(isS L r k s).1=true):(isS L r k s).2=r.up:=by
 unfold isS at h ⊢
 split at h
 ·rename_i hs;rw [if_pos hs]
 ·cases h
theorem yi {L:List T3}(hL:L.length≤2000)(hok:okL L){f:Nat}(hf:f≤21)(hf1:1≤f){g:RS→E×RS}(hg:GS L f g)(hi:HS L f g){r:RS}(ha:r.a≤L.length)(hd:21≤f+r.d)(hd2:r.d≤20) :
 Ctr prog 90 [.c (.pt 0 0)] [df L r] (.ag (owE (inS L g r).1)) [df L (inS L g r).2]:=by
 unfold inS
 have g1:=hg r ha
 have k2:=hi r ha hd hf1 omq
 have n1:=g1.n
 have f1:=g1.fine
 clear g1
 generalize g r=x1 at *
 obtain⟨y1,q1⟩:=x1
 (try dsimp only at *)
 have c1:=nf hL (r:=q1) 2 ⟨#[105,110]⟩
 have c2:=nf hL (r:=q1) 5 ⟨#[126]⟩
 cases f1 with
 | mk m1 m2 m3 m4 _ _ _ _ =>
 cases hi1:(isS L q1 2 ⟨#[105,110]⟩).1 with
 | true =>
  have i2:=(is_f L q1 2 ⟨#[105,110]⟩).1 hi1
  rw [if_pos rfl]
  rw [yh hi1] at i2
  rw [hi1,yh hi1] at c1
  clear c2 hg hi
  have k4:=zr6 hL hok (r:=q1.up) omq
  generalize gG L q1.up=x3 at *
  obtain⟨u3,q3⟩:=x3
  (try dsimp only at *)
  have k7:=fX hL (r:=q3) ⟨#[41]⟩
  generalize mkS L q3 ⟨#[41]⟩=r6 at *
  refine az func90 rfl rfl ?_
  unfold df at *
  (try dsimp only at c1 k2 k4 k7 ⊢)
  repeat' (first|(apply ay;first|refine ak ?_|refine ai ?_|refine bf ?_|refine bM ?_|refine aF 0 (c1) ?_|refine aF 0 (k4) ?_|refine aF 0 (k7) ?_|refine aF 0 (k2) ?_|refine bh ?_|refine bJ ?_|refine dT ?_|refine au ?_)|refine aj ?_|refine ab ?_|refine aa fun C=>?_|refine ac ?_|refine ah ?_|refine aq rfl ?_)
  refine bc (dU (i:=9) (j:=800) rfl rfl rfl (pre:=[_,_,_]) (post:=[]) rfl) ?_
  exact fY
 | false =>
  have e1:=(is_f L q1 2 ⟨#[105,110]⟩).2.1 hi1
  rw [if_neg (by simp)]
  rw [hi1,e1] at c1
  cases hi2:(isS L q1 5 ⟨#[126]⟩).1 with
  | true =>
   rw [if_pos rfl]
   rw [hi2,yh hi2] at c2
   clear hg hi
   have k4:=jq hL (r:=q1.up) 4
   generalize bQ L q1.up 4=x3 at *
   obtain⟨⟨u1,u2,u3⟩,q3⟩:=x3
   (try dsimp only at *)
   have k7:=fX hL (r:=q3) ⟨#[41]⟩
   generalize mkS L q3 ⟨#[41]⟩=r6 at *
   refine az func90 rfl rfl ?_
   unfold df at *
   (try dsimp only at c1 c2 k2 k4 k7 ⊢)
   repeat' (first|(apply ay;first|refine ak ?_|refine ai ?_|refine bf ?_|refine bM ?_|refine aF 0 (c1) ?_|refine aF 0 (c2) ?_|refine aF 0 (k4) ?_|refine aF 0 (k7) ?_|refine aF 0 (k2) ?_|refine bh ?_|refine bJ ?_|refine dT ?_|refine au ?_)|refine aj ?_|refine ab ?_|refine aa fun C=>?_|refine ac ?_|refine ah ?_|refine aq rfl ?_|refine ar rfl ?_)
   refine bc (dU (i:=9) (j:=800) rfl rfl rfl (pre:=[_,_,_]) (post:=[]) rfl) ?_
   exact fY
  | false =>
   have e2:=(is_f L q1 5 ⟨#[126]⟩).2.1 hi2
   rw [if_neg (by simp)]
   rw [hi2,e2] at c2
   have k4:=jq hL (r:=q1) 5
   have t3:=ii hok 5 (r:=q1) omq
   generalize bQ L q1 5=x3 at *
   obtain⟨⟨u1,u2,u3⟩,q3⟩:=x3
   (try dsimp only at *)
   have g5:=hg q3 omq
   have k6:=hi q3 omq omq hf1 omq
   have f5:=g5.fine
   clear g5 hg hi
   generalize g q3=x5 at *
   obtain⟨y5,q5⟩:=x5
   (try dsimp only at *)
   have k7:=fX hL (r:=q5) ⟨#[41]⟩
   generalize mkS L q5 ⟨#[41]⟩=r6 at *
   cases f5 with
   | mk h1 h2 h3 h4 _ _ _ _ =>
   refine az func90 rfl rfl ?_
   unfold df at *
   (try dsimp only at c1 c2 k2 k4 k6 k7 ⊢)
   repeat' (first|(apply ay;first|refine ak ?_|refine ai ?_|refine bf ?_|refine aI ?_|refine bM ?_|refine aF 0 (c1) ?_|refine aF 0 (c2) ?_|refine aF 0 (k4) ?_|refine aF 0 (k7) ?_|refine aF 0 (k2) ?_|refine aF 0 (k6) ?_|refine dz ?_|refine bh ?_|refine bJ ?_|refine dT ?_|refine au ?_)|refine aj ?_|refine ab ?_|refine aa fun C=>?_|refine ac ?_|refine ah ?_|refine ar rfl ?_)
   refine bc (dU (i:=21) (j:=800) rfl rfl rfl (pre:=[_,_,_]) (post:=[_,_,_,_]) rfl) ?_
   refine bc (dU (i:=21) (j:=1700) rfl rfl rfl (pre:=[.v (.int .i64 m1),.v (.int .i64 m2),.v (.string m3),.ow 26 m4.length 4 (owL m4),.v (.int .i64 h1),.v (.int .i64 h2),.v (.string h3)]) (post:=[]) rfl) ?_
   exact fY
theorem zu6 {L:List T3}(hL:L.length≤2000)(hok:okL L){f:Nat}(hf:f≤21)(hf1:1≤f){g:RS→E×RS}(hg:GS L f g)(hi:HS L f g){r:RS}(ha:r.a≤L.length)(hd:21≤f+r.d)(hd2:r.d≤20) :
 Ctr prog 124 [.c (.pt 0 0)] [df L r] (.ag (owE (gg L g r).1)) [df L (gg L g r).2]:=by
 unfold gg
 dsimp only
 have w1:=tg (L:=L) ⟨#[40]⟩ ha
 have k1:=fX hL (r:=r) ⟨#[40]⟩
 generalize mkS L r ⟨#[40]⟩=r1 at *
 have b1:=ed r1.b
 have g1:=hg r1 omq
 have k2:=hi r1 omq omq hf1 omq
 have n1:=g1.n
 have f1:=g1.fine
 clear g1
 generalize g r1=x1 at *
 obtain⟨y1,q1⟩:=x1
 (try dsimp only at *)
 have w2:=tg (L:=L) (r:=q1) ⟨#[126]⟩ omq
 have k3:=fX hL (r:=q1) ⟨#[126]⟩
 generalize mkS L q1 ⟨#[126]⟩=r2 at *
 have b3:=ed r2.b
 have t3:=ii hok (r:=r2) 4 omq
 have k4:=jq hL (r:=r2) 4
 generalize bQ L r2 4=x3 at *
 obtain⟨⟨u1,u2,u3⟩,q3⟩:=x3
 (try dsimp only at *)
 have b4:=ed q3.b
 have w4:=tg (L:=L) (r:=q3) ⟨#[44]⟩ omq
 have k5:=fX hL (r:=q3) ⟨#[44]⟩
 generalize mkS L q3 ⟨#[44]⟩=r4 at *
 have g5:=hg r4 omq
 have k6:=hi r4 omq omq hf1 omq
 have f5:=g5.fine
 clear g5 hg hi
 generalize g r4=x5 at *
 obtain⟨y5,q5⟩:=x5
 (try dsimp only at *)
 have k7:=fX hL (r:=q5) ⟨#[41]⟩
 generalize mkS L q5 ⟨#[41]⟩=r6 at *
 cases f1 with
 | mk m1 m2 m3 m4 _ _ _ _ =>
 cases f5 with
 | mk h1 h2 h3 h4 _ _ _ _ =>
 refine az func124 rfl rfl ?_
 unfold df at *
 (try dsimp only at k1 k2 k3 k4 k5 k6 k7 ⊢)
 repeat' (first|(apply ay;first|refine ak ?_|refine ai ?_|refine bM ?_|refine aF 0 (k1) ?_|refine aF 0 (k3) ?_|refine aF 0 (k5) ?_|refine aF 0 (k7) ?_|refine aF 0 (k4) ?_|refine aF 0 (k2) ?_|refine aF 0 (k6) ?_|refine bh ?_|refine bJ ?_|refine dT ?_|refine au ?_)|refine aj ?_|refine ab ?_|refine aa fun C=>?_|refine ac ?_)
 refine bc (dU (i:=24) (j:=1000) rfl rfl rfl (pre:=[_,_,_]) (post:=[_,_,_,_]) rfl) ?_
 refine bc (dU (i:=24) (j:=1900) rfl rfl rfl (pre:=[_,_,_,_,_,_,_]) (post:=[]) rfl) ?_
 exact fY
theorem zb1 {L:List T3}(hL:L.length≤2000)(hok:okL L){f:Nat}(hf:f≤21)(hf1:1≤f){g:RS→E×RS}(hg:GS L f g)(hi:HS L f g){r r1:RS}{k n:Int}(c1:Ctr prog 92 [.c (.pt 0 0),.c (.v (.int .i64 2))] [df L r] (.ag [.v (.int .i64 k),.v (.int .i64 n),.v (.string ⟨#[110,114]⟩)]) [df L r1])(ha:r1.a≤L.length)(hd:21≤f+r1.d)(hd2:r1.d≤20) :
 Ctr prog 93 [.c (.pt 0 0)] [df L r] (.ag (owE (cG L g ⟨#[110,114]⟩ r1).1)) [df L (cG L g ⟨#[110,114]⟩ r1).2]:=by
 have e:cG L g ⟨#[110,114]⟩ r1=(xE 14 0 ByteArray.empty [],r1):=by
  unfold cG
  rw [if_pos rfl]
 rw [e]
 clear e hg hi
 refine az func93 rfl rfl ?_
 unfold df at *
 (try dsimp only at c1 ⊢)
 repeat' (first|(apply ay;first|refine ak ?_|refine ai ?_|refine aF 0 (c1) ?_|refine aC ?_|refine bJ ?_|refine au ?_)|refine aj ?_|refine ab ?_|refine aa fun C=>?_|refine ac ?_|refine ah ?_)
 refine ae rqf (fun hC=>?_) fun hC=>absurd rfl (gA hC)
 repeat' (first|(apply ay;first|refine bh ?_|refine au ?_)|refine aj ?_|refine ab ?_|refine aa fun C=>?_|refine ac ?_)
 refine bc (cR 90000 (i:=2) 26 4 rfl rfl (pre:=[_,_,_]) (post:=[]) rfl) ?_
 exact fY
theorem zc1 {L:List T3}(hL:L.length≤2000)(hok:okL L){f:Nat}(hf:f≤21)(hf1:1≤f){g:RS→E×RS}(hg:GS L f g)(hi:HS L f g){r r1:RS}{k n:Int}(c1:Ctr prog 92 [.c (.pt 0 0),.c (.v (.int .i64 2))] [df L r] (.ag [.v (.int .i64 k),.v (.int .i64 n),.v (.string ⟨#[110,102]⟩)]) [df L r1])(ha:r1.a≤L.length)(hd:21≤f+r1.d)(hd2:r1.d≤20) :
 Ctr prog 93 [.c (.pt 0 0)] [df L r] (.ag (owE (cG L g ⟨#[110,102]⟩ r1).1)) [df L (cG L g ⟨#[110,102]⟩ r1).2]:=by
 have e:cG L g ⟨#[110,102]⟩ r1=(xE 15 0 ByteArray.empty [],r1):=by
  unfold cG
  rw [if_neg (show ¬(⟨#[110,102]⟩:ByteArray)=⟨#[110,114]⟩ by decide)];rw [if_pos rfl]
 rw [e]
 clear e hg hi
 refine az func93 rfl rfl ?_
 unfold df at *
 (try dsimp only at c1 ⊢)
 repeat' (first|(apply ay;first|refine ak ?_|refine ai ?_|refine aF 0 (c1) ?_|refine aC ?_|refine bJ ?_|refine au ?_)|refine aj ?_|refine ab ?_|refine aa fun C=>?_|refine ac ?_|refine ah ?_)
 refine ae rqf (fun hC=>absurd (aV hC) (by decide)) fun hC=>?_
 repeat' (first|(apply ay;first|refine ai ?_|refine aC ?_)|refine aj ?_|refine ab ?_|refine aa fun C=>?_|refine ac ?_)
 refine ae rqf (fun hC=>?_) fun hC=>absurd rfl (gA hC)
 repeat' (first|(apply ay;first|refine bh ?_|refine au ?_)|refine aj ?_|refine ab ?_|refine aa fun C=>?_|refine ac ?_)
 refine bc (cR 90000 (i:=2) 26 4 rfl rfl (pre:=[_,_,_]) (post:=[]) rfl) ?_
 exact fY
theorem p8 {L:List T3}(hL:L.length≤2000)(hok:okL L){f:Nat}(hf:f≤21)(hf1:1≤f){g:RS→E×RS}(hg:GS L f g)(hi:HS L f g){r r1:RS}{k n:Int}(c1:Ctr prog 92 [.c (.pt 0 0),.c (.v (.int .i64 2))] [df L r] (.ag [.v (.int .i64 k),.v (.int .i64 n),.v (.string ⟨#[108,101,110,103,116,104]⟩)]) [df L r1])(ha:r1.a≤L.length)(hd:21≤f+r1.d)(hd2:r1.d≤20) :
 Ctr prog 93 [.c (.pt 0 0)] [df L r] (.ag (owE (cG L g ⟨#[108,101,110,103,116,104]⟩ r1).1)) [df L (cG L g ⟨#[108,101,110,103,116,104]⟩ r1).2]:=by
 have c2:=mP hL hf hf1 hg hi 1 ha hd hd2
 have e:cG L g ⟨#[108,101,110,103,116,104]⟩ r1=(xE 12 0 ByteArray.empty (cL L g 1 r1).1,(cL L g 1 r1).2):=by
  unfold cG
  rw [if_neg (show ¬(⟨#[108,101,110,103,116,104]⟩:ByteArray)=⟨#[110,114]⟩ by decide)];rw [if_neg (show ¬(⟨#[108,101,110,103,116,104]⟩:ByteArray)=⟨#[110,102]⟩ by decide)];rw [if_pos rfl]
 rw [e]
 clear e hg hi
 generalize cL L g 1 r1=x at *
 obtain⟨l,q⟩:=x
 refine az func93 rfl rfl ?_
 unfold df at *
 (try dsimp only at c1 c2 ⊢)
 repeat' (first|(apply ay;first|refine ak ?_|refine ai ?_|refine aF 0 (c1) ?_|refine aC ?_|refine bJ ?_|refine au ?_)|refine aj ?_|refine ab ?_|refine aa fun C=>?_|refine ac ?_|refine ah ?_)
 refine ae rqf (fun hC=>absurd (aV hC) (by decide)) fun hC=>?_
 repeat' (first|(apply ay;first|refine ai ?_|refine aC ?_)|refine aj ?_|refine ab ?_|refine aa fun C=>?_|refine ac ?_)
 refine ae rqf (fun hC=>absurd (aV hC) (by decide)) fun hC=>?_
 repeat' (first|(apply ay;first|refine ai ?_|refine aC ?_)|refine aj ?_|refine ab ?_|refine aa fun C=>?_|refine ac ?_)
 refine ae rqf (fun hC=>?_) fun hC=>absurd rfl (gA hC)
 repeat' (first|(apply f_w;refine iq 90001 1 (kT (k:=12)) ?_)|(apply ay;first|refine ak ?_|refine aF 0 (c2) ?_|refine bh ?_)|refine aj ?_|refine ab ?_|refine aa fun C=>?_|refine ac ?_)
 exact fY
theorem p9 {L:List T3}(hL:L.length≤2000)(hok:okL L){f:Nat}(hf:f≤21)(hf1:1≤f){g:RS→E×RS}(hg:GS L f g)(hi:HS L f g){r r1:RS}{k n:Int}(c1:Ctr prog 92 [.c (.pt 0 0),.c (.v (.int .i64 2))] [df L r] (.ag [.v (.int .i64 k),.v (.int .i64 n),.v (.string ⟨#[115,117,98,115,116,114]⟩)]) [df L r1])(ha:r1.a≤L.length)(hd:21≤f+r1.d)(hd2:r1.d≤20) :
 Ctr prog 93 [.c (.pt 0 0)] [df L r] (.ag (owE (cG L g ⟨#[115,117,98,115,116,114]⟩ r1).1)) [df L (cG L g ⟨#[115,117,98,115,116,114]⟩ r1).2]:=by
 have c2:=mP hL hf hf1 hg hi 3 ha hd hd2
 have e:cG L g ⟨#[115,117,98,115,116,114]⟩ r1=(xE 13 0 ByteArray.empty (cL L g 3 r1).1,(cL L g 3 r1).2):=by
  unfold cG
  rw [if_neg (show ¬(⟨#[115,117,98,115,116,114]⟩:ByteArray)=⟨#[110,114]⟩ by decide)];rw [if_neg (show ¬(⟨#[115,117,98,115,116,114]⟩:ByteArray)=⟨#[110,102]⟩ by decide)];rw [if_neg (show ¬(⟨#[115,117,98,115,116,114]⟩:ByteArray)=⟨#[108,101,110,103,116,104]⟩ by decide)];rw [if_pos rfl]
 rw [e]
 clear e hg hi
 generalize cL L g 3 r1=x at *
 obtain⟨l,q⟩:=x
 refine az func93 rfl rfl ?_
 unfold df at *
 (try dsimp only at c1 c2 ⊢)
 repeat' (first|(apply ay;first|refine ak ?_|refine ai ?_|refine aF 0 (c1) ?_|refine aC ?_|refine bJ ?_|refine au ?_)|refine aj ?_|refine ab ?_|refine aa fun C=>?_|refine ac ?_|refine ah ?_)
 refine ae rqf (fun hC=>absurd (aV hC) (by decide)) fun hC=>?_
 repeat' (first|(apply ay;first|refine ai ?_|refine aC ?_)|refine aj ?_|refine ab ?_|refine aa fun C=>?_|refine ac ?_)
 refine ae rqf (fun hC=>absurd (aV hC) (by decide)) fun hC=>?_
 repeat' (first|(apply ay;first|refine ai ?_|refine aC ?_)|refine aj ?_|refine ab ?_|refine aa fun C=>?_|refine ac ?_)
 refine ae rqf (fun hC=>absurd (aV hC) (by decide)) fun hC=>?_
 repeat' (first|(apply ay;first|refine ai ?_|refine aC ?_)|refine aj ?_|refine ab ?_|refine aa fun C=>?_|refine ac ?_)
 refine ae rqf (fun hC=>?_) fun hC=>absurd rfl (gA hC)
 repeat' (first|(apply f_w;refine iq 90001 1 (kT (k:=13)) ?_)|(apply ay;first|refine ak ?_|refine aF 0 (c2) ?_|refine bh ?_)|refine aj ?_|refine ab ?_|refine aa fun C=>?_|refine ac ?_)
 exact fY
theorem rz {L:List T3}(hL:L.length≤2000)(hok:okL L){f:Nat}(hf:f≤21)(hf1:1≤f){g:RS→E×RS}(hg:GS L f g)(hi:HS L f g){r r1:RS}{k n:Int}(c1:Ctr prog 92 [.c (.pt 0 0),.c (.v (.int .i64 2))] [df L r] (.ag [.v (.int .i64 k),.v (.int .i64 n),.v (.string ⟨#[105,110,100,101,120]⟩)]) [df L r1])(ha:r1.a≤L.length)(hd:21≤f+r1.d)(hd2:r1.d≤20) :
 Ctr prog 93 [.c (.pt 0 0)] [df L r] (.ag (owE (cG L g ⟨#[105,110,100,101,120]⟩ r1).1)) [df L (cG L g ⟨#[105,110,100,101,120]⟩ r1).2]:=by
 have c2:=mP hL hf hf1 hg hi 2 ha hd hd2
 have e:cG L g ⟨#[105,110,100,101,120]⟩ r1=(xE 16 0 ByteArray.empty (cL L g 2 r1).1,(cL L g 2 r1).2):=by
  unfold cG
  rw [if_neg (show ¬(⟨#[105,110,100,101,120]⟩:ByteArray)=⟨#[110,114]⟩ by decide)];rw [if_neg (show ¬(⟨#[105,110,100,101,120]⟩:ByteArray)=⟨#[110,102]⟩ by decide)];rw [if_neg (show ¬(⟨#[105,110,100,101,120]⟩:ByteArray)=⟨#[108,101,110,103,116,104]⟩ by decide)];rw [if_neg (show ¬(⟨#[105,110,100,101,120]⟩:ByteArray)=⟨#[115,117,98,115,116,114]⟩ by decide)];rw [if_pos rfl]
 rw [e]
 clear e hg hi
 generalize cL L g 2 r1=x at *
 obtain⟨l,q⟩:=x
 refine az func93 rfl rfl ?_
 unfold df at *
 (try dsimp only at c1 c2 ⊢)
 repeat' (first|(apply ay;first|refine ak ?_|refine ai ?_|refine aF 0 (c1) ?_|refine aC ?_|refine bJ ?_|refine au ?_)|refine aj ?_|refine ab ?_|refine aa fun C=>?_|refine ac ?_|refine ah ?_)
 refine ae rqf (fun hC=>absurd (aV hC) (by decide)) fun hC=>?_
 repeat' (first|(apply ay;first|refine ai ?_|refine aC ?_)|refine aj ?_|refine ab ?_|refine aa fun C=>?_|refine ac ?_)
 refine ae rqf (fun hC=>absurd (aV hC) (by decide)) fun hC=>?_
 repeat' (first|(apply ay;first|refine ai ?_|refine aC ?_)|refine aj ?_|refine ab ?_|refine aa fun C=>?_|refine ac ?_)
 refine ae rqf (fun hC=>absurd (aV hC) (by decide)) fun hC=>?_
 repeat' (first|(apply ay;first|refine ai ?_|refine aC ?_)|refine aj ?_|refine ab ?_|refine aa fun C=>?_|refine ac ?_)
 refine ae rqf (fun hC=>absurd (aV hC) (by decide)) fun hC=>?_
 repeat' (first|(apply ay;first|refine ai ?_|refine aC ?_)|refine aj ?_|refine ab ?_|refine aa fun C=>?_|refine ac ?_)
 refine ae rqf (fun hC=>?_) fun hC=>absurd rfl (gA hC)
 repeat' (first|(apply f_w;refine iq 90001 1 (kT (k:=16)) ?_)|(apply ay;first|refine ak ?_|refine aF 0 (c2) ?_|refine bh ?_)|refine aj ?_|refine ab ?_|refine aa fun C=>?_|refine ac ?_)
 exact fY
theorem rA {L:List T3}(hL:L.length≤2000)(hok:okL L){f:Nat}(hf:f≤21)(hf1:1≤f){g:RS→E×RS}(hg:GS L f g)(hi:HS L f g){r r1:RS}{k n:Int}(c1:Ctr prog 92 [.c (.pt 0 0),.c (.v (.int .i64 2))] [df L r] (.ag [.v (.int .i64 k),.v (.int .i64 n),.v (.string ⟨#[117,112,112,101,114]⟩)]) [df L r1])(ha:r1.a≤L.length)(hd:21≤f+r1.d)(hd2:r1.d≤20) :
 Ctr prog 93 [.c (.pt 0 0)] [df L r] (.ag (owE (cG L g ⟨#[117,112,112,101,114]⟩ r1).1)) [df L (cG L g ⟨#[117,112,112,101,114]⟩ r1).2]:=by
 have c2:=mP hL hf hf1 hg hi 1 ha hd hd2
 have e:cG L g ⟨#[117,112,112,101,114]⟩ r1=(xE 17 0 ByteArray.empty (cL L g 1 r1).1,(cL L g 1 r1).2):=by
  unfold cG
  rw [if_neg (show ¬(⟨#[117,112,112,101,114]⟩:ByteArray)=⟨#[110,114]⟩ by decide)];rw [if_neg (show ¬(⟨#[117,112,112,101,114]⟩:ByteArray)=⟨#[110,102]⟩ by decide)];rw [if_neg (show ¬(⟨#[117,112,112,101,114]⟩:ByteArray)=⟨#[108,101,110,103,116,104]⟩ by decide)];rw [if_neg (show ¬(⟨#[117,112,112,101,114]⟩:ByteArray)=⟨#[115,117,98,115,116,114]⟩ by decide)];rw [if_neg (show ¬(⟨#[117,112,112,101,114]⟩:ByteArray)=⟨#[105,110,100,101,120]⟩ by decide)];rw [if_pos rfl]
 rw [e]
 clear e hg hi
 generalize cL L g 1 r1=x at *
 obtain⟨l,q⟩:=x
 refine az func93 rfl rfl ?_
 unfold df at *
 (try dsimp only at c1 c2 ⊢)
 repeat' (first|(apply ay;first|refine ak ?_|refine ai ?_|refine aF 0 (c1) ?_|refine aC ?_|refine bJ ?_|refine au ?_)|refine aj ?_|refine ab ?_|refine aa fun C=>?_|refine ac ?_|refine ah ?_)
 refine ae rqf (fun hC=>absurd (aV hC) (by decide)) fun hC=>?_
 repeat' (first|(apply ay;first|refine ai ?_|refine aC ?_)|refine aj ?_|refine ab ?_|refine aa fun C=>?_|refine ac ?_)
 refine ae rqf (fun hC=>absurd (aV hC) (by decide)) fun hC=>?_
 repeat' (first|(apply ay;first|refine ai ?_|refine aC ?_)|refine aj ?_|refine ab ?_|refine aa fun C=>?_|refine ac ?_)
 refine ae rqf (fun hC=>absurd (aV hC) (by decide)) fun hC=>?_
 repeat' (first|(apply ay;first|refine ai ?_|refine aC ?_)|refine aj ?_|refine ab ?_|refine aa fun C=>?_|refine ac ?_)
 refine ae rqf (fun hC=>absurd (aV hC) (by decide)) fun hC=>?_
 repeat' (first|(apply ay;first|refine ai ?_|refine aC ?_)|refine aj ?_|refine ab ?_|refine aa fun C=>?_|refine ac ?_)
 refine ae rqf (fun hC=>absurd (aV hC) (by decide)) fun hC=>?_
 repeat' (first|(apply ay;first|refine ai ?_|refine aC ?_)|refine aj ?_|refine ab ?_|refine aa fun C=>?_|refine ac ?_)
 refine ae rqf (fun hC=>?_) fun hC=>absurd rfl (gA hC)
 repeat' (first|(apply f_w;refine iq 90001 1 (kT (k:=17)) ?_)|(apply ay;first|refine ak ?_|refine aF 0 (c2) ?_|refine bh ?_)|refine aj ?_|refine ab ?_|refine aa fun C=>?_|refine ac ?_)
 exact fY
theorem uP {L:List T3}(hL:L.length≤2000)(hok:okL L){f:Nat}(hf:f≤21)(hf1:1≤f){g:RS→E×RS}(hg:GS L f g)(hi:HS L f g){r r1:RS}{k n:Int}(c1:Ctr prog 92 [.c (.pt 0 0),.c (.v (.int .i64 2))] [df L r] (.ag [.v (.int .i64 k),.v (.int .i64 n),.v (.string ⟨#[103,115,117,98]⟩)]) [df L r1])(ha:r1.a≤L.length)(hd:21≤f+r1.d)(hd2:r1.d≤20) :
 Ctr prog 93 [.c (.pt 0 0)] [df L r] (.ag (owE (cG L g ⟨#[103,115,117,98]⟩ r1).1)) [df L (cG L g ⟨#[103,115,117,98]⟩ r1).2]:=by
 have c2:=zu6 hL hok hf hf1 hg hi ha hd hd2
 have f2:=(yb hok hg ha).1
 have e:cG L g ⟨#[103,115,117,98]⟩ r1=gg L g r1:=by
  unfold cG
  rw [if_neg (show ¬(⟨#[103,115,117,98]⟩:ByteArray)=⟨#[110,114]⟩ by decide)];rw [if_neg (show ¬(⟨#[103,115,117,98]⟩:ByteArray)=⟨#[110,102]⟩ by decide)];rw [if_neg (show ¬(⟨#[103,115,117,98]⟩:ByteArray)=⟨#[108,101,110,103,116,104]⟩ by decide)];rw [if_neg (show ¬(⟨#[103,115,117,98]⟩:ByteArray)=⟨#[115,117,98,115,116,114]⟩ by decide)];rw [if_neg (show ¬(⟨#[103,115,117,98]⟩:ByteArray)=⟨#[105,110,100,101,120]⟩ by decide)];rw [if_neg (show ¬(⟨#[103,115,117,98]⟩:ByteArray)=⟨#[117,112,112,101,114]⟩ by decide)];rw [if_pos rfl]
 rw [e]
 clear e hg hi
 generalize gg L g r1=x at *
 obtain⟨y,q⟩:=x
 dsimp only at f2
 cases f2 with
 | mk m1 m2 m3 m4 _ _ _ _ =>
 refine az func93 rfl rfl ?_
 unfold df at *
 (try dsimp only at c1 c2 ⊢)
 repeat' (first|(apply ay;first|refine ak ?_|refine ai ?_|refine aF 0 (c1) ?_|refine aC ?_|refine bJ ?_|refine au ?_)|refine aj ?_|refine ab ?_|refine aa fun C=>?_|refine ac ?_|refine ah ?_)
 refine ae rqf (fun hC=>absurd (aV hC) (by decide)) fun hC=>?_
 repeat' (first|(apply ay;first|refine ai ?_|refine aC ?_)|refine aj ?_|refine ab ?_|refine aa fun C=>?_|refine ac ?_)
 refine ae rqf (fun hC=>absurd (aV hC) (by decide)) fun hC=>?_
 repeat' (first|(apply ay;first|refine ai ?_|refine aC ?_)|refine aj ?_|refine ab ?_|refine aa fun C=>?_|refine ac ?_)
 refine ae rqf (fun hC=>absurd (aV hC) (by decide)) fun hC=>?_
 repeat' (first|(apply ay;first|refine ai ?_|refine aC ?_)|refine aj ?_|refine ab ?_|refine aa fun C=>?_|refine ac ?_)
 refine ae rqf (fun hC=>absurd (aV hC) (by decide)) fun hC=>?_
 repeat' (first|(apply ay;first|refine ai ?_|refine aC ?_)|refine aj ?_|refine ab ?_|refine aa fun C=>?_|refine ac ?_)
 refine ae rqf (fun hC=>absurd (aV hC) (by decide)) fun hC=>?_
 repeat' (first|(apply ay;first|refine ai ?_|refine aC ?_)|refine aj ?_|refine ab ?_|refine aa fun C=>?_|refine ac ?_)
 refine ae rqf (fun hC=>absurd (aV hC) (by decide)) fun hC=>?_
 repeat' (first|(apply ay;first|refine ai ?_|refine aC ?_)|refine aj ?_|refine ab ?_|refine aa fun C=>?_|refine ac ?_)
 refine ae rqf (fun hC=>?_) fun hC=>absurd rfl (gA hC)
 repeat' (first|(apply ay;first|refine ak ?_|refine aF 0 (c2) ?_|refine bh ?_)|refine aj ?_|refine ab ?_|refine aa fun C=>?_|refine ac ?_)
 exact fY
theorem uQ {L:List T3}(hL:L.length≤2000)(hok:okL L){f:Nat}(hf:f≤21)(hf1:1≤f){g:RS→E×RS}(hg:GS L f g)(hi:HS L f g){r r1:RS}{k n:Int}{ts:ByteArray}(c1:Ctr prog 92 [.c (.pt 0 0),.c (.v (.int .i64 2))] [df L r] (.ag [.v (.int .i64 k),.v (.int .i64 n),.v (.string ts)]) [df L r1])(ha:r1.a≤L.length)(hd:21≤f+r1.d)(hd2:r1.d≤20)(h0:ts≠⟨#[110,114]⟩)(h1:ts≠⟨#[110,102]⟩)(h2:ts≠⟨#[108,101,110,103,116,104]⟩)(h3:ts≠⟨#[115,117,98,115,116,114]⟩)(h4:ts≠⟨#[105,110,100,101,120]⟩)(h5:ts≠⟨#[117,112,112,101,114]⟩)(h6:ts≠⟨#[103,115,117,98]⟩) :
 Ctr prog 93 [.c (.pt 0 0)] [df L r] (.ag (owE (cG L g ts r1).1)) [df L (cG L g ts r1).2]:=by
 have c3:=zf3 hL (r:=r1) 5 ⟨#[40]⟩
 have c4:=nf hL (r:=r1) 5 ⟨#[91]⟩
 have e:cG L g ts r1=if gF L r1 5 ⟨#[40]⟩=true then (xE 11 0 ts (cL L g (-1) r1).1,(cL L g (-1) r1).2) else if gF L r1 5 ⟨#[91]⟩=true then (xE 4 0 ts [(g r1.up).1],mkS L (g r1.up).2 ⟨#[93]⟩) else (xE 3 0 ts [],r1):=by
  unfold cG
  rw [if_neg h0];rw [if_neg h1];rw [if_neg h2];rw [if_neg h3];rw [if_neg h4];rw [if_neg h5];rw [if_neg h6]
 rw [e]
 clear e
 cases hs1:gF L r1 5 ⟨#[40]⟩ with
 | true =>
  rw [if_pos rfl]
  rw [hs1] at c3
  have c2:=mP hL hf hf1 hg hi (-1) ha hd hd2
  clear c4 hg hi
  generalize cL L g (-1) r1=x at *
  obtain⟨l,q⟩:=x
  refine az func93 rfl rfl ?_
  unfold df at *
  (try dsimp only at c1 c2 c3 ⊢)
  repeat' (first|(apply ay;first|refine ak ?_|refine ai ?_|refine aF 0 (c1) ?_|refine aC ?_|refine bJ ?_|refine au ?_)|refine aj ?_|refine ab ?_|refine aa fun C=>?_|refine ac ?_|refine ah ?_)
  refine ae rqf (fun hC=>absurd (aV hC) h0) fun hC=>?_
  repeat' (first|(apply ay;first|refine ai ?_|refine aC ?_)|refine aj ?_|refine ab ?_|refine aa fun C=>?_|refine ac ?_)
  refine ae rqf (fun hC=>absurd (aV hC) h1) fun hC=>?_
  repeat' (first|(apply ay;first|refine ai ?_|refine aC ?_)|refine aj ?_|refine ab ?_|refine aa fun C=>?_|refine ac ?_)
  refine ae rqf (fun hC=>absurd (aV hC) h2) fun hC=>?_
  repeat' (first|(apply ay;first|refine ai ?_|refine aC ?_)|refine aj ?_|refine ab ?_|refine aa fun C=>?_|refine ac ?_)
  refine ae rqf (fun hC=>absurd (aV hC) h3) fun hC=>?_
  repeat' (first|(apply ay;first|refine ai ?_|refine aC ?_)|refine aj ?_|refine ab ?_|refine aa fun C=>?_|refine ac ?_)
  refine ae rqf (fun hC=>absurd (aV hC) h4) fun hC=>?_
  repeat' (first|(apply ay;first|refine ai ?_|refine aC ?_)|refine aj ?_|refine ab ?_|refine aa fun C=>?_|refine ac ?_)
  refine ae rqf (fun hC=>absurd (aV hC) h5) fun hC=>?_
  repeat' (first|(apply ay;first|refine ai ?_|refine aC ?_)|refine aj ?_|refine ab ?_|refine aa fun C=>?_|refine ac ?_)
  refine ae rqf (fun hC=>absurd (aV hC) h6) fun hC=>?_
  repeat' (first|(apply ay;first|refine ak ?_|refine aF 0 (c3) ?_)|refine aj ?_|refine ab ?_|refine aa fun C=>?_|refine ac ?_|refine al ?_)
  repeat' (first|(apply ay;first|refine ak ?_|refine aF 0 (c2) ?_|refine bh ?_|refine au ?_)|refine aj ?_|refine ab ?_|refine aa fun C=>?_|refine ac ?_|refine aq rfl ?_)
  exact fY
 | false =>
  rw [if_neg (by simp)]
  rw [hs1] at c3
  unfold isS at c4
  cases hs2:gF L r1 5 ⟨#[91]⟩ with
  | true =>
   have hlt:=(oM hs2).2.1
   rw [if_pos rfl]
   rw [hs2,if_pos rfl] at c4
   have hua:r1.up.a=r1.a+1∧r1.up.d=r1.d:=⟨rfl,rfl⟩
   have g1:=hg r1.up omq
   have k2:=hi r1.up omq omq hf1 omq
   have f1:=g1.fine
   clear g1 hg hi
   generalize g r1.up=x1 at *
   obtain⟨y1,q1⟩:=x1
   (try dsimp only at *)
   have k7:=fX hL (r:=q1) ⟨#[93]⟩
   generalize mkS L q1 ⟨#[93]⟩=r6 at *
   cases f1 with
   | mk m1 m2 m3 m4 _ _ _ _ =>
   refine az func93 rfl rfl ?_
   unfold df at *
   (try dsimp only at c1 c3 c4 k2 k7 ⊢)
   repeat' (first|(apply ay;first|refine ak ?_|refine ai ?_|refine aF 0 (c1) ?_|refine aC ?_|refine bJ ?_|refine au ?_)|refine aj ?_|refine ab ?_|refine aa fun C=>?_|refine ac ?_|refine ah ?_)
   refine ae rqf (fun hC=>absurd (aV hC) h0) fun hC=>?_
   repeat' (first|(apply ay;first|refine ai ?_|refine aC ?_)|refine aj ?_|refine ab ?_|refine aa fun C=>?_|refine ac ?_)
   refine ae rqf (fun hC=>absurd (aV hC) h1) fun hC=>?_
   repeat' (first|(apply ay;first|refine ai ?_|refine aC ?_)|refine aj ?_|refine ab ?_|refine aa fun C=>?_|refine ac ?_)
   refine ae rqf (fun hC=>absurd (aV hC) h2) fun hC=>?_
   repeat' (first|(apply ay;first|refine ai ?_|refine aC ?_)|refine aj ?_|refine ab ?_|refine aa fun C=>?_|refine ac ?_)
   refine ae rqf (fun hC=>absurd (aV hC) h3) fun hC=>?_
   repeat' (first|(apply ay;first|refine ai ?_|refine aC ?_)|refine aj ?_|refine ab ?_|refine aa fun C=>?_|refine ac ?_)
   refine ae rqf (fun hC=>absurd (aV hC) h4) fun hC=>?_
   repeat' (first|(apply ay;first|refine ai ?_|refine aC ?_)|refine aj ?_|refine ab ?_|refine aa fun C=>?_|refine ac ?_)
   refine ae rqf (fun hC=>absurd (aV hC) h5) fun hC=>?_
   repeat' (first|(apply ay;first|refine ai ?_|refine aC ?_)|refine aj ?_|refine ab ?_|refine aa fun C=>?_|refine ac ?_)
   refine ae rqf (fun hC=>absurd (aV hC) h6) fun hC=>?_
   repeat' (first|(apply ay;first|refine ak ?_|refine aF 0 (c3) ?_)|refine aj ?_|refine ab ?_|refine aa fun C=>?_|refine ac ?_|refine al ?_)
   repeat' (first|(apply ay;first|refine ak ?_|refine bM ?_|refine aF 0 (c4) ?_|refine aF 0 (k7) ?_|refine aF 0 (k2) ?_|refine bh ?_|refine bJ ?_|refine dT ?_|refine au ?_)|refine aj ?_|refine ab ?_|refine aa fun C=>?_|refine ac ?_|refine al ?_|refine aq rfl ?_|refine ar rfl ?_)
   refine bc (dU (i:=53) (j:=4900) rfl rfl rfl (pre:=[_,_,_]) (post:=[]) rfl) ?_
   exact fY
  | false =>
   rw [if_neg (by simp)]
   rw [hs2,if_neg (by simp)] at c4
   clear hg hi
   have k8:=yf (s:=ts)
   refine az func93 rfl rfl ?_
   unfold df at *
   (try dsimp only at c1 c3 c4 ⊢)
   repeat' (first|(apply ay;first|refine ak ?_|refine ai ?_|refine aF 0 (c1) ?_|refine aC ?_|refine bJ ?_|refine au ?_)|refine aj ?_|refine ab ?_|refine aa fun C=>?_|refine ac ?_|refine ah ?_)
   refine ae rqf (fun hC=>absurd (aV hC) h0) fun hC=>?_
   repeat' (first|(apply ay;first|refine ai ?_|refine aC ?_)|refine aj ?_|refine ab ?_|refine aa fun C=>?_|refine ac ?_)
   refine ae rqf (fun hC=>absurd (aV hC) h1) fun hC=>?_
   repeat' (first|(apply ay;first|refine ai ?_|refine aC ?_)|refine aj ?_|refine ab ?_|refine aa fun C=>?_|refine ac ?_)
   refine ae rqf (fun hC=>absurd (aV hC) h2) fun hC=>?_
   repeat' (first|(apply ay;first|refine ai ?_|refine aC ?_)|refine aj ?_|refine ab ?_|refine aa fun C=>?_|refine ac ?_)
   refine ae rqf (fun hC=>absurd (aV hC) h3) fun hC=>?_
   repeat' (first|(apply ay;first|refine ai ?_|refine aC ?_)|refine aj ?_|refine ab ?_|refine aa fun C=>?_|refine ac ?_)
   refine ae rqf (fun hC=>absurd (aV hC) h4) fun hC=>?_
   repeat' (first|(apply ay;first|refine ai ?_|refine aC ?_)|refine aj ?_|refine ab ?_|refine aa fun C=>?_|refine ac ?_)
   refine ae rqf (fun hC=>absurd (aV hC) h5) fun hC=>?_
   repeat' (first|(apply ay;first|refine ai ?_|refine aC ?_)|refine aj ?_|refine ab ?_|refine aa fun C=>?_|refine ac ?_)
   refine ae rqf (fun hC=>absurd (aV hC) h6) fun hC=>?_
   repeat' (first|(apply ay;first|refine ak ?_|refine aF 0 (c3) ?_)|refine aj ?_|refine ab ?_|refine aa fun C=>?_|refine ac ?_|refine al ?_)
   repeat' (first|(apply ay;first|refine ak ?_|refine aF 0 (c4) ?_|refine db k8 ?_|refine bh ?_)|refine aj ?_|refine ab ?_|refine aa fun C=>?_|refine ac ?_|refine al ?_|refine ar rfl ?_)
   exact fY
theorem yj {L:List T3}(hL:L.length≤2000)(hok:okL L){f:Nat}(hf:f≤21)(hf1:1≤f){g:RS→E×RS}(hg:GS L f g)(hi:HS L f g){r:RS}(ha:r.a≤L.length)(hd:21≤f+r.d)(hd2:r.d≤20) :
 Ctr prog 93 [.c (.pt 0 0)] [df L r] (.ag (owE (cG L g (bQ L r 2).1.2.2 (bQ L r 2).2).1)) [df L (cG L g (bQ L r 2).1.2.2 (bQ L r 2).2).2]:=by
 have c1:=jq hL (r:=r) 2
 have hn:=ii hok 2 ha
 have hna:(bQ L r 2).2.a≤L.length:=hn.2.2.1
 have hnd:21≤f+(bQ L r 2).2.d:=by omega
 have hnd2:(bQ L r 2).2.d≤20:=by omega
 generalize bQ L r 2=x at *
 obtain⟨⟨k,n,ts⟩,r1⟩:=x
 (try dsimp only at *)
 by_cases h0:ts=⟨#[110,114]⟩
 ·subst h0;exact zb1 hL hok hf hf1 hg hi c1 hna hnd hnd2
 by_cases h1:ts=⟨#[110,102]⟩
 ·subst h1;exact zc1 hL hok hf hf1 hg hi c1 hna hnd hnd2
 by_cases h2:ts=⟨#[108,101,110,103,116,104]⟩
 ·subst h2;exact p8 hL hok hf hf1 hg hi c1 hna hnd hnd2
 by_cases h3:ts=⟨#[115,117,98,115,116,114]⟩
 ·subst h3;exact p9 hL hok hf hf1 hg hi c1 hna hnd hnd2
 by_cases h4:ts=⟨#[105,110,100,101,120]⟩
 ·subst h4;exact rz hL hok hf hf1 hg hi c1 hna hnd hnd2
 by_cases h5:ts=⟨#[117,112,112,101,114]⟩
 ·subst h5;exact rA hL hok hf hf1 hg hi c1 hna hnd hnd2
 by_cases h6:ts=⟨#[103,115,117,98]⟩
 ·subst h6;exact uP hL hok hf hf1 hg hi c1 hna hnd hnd2
 exact uQ hL hok hf hf1 hg hi c1 hna hnd hnd2 h0 h1 h2 h3 h4 h5 h6
end Go.Proofs.YtomolhbkdhjofaaGreatDoor
