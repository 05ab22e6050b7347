/- T -/
import Derived.Test.YtomolhbkdhjofaaGreatDoorParXAL
set_option maxHeartbeats 0
set_option maxRecDepth 100000
namespace Go.Proofs.YtomolhbkdhjofaaGreatDoor
open Go.RowKit Go.Proofs.Tryz
theorem xL {L:List T3}{r:RS}{k:Int}{s:ByteArray}(h:(isS L r k s).1=true):(isS L r k s).2=r.up:=by
 unfold isS at h ⊢
 split at h
 ·rename_i hs;rw [if_pos hs]
 ·cases h
theorem xM {L:List T3}(hL:L.length≤2000)(hok:okL L){f:Nat}(hf:f≤21)(hf1:1≤f){g:RS→E×RS}(hg:GS L f g)(hi:HS L f g){r:RS}(ha:r.a≤L.length)(hd:21≤f+r.d)(hd2:r.d≤20) :
 Ctr prog 90 [.c (.pt 0 0)] [cO L r] (.ag (owE (inS L g r).1)) [cO L (inS L g r).2]:=by
 unfold inS
 have g1:=hg r ha
 have k2:=hi r ha hd hf1 omq
 have n1:=g1.n
 have f1:=g1.fine
 clear g1
 generalize g r=x1 at *
 obtain⟨y1,q1⟩:=x1
 (try dsimp only at *)
 have c1:=mA hL (r:=q1) 2 ⟨#[105,110]⟩
 have c2:=mA hL (r:=q1) 5 ⟨#[126]⟩
 cases f1 with
 | mk m1 m2 m3 m4 _ _ _ _ =>
 cases hi1:(isS L q1 2 ⟨#[105,110]⟩).1 with
 | true =>
  have i2:=(is_f L q1 2 ⟨#[105,110]⟩).1 hi1
  rw [if_pos rfl]
  rw [xL hi1] at i2
  rw [hi1,xL hi1] at c1
  clear c2 hg hi
  have k4:=zx5 hL hok (r:=q1.up) omq
  generalize fX L q1.up=x3 at *
  obtain⟨u3,q3⟩:=x3
  (try dsimp only at *)
  have k7:=fy hL (r:=q3) ⟨#[41]⟩
  generalize mkS L q3 ⟨#[41]⟩=r6 at *
  refine ay func90 rfl rfl ?_
  unfold cO at *
  (try dsimp only at c1 k2 k4 k7 ⊢)
  repeat' (first|(apply av;first|refine ak ?_|refine ai ?_|refine ba ?_|refine bL ?_|refine aF 0 (c1) ?_|refine aF 0 (k4) ?_|refine aF 0 (k7) ?_|refine aF 0 (k2) ?_|refine bg ?_|refine bI ?_|refine ec ?_|refine az ?_)|refine aj ?_|refine ab ?_|refine aa fun C=>?_|refine ac ?_|refine ah ?_|refine aq rfl ?_)
  refine a7 (dA (i:=9) (j:=800) rfl rfl rfl (pre:=[_,_,_]) (post:=[]) rfl) ?_
  exact fA
 | false =>
  have e1:=(is_f L q1 2 ⟨#[105,110]⟩).2.1 hi1
  rw [if_neg (by simp)]
  rw [hi1,e1] at c1
  cases hi2:(isS L q1 5 ⟨#[126]⟩).1 with
  | true =>
   rw [if_pos rfl]
   rw [hi2,xL hi2] at c2
   clear hg hi
   have k4:=iO hL (r:=q1.up) 4
   generalize bH L q1.up 4=x3 at *
   obtain⟨⟨u1,u2,u3⟩,q3⟩:=x3
   (try dsimp only at *)
   have k7:=fy hL (r:=q3) ⟨#[41]⟩
   generalize mkS L q3 ⟨#[41]⟩=r6 at *
   refine ay func90 rfl rfl ?_
   unfold cO at *
   (try dsimp only at c1 c2 k2 k4 k7 ⊢)
   repeat' (first|(apply av;first|refine ak ?_|refine ai ?_|refine ba ?_|refine bL ?_|refine aF 0 (c1) ?_|refine aF 0 (c2) ?_|refine aF 0 (k4) ?_|refine aF 0 (k7) ?_|refine aF 0 (k2) ?_|refine bg ?_|refine bI ?_|refine ec ?_|refine az ?_)|refine aj ?_|refine ab ?_|refine aa fun C=>?_|refine ac ?_|refine ah ?_|refine aq rfl ?_|refine ar rfl ?_)
   refine a7 (dA (i:=9) (j:=800) rfl rfl rfl (pre:=[_,_,_]) (post:=[]) rfl) ?_
   exact fA
  | false =>
   have e2:=(is_f L q1 5 ⟨#[126]⟩).2.1 hi2
   rw [if_neg (by simp)]
   rw [hi2,e2] at c2
   have k4:=iO hL (r:=q1) 5
   have t3:=gF hok 5 (r:=q1) omq
   generalize bH L q1 5=x3 at *
   obtain⟨⟨u1,u2,u3⟩,q3⟩:=x3
   (try dsimp only at *)
   have g5:=hg q3 omq
   have k6:=hi q3 omq omq hf1 omq
   have f5:=g5.fine
   clear g5 hg hi
   generalize g q3=x5 at *
   obtain⟨y5,q5⟩:=x5
   (try dsimp only at *)
   have k7:=fy hL (r:=q5) ⟨#[41]⟩
   generalize mkS L q5 ⟨#[41]⟩=r6 at *
   cases f5 with
   | mk h1 h2 h3 h4 _ _ _ _ =>
   refine ay func90 rfl rfl ?_
   unfold cO at *
   (try dsimp only at c1 c2 k2 k4 k6 k7 ⊢)
   repeat' (first|(apply av;first|refine ak ?_|refine ai ?_|refine ba ?_|refine bL ?_|refine aF 0 (c1) ?_|refine aF 0 (c2) ?_|refine aF 0 (k4) ?_|refine aF 0 (k7) ?_|refine aF 0 (k2) ?_|refine aF 0 (k6) ?_|refine ip ?_|refine bg ?_|refine bI ?_|refine ec ?_|refine az ?_)|refine aj ?_|refine ab ?_|refine aa fun C=>?_|refine ac ?_|refine ah ?_|refine ar rfl ?_)
   refine a7 (dA (i:=21) (j:=800) rfl rfl rfl (pre:=[_,_,_]) (post:=[_,_,_,_]) rfl) ?_
   refine a7 (dA (i:=21) (j:=1700) rfl rfl rfl (pre:=[.v (.int .i64 m1),.v (.int .i64 m2),.v (.string m3),.ow 26 m4.length 4 (owL m4),.v (.int .i64 h1),.v (.int .i64 h2),.v (.string h3)]) (post:=[]) rfl) ?_
   exact fA
theorem za6 {L:List T3}(hL:L.length≤2000)(hok:okL L){f:Nat}(hf:f≤21)(hf1:1≤f){g:RS→E×RS}(hg:GS L f g)(hi:HS L f g){r:RS}(ha:r.a≤L.length)(hd:21≤f+r.d)(hd2:r.d≤20) :
 Ctr prog 124 [.c (.pt 0 0)] [cO L r] (.ag (owE (fH L g r).1)) [cO L (fH L g r).2]:=by
 unfold fH
 dsimp only
 have w1:=sH (L:=L) ⟨#[40]⟩ ha
 have k1:=fy hL (r:=r) ⟨#[40]⟩
 generalize mkS L r ⟨#[40]⟩=r1 at *
 have b1:=dJ r1.b
 have g1:=hg r1 omq
 have k2:=hi r1 omq omq hf1 omq
 have n1:=g1.n
 have f1:=g1.fine
 clear g1
 generalize g r1=x1 at *
 obtain⟨y1,q1⟩:=x1
 (try dsimp only at *)
 have w2:=sH (L:=L) (r:=q1) ⟨#[126]⟩ omq
 have k3:=fy hL (r:=q1) ⟨#[126]⟩
 generalize mkS L q1 ⟨#[126]⟩=r2 at *
 have b3:=dJ r2.b
 have t3:=gF hok (r:=r2) 4 omq
 have k4:=iO hL (r:=r2) 4
 generalize bH L r2 4=x3 at *
 obtain⟨⟨u1,u2,u3⟩,q3⟩:=x3
 (try dsimp only at *)
 have b4:=dJ q3.b
 have w4:=sH (L:=L) (r:=q3) ⟨#[44]⟩ omq
 have k5:=fy hL (r:=q3) ⟨#[44]⟩
 generalize mkS L q3 ⟨#[44]⟩=r4 at *
 have g5:=hg r4 omq
 have k6:=hi r4 omq omq hf1 omq
 have f5:=g5.fine
 clear g5 hg hi
 generalize g r4=x5 at *
 obtain⟨y5,q5⟩:=x5
 (try dsimp only at *)
 have k7:=fy hL (r:=q5) ⟨#[41]⟩
 generalize mkS L q5 ⟨#[41]⟩=r6 at *
 cases f1 with
 | mk m1 m2 m3 m4 _ _ _ _ =>
 cases f5 with
 | mk h1 h2 h3 h4 _ _ _ _ =>
 refine ay func124 rfl rfl ?_
 unfold cO at *
 (try dsimp only at k1 k2 k3 k4 k5 k6 k7 ⊢)
 repeat' (first|(apply av;first|refine ak ?_|refine ai ?_|refine bL ?_|refine aF 0 (k1) ?_|refine aF 0 (k3) ?_|refine aF 0 (k5) ?_|refine aF 0 (k7) ?_|refine aF 0 (k4) ?_|refine aF 0 (k2) ?_|refine aF 0 (k6) ?_|refine bg ?_|refine bI ?_|refine ec ?_|refine az ?_)|refine aj ?_|refine ab ?_|refine aa fun C=>?_|refine ac ?_)
 refine a7 (dA (i:=24) (j:=1000) rfl rfl rfl (pre:=[_,_,_]) (post:=[_,_,_,_]) rfl) ?_
 refine a7 (dA (i:=24) (j:=1900) rfl rfl rfl (pre:=[_,_,_,_,_,_,_]) (post:=[]) rfl) ?_
 exact fA
theorem zgQ {L:List T3}(hL:L.length≤2000)(hok:okL L){f:Nat}(hf:f≤21)(hf1:1≤f){g:RS→E×RS}(hg:GS L f g)(hi:HS L f g){r r1:RS}{k n:Int}(c1:Ctr prog 92 [.c (.pt 0 0),.c (.v (.int .i64 2))] [cO L r] (.ag [.v (.int .i64 k),.v (.int .i64 n),.v (.string ⟨#[110,114]⟩)]) [cO L r1])(ha:r1.a≤L.length)(hd:21≤f+r1.d)(hd2:r1.d≤20) :
 Ctr prog 93 [.c (.pt 0 0)] [cO L r] (.ag (owE (cf L g ⟨#[110,114]⟩ r1).1)) [cO L (cf L g ⟨#[110,114]⟩ r1).2]:=by
 have e:cf L g ⟨#[110,114]⟩ r1=(xE 14 0 ByteArray.empty [],r1):=by
  unfold cf
  rw [if_pos rfl]
 rw [e]
 clear e hg hi
 refine ay func93 rfl rfl ?_
 unfold cO at *
 (try dsimp only at c1 ⊢)
 repeat' (first|(apply av;first|refine ak ?_|refine ai ?_|refine aF 0 (c1) ?_|refine aC ?_|refine bI ?_|refine az ?_)|refine aj ?_|refine ab ?_|refine aa fun C=>?_|refine ac ?_|refine ah ?_)
 refine ae (by rfl) (fun hC=>?_) fun hC=>absurd rfl (fS hC)
 repeat' (first|(apply av;first|refine bg ?_|refine az ?_)|refine aj ?_|refine ab ?_|refine aa fun C=>?_|refine ac ?_)
 refine a7 (cR 90000 (i:=2) 26 4 rfl rfl (pre:=[_,_,_]) (post:=[]) rfl) ?_
 exact fA
theorem zhQ {L:List T3}(hL:L.length≤2000)(hok:okL L){f:Nat}(hf:f≤21)(hf1:1≤f){g:RS→E×RS}(hg:GS L f g)(hi:HS L f g){r r1:RS}{k n:Int}(c1:Ctr prog 92 [.c (.pt 0 0),.c (.v (.int .i64 2))] [cO L r] (.ag [.v (.int .i64 k),.v (.int .i64 n),.v (.string ⟨#[110,102]⟩)]) [cO L r1])(ha:r1.a≤L.length)(hd:21≤f+r1.d)(hd2:r1.d≤20) :
 Ctr prog 93 [.c (.pt 0 0)] [cO L r] (.ag (owE (cf L g ⟨#[110,102]⟩ r1).1)) [cO L (cf L g ⟨#[110,102]⟩ r1).2]:=by
 have e:cf L g ⟨#[110,102]⟩ r1=(xE 15 0 ByteArray.empty [],r1):=by
  unfold cf
  rw [if_neg (show ¬(⟨#[110,102]⟩:ByteArray)=⟨#[110,114]⟩ by decide)];rw [if_pos rfl]
 rw [e]
 clear e hg hi
 refine ay func93 rfl rfl ?_
 unfold cO at *
 (try dsimp only at c1 ⊢)
 repeat' (first|(apply av;first|refine ak ?_|refine ai ?_|refine aF 0 (c1) ?_|refine aC ?_|refine bI ?_|refine az ?_)|refine aj ?_|refine ab ?_|refine aa fun C=>?_|refine ac ?_|refine ah ?_)
 refine ae (by rfl) (fun hC=>absurd (aU hC) (by decide)) fun hC=>?_
 repeat' (first|(apply av;first|refine ai ?_|refine aC ?_)|refine aj ?_|refine ab ?_|refine aa fun C=>?_|refine ac ?_)
 refine ae (by rfl) (fun hC=>?_) fun hC=>absurd rfl (fS hC)
 repeat' (first|(apply av;first|refine bg ?_|refine az ?_)|refine aj ?_|refine ab ?_|refine aa fun C=>?_|refine ac ?_)
 refine a7 (cR 90000 (i:=2) 26 4 rfl rfl (pre:=[_,_,_]) (post:=[]) rfl) ?_
 exact fA
theorem pL {L:List T3}(hL:L.length≤2000)(hok:okL L){f:Nat}(hf:f≤21)(hf1:1≤f){g:RS→E×RS}(hg:GS L f g)(hi:HS L f g){r r1:RS}{k n:Int}(c1:Ctr prog 92 [.c (.pt 0 0),.c (.v (.int .i64 2))] [cO L r] (.ag [.v (.int .i64 k),.v (.int .i64 n),.v (.string ⟨#[108,101,110,103,116,104]⟩)]) [cO L r1])(ha:r1.a≤L.length)(hd:21≤f+r1.d)(hd2:r1.d≤20) :
 Ctr prog 93 [.c (.pt 0 0)] [cO L r] (.ag (owE (cf L g ⟨#[108,101,110,103,116,104]⟩ r1).1)) [cO L (cf L g ⟨#[108,101,110,103,116,104]⟩ r1).2]:=by
 have c2:=l6 hL hf hf1 hg hi 1 ha hd hd2
 have e:cf L g ⟨#[108,101,110,103,116,104]⟩ r1=(xE 12 0 ByteArray.empty (cv L g 1 r1).1,(cv L g 1 r1).2):=by
  unfold cf
  rw [if_neg (show ¬(⟨#[108,101,110,103,116,104]⟩:ByteArray)=⟨#[110,114]⟩ by decide)];rw [if_neg (show ¬(⟨#[108,101,110,103,116,104]⟩:ByteArray)=⟨#[110,102]⟩ by decide)];rw [if_pos rfl]
 rw [e]
 clear e hg hi
 generalize cv L g 1 r1=x at *
 obtain⟨l,q⟩:=x
 refine ay func93 rfl rfl ?_
 unfold cO at *
 (try dsimp only at c1 c2 ⊢)
 repeat' (first|(apply av;first|refine ak ?_|refine ai ?_|refine aF 0 (c1) ?_|refine aC ?_|refine bI ?_|refine az ?_)|refine aj ?_|refine ab ?_|refine aa fun C=>?_|refine ac ?_|refine ah ?_)
 refine ae (by rfl) (fun hC=>absurd (aU hC) (by decide)) fun hC=>?_
 repeat' (first|(apply av;first|refine ai ?_|refine aC ?_)|refine aj ?_|refine ab ?_|refine aa fun C=>?_|refine ac ?_)
 refine ae (by rfl) (fun hC=>absurd (aU hC) (by decide)) fun hC=>?_
 repeat' (first|(apply av;first|refine ai ?_|refine aC ?_)|refine aj ?_|refine ab ?_|refine aa fun C=>?_|refine ac ?_)
 refine ae (by rfl) (fun hC=>?_) fun hC=>absurd rfl (fS hC)
 repeat' (first|(apply f_w;refine iE 90001 1 (l4 (k:=12)) ?_)|(apply av;first|refine ak ?_|refine aF 0 (c2) ?_|refine bg ?_)|refine aj ?_|refine ab ?_|refine aa fun C=>?_|refine ac ?_)
 exact fA
theorem pM {L:List T3}(hL:L.length≤2000)(hok:okL L){f:Nat}(hf:f≤21)(hf1:1≤f){g:RS→E×RS}(hg:GS L f g)(hi:HS L f g){r r1:RS}{k n:Int}(c1:Ctr prog 92 [.c (.pt 0 0),.c (.v (.int .i64 2))] [cO L r] (.ag [.v (.int .i64 k),.v (.int .i64 n),.v (.string ⟨#[115,117,98,115,116,114]⟩)]) [cO L r1])(ha:r1.a≤L.length)(hd:21≤f+r1.d)(hd2:r1.d≤20) :
 Ctr prog 93 [.c (.pt 0 0)] [cO L r] (.ag (owE (cf L g ⟨#[115,117,98,115,116,114]⟩ r1).1)) [cO L (cf L g ⟨#[115,117,98,115,116,114]⟩ r1).2]:=by
 have c2:=l6 hL hf hf1 hg hi 3 ha hd hd2
 have e:cf L g ⟨#[115,117,98,115,116,114]⟩ r1=(xE 13 0 ByteArray.empty (cv L g 3 r1).1,(cv L g 3 r1).2):=by
  unfold cf
  rw [if_neg (show ¬(⟨#[115,117,98,115,116,114]⟩:ByteArray)=⟨#[110,114]⟩ by decide)];rw [if_neg (show ¬(⟨#[115,117,98,115,116,114]⟩:ByteArray)=⟨#[110,102]⟩ by decide)];rw [if_neg (show ¬(⟨#[115,117,98,115,116,114]⟩:ByteArray)=⟨#[108,101,110,103,116,104]⟩ by decide)];rw [if_pos rfl]
 rw [e]
 clear e hg hi
 generalize cv L g 3 r1=x at *
 obtain⟨l,q⟩:=x
 refine ay func93 rfl rfl ?_
 unfold cO at *
 (try dsimp only at c1 c2 ⊢)
 repeat' (first|(apply av;first|refine ak ?_|refine ai ?_|refine aF 0 (c1) ?_|refine aC ?_|refine bI ?_|refine az ?_)|refine aj ?_|refine ab ?_|refine aa fun C=>?_|refine ac ?_|refine ah ?_)
 refine ae (by rfl) (fun hC=>absurd (aU hC) (by decide)) fun hC=>?_
 repeat' (first|(apply av;first|refine ai ?_|refine aC ?_)|refine aj ?_|refine ab ?_|refine aa fun C=>?_|refine ac ?_)
 refine ae (by rfl) (fun hC=>absurd (aU hC) (by decide)) fun hC=>?_
 repeat' (first|(apply av;first|refine ai ?_|refine aC ?_)|refine aj ?_|refine ab ?_|refine aa fun C=>?_|refine ac ?_)
 refine ae (by rfl) (fun hC=>absurd (aU hC) (by decide)) fun hC=>?_
 repeat' (first|(apply av;first|refine ai ?_|refine aC ?_)|refine aj ?_|refine ab ?_|refine aa fun C=>?_|refine ac ?_)
 refine ae (by rfl) (fun hC=>?_) fun hC=>absurd rfl (fS hC)
 repeat' (first|(apply f_w;refine iE 90001 1 (l4 (k:=13)) ?_)|(apply av;first|refine ak ?_|refine aF 0 (c2) ?_|refine bg ?_)|refine aj ?_|refine ab ?_|refine aa fun C=>?_|refine ac ?_)
 exact fA
theorem q7 {L:List T3}(hL:L.length≤2000)(hok:okL L){f:Nat}(hf:f≤21)(hf1:1≤f){g:RS→E×RS}(hg:GS L f g)(hi:HS L f g){r r1:RS}{k n:Int}(c1:Ctr prog 92 [.c (.pt 0 0),.c (.v (.int .i64 2))] [cO L r] (.ag [.v (.int .i64 k),.v (.int .i64 n),.v (.string ⟨#[105,110,100,101,120]⟩)]) [cO L r1])(ha:r1.a≤L.length)(hd:21≤f+r1.d)(hd2:r1.d≤20) :
 Ctr prog 93 [.c (.pt 0 0)] [cO L r] (.ag (owE (cf L g ⟨#[105,110,100,101,120]⟩ r1).1)) [cO L (cf L g ⟨#[105,110,100,101,120]⟩ r1).2]:=by
 have c2:=l6 hL hf hf1 hg hi 2 ha hd hd2
 have e:cf L g ⟨#[105,110,100,101,120]⟩ r1=(xE 16 0 ByteArray.empty (cv L g 2 r1).1,(cv L g 2 r1).2):=by
  unfold cf
  rw [if_neg (show ¬(⟨#[105,110,100,101,120]⟩:ByteArray)=⟨#[110,114]⟩ by decide)];rw [if_neg (show ¬(⟨#[105,110,100,101,120]⟩:ByteArray)=⟨#[110,102]⟩ by decide)];rw [if_neg (show ¬(⟨#[105,110,100,101,120]⟩:ByteArray)=⟨#[108,101,110,103,116,104]⟩ by decide)];rw [if_neg (show ¬(⟨#[105,110,100,101,120]⟩:ByteArray)=⟨#[115,117,98,115,116,114]⟩ by decide)];rw [if_pos rfl]
 rw [e]
 clear e hg hi
 generalize cv L g 2 r1=x at *
 obtain⟨l,q⟩:=x
 refine ay func93 rfl rfl ?_
 unfold cO at *
 (try dsimp only at c1 c2 ⊢)
 repeat' (first|(apply av;first|refine ak ?_|refine ai ?_|refine aF 0 (c1) ?_|refine aC ?_|refine bI ?_|refine az ?_)|refine aj ?_|refine ab ?_|refine aa fun C=>?_|refine ac ?_|refine ah ?_)
 refine ae (by rfl) (fun hC=>absurd (aU hC) (by decide)) fun hC=>?_
 repeat' (first|(apply av;first|refine ai ?_|refine aC ?_)|refine aj ?_|refine ab ?_|refine aa fun C=>?_|refine ac ?_)
 refine ae (by rfl) (fun hC=>absurd (aU hC) (by decide)) fun hC=>?_
 repeat' (first|(apply av;first|refine ai ?_|refine aC ?_)|refine aj ?_|refine ab ?_|refine aa fun C=>?_|refine ac ?_)
 refine ae (by rfl) (fun hC=>absurd (aU hC) (by decide)) fun hC=>?_
 repeat' (first|(apply av;first|refine ai ?_|refine aC ?_)|refine aj ?_|refine ab ?_|refine aa fun C=>?_|refine ac ?_)
 refine ae (by rfl) (fun hC=>absurd (aU hC) (by decide)) fun hC=>?_
 repeat' (first|(apply av;first|refine ai ?_|refine aC ?_)|refine aj ?_|refine ab ?_|refine aa fun C=>?_|refine ac ?_)
 refine ae (by rfl) (fun hC=>?_) fun hC=>absurd rfl (fS hC)
 repeat' (first|(apply f_w;refine iE 90001 1 (l4 (k:=16)) ?_)|(apply av;first|refine ak ?_|refine aF 0 (c2) ?_|refine bg ?_)|refine aj ?_|refine ab ?_|refine aa fun C=>?_|refine ac ?_)
 exact fA
theorem q8 {L:List T3}(hL:L.length≤2000)(hok:okL L){f:Nat}(hf:f≤21)(hf1:1≤f){g:RS→E×RS}(hg:GS L f g)(hi:HS L f g){r r1:RS}{k n:Int}(c1:Ctr prog 92 [.c (.pt 0 0),.c (.v (.int .i64 2))] [cO L r] (.ag [.v (.int .i64 k),.v (.int .i64 n),.v (.string ⟨#[117,112,112,101,114]⟩)]) [cO L r1])(ha:r1.a≤L.length)(hd:21≤f+r1.d)(hd2:r1.d≤20) :
 Ctr prog 93 [.c (.pt 0 0)] [cO L r] (.ag (owE (cf L g ⟨#[117,112,112,101,114]⟩ r1).1)) [cO L (cf L g ⟨#[117,112,112,101,114]⟩ r1).2]:=by
 have c2:=l6 hL hf hf1 hg hi 1 ha hd hd2
 have e:cf L g ⟨#[117,112,112,101,114]⟩ r1=(xE 17 0 ByteArray.empty (cv L g 1 r1).1,(cv L g 1 r1).2):=by
  unfold cf
  rw [if_neg (show ¬(⟨#[117,112,112,101,114]⟩:ByteArray)=⟨#[110,114]⟩ by decide)];rw [if_neg (show ¬(⟨#[117,112,112,101,114]⟩:ByteArray)=⟨#[110,102]⟩ by decide)];rw [if_neg (show ¬(⟨#[117,112,112,101,114]⟩:ByteArray)=⟨#[108,101,110,103,116,104]⟩ by decide)];rw [if_neg (show ¬(⟨#[117,112,112,101,114]⟩:ByteArray)=⟨#[115,117,98,115,116,114]⟩ by decide)];rw [if_neg (show ¬(⟨#[117,112,112,101,114]⟩:ByteArray)=⟨#[105,110,100,101,120]⟩ by decide)];rw [if_pos rfl]
 rw [e]
 clear e hg hi
 generalize cv L g 1 r1=x at *
 obtain⟨l,q⟩:=x
 refine ay func93 rfl rfl ?_
 unfold cO at *
 (try dsimp only at c1 c2 ⊢)
 repeat' (first|(apply av;first|refine ak ?_|refine ai ?_|refine aF 0 (c1) ?_|refine aC ?_|refine bI ?_|refine az ?_)|refine aj ?_|refine ab ?_|refine aa fun C=>?_|refine ac ?_|refine ah ?_)
 refine ae (by rfl) (fun hC=>absurd (aU hC) (by decide)) fun hC=>?_
 repeat' (first|(apply av;first|refine ai ?_|refine aC ?_)|refine aj ?_|refine ab ?_|refine aa fun C=>?_|refine ac ?_)
 refine ae (by rfl) (fun hC=>absurd (aU hC) (by decide)) fun hC=>?_
 repeat' (first|(apply av;first|refine ai ?_|refine aC ?_)|refine aj ?_|refine ab ?_|refine aa fun C=>?_|refine ac ?_)
 refine ae (by rfl) (fun hC=>absurd (aU hC) (by decide)) fun hC=>?_
 repeat' (first|(apply av;first|refine ai ?_|refine aC ?_)|refine aj ?_|refine ab ?_|refine aa fun C=>?_|refine ac ?_)
 refine ae (by rfl) (fun hC=>absurd (aU hC) (by decide)) fun hC=>?_
 repeat' (first|(apply av;first|refine ai ?_|refine aC ?_)|refine aj ?_|refine ab ?_|refine aa fun C=>?_|refine ac ?_)
 refine ae (by rfl) (fun hC=>absurd (aU hC) (by decide)) fun hC=>?_
 repeat' (first|(apply av;first|refine ai ?_|refine aC ?_)|refine aj ?_|refine ab ?_|refine aa fun C=>?_|refine ac ?_)
 refine ae (by rfl) (fun hC=>?_) fun hC=>absurd rfl (fS hC)
 repeat' (first|(apply f_w;refine iE 90001 1 (l4 (k:=17)) ?_)|(apply av;first|refine ak ?_|refine aF 0 (c2) ?_|refine bg ?_)|refine aj ?_|refine ab ?_|refine aa fun C=>?_|refine ac ?_)
 exact fA
theorem tV {L:List T3}(hL:L.length≤2000)(hok:okL L){f:Nat}(hf:f≤21)(hf1:1≤f){g:RS→E×RS}(hg:GS L f g)(hi:HS L f g){r r1:RS}{k n:Int}(c1:Ctr prog 92 [.c (.pt 0 0),.c (.v (.int .i64 2))] [cO L r] (.ag [.v (.int .i64 k),.v (.int .i64 n),.v (.string ⟨#[103,115,117,98]⟩)]) [cO L r1])(ha:r1.a≤L.length)(hd:21≤f+r1.d)(hd2:r1.d≤20) :
 Ctr prog 93 [.c (.pt 0 0)] [cO L r] (.ag (owE (cf L g ⟨#[103,115,117,98]⟩ r1).1)) [cO L (cf L g ⟨#[103,115,117,98]⟩ r1).2]:=by
 have c2:=za6 hL hok hf hf1 hg hi ha hd hd2
 have f2:=(xH hok hg ha).1
 have e:cf L g ⟨#[103,115,117,98]⟩ r1=fH L g r1:=by
  unfold cf
  rw [if_neg (show ¬(⟨#[103,115,117,98]⟩:ByteArray)=⟨#[110,114]⟩ by decide)];rw [if_neg (show ¬(⟨#[103,115,117,98]⟩:ByteArray)=⟨#[110,102]⟩ by decide)];rw [if_neg (show ¬(⟨#[103,115,117,98]⟩:ByteArray)=⟨#[108,101,110,103,116,104]⟩ by decide)];rw [if_neg (show ¬(⟨#[103,115,117,98]⟩:ByteArray)=⟨#[115,117,98,115,116,114]⟩ by decide)];rw [if_neg (show ¬(⟨#[103,115,117,98]⟩:ByteArray)=⟨#[105,110,100,101,120]⟩ by decide)];rw [if_neg (show ¬(⟨#[103,115,117,98]⟩:ByteArray)=⟨#[117,112,112,101,114]⟩ by decide)];rw [if_pos rfl]
 rw [e]
 clear e hg hi
 generalize fH L g r1=x at *
 obtain⟨y,q⟩:=x
 dsimp only at f2
 cases f2 with
 | mk m1 m2 m3 m4 _ _ _ _ =>
 refine ay func93 rfl rfl ?_
 unfold cO at *
 (try dsimp only at c1 c2 ⊢)
 repeat' (first|(apply av;first|refine ak ?_|refine ai ?_|refine aF 0 (c1) ?_|refine aC ?_|refine bI ?_|refine az ?_)|refine aj ?_|refine ab ?_|refine aa fun C=>?_|refine ac ?_|refine ah ?_)
 refine ae (by rfl) (fun hC=>absurd (aU hC) (by decide)) fun hC=>?_
 repeat' (first|(apply av;first|refine ai ?_|refine aC ?_)|refine aj ?_|refine ab ?_|refine aa fun C=>?_|refine ac ?_)
 refine ae (by rfl) (fun hC=>absurd (aU hC) (by decide)) fun hC=>?_
 repeat' (first|(apply av;first|refine ai ?_|refine aC ?_)|refine aj ?_|refine ab ?_|refine aa fun C=>?_|refine ac ?_)
 refine ae (by rfl) (fun hC=>absurd (aU hC) (by decide)) fun hC=>?_
 repeat' (first|(apply av;first|refine ai ?_|refine aC ?_)|refine aj ?_|refine ab ?_|refine aa fun C=>?_|refine ac ?_)
 refine ae (by rfl) (fun hC=>absurd (aU hC) (by decide)) fun hC=>?_
 repeat' (first|(apply av;first|refine ai ?_|refine aC ?_)|refine aj ?_|refine ab ?_|refine aa fun C=>?_|refine ac ?_)
 refine ae (by rfl) (fun hC=>absurd (aU hC) (by decide)) fun hC=>?_
 repeat' (first|(apply av;first|refine ai ?_|refine aC ?_)|refine aj ?_|refine ab ?_|refine aa fun C=>?_|refine ac ?_)
 refine ae (by rfl) (fun hC=>absurd (aU hC) (by decide)) fun hC=>?_
 repeat' (first|(apply av;first|refine ai ?_|refine aC ?_)|refine aj ?_|refine ab ?_|refine aa fun C=>?_|refine ac ?_)
 refine ae (by rfl) (fun hC=>?_) fun hC=>absurd rfl (fS hC)
 repeat' (first|(apply av;first|refine ak ?_|refine aF 0 (c2) ?_|refine bg ?_)|refine aj ?_|refine ab ?_|refine aa fun C=>?_|refine ac ?_)
 exact fA
theorem tW {L:List T3}(hL:L.length≤2000)(hok:okL L){f:Nat}(hf:f≤21)(hf1:1≤f){g:RS→E×RS}(hg:GS L f g)(hi:HS L f g){r r1:RS}{k n:Int}{ts:ByteArray}(c1:Ctr prog 92 [.c (.pt 0 0),.c (.v (.int .i64 2))] [cO L r] (.ag [.v (.int .i64 k),.v (.int .i64 n),.v (.string ts)]) [cO L r1])(ha:r1.a≤L.length)(hd:21≤f+r1.d)(hd2:r1.d≤20)(h0:ts≠⟨#[110,114]⟩)(h1:ts≠⟨#[110,102]⟩)(h2:ts≠⟨#[108,101,110,103,116,104]⟩)(h3:ts≠⟨#[115,117,98,115,116,114]⟩)(h4:ts≠⟨#[105,110,100,101,120]⟩)(h5:ts≠⟨#[117,112,112,101,114]⟩)(h6:ts≠⟨#[103,115,117,98]⟩) :
 Ctr prog 93 [.c (.pt 0 0)] [cO L r] (.ag (owE (cf L g ts r1).1)) [cO L (cf L g ts r1).2]:=by
 have c3:=zl2 hL (r:=r1) 5 ⟨#[40]⟩
 have c4:=mA hL (r:=r1) 5 ⟨#[91]⟩
 have e:cf L g ts r1=if fW L r1 5 ⟨#[40]⟩=true then (xE 11 0 ts (cv L g (-1) r1).1,(cv L g (-1) r1).2) else if fW L r1 5 ⟨#[91]⟩=true then (xE 4 0 ts [(g r1.up).1],mkS L (g r1.up).2 ⟨#[93]⟩) else (xE 3 0 ts [],r1):=by
  unfold cf
  rw [if_neg h0];rw [if_neg h1];rw [if_neg h2];rw [if_neg h3];rw [if_neg h4];rw [if_neg h5];rw [if_neg h6]
 rw [e]
 clear e
 cases hs1:fW L r1 5 ⟨#[40]⟩ with
 | true =>
  rw [if_pos rfl]
  rw [hs1] at c3
  have c2:=l6 hL hf hf1 hg hi (-1) ha hd hd2
  clear c4 hg hi
  generalize cv L g (-1) r1=x at *
  obtain⟨l,q⟩:=x
  refine ay func93 rfl rfl ?_
  unfold cO at *
  (try dsimp only at c1 c2 c3 ⊢)
  repeat' (first|(apply av;first|refine ak ?_|refine ai ?_|refine aF 0 (c1) ?_|refine aC ?_|refine bI ?_|refine az ?_)|refine aj ?_|refine ab ?_|refine aa fun C=>?_|refine ac ?_|refine ah ?_)
  refine ae (by rfl) (fun hC=>absurd (aU hC) h0) fun hC=>?_
  repeat' (first|(apply av;first|refine ai ?_|refine aC ?_)|refine aj ?_|refine ab ?_|refine aa fun C=>?_|refine ac ?_)
  refine ae (by rfl) (fun hC=>absurd (aU hC) h1) fun hC=>?_
  repeat' (first|(apply av;first|refine ai ?_|refine aC ?_)|refine aj ?_|refine ab ?_|refine aa fun C=>?_|refine ac ?_)
  refine ae (by rfl) (fun hC=>absurd (aU hC) h2) fun hC=>?_
  repeat' (first|(apply av;first|refine ai ?_|refine aC ?_)|refine aj ?_|refine ab ?_|refine aa fun C=>?_|refine ac ?_)
  refine ae (by rfl) (fun hC=>absurd (aU hC) h3) fun hC=>?_
  repeat' (first|(apply av;first|refine ai ?_|refine aC ?_)|refine aj ?_|refine ab ?_|refine aa fun C=>?_|refine ac ?_)
  refine ae (by rfl) (fun hC=>absurd (aU hC) h4) fun hC=>?_
  repeat' (first|(apply av;first|refine ai ?_|refine aC ?_)|refine aj ?_|refine ab ?_|refine aa fun C=>?_|refine ac ?_)
  refine ae (by rfl) (fun hC=>absurd (aU hC) h5) fun hC=>?_
  repeat' (first|(apply av;first|refine ai ?_|refine aC ?_)|refine aj ?_|refine ab ?_|refine aa fun C=>?_|refine ac ?_)
  refine ae (by rfl) (fun hC=>absurd (aU hC) h6) fun hC=>?_
  repeat' (first|(apply av;first|refine ak ?_|refine aF 0 (c3) ?_)|refine aj ?_|refine ab ?_|refine aa fun C=>?_|refine ac ?_|refine al ?_)
  repeat' (first|(apply av;first|refine ak ?_|refine aF 0 (c2) ?_|refine bg ?_|refine az ?_)|refine aj ?_|refine ab ?_|refine aa fun C=>?_|refine ac ?_|refine aq rfl ?_)
  exact fA
 | false =>
  rw [if_neg (by simp)]
  rw [hs1] at c3
  unfold isS at c4
  cases hs2:fW L r1 5 ⟨#[91]⟩ with
  | true =>
   have hlt:=(oe hs2).2.1
   rw [if_pos rfl]
   rw [hs2,if_pos rfl] at c4
   have hua:r1.up.a=r1.a+1∧r1.up.d=r1.d:=⟨rfl,rfl⟩
   have g1:=hg r1.up omq
   have k2:=hi r1.up omq omq hf1 omq
   have f1:=g1.fine
   clear g1 hg hi
   generalize g r1.up=x1 at *
   obtain⟨y1,q1⟩:=x1
   (try dsimp only at *)
   have k7:=fy hL (r:=q1) ⟨#[93]⟩
   generalize mkS L q1 ⟨#[93]⟩=r6 at *
   cases f1 with
   | mk m1 m2 m3 m4 _ _ _ _ =>
   refine ay func93 rfl rfl ?_
   unfold cO at *
   (try dsimp only at c1 c3 c4 k2 k7 ⊢)
   repeat' (first|(apply av;first|refine ak ?_|refine ai ?_|refine aF 0 (c1) ?_|refine aC ?_|refine bI ?_|refine az ?_)|refine aj ?_|refine ab ?_|refine aa fun C=>?_|refine ac ?_|refine ah ?_)
   refine ae (by rfl) (fun hC=>absurd (aU hC) h0) fun hC=>?_
   repeat' (first|(apply av;first|refine ai ?_|refine aC ?_)|refine aj ?_|refine ab ?_|refine aa fun C=>?_|refine ac ?_)
   refine ae (by rfl) (fun hC=>absurd (aU hC) h1) fun hC=>?_
   repeat' (first|(apply av;first|refine ai ?_|refine aC ?_)|refine aj ?_|refine ab ?_|refine aa fun C=>?_|refine ac ?_)
   refine ae (by rfl) (fun hC=>absurd (aU hC) h2) fun hC=>?_
   repeat' (first|(apply av;first|refine ai ?_|refine aC ?_)|refine aj ?_|refine ab ?_|refine aa fun C=>?_|refine ac ?_)
   refine ae (by rfl) (fun hC=>absurd (aU hC) h3) fun hC=>?_
   repeat' (first|(apply av;first|refine ai ?_|refine aC ?_)|refine aj ?_|refine ab ?_|refine aa fun C=>?_|refine ac ?_)
   refine ae (by rfl) (fun hC=>absurd (aU hC) h4) fun hC=>?_
   repeat' (first|(apply av;first|refine ai ?_|refine aC ?_)|refine aj ?_|refine ab ?_|refine aa fun C=>?_|refine ac ?_)
   refine ae (by rfl) (fun hC=>absurd (aU hC) h5) fun hC=>?_
   repeat' (first|(apply av;first|refine ai ?_|refine aC ?_)|refine aj ?_|refine ab ?_|refine aa fun C=>?_|refine ac ?_)
   refine ae (by rfl) (fun hC=>absurd (aU hC) h6) fun hC=>?_
   repeat' (first|(apply av;first|refine ak ?_|refine aF 0 (c3) ?_)|refine aj ?_|refine ab ?_|refine aa fun C=>?_|refine ac ?_|refine al ?_)
   repeat' (first|(apply av;first|refine ak ?_|refine bL ?_|refine aF 0 (c4) ?_|refine aF 0 (k7) ?_|refine aF 0 (k2) ?_|refine bg ?_|refine bI ?_|refine ec ?_|refine az ?_)|refine aj ?_|refine ab ?_|refine aa fun C=>?_|refine ac ?_|refine al ?_|refine aq rfl ?_|refine ar rfl ?_)
   refine a7 (dA (i:=53) (j:=4900) rfl rfl rfl (pre:=[_,_,_]) (post:=[]) rfl) ?_
   exact fA
  | false =>
   rw [if_neg (by simp)]
   rw [hs2,if_neg (by simp)] at c4
   clear hg hi
   have k8:=zw5 (s:=ts)
   refine ay func93 rfl rfl ?_
   unfold cO at *
   (try dsimp only at c1 c3 c4 ⊢)
   repeat' (first|(apply av;first|refine ak ?_|refine ai ?_|refine aF 0 (c1) ?_|refine aC ?_|refine bI ?_|refine az ?_)|refine aj ?_|refine ab ?_|refine aa fun C=>?_|refine ac ?_|refine ah ?_)
   refine ae (by rfl) (fun hC=>absurd (aU hC) h0) fun hC=>?_
   repeat' (first|(apply av;first|refine ai ?_|refine aC ?_)|refine aj ?_|refine ab ?_|refine aa fun C=>?_|refine ac ?_)
   refine ae (by rfl) (fun hC=>absurd (aU hC) h1) fun hC=>?_
   repeat' (first|(apply av;first|refine ai ?_|refine aC ?_)|refine aj ?_|refine ab ?_|refine aa fun C=>?_|refine ac ?_)
   refine ae (by rfl) (fun hC=>absurd (aU hC) h2) fun hC=>?_
   repeat' (first|(apply av;first|refine ai ?_|refine aC ?_)|refine aj ?_|refine ab ?_|refine aa fun C=>?_|refine ac ?_)
   refine ae (by rfl) (fun hC=>absurd (aU hC) h3) fun hC=>?_
   repeat' (first|(apply av;first|refine ai ?_|refine aC ?_)|refine aj ?_|refine ab ?_|refine aa fun C=>?_|refine ac ?_)
   refine ae (by rfl) (fun hC=>absurd (aU hC) h4) fun hC=>?_
   repeat' (first|(apply av;first|refine ai ?_|refine aC ?_)|refine aj ?_|refine ab ?_|refine aa fun C=>?_|refine ac ?_)
   refine ae (by rfl) (fun hC=>absurd (aU hC) h5) fun hC=>?_
   repeat' (first|(apply av;first|refine ai ?_|refine aC ?_)|refine aj ?_|refine ab ?_|refine aa fun C=>?_|refine ac ?_)
   refine ae (by rfl) (fun hC=>absurd (aU hC) h6) fun hC=>?_
   repeat' (first|(apply av;first|refine ak ?_|refine aF 0 (c3) ?_)|refine aj ?_|refine ab ?_|refine aa fun C=>?_|refine ac ?_|refine al ?_)
   repeat' (first|(apply av;first|refine ak ?_|refine aF 0 (c4) ?_|refine dp k8 ?_|refine bg ?_)|refine aj ?_|refine ab ?_|refine aa fun C=>?_|refine ac ?_|refine al ?_|refine ar rfl ?_)
   exact fA
theorem xN {L:List T3}(hL:L.length≤2000)(hok:okL L){f:Nat}(hf:f≤21)(hf1:1≤f){g:RS→E×RS}(hg:GS L f g)(hi:HS L f g){r:RS}(ha:r.a≤L.length)(hd:21≤f+r.d)(hd2:r.d≤20) :
 Ctr prog 93 [.c (.pt 0 0)] [cO L r] (.ag (owE (cf L g (bH L r 2).1.2.2 (bH L r 2).2).1)) [cO L (cf L g (bH L r 2).1.2.2 (bH L r 2).2).2]:=by
 have c1:=iO hL (r:=r) 2
 have hn:=gF hok 2 ha
 have hna:(bH L r 2).2.a≤L.length:=hn.2.2.1
 have hnd:21≤f+(bH L r 2).2.d:=by omega
 have hnd2:(bH L r 2).2.d≤20:=by omega
 generalize bH L r 2=x at *
 obtain⟨⟨k,n,ts⟩,r1⟩:=x
 (try dsimp only at *)
 by_cases h0:ts=⟨#[110,114]⟩
 ·subst h0;exact zgQ hL hok hf hf1 hg hi c1 hna hnd hnd2
 by_cases h1:ts=⟨#[110,102]⟩
 ·subst h1;exact zhQ hL hok hf hf1 hg hi c1 hna hnd hnd2
 by_cases h2:ts=⟨#[108,101,110,103,116,104]⟩
 ·subst h2;exact pL hL hok hf hf1 hg hi c1 hna hnd hnd2
 by_cases h3:ts=⟨#[115,117,98,115,116,114]⟩
 ·subst h3;exact pM hL hok hf hf1 hg hi c1 hna hnd hnd2
 by_cases h4:ts=⟨#[105,110,100,101,120]⟩
 ·subst h4;exact q7 hL hok hf hf1 hg hi c1 hna hnd hnd2
 by_cases h5:ts=⟨#[117,112,112,101,114]⟩
 ·subst h5;exact q8 hL hok hf hf1 hg hi c1 hna hnd hnd2
 by_cases h6:ts=⟨#[103,115,117,98]⟩
 ·subst h6;exact tV hL hok hf hf1 hg hi c1 hna hnd hnd2
 exact tW hL hok hf hf1 hg hi c1 hna hnd hnd2 h0 h1 h2 h3 h4 h5 h6
end Go.Proofs.YtomolhbkdhjofaaGreatDoor
