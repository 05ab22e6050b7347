/- T -/
import Derived.Test.YtomolhbkdhjofaaGreatDoorParXAM
set_option maxHeartbeats 0
set_option maxRecDepth 100000
namespace Go.Proofs.YtomolhbkdhjofaaGreatDoor
open Go.RowKit Go.Proofs.Tryz
theorem zb6 {L:List T3}(hL:L.length≤2000)(hok:okL L){f:Nat}(hf:f≤21)(hf1:1≤f){g:RS→E×RS}(hg:GS L f g)(hi:HS L f g){r:RS}(ha:r.a<L.length)(hb:r.b=false)(hd:21≤f+r.d)(hd2:r.d≤20) :
 Ctr prog 54 [.c (.pt 0 0)] [cO L r] (.ag (owE (dw L g r).1)) [cO L (dw L g r).2]:=by
 have hua:r.up.a=r.a+1∧r.up.d=r.d:=⟨rfl,rfl⟩
 have c1:=mA hL (r:=r) 5 ⟨#[40]⟩
 have c2:=mA hL (r:=r) 5 ⟨#[36]⟩
 have c3:=mA hL (r:=r) 5 ⟨#[33]⟩
 have c4:=mA hL (r:=r) 5 ⟨#[45]⟩
 unfold isS at c1 c2 c3 c4
 unfold dw
 cases s1:fW L r 5 ⟨#[40]⟩ with
 | true =>
  rw [if_pos rfl]
  rw [s1,if_pos rfl] at c1
  have k2:=xM hL hok hf hf1 hg hi (r:=r.up) omq omq omq
  have f2:=(in_PS hok hg (r:=r.up) omq (by show r.b.toNat=0;rw [hb];rfl)).1
  clear c2 c3 c4 hg hi
  generalize inS L g r.up=x at *
  obtain⟨y,q⟩:=x
  dsimp only at f2
  cases f2 with
  | mk m1 m2 m3 m4 _ _ _ _ =>
  refine ay func54 rfl rfl ?_
  unfold cO at *
  (try dsimp only at c1 k2 ⊢)
  repeat' (first|(apply av;first|refine ak ?_|refine ai ?_|refine aF 0 (c1) ?_|refine aF 0 (k2) ?_|refine bg ?_|refine bI ?_)|refine aj ?_|refine ab ?_|refine aa fun C=>?_|refine ac ?_|refine ah ?_|refine aq rfl ?_)
  exact fA
 | false =>
 rw [if_neg (by simp)]
 rw [s1,if_neg (by simp)] at c1
 cases s2:fW L r 5 ⟨#[36]⟩ with
 | true =>
  rw [if_pos rfl]
  rw [s2,if_pos rfl] at c2
  have g1:=hg r.up omq
  have k2:=hi r.up omq omq hf1 omq
  have f1:=g1.fine
  clear g1 hg hi
  generalize g r.up=x at *
  obtain⟨y,q⟩:=x
  dsimp only at f1
  cases f1 with
  | mk m1 m2 m3 m4 _ _ _ _ =>
  refine ay func54 rfl rfl ?_
  unfold cO at *
  (try dsimp only at c1 c2 k2 ⊢)
  repeat' (first|(apply av;first|refine ak ?_|refine ai ?_|refine aF 0 (c1) ?_|refine bI ?_)|refine aj ?_|refine ab ?_|refine aa fun C=>?_|refine ac ?_|refine ah ?_)
  refine ar rfl ?_
  repeat' (first|(apply av;first|refine ak ?_|refine ai ?_|refine aF 0 (c2) ?_)|refine aj ?_|refine ab ?_|refine aa fun C=>?_|refine ac ?_)
  refine aq rfl ?_
  refine ac ?_
  refine iN [0,1,2] [3,4] rfl fun C=>?_
  repeat' (first|(apply av;first|(apply ua;first|refine ak ?_|refine az ?_)|(apply ub;first|refine ai ?_|refine az ?_)|refine ba ?_|refine iG ?_|refine aI ?_|refine dy ?_|refine cS ?_|refine bL ?_|refine ql ?_|refine aF 0 (k2) ?_|refine bg ?_|refine n_sto ?_|(apply qo;first|refine iZ ?_|refine fc ?_|refine az ?_)|(apply td;first|refine ao ?_|refine az ?_)|refine bI ?_|refine ec ?_|refine az ?_)|refine aj ?_|refine ab ?_|(apply dc;first|(apply dx;refine aH ?_)|(apply ki;refine aH ?_)|refine d5 ?_|refine gp ?_|(apply x8;first|refine cg ?_|refine d9 ?_|refine ew ?_|refine gP ?_|refine aH ?_|refine vt ?_)|refine nz 0 (k2) ?_|refine mK ?_|refine o_sto ?_|(apply d_ia;first|refine mo ?_|refine qj ?_|refine aH ?_)|(apply fD;first|refine cP ?_|refine di ?_|refine dC ?_|refine iY ?_|refine aH ?_)|refine rJ ?_|refine vq ?_|refine aH ?_)|refine aj ?_|refine ab ?_)
  refine og (dA (i:=13) (j:=1300) rfl rfl rfl (pre:=[_,_,_]) (post:=[]) rfl) (by decide) ?_
  repeat' (first|(apply f_w;refine iE 90001 1 (l4 (k:=5) (l:=[xE m1 m2 m3 m4])) ?_)|(apply av;first|(apply ua;first|refine ak ?_|refine az ?_)|(apply ub;first|refine ai ?_|refine az ?_)|refine ba ?_|refine iG ?_|refine aI ?_|refine dy ?_|refine cS ?_|refine bL ?_|refine ql ?_|refine bg ?_|refine n_sto ?_|(apply qo;first|refine iZ ?_|refine fc ?_|refine az ?_)|(apply td;first|refine ao ?_|refine az ?_)|refine bI ?_|refine ec ?_|refine az ?_)|refine aj ?_|refine ab ?_|(apply dc;first|(apply dx;refine aH ?_)|(apply ki;refine aH ?_)|refine d5 ?_|refine gp ?_|(apply x8;first|refine cg ?_|refine d9 ?_|refine ew ?_|refine gP ?_|refine aH ?_|refine vt ?_)|refine mK ?_|refine o_sto ?_|(apply d_ia;first|refine mo ?_|refine qj ?_|refine aH ?_)|(apply fD;first|refine cP ?_|refine di ?_|refine dC ?_|refine iY ?_|refine aH ?_)|refine rJ ?_|refine vq ?_|refine aH ?_)|refine aj ?_|refine ab ?_)
  skip
  exact fA
 | false =>
 rw [if_neg (by simp)]
 rw [s2,if_neg (by simp)] at c2
 cases s3:fW L r 5 ⟨#[33]⟩ with
 | true =>
  rw [if_pos rfl]
  rw [s3,if_pos rfl] at c3
  have g1:=hg r.up omq
  have k2:=hi r.up omq omq hf1 omq
  have f1:=g1.fine
  clear g1 hg hi
  generalize g r.up=x at *
  obtain⟨y,q⟩:=x
  dsimp only at f1
  cases f1 with
  | mk m1 m2 m3 m4 _ _ _ _ =>
  refine ay func54 rfl rfl ?_
  unfold cO at *
  (try dsimp only at c1 c2 c3 k2 ⊢)
  repeat' (first|(apply av;first|refine ak ?_|refine ai ?_|refine aF 0 (c1) ?_|refine bI ?_)|refine aj ?_|refine ab ?_|refine aa fun C=>?_|refine ac ?_|refine ah ?_)
  refine ar rfl ?_
  repeat' (first|(apply av;first|refine ak ?_|refine ai ?_|refine aF 0 (c2) ?_)|refine aj ?_|refine ab ?_|refine aa fun C=>?_|refine ac ?_)
  refine ar rfl ?_
  repeat' (first|(apply av;first|refine ak ?_|refine ai ?_|refine aF 0 (c3) ?_)|refine aj ?_|refine ab ?_|refine aa fun C=>?_|refine ac ?_)
  refine aq rfl ?_
  refine ac ?_
  refine iN [0,1,2] [3,4] rfl fun C=>?_
  repeat' (first|(apply av;first|(apply ua;first|refine ak ?_|refine az ?_)|(apply ub;first|refine ai ?_|refine az ?_)|refine ba ?_|refine iG ?_|refine aI ?_|refine dy ?_|refine cS ?_|refine bL ?_|refine ql ?_|refine aF 0 (k2) ?_|refine bg ?_|refine n_sto ?_|(apply qo;first|refine iZ ?_|refine fc ?_|refine az ?_)|(apply td;first|refine ao ?_|refine az ?_)|refine bI ?_|refine ec ?_|refine az ?_)|refine aj ?_|refine ab ?_|(apply dc;first|(apply dx;refine aH ?_)|(apply ki;refine aH ?_)|refine d5 ?_|refine gp ?_|(apply x8;first|refine cg ?_|refine d9 ?_|refine ew ?_|refine gP ?_|refine aH ?_|refine vt ?_)|refine nz 0 (k2) ?_|refine mK ?_|refine o_sto ?_|(apply d_ia;first|refine mo ?_|refine qj ?_|refine aH ?_)|(apply fD;first|refine cP ?_|refine di ?_|refine dC ?_|refine iY ?_|refine aH ?_)|refine rJ ?_|refine vq ?_|refine aH ?_)|refine aj ?_|refine ab ?_)
  refine og (dA (i:=20) (j:=2000) rfl rfl rfl (pre:=[_,_,_]) (post:=[]) rfl) (by decide) ?_
  repeat' (first|(apply f_w;refine iE 90001 1 (l4 (k:=7) (l:=[xE m1 m2 m3 m4])) ?_)|(apply av;first|(apply ua;first|refine ak ?_|refine az ?_)|(apply ub;first|refine ai ?_|refine az ?_)|refine ba ?_|refine iG ?_|refine aI ?_|refine dy ?_|refine cS ?_|refine bL ?_|refine ql ?_|refine bg ?_|refine n_sto ?_|(apply qo;first|refine iZ ?_|refine fc ?_|refine az ?_)|(apply td;first|refine ao ?_|refine az ?_)|refine bI ?_|refine ec ?_|refine az ?_)|refine aj ?_|refine ab ?_|(apply dc;first|(apply dx;refine aH ?_)|(apply ki;refine aH ?_)|refine d5 ?_|refine gp ?_|(apply x8;first|refine cg ?_|refine d9 ?_|refine ew ?_|refine gP ?_|refine aH ?_|refine vt ?_)|refine mK ?_|refine o_sto ?_|(apply d_ia;first|refine mo ?_|refine qj ?_|refine aH ?_)|(apply fD;first|refine cP ?_|refine di ?_|refine dC ?_|refine iY ?_|refine aH ?_)|refine rJ ?_|refine vq ?_|refine aH ?_)|refine aj ?_|refine ab ?_)
  skip
  exact fA
 | false =>
 rw [if_neg (by simp)]
 rw [s3,if_neg (by simp)] at c3
 cases s4:fW L r 5 ⟨#[45]⟩ with
 | true =>
  rw [if_pos rfl]
  rw [s4,if_pos rfl] at c4
  have g1:=hg r.up omq
  have k2:=hi r.up omq omq hf1 omq
  have f1:=g1.fine
  clear g1 hg hi
  generalize g r.up=x at *
  obtain⟨y,q⟩:=x
  dsimp only at f1
  cases f1 with
  | mk m1 m2 m3 m4 _ _ _ _ =>
  refine ay func54 rfl rfl ?_
  unfold cO at *
  (try dsimp only at c1 c2 c3 c4 k2 ⊢)
  repeat' (first|(apply av;first|refine ak ?_|refine ai ?_|refine aF 0 (c1) ?_|refine bI ?_)|refine aj ?_|refine ab ?_|refine aa fun C=>?_|refine ac ?_|refine ah ?_)
  refine ar rfl ?_
  repeat' (first|(apply av;first|refine ak ?_|refine ai ?_|refine aF 0 (c2) ?_)|refine aj ?_|refine ab ?_|refine aa fun C=>?_|refine ac ?_)
  refine ar rfl ?_
  repeat' (first|(apply av;first|refine ak ?_|refine ai ?_|refine aF 0 (c3) ?_)|refine aj ?_|refine ab ?_|refine aa fun C=>?_|refine ac ?_)
  refine ar rfl ?_
  repeat' (first|(apply av;first|refine ak ?_|refine ai ?_|refine aF 0 (c4) ?_)|refine aj ?_|refine ab ?_|refine aa fun C=>?_|refine ac ?_)
  refine aq rfl ?_
  refine ac ?_
  refine iN [0,1,2] [3,4] rfl fun C=>?_
  repeat' (first|(apply av;first|(apply ua;first|refine ak ?_|refine az ?_)|(apply ub;first|refine ai ?_|refine az ?_)|refine ba ?_|refine iG ?_|refine aI ?_|refine dy ?_|refine cS ?_|refine bL ?_|refine ql ?_|refine aF 0 (k2) ?_|refine bg ?_|refine n_sto ?_|(apply qo;first|refine iZ ?_|refine fc ?_|refine az ?_)|(apply td;first|refine ao ?_|refine az ?_)|refine bI ?_|refine ec ?_|refine az ?_)|refine aj ?_|refine ab ?_|(apply dc;first|(apply dx;refine aH ?_)|(apply ki;refine aH ?_)|refine d5 ?_|refine gp ?_|(apply x8;first|refine cg ?_|refine d9 ?_|refine ew ?_|refine gP ?_|refine aH ?_|refine vt ?_)|refine nz 0 (k2) ?_|refine mK ?_|refine o_sto ?_|(apply d_ia;first|refine mo ?_|refine qj ?_|refine aH ?_)|(apply fD;first|refine cP ?_|refine di ?_|refine dC ?_|refine iY ?_|refine aH ?_)|refine rJ ?_|refine vq ?_|refine aH ?_)|refine aj ?_|refine ab ?_)
  refine og (dA (i:=27) (j:=2700) rfl rfl rfl (pre:=[_,_,_]) (post:=[]) rfl) (by decide) ?_
  repeat' (first|(apply f_w;refine iE 90001 1 (l4 (k:=8) (l:=[xE m1 m2 m3 m4])) ?_)|(apply av;first|(apply ua;first|refine ak ?_|refine az ?_)|(apply ub;first|refine ai ?_|refine az ?_)|refine ba ?_|refine iG ?_|refine aI ?_|refine dy ?_|refine cS ?_|refine bL ?_|refine ql ?_|refine bg ?_|refine n_sto ?_|(apply qo;first|refine iZ ?_|refine fc ?_|refine az ?_)|(apply td;first|refine ao ?_|refine az ?_)|refine bI ?_|refine ec ?_|refine az ?_)|refine aj ?_|refine ab ?_|(apply dc;first|(apply dx;refine aH ?_)|(apply ki;refine aH ?_)|refine d5 ?_|refine gp ?_|(apply x8;first|refine cg ?_|refine d9 ?_|refine ew ?_|refine gP ?_|refine aH ?_|refine vt ?_)|refine mK ?_|refine o_sto ?_|(apply d_ia;first|refine mo ?_|refine qj ?_|refine aH ?_)|(apply fD;first|refine cP ?_|refine di ?_|refine dC ?_|refine iY ?_|refine aH ?_)|refine rJ ?_|refine vq ?_|refine aH ?_)|refine aj ?_|refine ab ?_)
  skip
  exact fA
 | false =>
 rw [if_neg (by simp)]
 rw [s4,if_neg (by simp)] at c4
 have hk:=tks_enc' (l:=L)
 have hlen:L.length=(L.map T3.E).length:=(List.length_map ..).symm
 obtain⟨⟨tk,tn,ts⟩,htt⟩:∃t,tAt L r.a=t:=⟨_,rfl⟩
 have hx:=oh ha htt
 rw [htt]
 dsimp only
 by_cases h1:tk=1
 ·subst h1
  rw [if_pos rfl]
  have k2:=iO hL (r:=r) 1
  clear hg hi
  generalize bH L r 1=x at *
  obtain⟨⟨u1,u2,u3⟩,q⟩:=x
  have k3:=zv5 (n:=u2)
  obtain⟨a,b,d⟩:=r
  refine ay func54 rfl rfl ?_
  unfold cO at *
  (try dsimp only at c1 c2 c3 c4 k2 hx ⊢)
  repeat' (first|(apply av;first|refine ak ?_|refine ai ?_|refine aF 0 (c1) ?_|refine bI ?_)|refine aj ?_|refine ab ?_|refine aa fun C=>?_|refine ac ?_|refine ah ?_)
  refine ar rfl ?_
  repeat' (first|(apply av;first|refine ak ?_|refine ai ?_|refine aF 0 (c2) ?_)|refine aj ?_|refine ab ?_|refine aa fun C=>?_|refine ac ?_)
  refine ar rfl ?_
  repeat' (first|(apply av;first|refine ak ?_|refine ai ?_|refine aF 0 (c3) ?_)|refine aj ?_|refine ab ?_|refine aa fun C=>?_|refine ac ?_)
  refine ar rfl ?_
  repeat' (first|(apply av;first|refine ak ?_|refine ai ?_|refine aF 0 (c4) ?_)|refine aj ?_|refine ab ?_|refine aa fun C=>?_|refine ac ?_)
  refine ar rfl ?_
  repeat' (first|(apply av;first|refine ak ?_|refine ai ?_|refine aF 0 (k2) ?_|refine dp k3 ?_|refine bg ?_|refine ao ?_|refine az ?_)|refine aj ?_|refine ab ?_|(apply dc;first|(apply dx;refine aH ?_)|refine d5 ?_|refine gp ?_|refine cg ?_|refine d9 ?_|refine mo ?_|refine aH ?_)|refine aj ?_|refine ab ?_|refine aa fun C=>?_|refine au (by kernel_rfl) (by kernel_rfl) fun C=>?_|refine ac ?_|refine ah ?_|refine al ?_|refine aq rfl ?_)
  exact fA
 rw [if_neg h1]
 have e1:(tk==1)=false:=by simpa using h1
 by_cases h3:tk=3
 ·subst h3
  rw [if_pos rfl]
  have k2:=iO hL (r:=r) 3
  clear hg hi
  generalize bH L r 3=x at *
  obtain⟨⟨u1,u2,u3⟩,q⟩:=x
  obtain⟨a,b,d⟩:=r
  refine ay func54 rfl rfl ?_
  unfold cO at *
  (try dsimp only at c1 c2 c3 c4 k2 hx ⊢)
  repeat' (first|(apply av;first|refine ak ?_|refine ai ?_|refine aF 0 (c1) ?_|refine bI ?_)|refine aj ?_|refine ab ?_|refine aa fun C=>?_|refine ac ?_|refine ah ?_)
  refine ar rfl ?_
  repeat' (first|(apply av;first|refine ak ?_|refine ai ?_|refine aF 0 (c2) ?_)|refine aj ?_|refine ab ?_|refine aa fun C=>?_|refine ac ?_)
  refine ar rfl ?_
  repeat' (first|(apply av;first|refine ak ?_|refine ai ?_|refine aF 0 (c3) ?_)|refine aj ?_|refine ab ?_|refine aa fun C=>?_|refine ac ?_)
  refine ar rfl ?_
  repeat' (first|(apply av;first|refine ak ?_|refine ai ?_|refine aF 0 (c4) ?_)|refine aj ?_|refine ab ?_|refine aa fun C=>?_|refine ac ?_)
  refine ar rfl ?_
  repeat' (first|(apply av;first|refine ak ?_|refine ai ?_|refine aF 0 (k2) ?_|refine bg ?_|refine ao ?_|refine az ?_)|refine aj ?_|refine ab ?_|(apply dc;first|(apply dx;refine aH ?_)|refine d5 ?_|refine gp ?_|refine cg ?_|refine d9 ?_|refine mo ?_|refine aH ?_)|refine aj ?_|refine ab ?_|refine aa fun C=>?_|refine au (by kernel_rfl) (by kernel_rfl) fun C=>?_|refine ac ?_|refine ah ?_|refine al ?_|refine aq rfl ?_|refine ar rfl ?_)
  refine a7 (cR 90000 (i:=2) 26 4 rfl rfl (pre:=[_,_,_]) (post:=[]) rfl) ?_
  exact fA
 rw [if_neg h3]
 have k2:=xN hL hok hf hf1 hg hi (r:=r) omq hd hd2
 have hn:=gF hok 2 (Nat.le_of_lt ha)
 have f2:=(xI hok hg hn.2.2.2.2.1 hn.2.2.1).1
 clear hg hi hn
 generalize cf L g (bH L r 2).1.2.2 (bH L r 2).2=x at *
 obtain⟨y,q⟩:=x
 dsimp only at f2
 cases f2 with
 | mk m1 m2 m3 m4 _ _ _ _ =>
 ·obtain⟨a,b,d⟩:=r
  refine ay func54 rfl rfl ?_
  unfold cO at *
  (try dsimp only at c1 c2 c3 c4 k2 hx ⊢)
  repeat' (first|(apply av;first|refine ak ?_|refine ai ?_|refine aF 0 (c1) ?_|refine bI ?_)|refine aj ?_|refine ab ?_|refine aa fun C=>?_|refine ac ?_|refine ah ?_)
  refine ar rfl ?_
  repeat' (first|(apply av;first|refine ak ?_|refine ai ?_|refine aF 0 (c2) ?_)|refine aj ?_|refine ab ?_|refine aa fun C=>?_|refine ac ?_)
  refine ar rfl ?_
  repeat' (first|(apply av;first|refine ak ?_|refine ai ?_|refine aF 0 (c3) ?_)|refine aj ?_|refine ab ?_|refine aa fun C=>?_|refine ac ?_)
  refine ar rfl ?_
  repeat' (first|(apply av;first|refine ak ?_|refine ai ?_|refine aF 0 (c4) ?_)|refine aj ?_|refine ab ?_|refine aa fun C=>?_|refine ac ?_)
  refine ar rfl ?_
  repeat' (first|(apply av;first|refine ai ?_|refine ao ?_)|refine aj ?_|refine ab ?_|(apply dc;first|(apply dx;refine aH ?_)|refine d5 ?_|refine gp ?_|refine cg ?_|refine d9 ?_|refine mo ?_|refine aH ?_)|refine aj ?_|refine ab ?_|refine aa fun C=>?_|refine au (by kernel_rfl) (by kernel_rfl) fun C=>?_|refine ac ?_|refine ah ?_|refine al ?_)
  refine ae (by rfl) (fun hC=>absurd (eq_of_beq hC) h1) fun hC=>?_
  repeat' (first|(apply av;first|refine ai ?_|refine ao ?_)|refine aj ?_|refine ab ?_|refine aa fun C=>?_|refine ac ?_)
  refine ae (by rfl) (fun hC=>absurd (eq_of_beq hC) h3) fun hC=>?_
  repeat' (first|(apply av;first|refine ak ?_|refine aF 0 (k2) ?_|refine bg ?_)|refine aj ?_|refine ab ?_|refine aa fun C=>?_|refine ac ?_|refine al ?_)
  exact fA
theorem xO {L:List T3}(hL:L.length≤2000)(hok:okL L):∀f:Nat,f≤22→HS L f (exS L f)
 | 0,_,q,ha,hd,hf1,hd2=>absurd hf1 (by decide)
 | f+1,hf,q,ha,hd,hf1,hd2=>by
  have hlen:L.length=(L.map T3.E).length:=(List.length_map ..).symm
  unfold exS
  by_cases hc:20<q.d+1∨q.b=true∨¬q.a<L.length
  ·rw [if_pos hc]
   obtain⟨a,b,d⟩:=q
   (try dsimp only at ha hd hd2 hc ⊢)
   refine ay func30 rfl rfl ?_
   unfold cO
   dsimp only
   cases b with
   | true =>
    repeat' (first|(apply av;first|refine ak ?_|refine ba ?_|refine aI ?_|refine bg ?_|refine aw ?_|refine bI ?_|refine az ?_)|refine aj ?_|refine ab ?_|(apply dc;first|refine fE ?_|(refine fB ?_ ?_<;>intro hG<;>(try cases hG))|(apply dx;refine aH ?_)|refine d5 ?_|refine cg ?_|(apply fD;refine aH ?_)|refine aH ?_)|refine aj ?_|refine ab ?_|refine aa fun C=>?_|refine au (by kernel_rfl) (by kernel_rfl) fun C=>?_|refine ac ?_)
    all_goals
     refine aq rfl ?_
     repeat' (first|(apply av;first|refine ak ?_|refine ba ?_|refine bg ?_|refine az ?_)|refine aj ?_|refine ab ?_|refine aa fun C=>?_|refine ac ?_)
     refine a7 (cR 90000 (i:=2) 26 4 rfl rfl (pre:=[_,_,_]) (post:=[]) rfl) ?_
     exact fA
   | false =>
    repeat' (first|(apply av;first|refine ak ?_|refine ba ?_|refine aI ?_|refine bg ?_|refine aw ?_|refine bI ?_|refine az ?_)|refine aj ?_|refine ab ?_|(apply dc;first|refine fE ?_|(refine fB ?_ ?_<;>intro hG<;>(try cases hG))|(apply dx;refine aH ?_)|refine d5 ?_|refine cg ?_|refine ez ?_|(apply fD;refine aH ?_)|refine aH ?_)|refine aj ?_|refine ab ?_|refine aa fun C=>?_|refine au (by kernel_rfl) (by kernel_rfl) fun C=>?_|refine ac ?_)
    ·refine aq rfl ?_
     repeat' (first|(apply av;first|refine ak ?_|refine ba ?_|refine bg ?_|refine az ?_)|refine aj ?_|refine ab ?_|refine aa fun C=>?_|refine ac ?_)
     refine a7 (cR 90000 (i:=2) 26 4 rfl rfl (pre:=[_,_,_]) (post:=[]) rfl) ?_
     exact fA
    ·refine ae (by rfl) (fun hC=>?_) fun hC=>?_
     ·repeat' (first|(apply av;first|refine ak ?_|refine ba ?_|refine bg ?_|refine az ?_)|refine aj ?_|refine ab ?_|refine aa fun C=>?_|refine ac ?_)
      refine a7 (cR 90000 (i:=2) 26 4 rfl rfl (pre:=[_,_,_]) (post:=[]) rfl) ?_
      exact fA
     ·exfalso
      simp only [decide_eq_false_iff_not] at hC hG
      rcases hc with h|h|h
      ·omega
      ·cases h
      ·omega
  ·rw [if_neg hc]
   have hb:q.b=false:=by cases h:q.b with
    | false=>rfl
    | true=>exact absurd (.inr (.inl h)) hc
   have hlt:q.a<L.length:=Classical.byContradiction fun h=>hc (.inr (.inr h))
   have hdd:¬20<q.d+1:=fun h=>hc (.inl h)
   have ih:=xO hL hok f omq
   have k2:=zb6 hL hok (f:=f) omq omq (sI hok f) ih (r:=⟨q.a,q.b,q.d+1⟩) hlt hb (by dsimp only;omega) (by dsimp only;omega)
   have p2:=xJ hok (sI hok f) (r:=⟨q.a,q.b,q.d+1⟩) ha (by show q.b.toNat=0;rw [hb];rfl)
   have f2:=p2.1
   have n2:=p2.2
   clear p2 ih
   generalize dw L (exS L f) ⟨q.a,q.b,q.d+1⟩=x at *
   obtain⟨y,r2⟩:=x
   obtain⟨a,b,d⟩:=q
   have hb:b=false:=hb
   subst hb
   dsimp only at f2 n2 hlt hdd ha hd hd2
   have hz:((r2.d:Int))-1=((r2.d-1:Nat):Int):=by omega
   cases f2 with
   | mk m1 m2 m3 m4 _ _ _ _ =>
   obtain⟨a2,b2,d2⟩:=r2
   (try dsimp only at n2 hz ⊢)
   rw [show (⟨a2,b2,d2-1⟩:RS)=⟨a2,b2,d2-1⟩ from rfl]
   refine ay func30 rfl rfl ?_
   unfold cO at *
   (try dsimp only at k2 ⊢)
   rw [←hz]
   repeat' (first|(apply av;first|refine ak ?_|refine ba ?_|refine aI ?_|refine bg ?_|refine aw ?_|refine bI ?_|refine az ?_)|refine aj ?_|refine ab ?_|(apply dc;first|refine fE ?_|(refine fB ?_ ?_<;>intro hG<;>(try cases hG))|(apply dx;refine aH ?_)|refine d5 ?_|refine cg ?_|refine ez ?_|(apply fD;refine aH ?_)|refine aH ?_)|refine aj ?_|refine ab ?_|refine aa fun C=>?_|refine au (by kernel_rfl) (by kernel_rfl) fun C=>?_|refine ac ?_)
   ·exfalso;simp only [decide_eq_true_iff] at hG;omega
   ·refine ae (by rfl) (fun hC=>by exfalso;simp only [decide_eq_true_iff] at hC;omega) fun hC=>?_
    repeat' (first|(apply av;first|refine ak ?_|refine ba ?_|refine aI ?_|refine bL ?_|refine aF 0 (k2) ?_|refine bg ?_|refine ed ?_|refine bI ?_|refine az ?_)|refine aj ?_|refine ab ?_|refine aa fun C=>?_|refine ac ?_|refine al ?_)
    exact fA
structure ExtM (M:Nat→Prop)(w w':World)(St:Nat→Prop)(φ:Nat→Lc)(F:Nat→List Nat)(pars:List (List AC))(res:AV)(u:Value)(rows:List (List AC))(St':Nat→Prop)(F':Nat→List Nat)(G:List Nat):Prop where
 frm:Fc M (pX φ pars) w w'
 res:VRF w' St' φ0 K0 res u G
 nodG:G.Nodup
 len:rows.length=pars.length
 row:∀i cs,rows[i]? = some cs→∃b lo vs,φ i=.box b lo∧CRL w' St' φ0 K0 cs vs (F' i)∧BoxAt w' b lo vs∧∃cs0,pars[i]? = some cs0∧cs.length=cs0.length
 nod:∀i,i<pars.length→(F' i).Nodup
 disG:∀i,i<pars.length→∀b∈F' i,b∉G
 dis:∀i j,i<pars.length→j<pars.length→i≠j→∀b∈F' i,b∉F' j
 bxF:∀i b lo,i<pars.length→φ i=.box b lo→b∉G∧∀j,j<pars.length→b∉F' j
 own:∀b,(b∈G∨∃i,i<pars.length∧b∈F' i)→(M b∨w.heap.size≤b)
 sta:∀b,St' b→(b<w.heap.size→St b∨M b)∧b∉G∧∀i,i<pars.length→b∉F' i∧∀lo,φ i≠.box b lo
structure EntU (w:World)(St:Nat→Prop)(φ:Nat→Lc)(F:Nat→List Nat)(ins:List AV)(us:List Value)(pars:List (List AC))(p:Nat)(T:TypeId)(k n:Nat)(cs:List AC)(A:List Nat):Prop where
 ent:Ent w St φ F ins us pars
 row:∃u vs fs,us[p]? = some u∧CRL w St φ0 K0 cs vs fs∧w.ownsRow 0 T k u n vs∧A=obl u++fs
 nod:A.Nodup
 st:∀b∈A,¬St b
 ap:∀b∈A,∀i,i<pars.length→b∉F i∧∀lo,φ i≠.box b lo
 gl:∀b,isG b→b∉A
section
variable {P:Program}{C:Ctx}{φ:Nat→Lc}{F:Nat→List Nat}{St:Nat→Prop}{σ:AS}{a:Act}{w w':World}{D:List Nat}{pars:List (List AC)}
end
section
variable {P:Program}{ops:Array Oper}{Q:Exit→Act→World→Prop}{C:Ctx}{σ:AS}{o:Oper}{i:Nat}
end
mutual
def fzC:AC→AC
 | .ow _ n k l=>.ro n k (fzL l)
 | .bx _ _=>.un
 | .v x=>.v x
 | .ro n k l=>.ro n k l
 | .sl i n=>.sl i n
 | .pt i o=>.pt i o
 | .rp l o=>.rp l o
 | .fn f c=>.fn f c
 | .un=>.un
 | .nn=>.nn
 | .mp l=>.mp l
def fzL:List AC→List AC
 | []=>[]
 | c :: r=>fzC c :: fzL r
end
theorem q9:∀l:List AC,(fzL l).length=l.length
 | []=>rfl
 | _ :: r=>by simp only [fzL,List.length_cons,q9 r]
theorem xP:∀l m:List AC,fzL (l++m)=fzL l++fzL m
 | [],_=>rfl
 | _ :: r,m=>by simp only [List.cons_append,fzL,xP r m]
mutual
theorem zc6:∀e:E,fzL (owE e)=acE e
 | .int k n=>by simp only [owE,acE,fzL,fzC]
 | .bool b=>by simp only [owE,acE,fzL,fzC]
 | .str s=>by simp only [owE,acE,fzL,fzC]
 | .agg fs=>by simp only [owE,acE];exact l7 fs
 | .lst k T A c l=>by simp only [owE,acE,fzL,fzC,l7 l]
theorem l7:∀l:List E,fzL (owL l)=acL l
 | []=>by simp only [owL,acL,fzL]
 | e :: r=>by simp only [owL,acL,xP,zc6 e,l7 r]
end
section
variable {C:Ctx}{φ:Nat→Lc}{F:Nat→List Nat}{St St':Nat→Prop}{K:Nat→Prop}{σ:AS}{a:Act}{w w':World}
theorem CRL.fz_of:∀(l:List AC) (us:List Value) (fs:List Nat),(∀e∈l,∀(u:Value) (fp:List Nat),(∀b∈fp,St' b)→CR w St φ K e u fp→CR w St' φ K (fzC e) u [])→(∀b∈fs,St' b)→CRL w St φ K l us fs→CRL w St' φ K (fzL l) us []
 | [],us,fs,_,_,h=>by simp only [CRL] at h;obtain⟨rfl,rfl⟩:=h;exact CRL.nil
 | c :: r,us,fs,hh,hf,h=>by
  simp only [CRL] at h
  obtain⟨u,us',f1,f2,rfl,rfl,g1,g2⟩:=h
  exact CRL.cons (f:=[]) (f':=[]) (hh c List.mem_cons_self u f1 (fun b hb=>hf b (List.mem_append_left _ hb)) g1) (CRL.fz_of r us' f2 (fun e he=>hh e (List.mem_cons_of_mem _ he)) (fun b hb=>hf b (List.mem_append_right _ hb)) g2)
theorem CR.fz (hS:∀b,St b→St' b):∀(c:AC) (u:Value) (fp:List Nat),(∀b∈fp,St' b)→CR w St φ K c u fp→CR w St' φ K (fzC c) u []:=by
 intro c
 induction c using AC.ind with
 | h1 x=>intro u fp _ h;simp only [CR,fzC] at h ⊢;exact⟨h.1,h.2.1,trivial⟩
 | h2 n k l ih=>intro u fp _ h;have h0:=h;simp only [CR] at h0;obtain⟨rfl,_⟩:=h0;exact CR.sub_ hS _ u [] h
 | h3 T n k l ih =>
  intro u fp hfp h
  have hlt:=CR.lt _ _ _ h
  simp only [CR] at h
  obtain⟨us,fs,h1,h2,rfl⟩:=h
  obtain⟨hl,h3⟩:=h2
  have hlen:(fzL l).length=n*k:=by rw [q9,←h1.len,hl]
  have hr:=CRL.fz_of (St':=St') l us fs ih (fun b hb=>hfp b (List.mem_append_right _ hb)) h1
  simp only [fzC,CR]
  rcases h3 with ⟨rfl,h0⟩|⟨b,cap,cur,rfl,-,hh,hnc,hcm,hsz,htk⟩
  ·exact⟨trivial,none,0,by rw [h0],⟨omq,by unfold maxLen;omega,fun _=>rfl⟩,hlen,fun hn=>by omega⟩
  ·refine⟨trivial,some ⟨b,0,none⟩,cap,rfl,⟨hnc,hcm,fun e=>by cases e⟩,hlen,fun _=>⟨b,0,us,rfl,hfp b (List.mem_append_left _ (by simp [obl,Value.ownBlock])),hlt b (List.mem_append_left _ (by simp [obl,Value.ownBlock])),fun q y hq=>?_,hr⟩⟩
   have hq2:cur[q]? = some y:=by
    rw [←htk] at hq
    rw [List.getElem?_take] at hq
    split at hq
    ·rwa [Array.getElem?_toList] at hq
    ·cases hq
   rw [Nat.zero_add]
   unfold World.cell?
   rw [hh]
   exact hq2
 | h4 i n=>intro u fp _ h;have h0:=h;simp only [CR] at h0;obtain⟨rfl,_⟩:=h0;exact CR.sub_ hS _ u [] h
 | h5 i o=>intro u fp _ h;have h0:=h;simp only [CR] at h0;obtain⟨rfl,_⟩:=h0;exact CR.sub_ hS _ u [] h
 | h6 l o ih=>intro u fp _ h;have h0:=h;simp only [CR] at h0;obtain⟨rfl,_⟩:=h0;exact CR.sub_ hS _ u [] h
 | h7 f c ih=>intro u fp _ h;have h0:=h;simp only [CR] at h0;obtain⟨rfl,_⟩:=h0;exact CR.sub_ hS _ u [] h
 | h9 T l ih=>intro u fp _ h;simp only [fzC,CR]
 | h8=>intro u fp _ h;simp only [fzC,CR]
 | hn=>intro u fp _ h;have h0:=h;simp only [CR] at h0;obtain⟨rfl,_⟩:=h0;exact CR.sub_ hS _ u [] h
 | hm l=>intro u fp _ h;have h0:=h;simp only [CR] at h0;obtain⟨rfl,_⟩:=h0;exact CR.sub_ hS _ u [] h
theorem SimF.freeze (h:SimF C φ F St σ a w){i:Nat}{r:Row}(hr:σ.hp i=some r){pre mid post:List AC}(hcs:r.cs=pre++(mid++post)) :
 ∃F' St',SimF C φ F' St' { σ with hp:=upd σ.hp i (some { r with cs:=pre++(fzL mid++post) }) } a w:=by
 have hlen:(pre++(fzL mid++post)).length=r.cs.length:=by rw [hcs];simp [q9]
 have key:∀(us:List Value) (fp:List Nat),CRL w St φ σ.Kn r.cs us fp→fp.Nodup→∃(X Y:List Nat),(∀St':Nat→Prop,(∀b,St b→St' b)→(∀b∈Y,St' b)→CRL w St' φ σ.Kn (pre++(fzL mid++post)) us X)∧(∀b,b∈fp↔b∈X∨b∈Y)∧X.Nodup∧∀b∈X,b∉Y:=by
  intro us fp hc hnd
  rw [hcs] at hc
  obtain⟨u1,u2,f1,f2,rfl,rfl,g1,g2⟩:=hc.split
  obtain⟨u3,u4,f3,f4,rfl,rfl,g3,g4⟩:=g2.split
  have h3:=List.nodup_append.1 hnd
  have h4:=List.nodup_append.1 h3.2.1
  refine⟨f1++f4,f3,fun St' s1 s2=>(g1.sub_ s1).app (CRL.app (f:=[]) (f':=f4) (CRL.fz_of mid u3 f3 (fun e _ u fp hf hc=>CR.fz s1 e u fp hf hc) s2 g3) (g4.sub_ s1)),fun b=>by simp only [List.mem_append];exact⟨fun h=>h.elim (fun h=>.inl (.inl h)) fun h=>h.elim .inr fun h=>.inl (.inr h),fun h=>h.elim (fun h=>h.elim .inl fun h=>.inr (.inr h)) fun h=>.inr (.inl h)⟩,List.nodup_append.2 ⟨h3.1,h4.2.1,fun p hp q hq e=>h3.2.2 p hp q (List.mem_append_right _ hq) e⟩,fun b hb hm=>?_⟩
  rcases List.mem_append.1 hb with hb|hb
  ·exact h3.2.2 b hb b (List.mem_append_left _ hm) rfl
  ·exact h4.2.2 b hm b hb rfl
 have hrow:=(h.row i r hr).2
 have hnd:=h.nod i r hr
 obtain⟨X,Y,x1,x2,x3,x4⟩:∃(X Y:List Nat),(∀St':Nat→Prop,(∀b,St b→St' b)→(∀b∈Y,St' b)→RowOk w St' φ σ.Kn { r with cs:=pre++(fzL mid++post) } X (φ i))∧(∀b,b∈F i↔b∈X∨b∈Y)∧X.Nodup∧∀b∈X,b∉Y:=by
  cases e:φ i with
  | box b lo =>
   rw [e] at hrow
   obtain⟨hb,us,g1,g2⟩:=hrow
   obtain⟨X,Y,k1,k2,k3,k4⟩:=key us (F i) g1 hnd
   exact⟨X,Y,fun St' s1 s2=>⟨hb,us,k1 St' s1 s2,g2⟩,k2,k3,k4⟩
  | slc v =>
   rw [e] at hrow
   obtain⟨hb,us,fs0,g1,g2,g3⟩:=hrow
   rw [g3] at hnd
   have hn3:=List.nodup_append.1 hnd
   obtain⟨X,Y,k1,k2,k3,k4⟩:=key us fs0 g1 hn3.2.1
   refine⟨obl v++X,Y,fun St' s1 s2=>⟨hb,us,X,k1 St' s1 s2,g2,rfl⟩,fun b=>by rw [g3,List.mem_append,List.mem_append,k2,or_assoc],List.nodup_append.2 ⟨hn3.1,k3,fun p hp q hq e=>hn3.2.2 p hp q ((k2 q).2 (.inl hq)) e⟩,fun b hb hm=>?_⟩
   rcases List.mem_append.1 hb with hb|hb
   ·exact hn3.2.2 b hb b ((k2 b).2 (.inr hm)) rfl
   ·exact k4 b hb hm
 have hS:∀b,St b→b<w.heap.size→(St b∨b∈Y)∧w.heap[b]? = w.heap[b]? := fun b hb _=>⟨.inl hb,rfl⟩
 have hK:∀j,σ.Kn j→σ.Kn j∧φ j=φ j:=fun j hj=>⟨hj,rfl⟩
 have old:∀m t,upd σ.hp i (some { r with cs:=pre++(fzL mid++post) }) m=some t→(m=i∧t={ r with cs:=pre++(fzL mid++post) })∨(m≠i∧σ.hp m=some t):=fun m t hm=>by
  by_cases e:m=i
  ·subst e;rw [aM] at hm;injection hm with hm;exact .inl ⟨rfl,hm.symm⟩
  ·rw [aY _ _ e] at hm;exact .inr ⟨e,hm⟩
 have get:∀m t,upd σ.hp i (some { r with cs:=pre++(fzL mid++post) }) m=some t→∃t',σ.hp m=some t'∧(∀b∈upd F i X m,b∈F m)∧t.cs.length=t'.cs.length:=fun m t hm=>by
  rcases old m t hm with ⟨rfl,rfl⟩|⟨e1,e3⟩
  ·exact⟨r,hr,fun b hb=>by rw [aM] at hb;exact (x2 b).2 (.inl hb),hlen⟩
  ·exact⟨t,e3,fun b hb=>by rw [aY _ _ e1] at hb;exact hb,rfl⟩
 refine⟨upd F i X,fun b=>St b∨b∈Y,h.dfr,h.len,fun t=>VR.mono hS (Nat.le_refl _) hK _ _ (h.tms t),fun m t hm=>?_,fun m t hm=>?_,fun m q t v hm hq hmq b hb hb'=>?_,fun m q t v b lo hm hq e hb=>?_,fun m q t v b lo lo' hm hq hmq e e'=>?_,fun m t b hm hb hst=>?_,fun m t b lo hm e hst=>?_,h.frm,fun m t b hm hb=>?_,fun m hm=>⟨(h.par m hm).1,fun t ht q hq=>?_⟩,fun m t b lo hm e hN=>?_,h.gnN,fun b hb hl=>?_⟩
 ·rcases old m t hm with ⟨rfl,rfl⟩|⟨e1,e3⟩
  ·rw [aM];exact⟨(h.row m r hr).1,x1 _ (fun b hb=>.inl hb) (fun b hb=>.inr hb)⟩
  ·rw [aY _ _ e1]
   exact⟨(h.row m t e3).1,(h.row m t e3).2.mono hS (Nat.le_refl _) hK (fun _ _=>rfl) (fun _ _ _ _ _ hB=>hB)⟩
 ·rcases old m t hm with ⟨rfl,rfl⟩|⟨e1,e3⟩
  ·rw [aM];exact x3
  ·rw [aY _ _ e1];exact h.nod m t e3
 ·obtain⟨t',g1,g2,_⟩:=get m t hm
  obtain⟨v',p1,p2,_⟩:=get q v hq
  exact h.dis m q t' v' g1 p1 hmq b (g2 b hb) (p2 b hb')
 ·obtain⟨t',g1,g2,_⟩:=get m t hm
  obtain⟨v',p1,p2,_⟩:=get q v hq
  exact h.bxF m q t' v' b lo g1 p1 e (p2 b hb)
 ·obtain⟨t',g1,_,g3⟩:=get m t hm
  obtain⟨v',p1,_,p3⟩:=get q v hq
  rw [g3,p3]
  exact h.bxd m q t' v' b lo lo' g1 p1 hmq e e'
 ·rcases hst with hst|hY
  ·obtain⟨t',g1,g2,_⟩:=get m t hm
   exact h.stF m t' b g1 (g2 b hb) hst
  ·rcases old m t hm with ⟨rfl,rfl⟩|⟨e1,e3⟩
   ·rw [aM] at hb;exact x4 b hb hY
   ·rw [aY _ _ e1] at hb;exact h.dis m i t r e3 hr e1 b hb ((x2 b).2 (.inr hY))
 ·obtain⟨t',g1,g2,_⟩:=get m t hm
  rcases hst with hst|hY
  ·exact h.stB m t' b lo g1 e hst
  ·exact h.bxF m i t' r b lo g1 hr e ((x2 b).2 (.inr hY))
 ·obtain⟨t',g1,g2,_⟩:=get m t hm;exact h.own m t' b g1 (g2 b hb)
 ·obtain⟨t',g1,_,g3⟩:=get m t ht
  exact (h.par m hm).2 t' g1 q (by rw [←g3];exact hq)
 ·obtain⟨t',g1,_,_⟩:=get m t hm;exact h.new m t' b lo g1 e hN
 ·rcases hb with hb|hY
  ·exact h.stS b hb hl
  ·exact .inr ((h.own i r b hr ((x2 b).2 (.inr hY))).resolve_right omq)
end
section
variable {tm:Nat→AV}{hp:Nat→Option Row}{gn L:Nat}{us:List Nat}
theorem g_frz {i k n:Nat}{T:TypeId}{b:Bool}{cs cs':List AC}{pre mid mid' post:List AC}(hr:hp i=some ⟨T,k,n,b,cs⟩)(hcs:cs=pre++(mid++post))(hm:fzL mid=mid')(he:pre++(mid'++post)=cs'):Gh ⟨tm,hp,gn,us,L⟩ ⟨tm,upd hp i (some ⟨T,k,n,b,cs'⟩),gn,us,L⟩:=fun C a w hs=>by
 obtain⟨φ,F,St,h⟩:=hs
 obtain⟨F',St',h'⟩:=h.freeze hr hcs
 subst hm he
 exact⟨φ,F',St',h'⟩
end
section
variable {ops:Array Oper}{Q:Exit→Act→World→Prop}{C:Ctx}{i:Nat}{r:List Nat}
variable {tm:Nat→AV}{hp:Nat→Option Row}{gn L:Nat}{us:List Nat}
end
section
variable {ops:Array Oper}{Q:Exit→Act→World→Prop}{C:Ctx}{i:Nat}{r:List Nat}
variable {tm:Nat→AV}{hp:Nat→Option Row}{gn L:Nat}{us:List Nat}
class BitB (b:BinOp):Prop where
 h:b=.and∨b=.or∨b=.xor
instance:BitB .and:=⟨.inl rfl⟩
instance:BitB .or:=⟨.inr (.inl rfl)⟩
instance:BitB .xor:=⟨.inr (.inr rfl)⟩
end
theorem r3 {a b a' b':Int}{c:Bool}(h1:a=a')(h2:b=b'):Ending.returned (.tuple #[.int .i64 a,.int .i64 b,.bool c])=.returned (.tuple #[.int .i64 a',.int .i64 b',.bool c]):=by rw [h1,h2]
structure GIns where
 o:Nat
 n:Nat
 p:Nat
 ok:Bool
end Go.Proofs.YtomolhbkdhjofaaGreatDoor
-- BIT
namespace Go.Proofs.YtomolhbkdhjofaaGreatDoor
open Go.RowKit Go.Proofs.Tryz
end Go.Proofs.YtomolhbkdhjofaaGreatDoor
