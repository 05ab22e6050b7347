/- T -/
import Derived.Test.YtomolhbkdhjofaaGreatDoorExRAD
set_option maxHeartbeats 0
set_option maxRecDepth 100000
namespace Go.Proofs.YtomolhbkdhjofaaGreatDoor
open Go.RowKit Go.Proofs.Tryz
theorem zv6 {L:List T3}(hL:L.length≤2000)(hok:okL L){f:Nat}(hf:f≤21)(hf1:1≤f){g:RS→E×RS}(hg:GS L f g)(hi:HS L f g){r:RS}(ha:r.a<L.length)(hb:r.b=false)(hd:21≤f+r.d)(hd2:r.d≤20) :
 Ctr prog 54 [.c (.pt 0 0)] [df L r] (.ag (owE (dW L g r).1)) [df L (dW L g r).2]:=by
 have hua:r.up.a=r.a+1∧r.up.d=r.d:=⟨rfl,rfl⟩
 have c1:=nf hL (r:=r) 5 ⟨#[40]⟩
 have c2:=nf hL (r:=r) 5 ⟨#[36]⟩
 have c3:=nf hL (r:=r) 5 ⟨#[33]⟩
 have c4:=nf hL (r:=r) 5 ⟨#[45]⟩
 unfold isS at c1 c2 c3 c4
 unfold dW
 cases s1:gF L r 5 ⟨#[40]⟩ with
 | true =>
  rw [if_pos rfl]
  rw [s1,if_pos rfl] at c1
  have k2:=yi hL hok hf hf1 hg hi (r:=r.up) omq omq omq
  have f2:=(in_PS hok hg (r:=r.up) omq (by show r.b.toNat=0;rw [hb];rfl)).1
  clear c2 c3 c4 hg hi
  generalize inS L g r.up=x at *
  obtain⟨y,q⟩:=x
  dsimp only at f2
  cases f2 with
  | mk m1 m2 m3 m4 _ _ _ _ =>
  refine az func54 rfl rfl ?_
  unfold df at *
  (try dsimp only at c1 k2 ⊢)
  repeat' (first|(apply ay;first|refine ak ?_|refine ai ?_|refine aF 0 (c1) ?_|refine aF 0 (k2) ?_|refine bh ?_|refine bJ ?_)|refine aj ?_|refine ab ?_|refine aa fun C=>?_|refine ac ?_|refine ah ?_|refine aq rfl ?_)
  exact fY
 | false =>
 rw [if_neg (by simp)]
 rw [s1,if_neg (by simp)] at c1
 cases s2:gF L r 5 ⟨#[36]⟩ with
 | true =>
  rw [if_pos rfl]
  rw [s2,if_pos rfl] at c2
  have g1:=hg r.up omq
  have k2:=hi r.up omq omq hf1 omq
  have f1:=g1.fine
  clear g1 hg hi
  generalize g r.up=x at *
  obtain⟨y,q⟩:=x
  dsimp only at f1
  cases f1 with
  | mk m1 m2 m3 m4 _ _ _ _ =>
  refine az func54 rfl rfl ?_
  unfold df at *
  (try dsimp only at c1 c2 k2 ⊢)
  repeat' (first|(apply ay;first|refine ak ?_|refine ai ?_|refine aF 0 (c1) ?_|refine bJ ?_)|refine aj ?_|refine ab ?_|refine aa fun C=>?_|refine ac ?_|refine ah ?_)
  refine ar rfl ?_
  repeat' (first|(apply ay;first|refine ak ?_|refine ai ?_|refine aF 0 (c2) ?_)|refine aj ?_|refine ab ?_|refine aa fun C=>?_|refine ac ?_)
  refine aq rfl ?_
  refine ac ?_
  refine hX [0,1,2] [3,4] rfl fun C=>?_
  repeat' (first|(apply ay;first|refine bH ?_|refine n_sk0 ?_|(apply tX;first|(refine aK ?_ ?_<;>intro hG<;>(try cases hG))|refine ak ?_|refine cI (v:=.ag _) ?_|refine cI (v:=.tu _) ?_|refine au ?_)|(apply tY;first|refine ai ?_|refine fa (v:=.ag _) ?_|refine fa (v:=.tu _) ?_|refine au ?_)|refine bf ?_|refine iZ ?_|refine aI ?_|refine dD ?_|refine cX ?_|refine bM ?_|refine qi ?_|refine aF 0 (k2) ?_|(apply ub;first|refine bC ?_|refine a7 ?_|refine cJ ?_|refine dz ?_|refine dz (hnu:=bytC_noUn _) ?_|refine n_app0 ?_|refine n_app0 (hnu:=bytC_noUn _) ?_|refine au ?_)|refine bh ?_|refine n_sto ?_|(apply mW;first|refine gJ ?_|refine eG ?_|refine au ?_)|(apply j6;first|refine ao ?_|refine aR ?_|refine aC ?_|refine eM ?_|refine au ?_)|(apply j7;first|refine aN ?_|refine cH ?_|refine dM ?_|refine eH ?_|refine au ?_)|(apply j8;first|refine aA ?_|refine n_lss_u8 ?_|refine au ?_)|(apply j9;first|refine bp ?_|refine n_leq_u8 ?_|refine au ?_)|(apply ka;first|refine aX ?_|refine n_gtr_u8 ?_|refine au ?_)|(apply kb;first|refine bX ?_|refine n_geq_u8 ?_|refine au ?_)|(apply ji;first|refine aw ?_|refine dI ?_|refine au ?_)|(apply uc;first|refine bI ?_|refine au ?_)|(apply tZ;first|refine aB ?_|refine fb (v:=.ag _) ?_|refine fb (v:=.tu _) ?_|refine au ?_)|(apply ua;first|refine b9 ?_|refine dA (v:=.ag _) ?_|refine dA (v:=.tu _) ?_|refine au ?_)|(apply qj;first|refine cu ?_|refine dh ?_|refine au ?_)|(apply si;first|refine dc ?_|refine jC ?_|refine gq ?_|refine n_cvs ?_|refine n_cvr ?_|refine au ?_)|refine bJ ?_|refine cE ?_|refine dT ?_|refine bV ?_|refine fy ?_|refine gK ?_|refine e8 ?_|refine au ?_|refine n_mv ?_)|refine aj ?_|refine ab ?_|(apply da;first|refine fg ?_|refine o_sk0 ?_|(refine e7 ?_ ?_<;>intro hG<;>(try cases hG))|(apply dC;refine aD ?_)|(apply iu;refine aD ?_)|refine dZ ?_|refine ga ?_|(apply tU;first|refine bW ?_|refine d7 ?_|refine dQ ?_|refine gI ?_|refine aD ?_|refine se ?_)|refine m5 0 (k2) ?_|(apply tT;first|refine dt ?_|refine dJ ?_|refine gp ?_|refine eT ?_|refine eT (hnu:=bytC_noUn _) ?_|refine o_app0 ?_|refine o_app0 (hnu:=bytC_noUn _) ?_|refine aD ?_)|refine li ?_|refine o_sto ?_|(apply tV;first|refine iY ?_|refine jB ?_|refine aD ?_)|(apply fF;first|refine cP ?_|refine cS ?_|refine dq ?_|refine gD ?_|refine aD ?_)|(apply tW;first|refine dK ?_|refine gk ?_|refine o_cvs ?_|refine o_cvr ?_|refine aD ?_)|refine pi ?_|refine sd ?_|refine nu ?_|refine eU ?_|refine ir ?_|refine gZ ?_|refine gC ?_|refine aD ?_|refine o_mv ?_)|refine aj ?_|refine ab ?_)
  refine lE (dU (i:=13) (j:=1300) rfl rfl rfl (pre:=[_,_,_]) (post:=[]) rfl) (by decide) ?_
  repeat' (first|(apply f_w;refine iq 90001 1 (kT (k:=5) (l:=[xE m1 m2 m3 m4])) ?_)|(apply ay;first|refine bH ?_|refine n_sk0 ?_|(apply tX;first|(refine aK ?_ ?_<;>intro hG<;>(try cases hG))|refine ak ?_|refine cI (v:=.ag _) ?_|refine cI (v:=.tu _) ?_|refine au ?_)|(apply tY;first|refine ai ?_|refine fa (v:=.ag _) ?_|refine fa (v:=.tu _) ?_|refine au ?_)|refine bf ?_|refine iZ ?_|refine aI ?_|refine dD ?_|refine cX ?_|refine bM ?_|refine qi ?_|(apply ub;first|refine bC ?_|refine a7 ?_|refine cJ ?_|refine dz ?_|refine dz (hnu:=bytC_noUn _) ?_|refine n_app0 ?_|refine n_app0 (hnu:=bytC_noUn _) ?_|refine au ?_)|refine bh ?_|refine n_sto ?_|(apply mW;first|refine gJ ?_|refine eG ?_|refine au ?_)|(apply j6;first|refine ao ?_|refine aR ?_|refine aC ?_|refine eM ?_|refine au ?_)|(apply j7;first|refine aN ?_|refine cH ?_|refine dM ?_|refine eH ?_|refine au ?_)|(apply j8;first|refine aA ?_|refine n_lss_u8 ?_|refine au ?_)|(apply j9;first|refine bp ?_|refine n_leq_u8 ?_|refine au ?_)|(apply ka;first|refine aX ?_|refine n_gtr_u8 ?_|refine au ?_)|(apply kb;first|refine bX ?_|refine n_geq_u8 ?_|refine au ?_)|(apply ji;first|refine aw ?_|refine dI ?_|refine au ?_)|(apply uc;first|refine bI ?_|refine au ?_)|(apply tZ;first|refine aB ?_|refine fb (v:=.ag _) ?_|refine fb (v:=.tu _) ?_|refine au ?_)|(apply ua;first|refine b9 ?_|refine dA (v:=.ag _) ?_|refine dA (v:=.tu _) ?_|refine au ?_)|(apply qj;first|refine cu ?_|refine dh ?_|refine au ?_)|(apply si;first|refine dc ?_|refine jC ?_|refine gq ?_|refine n_cvs ?_|refine n_cvr ?_|refine au ?_)|refine bJ ?_|refine cE ?_|refine dT ?_|refine bV ?_|refine fy ?_|refine gK ?_|refine e8 ?_|refine au ?_|refine n_mv ?_)|refine aj ?_|refine ab ?_|(apply da;first|refine fg ?_|refine o_sk0 ?_|(refine e7 ?_ ?_<;>intro hG<;>(try cases hG))|(apply dC;refine aD ?_)|(apply iu;refine aD ?_)|refine dZ ?_|refine ga ?_|(apply tU;first|refine bW ?_|refine d7 ?_|refine dQ ?_|refine gI ?_|refine aD ?_|refine se ?_)|(apply tT;first|refine dt ?_|refine dJ ?_|refine gp ?_|refine eT ?_|refine eT (hnu:=bytC_noUn _) ?_|refine o_app0 ?_|refine o_app0 (hnu:=bytC_noUn _) ?_|refine aD ?_)|refine li ?_|refine o_sto ?_|(apply tV;first|refine iY ?_|refine jB ?_|refine aD ?_)|(apply fF;first|refine cP ?_|refine cS ?_|refine dq ?_|refine gD ?_|refine aD ?_)|(apply tW;first|refine dK ?_|refine gk ?_|refine o_cvs ?_|refine o_cvr ?_|refine aD ?_)|refine pi ?_|refine sd ?_|refine nu ?_|refine eU ?_|refine ir ?_|refine gZ ?_|refine gC ?_|refine aD ?_|refine o_mv ?_)|refine aj ?_|refine ab ?_)
  skip
  exact fY
 | false =>
 rw [if_neg (by simp)]
 rw [s2,if_neg (by simp)] at c2
 cases s3:gF L r 5 ⟨#[33]⟩ with
 | true =>
  rw [if_pos rfl]
  rw [s3,if_pos rfl] at c3
  have g1:=hg r.up omq
  have k2:=hi r.up omq omq hf1 omq
  have f1:=g1.fine
  clear g1 hg hi
  generalize g r.up=x at *
  obtain⟨y,q⟩:=x
  dsimp only at f1
  cases f1 with
  | mk m1 m2 m3 m4 _ _ _ _ =>
  refine az func54 rfl rfl ?_
  unfold df at *
  (try dsimp only at c1 c2 c3 k2 ⊢)
  repeat' (first|(apply ay;first|refine ak ?_|refine ai ?_|refine aF 0 (c1) ?_|refine bJ ?_)|refine aj ?_|refine ab ?_|refine aa fun C=>?_|refine ac ?_|refine ah ?_)
  refine ar rfl ?_
  repeat' (first|(apply ay;first|refine ak ?_|refine ai ?_|refine aF 0 (c2) ?_)|refine aj ?_|refine ab ?_|refine aa fun C=>?_|refine ac ?_)
  refine ar rfl ?_
  repeat' (first|(apply ay;first|refine ak ?_|refine ai ?_|refine aF 0 (c3) ?_)|refine aj ?_|refine ab ?_|refine aa fun C=>?_|refine ac ?_)
  refine aq rfl ?_
  refine ac ?_
  refine hX [0,1,2] [3,4] rfl fun C=>?_
  repeat' (first|(apply ay;first|refine bH ?_|refine n_sk0 ?_|(apply tX;first|(refine aK ?_ ?_<;>intro hG<;>(try cases hG))|refine ak ?_|refine cI (v:=.ag _) ?_|refine cI (v:=.tu _) ?_|refine au ?_)|(apply tY;first|refine ai ?_|refine fa (v:=.ag _) ?_|refine fa (v:=.tu _) ?_|refine au ?_)|refine bf ?_|refine iZ ?_|refine aI ?_|refine dD ?_|refine cX ?_|refine bM ?_|refine qi ?_|refine aF 0 (k2) ?_|(apply ub;first|refine bC ?_|refine a7 ?_|refine cJ ?_|refine dz ?_|refine dz (hnu:=bytC_noUn _) ?_|refine n_app0 ?_|refine n_app0 (hnu:=bytC_noUn _) ?_|refine au ?_)|refine bh ?_|refine n_sto ?_|(apply mW;first|refine gJ ?_|refine eG ?_|refine au ?_)|(apply j6;first|refine ao ?_|refine aR ?_|refine aC ?_|refine eM ?_|refine au ?_)|(apply j7;first|refine aN ?_|refine cH ?_|refine dM ?_|refine eH ?_|refine au ?_)|(apply j8;first|refine aA ?_|refine n_lss_u8 ?_|refine au ?_)|(apply j9;first|refine bp ?_|refine n_leq_u8 ?_|refine au ?_)|(apply ka;first|refine aX ?_|refine n_gtr_u8 ?_|refine au ?_)|(apply kb;first|refine bX ?_|refine n_geq_u8 ?_|refine au ?_)|(apply ji;first|refine aw ?_|refine dI ?_|refine au ?_)|(apply uc;first|refine bI ?_|refine au ?_)|(apply tZ;first|refine aB ?_|refine fb (v:=.ag _) ?_|refine fb (v:=.tu _) ?_|refine au ?_)|(apply ua;first|refine b9 ?_|refine dA (v:=.ag _) ?_|refine dA (v:=.tu _) ?_|refine au ?_)|(apply qj;first|refine cu ?_|refine dh ?_|refine au ?_)|(apply si;first|refine dc ?_|refine jC ?_|refine gq ?_|refine n_cvs ?_|refine n_cvr ?_|refine au ?_)|refine bJ ?_|refine cE ?_|refine dT ?_|refine bV ?_|refine fy ?_|refine gK ?_|refine e8 ?_|refine au ?_|refine n_mv ?_)|refine aj ?_|refine ab ?_|(apply da;first|refine fg ?_|refine o_sk0 ?_|(refine e7 ?_ ?_<;>intro hG<;>(try cases hG))|(apply dC;refine aD ?_)|(apply iu;refine aD ?_)|refine dZ ?_|refine ga ?_|(apply tU;first|refine bW ?_|refine d7 ?_|refine dQ ?_|refine gI ?_|refine aD ?_|refine se ?_)|refine m5 0 (k2) ?_|(apply tT;first|refine dt ?_|refine dJ ?_|refine gp ?_|refine eT ?_|refine eT (hnu:=bytC_noUn _) ?_|refine o_app0 ?_|refine o_app0 (hnu:=bytC_noUn _) ?_|refine aD ?_)|refine li ?_|refine o_sto ?_|(apply tV;first|refine iY ?_|refine jB ?_|refine aD ?_)|(apply fF;first|refine cP ?_|refine cS ?_|refine dq ?_|refine gD ?_|refine aD ?_)|(apply tW;first|refine dK ?_|refine gk ?_|refine o_cvs ?_|refine o_cvr ?_|refine aD ?_)|refine pi ?_|refine sd ?_|refine nu ?_|refine eU ?_|refine ir ?_|refine gZ ?_|refine gC ?_|refine aD ?_|refine o_mv ?_)|refine aj ?_|refine ab ?_)
  refine lE (dU (i:=20) (j:=2000) rfl rfl rfl (pre:=[_,_,_]) (post:=[]) rfl) (by decide) ?_
  repeat' (first|(apply f_w;refine iq 90001 1 (kT (k:=7) (l:=[xE m1 m2 m3 m4])) ?_)|(apply ay;first|refine bH ?_|refine n_sk0 ?_|(apply tX;first|(refine aK ?_ ?_<;>intro hG<;>(try cases hG))|refine ak ?_|refine cI (v:=.ag _) ?_|refine cI (v:=.tu _) ?_|refine au ?_)|(apply tY;first|refine ai ?_|refine fa (v:=.ag _) ?_|refine fa (v:=.tu _) ?_|refine au ?_)|refine bf ?_|refine iZ ?_|refine aI ?_|refine dD ?_|refine cX ?_|refine bM ?_|refine qi ?_|(apply ub;first|refine bC ?_|refine a7 ?_|refine cJ ?_|refine dz ?_|refine dz (hnu:=bytC_noUn _) ?_|refine n_app0 ?_|refine n_app0 (hnu:=bytC_noUn _) ?_|refine au ?_)|refine bh ?_|refine n_sto ?_|(apply mW;first|refine gJ ?_|refine eG ?_|refine au ?_)|(apply j6;first|refine ao ?_|refine aR ?_|refine aC ?_|refine eM ?_|refine au ?_)|(apply j7;first|refine aN ?_|refine cH ?_|refine dM ?_|refine eH ?_|refine au ?_)|(apply j8;first|refine aA ?_|refine n_lss_u8 ?_|refine au ?_)|(apply j9;first|refine bp ?_|refine n_leq_u8 ?_|refine au ?_)|(apply ka;first|refine aX ?_|refine n_gtr_u8 ?_|refine au ?_)|(apply kb;first|refine bX ?_|refine n_geq_u8 ?_|refine au ?_)|(apply ji;first|refine aw ?_|refine dI ?_|refine au ?_)|(apply uc;first|refine bI ?_|refine au ?_)|(apply tZ;first|refine aB ?_|refine fb (v:=.ag _) ?_|refine fb (v:=.tu _) ?_|refine au ?_)|(apply ua;first|refine b9 ?_|refine dA (v:=.ag _) ?_|refine dA (v:=.tu _) ?_|refine au ?_)|(apply qj;first|refine cu ?_|refine dh ?_|refine au ?_)|(apply si;first|refine dc ?_|refine jC ?_|refine gq ?_|refine n_cvs ?_|refine n_cvr ?_|refine au ?_)|refine bJ ?_|refine cE ?_|refine dT ?_|refine bV ?_|refine fy ?_|refine gK ?_|refine e8 ?_|refine au ?_|refine n_mv ?_)|refine aj ?_|refine ab ?_|(apply da;first|refine fg ?_|refine o_sk0 ?_|(refine e7 ?_ ?_<;>intro hG<;>(try cases hG))|(apply dC;refine aD ?_)|(apply iu;refine aD ?_)|refine dZ ?_|refine ga ?_|(apply tU;first|refine bW ?_|refine d7 ?_|refine dQ ?_|refine gI ?_|refine aD ?_|refine se ?_)|(apply tT;first|refine dt ?_|refine dJ ?_|refine gp ?_|refine eT ?_|refine eT (hnu:=bytC_noUn _) ?_|refine o_app0 ?_|refine o_app0 (hnu:=bytC_noUn _) ?_|refine aD ?_)|refine li ?_|refine o_sto ?_|(apply tV;first|refine iY ?_|refine jB ?_|refine aD ?_)|(apply fF;first|refine cP ?_|refine cS ?_|refine dq ?_|refine gD ?_|refine aD ?_)|(apply tW;first|refine dK ?_|refine gk ?_|refine o_cvs ?_|refine o_cvr ?_|refine aD ?_)|refine pi ?_|refine sd ?_|refine nu ?_|refine eU ?_|refine ir ?_|refine gZ ?_|refine gC ?_|refine aD ?_|refine o_mv ?_)|refine aj ?_|refine ab ?_)
  skip
  exact fY
 | false =>
 rw [if_neg (by simp)]
 rw [s3,if_neg (by simp)] at c3
 cases s4:gF L r 5 ⟨#[45]⟩ with
 | true =>
  rw [if_pos rfl]
  rw [s4,if_pos rfl] at c4
  have g1:=hg r.up omq
  have k2:=hi r.up omq omq hf1 omq
  have f1:=g1.fine
  clear g1 hg hi
  generalize g r.up=x at *
  obtain⟨y,q⟩:=x
  dsimp only at f1
  cases f1 with
  | mk m1 m2 m3 m4 _ _ _ _ =>
  refine az func54 rfl rfl ?_
  unfold df at *
  (try dsimp only at c1 c2 c3 c4 k2 ⊢)
  repeat' (first|(apply ay;first|refine ak ?_|refine ai ?_|refine aF 0 (c1) ?_|refine bJ ?_)|refine aj ?_|refine ab ?_|refine aa fun C=>?_|refine ac ?_|refine ah ?_)
  refine ar rfl ?_
  repeat' (first|(apply ay;first|refine ak ?_|refine ai ?_|refine aF 0 (c2) ?_)|refine aj ?_|refine ab ?_|refine aa fun C=>?_|refine ac ?_)
  refine ar rfl ?_
  repeat' (first|(apply ay;first|refine ak ?_|refine ai ?_|refine aF 0 (c3) ?_)|refine aj ?_|refine ab ?_|refine aa fun C=>?_|refine ac ?_)
  refine ar rfl ?_
  repeat' (first|(apply ay;first|refine ak ?_|refine ai ?_|refine aF 0 (c4) ?_)|refine aj ?_|refine ab ?_|refine aa fun C=>?_|refine ac ?_)
  refine aq rfl ?_
  refine ac ?_
  refine hX [0,1,2] [3,4] rfl fun C=>?_
  repeat' (first|(apply ay;first|refine bH ?_|refine n_sk0 ?_|(apply tX;first|(refine aK ?_ ?_<;>intro hG<;>(try cases hG))|refine ak ?_|refine cI (v:=.ag _) ?_|refine cI (v:=.tu _) ?_|refine au ?_)|(apply tY;first|refine ai ?_|refine fa (v:=.ag _) ?_|refine fa (v:=.tu _) ?_|refine au ?_)|refine bf ?_|refine iZ ?_|refine aI ?_|refine dD ?_|refine cX ?_|refine bM ?_|refine qi ?_|refine aF 0 (k2) ?_|(apply ub;first|refine bC ?_|refine a7 ?_|refine cJ ?_|refine dz ?_|refine dz (hnu:=bytC_noUn _) ?_|refine n_app0 ?_|refine n_app0 (hnu:=bytC_noUn _) ?_|refine au ?_)|refine bh ?_|refine n_sto ?_|(apply mW;first|refine gJ ?_|refine eG ?_|refine au ?_)|(apply j6;first|refine ao ?_|refine aR ?_|refine aC ?_|refine eM ?_|refine au ?_)|(apply j7;first|refine aN ?_|refine cH ?_|refine dM ?_|refine eH ?_|refine au ?_)|(apply j8;first|refine aA ?_|refine n_lss_u8 ?_|refine au ?_)|(apply j9;first|refine bp ?_|refine n_leq_u8 ?_|refine au ?_)|(apply ka;first|refine aX ?_|refine n_gtr_u8 ?_|refine au ?_)|(apply kb;first|refine bX ?_|refine n_geq_u8 ?_|refine au ?_)|(apply ji;first|refine aw ?_|refine dI ?_|refine au ?_)|(apply uc;first|refine bI ?_|refine au ?_)|(apply tZ;first|refine aB ?_|refine fb (v:=.ag _) ?_|refine fb (v:=.tu _) ?_|refine au ?_)|(apply ua;first|refine b9 ?_|refine dA (v:=.ag _) ?_|refine dA (v:=.tu _) ?_|refine au ?_)|(apply qj;first|refine cu ?_|refine dh ?_|refine au ?_)|(apply si;first|refine dc ?_|refine jC ?_|refine gq ?_|refine n_cvs ?_|refine n_cvr ?_|refine au ?_)|refine bJ ?_|refine cE ?_|refine dT ?_|refine bV ?_|refine fy ?_|refine gK ?_|refine e8 ?_|refine au ?_|refine n_mv ?_)|refine aj ?_|refine ab ?_|(apply da;first|refine fg ?_|refine o_sk0 ?_|(refine e7 ?_ ?_<;>intro hG<;>(try cases hG))|(apply dC;refine aD ?_)|(apply iu;refine aD ?_)|refine dZ ?_|refine ga ?_|(apply tU;first|refine bW ?_|refine d7 ?_|refine dQ ?_|refine gI ?_|refine aD ?_|refine se ?_)|refine m5 0 (k2) ?_|(apply tT;first|refine dt ?_|refine dJ ?_|refine gp ?_|refine eT ?_|refine eT (hnu:=bytC_noUn _) ?_|refine o_app0 ?_|refine o_app0 (hnu:=bytC_noUn _) ?_|refine aD ?_)|refine li ?_|refine o_sto ?_|(apply tV;first|refine iY ?_|refine jB ?_|refine aD ?_)|(apply fF;first|refine cP ?_|refine cS ?_|refine dq ?_|refine gD ?_|refine aD ?_)|(apply tW;first|refine dK ?_|refine gk ?_|refine o_cvs ?_|refine o_cvr ?_|refine aD ?_)|refine pi ?_|refine sd ?_|refine nu ?_|refine eU ?_|refine ir ?_|refine gZ ?_|refine gC ?_|refine aD ?_|refine o_mv ?_)|refine aj ?_|refine ab ?_)
  refine lE (dU (i:=27) (j:=2700) rfl rfl rfl (pre:=[_,_,_]) (post:=[]) rfl) (by decide) ?_
  repeat' (first|(apply f_w;refine iq 90001 1 (kT (k:=8) (l:=[xE m1 m2 m3 m4])) ?_)|(apply ay;first|refine bH ?_|refine n_sk0 ?_|(apply tX;first|(refine aK ?_ ?_<;>intro hG<;>(try cases hG))|refine ak ?_|refine cI (v:=.ag _) ?_|refine cI (v:=.tu _) ?_|refine au ?_)|(apply tY;first|refine ai ?_|refine fa (v:=.ag _) ?_|refine fa (v:=.tu _) ?_|refine au ?_)|refine bf ?_|refine iZ ?_|refine aI ?_|refine dD ?_|refine cX ?_|refine bM ?_|refine qi ?_|(apply ub;first|refine bC ?_|refine a7 ?_|refine cJ ?_|refine dz ?_|refine dz (hnu:=bytC_noUn _) ?_|refine n_app0 ?_|refine n_app0 (hnu:=bytC_noUn _) ?_|refine au ?_)|refine bh ?_|refine n_sto ?_|(apply mW;first|refine gJ ?_|refine eG ?_|refine au ?_)|(apply j6;first|refine ao ?_|refine aR ?_|refine aC ?_|refine eM ?_|refine au ?_)|(apply j7;first|refine aN ?_|refine cH ?_|refine dM ?_|refine eH ?_|refine au ?_)|(apply j8;first|refine aA ?_|refine n_lss_u8 ?_|refine au ?_)|(apply j9;first|refine bp ?_|refine n_leq_u8 ?_|refine au ?_)|(apply ka;first|refine aX ?_|refine n_gtr_u8 ?_|refine au ?_)|(apply kb;first|refine bX ?_|refine n_geq_u8 ?_|refine au ?_)|(apply ji;first|refine aw ?_|refine dI ?_|refine au ?_)|(apply uc;first|refine bI ?_|refine au ?_)|(apply tZ;first|refine aB ?_|refine fb (v:=.ag _) ?_|refine fb (v:=.tu _) ?_|refine au ?_)|(apply ua;first|refine b9 ?_|refine dA (v:=.ag _) ?_|refine dA (v:=.tu _) ?_|refine au ?_)|(apply qj;first|refine cu ?_|refine dh ?_|refine au ?_)|(apply si;first|refine dc ?_|refine jC ?_|refine gq ?_|refine n_cvs ?_|refine n_cvr ?_|refine au ?_)|refine bJ ?_|refine cE ?_|refine dT ?_|refine bV ?_|refine fy ?_|refine gK ?_|refine e8 ?_|refine au ?_|refine n_mv ?_)|refine aj ?_|refine ab ?_|(apply da;first|refine fg ?_|refine o_sk0 ?_|(refine e7 ?_ ?_<;>intro hG<;>(try cases hG))|(apply dC;refine aD ?_)|(apply iu;refine aD ?_)|refine dZ ?_|refine ga ?_|(apply tU;first|refine bW ?_|refine d7 ?_|refine dQ ?_|refine gI ?_|refine aD ?_|refine se ?_)|(apply tT;first|refine dt ?_|refine dJ ?_|refine gp ?_|refine eT ?_|refine eT (hnu:=bytC_noUn _) ?_|refine o_app0 ?_|refine o_app0 (hnu:=bytC_noUn _) ?_|refine aD ?_)|refine li ?_|refine o_sto ?_|(apply tV;first|refine iY ?_|refine jB ?_|refine aD ?_)|(apply fF;first|refine cP ?_|refine cS ?_|refine dq ?_|refine gD ?_|refine aD ?_)|(apply tW;first|refine dK ?_|refine gk ?_|refine o_cvs ?_|refine o_cvr ?_|refine aD ?_)|refine pi ?_|refine sd ?_|refine nu ?_|refine eU ?_|refine ir ?_|refine gZ ?_|refine gC ?_|refine aD ?_|refine o_mv ?_)|refine aj ?_|refine ab ?_)
  skip
  exact fY
 | false =>
 rw [if_neg (by simp)]
 rw [s4,if_neg (by simp)] at c4
 have hk:=tks_enc' (l:=L)
 have hlen:L.length=(L.map T3.E).length:=(List.length_map ..).symm
 obtain⟨⟨tk,tn,ts⟩,htt⟩:∃t,tAt L r.a=t:=⟨_,rfl⟩
 have hx:=oN ha htt
 rw [htt]
 dsimp only
 by_cases h1:tk=1
 ·subst h1
  rw [if_pos rfl]
  have k2:=jq hL (r:=r) 1
  clear hg hi
  generalize bQ L r 1=x at *
  obtain⟨⟨u1,u2,u3⟩,q⟩:=x
  have k3:=ru (n:=u2)
  obtain⟨a,b,d⟩:=r
  refine az func54 rfl rfl ?_
  unfold df at *
  (try dsimp only at c1 c2 c3 c4 k2 hx ⊢)
  repeat' (first|(apply ay;first|refine ak ?_|refine ai ?_|refine aF 0 (c1) ?_|refine bJ ?_)|refine aj ?_|refine ab ?_|refine aa fun C=>?_|refine ac ?_|refine ah ?_)
  refine ar rfl ?_
  repeat' (first|(apply ay;first|refine ak ?_|refine ai ?_|refine aF 0 (c2) ?_)|refine aj ?_|refine ab ?_|refine aa fun C=>?_|refine ac ?_)
  refine ar rfl ?_
  repeat' (first|(apply ay;first|refine ak ?_|refine ai ?_|refine aF 0 (c3) ?_)|refine aj ?_|refine ab ?_|refine aa fun C=>?_|refine ac ?_)
  refine ar rfl ?_
  repeat' (first|(apply ay;first|refine ak ?_|refine ai ?_|refine aF 0 (c4) ?_)|refine aj ?_|refine ab ?_|refine aa fun C=>?_|refine ac ?_)
  refine ar rfl ?_
  repeat' (first|(apply ay;first|refine ak ?_|refine ai ?_|refine aF 0 (k2) ?_|refine db k3 ?_|refine bh ?_|refine ao ?_|refine au ?_)|refine aj ?_|refine ab ?_|(apply da;first|(apply dC;refine aD ?_)|refine dZ ?_|refine ga ?_|refine bW ?_|refine d7 ?_|refine iY ?_|refine aD ?_)|refine aj ?_|refine ab ?_|refine aa fun C=>?_|refine av krq krq fun C=>?_|refine ac ?_|refine ah ?_|refine al ?_|refine aq rfl ?_)
  exact fY
 rw [if_neg h1]
 have e1:(tk==1)=false:=by simpa using h1
 by_cases h3:tk=3
 ·subst h3
  rw [if_pos rfl]
  have k2:=jq hL (r:=r) 3
  clear hg hi
  generalize bQ L r 3=x at *
  obtain⟨⟨u1,u2,u3⟩,q⟩:=x
  obtain⟨a,b,d⟩:=r
  refine az func54 rfl rfl ?_
  unfold df at *
  (try dsimp only at c1 c2 c3 c4 k2 hx ⊢)
  repeat' (first|(apply ay;first|refine ak ?_|refine ai ?_|refine aF 0 (c1) ?_|refine bJ ?_)|refine aj ?_|refine ab ?_|refine aa fun C=>?_|refine ac ?_|refine ah ?_)
  refine ar rfl ?_
  repeat' (first|(apply ay;first|refine ak ?_|refine ai ?_|refine aF 0 (c2) ?_)|refine aj ?_|refine ab ?_|refine aa fun C=>?_|refine ac ?_)
  refine ar rfl ?_
  repeat' (first|(apply ay;first|refine ak ?_|refine ai ?_|refine aF 0 (c3) ?_)|refine aj ?_|refine ab ?_|refine aa fun C=>?_|refine ac ?_)
  refine ar rfl ?_
  repeat' (first|(apply ay;first|refine ak ?_|refine ai ?_|refine aF 0 (c4) ?_)|refine aj ?_|refine ab ?_|refine aa fun C=>?_|refine ac ?_)
  refine ar rfl ?_
  repeat' (first|(apply ay;first|refine ak ?_|refine ai ?_|refine aF 0 (k2) ?_|refine bh ?_|refine ao ?_|refine au ?_)|refine aj ?_|refine ab ?_|(apply da;first|(apply dC;refine aD ?_)|refine dZ ?_|refine ga ?_|refine bW ?_|refine d7 ?_|refine iY ?_|refine aD ?_)|refine aj ?_|refine ab ?_|refine aa fun C=>?_|refine av krq krq fun C=>?_|refine ac ?_|refine ah ?_|refine al ?_|refine aq rfl ?_|refine ar rfl ?_)
  refine bc (cR 90000 (i:=2) 26 4 rfl rfl (pre:=[_,_,_]) (post:=[]) rfl) ?_
  exact fY
 rw [if_neg h3]
 have k2:=yj hL hok hf hf1 hg hi (r:=r) omq hd hd2
 have hn:=ii hok 2 (Nat.le_of_lt ha)
 have f2:=(yd hok hg hn.2.2.2.2.1 hn.2.2.1).1
 clear hg hi hn
 generalize cG L g (bQ L r 2).1.2.2 (bQ L r 2).2=x at *
 obtain⟨y,q⟩:=x
 dsimp only at f2
 cases f2 with
 | mk m1 m2 m3 m4 _ _ _ _ =>
 ·obtain⟨a,b,d⟩:=r
  refine az func54 rfl rfl ?_
  unfold df at *
  (try dsimp only at c1 c2 c3 c4 k2 hx ⊢)
  repeat' (first|(apply ay;first|refine ak ?_|refine ai ?_|refine aF 0 (c1) ?_|refine bJ ?_)|refine aj ?_|refine ab ?_|refine aa fun C=>?_|refine ac ?_|refine ah ?_)
  refine ar rfl ?_
  repeat' (first|(apply ay;first|refine ak ?_|refine ai ?_|refine aF 0 (c2) ?_)|refine aj ?_|refine ab ?_|refine aa fun C=>?_|refine ac ?_)
  refine ar rfl ?_
  repeat' (first|(apply ay;first|refine ak ?_|refine ai ?_|refine aF 0 (c3) ?_)|refine aj ?_|refine ab ?_|refine aa fun C=>?_|refine ac ?_)
  refine ar rfl ?_
  repeat' (first|(apply ay;first|refine ak ?_|refine ai ?_|refine aF 0 (c4) ?_)|refine aj ?_|refine ab ?_|refine aa fun C=>?_|refine ac ?_)
  refine ar rfl ?_
  repeat' (first|(apply ay;first|refine ai ?_|refine ao ?_)|refine aj ?_|refine ab ?_|(apply da;first|(apply dC;refine aD ?_)|refine dZ ?_|refine ga ?_|refine bW ?_|refine d7 ?_|refine iY ?_|refine aD ?_)|refine aj ?_|refine ab ?_|refine aa fun C=>?_|refine av krq krq fun C=>?_|refine ac ?_|refine ah ?_|refine al ?_)
  refine ae rqf (fun hC=>absurd (eq_of_beq hC) h1) fun hC=>?_
  repeat' (first|(apply ay;first|refine ai ?_|refine ao ?_)|refine aj ?_|refine ab ?_|refine aa fun C=>?_|refine ac ?_)
  refine ae rqf (fun hC=>absurd (eq_of_beq hC) h3) fun hC=>?_
  repeat' (first|(apply ay;first|refine ak ?_|refine aF 0 (k2) ?_|refine bh ?_)|refine aj ?_|refine ab ?_|refine aa fun C=>?_|refine ac ?_|refine al ?_)
  exact fY
theorem yk {L:List T3}(hL:L.length≤2000)(hok:okL L):∀f:Nat,f≤22→HS L f (exS L f)
 | 0,_,q,ha,hd,hf1,hd2=>absurd hf1 (by decide)
 | f+1,hf,q,ha,hd,hf1,hd2=>by
  have hlen:L.length=(L.map T3.E).length:=(List.length_map ..).symm
  unfold exS
  by_cases hc:20<q.d+1∨q.b=true∨¬q.a<L.length
  ·rw [if_pos hc]
   obtain⟨a,b,d⟩:=q
   (try dsimp only at ha hd hd2 hc ⊢)
   refine az func30 rfl rfl ?_
   unfold df
   dsimp only
   cases b with
   | true =>
    repeat' (first|(apply ay;first|refine ak ?_|refine bf ?_|refine aI ?_|refine bh ?_|refine aw ?_|refine bJ ?_|refine au ?_)|refine aj ?_|refine ab ?_|(apply da;first|refine fg ?_|(refine e7 ?_ ?_<;>intro hG<;>(try cases hG))|(apply dC;refine aD ?_)|refine dZ ?_|refine bW ?_|(apply fF;refine aD ?_)|refine aD ?_)|refine aj ?_|refine ab ?_|refine aa fun C=>?_|refine av krq krq fun C=>?_|refine ac ?_)
    all_goals
     refine aq rfl ?_
     repeat' (first|(apply ay;first|refine ak ?_|refine bf ?_|refine bh ?_|refine au ?_)|refine aj ?_|refine ab ?_|refine aa fun C=>?_|refine ac ?_)
     refine bc (cR 90000 (i:=2) 26 4 rfl rfl (pre:=[_,_,_]) (post:=[]) rfl) ?_
     exact fY
   | false =>
    repeat' (first|(apply ay;first|refine ak ?_|refine bf ?_|refine aI ?_|refine bh ?_|refine aw ?_|refine bJ ?_|refine au ?_)|refine aj ?_|refine ab ?_|(apply da;first|refine fg ?_|(refine e7 ?_ ?_<;>intro hG<;>(try cases hG))|(apply dC;refine aD ?_)|refine dZ ?_|refine bW ?_|refine dt ?_|(apply fF;refine aD ?_)|refine aD ?_)|refine aj ?_|refine ab ?_|refine aa fun C=>?_|refine av krq krq fun C=>?_|refine ac ?_)
    ·refine aq rfl ?_
     repeat' (first|(apply ay;first|refine ak ?_|refine bf ?_|refine bh ?_|refine au ?_)|refine aj ?_|refine ab ?_|refine aa fun C=>?_|refine ac ?_)
     refine bc (cR 90000 (i:=2) 26 4 rfl rfl (pre:=[_,_,_]) (post:=[]) rfl) ?_
     exact fY
    ·refine ae rqf (fun hC=>?_) fun hC=>?_
     ·repeat' (first|(apply ay;first|refine ak ?_|refine bf ?_|refine bh ?_|refine au ?_)|refine aj ?_|refine ab ?_|refine aa fun C=>?_|refine ac ?_)
      refine bc (cR 90000 (i:=2) 26 4 rfl rfl (pre:=[_,_,_]) (post:=[]) rfl) ?_
      exact fY
     ·exfalso
      simp only [dqn] at hC hG
      rcases hc with h|h|h
      ·omega
      ·cases h
      ·omega
  ·rw [if_neg hc]
   have hb:q.b=false:=by cases h:q.b with
    | false=>rfl
    | true=>exact absurd (.inr (.inl h)) hc
   have hlt:q.a<L.length:=Classical.byContradiction fun h=>hc (.inr (.inr h))
   have hdd:¬20<q.d+1:=fun h=>hc (.inl h)
   have ih:=yk hL hok f omq
   have k2:=zv6 hL hok (f:=f) omq omq (th hok f) ih (r:=⟨q.a,q.b,q.d+1⟩) hlt hb (by dsimp only;omega) (by dsimp only;omega)
   have p2:=ye hok (th hok f) (r:=⟨q.a,q.b,q.d+1⟩) ha (by show q.b.toNat=0;rw [hb];rfl)
   have f2:=p2.1
   have n2:=p2.2
   clear p2 ih
   generalize dW L (exS L f) ⟨q.a,q.b,q.d+1⟩=x at *
   obtain⟨y,r2⟩:=x
   obtain⟨a,b,d⟩:=q
   have hb:b=false:=hb
   subst hb
   dsimp only at f2 n2 hlt hdd ha hd hd2
   have hz:((r2.d:Int))-1=((r2.d-1:Nat):Int):=by omega
   cases f2 with
   | mk m1 m2 m3 m4 _ _ _ _ =>
   obtain⟨a2,b2,d2⟩:=r2
   (try dsimp only at n2 hz ⊢)
   rw [show (⟨a2,b2,d2-1⟩:RS)=⟨a2,b2,d2-1⟩ from rfl]
   refine az func30 rfl rfl ?_
   unfold df at *
   (try dsimp only at k2 ⊢)
   rw [←hz]
   repeat' (first|(apply ay;first|refine ak ?_|refine bf ?_|refine aI ?_|refine bh ?_|refine aw ?_|refine bJ ?_|refine au ?_)|refine aj ?_|refine ab ?_|(apply da;first|refine fg ?_|(refine e7 ?_ ?_<;>intro hG<;>(try cases hG))|(apply dC;refine aD ?_)|refine dZ ?_|refine bW ?_|refine dt ?_|(apply fF;refine aD ?_)|refine aD ?_)|refine aj ?_|refine ab ?_|refine aa fun C=>?_|refine av krq krq fun C=>?_|refine ac ?_)
   ·exfalso;simp only [dqt] at hG;omega
   ·refine ae rqf (fun hC=>by exfalso;simp only [dqt] at hC;omega) fun hC=>?_
    repeat' (first|(apply ay;first|refine ak ?_|refine bf ?_|refine aI ?_|refine bM ?_|refine aF 0 (k2) ?_|refine bh ?_|refine cu ?_|refine bJ ?_|refine au ?_)|refine aj ?_|refine ab ?_|refine aa fun C=>?_|refine ac ?_|refine al ?_)
    exact fY
section
variable {ops:Array Oper}{Q:Exit→Act→World→Prop}{C:Ctx}{i:Nat}{r:List Nat}
variable {tm:Nat→AV}{hp:Nat→Option Row}{gn L:Nat}{us:List Nat}
theorem e_rem {ty:TypeId}{gd:Option (Nat×Bool)}{ps:String}{af:Array Edge}{t:Nat}{x y:Operand}{U:TypeId}{z1 z2:Int}{ev:Operand→AV}(hx:ev x=.c (.v (.int .i64 z1)))(hy:ev y=.c (.v (.int .i64 z2)))(h0:z2≠0):EffD prog (⟨some t,.binOp .rem 3 x y U,ty,ps,af,gd⟩:Oper) ev hp 0=some (.c (.v (.int .i64 (z1.tmod z2))),.nop):=by
 show nop? (dY _ _ _)=_
 rw [eE rfl (by intro q hq;have hq':q=x∨q=y:=(by have h2:q∈[x,y]:=Array.mem_toList_iff.2 hq;simpa using h2);rcases hq' with rfl|rfl<;>first|(rw [hx];rfl)|(rw [hy];rfl))]
 unfold execOp
 dsimp only
 rw [hx,hy]
 have hd:Op.intDiv .rem .i64 z1 z2=pure (.int .i64 (z1.tmod z2)):=by unfold Op.intDiv;rw [if_neg h0]
 simp only [AV.val?,AC.val?,Option.getD_some,binOp,ne_eq,not_true_eq_false,if_false,hd]
 rfl
theorem n_rem {ty:TypeId}{gd:Option (Nat×Bool)}{ps:String}{af:Array Edge}{t:Nat}{x y:Operand}{U:TypeId}{z1 z2:Int}(h0:z2≠0)(h:Walk prog ops Q C false [] r ⟨upd tm t (.c (.v (.int .i64 (z1.tmod z2)))),hp,gn,us,L⟩)(ht:Nat.blt t L=true:=by exact rfl)(hg:gw ops tm (⟨some t,.binOp .rem 3 x y U,ty,ps,af,gd⟩:Oper)=some true:=by exact rfl)(hx:AS.ev ⟨tm,hp,gn,us,L⟩ x=.c (.v (.int .i64 z1)):=by exact rfl)(hy:AS.ev ⟨tm,hp,gn,us,L⟩ y=.c (.v (.int .i64 z2)):=by exact rfl):WalkO prog ops Q C false [] i (⟨some t,.binOp .rem 3 x y U,ty,ps,af,gd⟩:Oper) r ⟨tm,hp,gn,us,L⟩:=au h ht hg (e_rem hx hy h0)
end
theorem tj {x n:Int}(hx:0≤x)(hn:0<n):∃k:Nat,(k:Int)<n∧x.tmod n=(k:Int):=by
 refine⟨(x % n).toNat,?_,?_⟩
 ·have:=Int.emod_nonneg x (show n≠0 by omega);have:=Int.emod_lt_of_pos x hn;omega
 ·rw [Int.tmod_eq_emod_of_nonneg hx];have:=Int.emod_nonneg x (show n≠0 by omega);omega
theorem bD {cs:List AC}(h:Curs cs):bu cs=true:=by
 obtain⟨l,i,x,-,-,-,rfl⟩:=h
 simp [bu,clo,aM]
theorem dx {cs cs':List AC}(h:Curs cs)(h':Curs cs'):cs.length=cs'.length:=by
 obtain⟨l,i,x,-,-,-,rfl⟩:=h
 obtain⟨l',i',x',-,-,-,rfl⟩:=h'
 rfl
theorem eQ {cs:List AC}(hc:Curs cs)(n:Int)(hn:0<n):∃(k:Nat) (cs':List AC),Curs cs'∧(k:Int)<n∧Ctr prog 41 [.c (.pt 0 0),.c (.v (.int .i64 n))] [cs] (.c (.v (.int .i64 (k:Int)))) [cs']:=by
 have cc:=bD hc
 obtain⟨x,cs1,h1,hx,c1⟩:=oL hc
 have cc1:=bD h1
 by_cases hs:n≤256
 ·obtain⟨k,hk,ek⟩:=tj hx.1 hn
  refine⟨k,cs1,h1,hk,az func41 rfl rfl ?_⟩
  repeat' (first|(apply ay;first|refine ak ?_|refine ai ?_|refine bp ?_)|refine aj ?_|refine ab ?_|refine aa fun C=>?_|refine ac ?_)
  refine ae rqf (fun hC=>absurd (of_decide_eq_true hC) omq) fun hC=>?_
  repeat' (first|(apply ay;first|refine ak ?_|refine bp ?_)|refine aj ?_|refine ab ?_|refine aa fun C=>?_|refine ac ?_|refine al ?_)
  refine ae rqf (fun hC=>?_) fun hC=>absurd (of_decide_eq_false hC) omq
  repeat' (first|(apply ay;first|refine ak ?_|refine aF 0 (c1) ?_ (hl:=bF rqf cc))|(apply f_w;refine aj ?_)|refine aa fun C=>?_|refine ac ?_)
  refine n_rem (z2:=n) omq ?_
  rw [ek]
  repeat' (first|(apply ay;refine ai ?_)|refine aj ?_|refine ab ?_)
  refine am ?_
  exact dO rfl aJ rfl cc1 (dx h1 hc) ⟨rfl,rfl⟩
 ·obtain⟨y,cs2,h2,hy,c2⟩:=oL h1
  obtain⟨z,cs3,h3,hz,c3⟩:=oL h2
  have cc2:=bD h2
  have cc3:=bD h3
  obtain⟨k,hk,ek⟩:=tj (x:=x*65536+y*256+z) omq hn
  refine⟨k,cs3,h3,hk,az func41 rfl rfl ?_⟩
  repeat' (first|(apply ay;first|refine ak ?_|refine ai ?_|refine bp ?_)|refine aj ?_|refine ab ?_|refine aa fun C=>?_|refine ac ?_)
  refine ae rqf (fun hC=>absurd (of_decide_eq_true hC) omq) fun hC=>?_
  repeat' (first|(apply ay;first|refine ak ?_|refine bp ?_)|refine aj ?_|refine ab ?_|refine aa fun C=>?_|refine ac ?_|refine al ?_)
  refine ae rqf (fun hC=>absurd (of_decide_eq_true hC) omq) fun hC=>?_
  repeat' (first|(apply ay;first|refine ak ?_|refine ai ?_|refine aF 0 (c1) ?_ (hl:=bF rqf cc)|refine aF 0 (c2) ?_ (hl:=bF rqf cc1)|refine aF 0 (c3) ?_ (hl:=bF rqf cc2)|refine aw ?_|refine dh ?_)|refine aj ?_|refine ab ?_|refine aa fun C=>?_|refine ac ?_|refine al ?_)
  refine n_rem (z2:=n) omq ?_
  rw [ek]
  repeat' (first|(apply ay;refine ai ?_)|refine aj ?_|refine ab ?_)
  refine am ?_
  exact dO rfl aJ rfl cc3 (dx h3 hc) ⟨rfl,rfl⟩
theorem tl {cs:List AC}(hc:Curs cs)(n:Int)(hn:0<n):∃(b:Bool) (cs':List AC),Curs cs'∧Ctr prog 34 [.c (.pt 0 0),.c (.v (.int .i64 n))] [cs] (.c (.v (.bool b))) [cs']:=by
 have cc:=bD hc
 obtain⟨k,cs1,h1,hk,c1⟩:=eQ hc n hn
 have cc1:=bD h1
 refine⟨((k:Int)==0),cs1,h1,az func34 rfl rfl ?_⟩
 repeat' (first|(apply ay;first|refine ak ?_|refine ai ?_|refine aF 0 (c1) ?_ (hl:=bF rqf cc)|refine ao ?_)|refine aj ?_|refine ab ?_|refine aa fun C=>?_|refine ac ?_)
 refine am ?_
 exact dO rfl aJ rfl cc1 (dx h1 hc) ⟨rfl,rfl⟩
def intL (ns:List Int):List E:=ns.map fun n=>.int .i64 n
def rB (ns:List ByteArray):List E:=ns.map fun n=>.str n
theorem zd1 {ns:List Int}:∀e∈intL ns,e.enc.length=1:=fun e he=>by obtain⟨x,-,rfl⟩:=List.mem_map.1 he;rfl
theorem ze1 {ns:List ByteArray}:∀e∈rB ns,e.enc.length=1:=fun e he=>by obtain⟨x,-,rfl⟩:=List.mem_map.1 he;rfl
theorem tp {ns:List Int}:(intL ns).length=ns.length:=by simp [intL]
theorem tq {ns:List ByteArray}:(rB ns).length=ns.length:=by simp [rB]
theorem rC {cs:List AC}(hc:Curs cs)(ns:List Int)(hn:0<ns.length):∃(z:Int) (cs':List AC),Curs cs'∧z∈ns∧Ctr prog 42 [.c (.pt 0 0),.c (.ro (intL ns).length 1 (acL (intL ns)))] [cs] (.c (.v (.int .i64 z))) [cs']:=by
 have cc:=bD hc
 obtain⟨k,cs1,h1,hk,c1⟩:=eQ hc ((intL ns).length:Nat) (by rw [tp];omega)
 have cc1:=bD h1
 have hk':k<ns.length:=by rw [tp] at hk;omega
 have henc:=zd1 (ns:=ns)
 obtain⟨z,hz⟩:∃z,ns[k]? = some z:=⟨_,List.getElem?_eq_getElem hk'⟩
 have he:(intL ns)[k]? = some (.int .i64 z):=by unfold intL;rw [List.getElem?_map,hz];rfl
 refine⟨z,cs1,h1,mge hz,az func42 rfl rfl ?_⟩
 repeat' (first|(apply ay;first|refine ak ?_|refine ai ?_|refine dD ?_|refine aF 0 (c1) ?_ (hl:=bF rqf cc)|refine bC ?_|refine gJ ?_)|refine aj ?_|refine ab ?_|refine aa fun C=>?_|refine ac ?_)
 refine am ?_
 exact dO rfl aJ rfl cc1 (dx h1 hc) ⟨rfl,rfl⟩
theorem kx {cs:List AC}(hc:Curs cs)(ns:List ByteArray)(hn:0<ns.length):∃(z:ByteArray) (cs':List AC),Curs cs'∧z∈ns∧Ctr prog 35 [.c (.pt 0 0),.c (.ro (rB ns).length 1 (acL (rB ns)))] [cs] (.c (.v (.string z))) [cs']:=by
 have cc:=bD hc
 obtain⟨k,cs1,h1,hk,c1⟩:=eQ hc ((rB ns).length:Nat) (by rw [tq];omega)
 have cc1:=bD h1
 have hk':k<ns.length:=by rw [tq] at hk;omega
 have henc:=ze1 (ns:=ns)
 obtain⟨z,hz⟩:∃z,ns[k]? = some z:=⟨_,List.getElem?_eq_getElem hk'⟩
 have he:(rB ns)[k]? = some (.str z):=by unfold rB;rw [List.getElem?_map,hz];rfl
 refine⟨z,cs1,h1,mge hz,az func35 rfl rfl ?_⟩
 repeat' (first|(apply ay;first|refine ak ?_|refine ai ?_|refine dD ?_|refine aF 0 (c1) ?_ (hl:=bF rqf cc)|refine bC ?_|refine gJ ?_)|refine aj ?_|refine ab ?_|refine aa fun C=>?_|refine ac ?_)
 refine am ?_
 exact dO rfl aJ rfl cc1 (dx h1 hc) ⟨rfl,rfl⟩
structure ExtM (M:Nat→Prop)(w w':World)(St:Nat→Prop)(φ:Nat→Lc)(F:Nat→List Nat)(pars:List (List AC))(res:AV)(u:Value)(rows:List (List AC))(St':Nat→Prop)(F':Nat→List Nat)(G:List Nat):Prop where
 frm:Fc M (qs φ pars) w w'
 res:VRF w' St' φ0 K0 res u G
 nodG:G.Nodup
 len:rows.length=pars.length
 row:∀i cs,rows[i]? = some cs→∃b lo vs,φ i=.box b lo∧CRL w' St' φ0 K0 cs vs (F' i)∧BoxAt w' b lo vs∧∃cs0,pars[i]? = some cs0∧cs.length=cs0.length
 nod:∀i,i<pars.length→(F' i).Nodup
 disG:∀i,i<pars.length→∀b∈F' i,b∉G
 dis:∀i j,i<pars.length→j<pars.length→i≠j→∀b∈F' i,b∉F' j
 bxF:∀i b lo,i<pars.length→φ i=.box b lo→b∉G∧∀j,j<pars.length→b∉F' j
 own:∀b,(b∈G∨∃i,i<pars.length∧b∈F' i)→(M b∨w.heap.size≤b)
 sta:∀b,St' b→(b<w.heap.size→St b∨M b)∧b∉G∧∀i,i<pars.length→b∉F' i∧∀lo,φ i≠.box b lo
structure EntU (w:World)(St:Nat→Prop)(φ:Nat→Lc)(F:Nat→List Nat)(ins:List AV)(us:List Value)(pars:List (List AC))(p:Nat)(T:TypeId)(k n:Nat)(cs:List AC)(A:List Nat):Prop where
 ent:Ent w St φ F ins us pars
 row:∃u vs fs,us[p]? = some u∧CRL w St φ0 K0 cs vs fs∧w.ownsRow 0 T k u n vs∧A=obl u++fs
 nod:A.Nodup
 st:∀b∈A,¬St b
 ap:∀b∈A,∀i,i<pars.length→b∉F i∧∀lo,φ i≠.box b lo
 gl:∀b,isG b→b∉A
section
variable {P:Program}{C:Ctx}{φ:Nat→Lc}{F:Nat→List Nat}{St:Nat→Prop}{σ:AS}{a:Act}{w w':World}{D:List Nat}{pars:List (List AC)}
end
section
variable {P:Program}{ops:Array Oper}{Q:Exit→Act→World→Prop}{C:Ctx}{σ:AS}{o:Oper}{i:Nat}
end
end Go.Proofs.YtomolhbkdhjofaaGreatDoor
