/- T -/
import Derived.Test.YtomolhbkdhjofaaGreatDoorExAAG
set_option maxHeartbeats 0
set_option maxRecDepth 100000
namespace Go.Proofs.YtomolhbkdhjofaaGreatDoor
open Go.RowKit Go.Proofs.Tryz
theorem qf {L:List T3}(hL:L.length≤2000)(hok:okL L){f:Nat}(hf:f≤3000){g:RI→E×RI}(hg:GI L f g)(hi:HI L f g){r:RI}(hb:r.b=false)(hr:L.length+1≤r.a+(f+1))(ha:r.a<L.length) :
 Ctr prog 51 [.c (.pt 0 0)] [di L r] (.ag (owE (enI L g r).1)) [di L (enI L g r).2]:=by
 obtain⟨a,b⟩:=r
 have hb:b=false:=hb
 subst hb
 dsimp only at hr ha
 unfold enI
 have w1:=nz L ⟨a,false⟩ ⟨#[40]⟩
 have k1:=eB hL (r:=⟨a,false⟩) (by dsimp only;omega) ⟨#[40]⟩
 generalize waI L ⟨a,false⟩ ⟨#[40]⟩=r1 at *
 dsimp only at w1
 have t1:TI L r1:=fun h=>by have:=w1.2 h;omega
 have g1:=hg r1 t1
 have k2:=hi r1 t1 (fun _=>by omega)
 have n1:=g1.n
 have f1:=g1.fine
 clear g1
 generalize g r1=x1 at *
 have hq1:x1.2.a≤60000:=by omega
 have c1:=oM hL (r:=x1.2) omq (j:=0) omq (z:=0) rfl ⟨#[105,110]⟩
 have c2:=oM hL (r:=x1.2) omq (j:=0) omq (z:=0) rfl ⟨#[126]⟩
 obtain⟨y1,⟨q1,b1⟩⟩:=x1
 dsimp only at *
 have hu:RI.up ⟨q1,b1⟩=⟨q1+1,b1⟩:=rfl
 cases hi1:isI L ⟨q1,b1⟩ 0 ⟨#[105,110]⟩ with
 | true =>
  rw [if_pos rfl,hu]
  rw [hi1] at c1
  clear c2 hg hi
  have k4:=nj hL (r:=⟨q1+1,b1⟩) (by dsimp only;omega) 2
  have t3:=zR hok ⟨q1+1,b1⟩ (k:=2) (by decide)
  generalize taI L ⟨q1+1,b1⟩ 2=x3 at *
  obtain⟨⟨u1,u2,u3⟩,q3⟩:=x3
  dsimp only at *
  have k7:=eB hL (r:=q3) omq ⟨#[41]⟩
  generalize waI L q3 ⟨#[41]⟩=r6 at *
  clear w1 t1 t3 hi1
  cases f1 with
  | mk m1 m2 m3 m4 _ _ _ _ =>
  refine av func51 rfl rfl ?_
  unfold di at *
  dsimp only at c1 k1 k2 k4 k7 ⊢
  repeat' (first|(apply ay;first|refine al ?_|refine ai ?_|refine bj ?_|refine aI ?_|refine bN ?_|refine d8 0 [6] (k1) ?_ (hl:=bz (by rfl) bW)|refine d8 0 [52] (k7) ?_ (hl:=bz (by rfl) bW)|refine aK 0 (c1) ?_|refine aK 0 (k2) ?_|refine bC ?_|refine aw ?_|refine bZ ?_|refine dX ?_|refine az ?_)|refine ak ?_|refine ab ?_|(apply dC;first|(apply ep;refine aN ?_)|refine mF ?_|refine pm 0 (k4) ?_|refine pn ?_|refine um ?_|refine aN ?_)|refine ak ?_|refine ab ?_|refine aa fun C=>?_|refine ar (by kernel_rfl) (by kernel_rfl) fun C=>?_|refine ac ?_|refine ah ?_|refine aq rfl ?_)
  refine bk (em (i:=33) (j:=1000) rfl rfl rfl (pre:=[_,_,_]) (post:=[]) rfl) ?_
  exact ly
 | false =>
  rw [if_neg (by simp)]
  rw [hi1] at c1
  cases hi2:isI L ⟨q1,b1⟩ 0 ⟨#[126]⟩ with
  | true =>
   rw [if_pos rfl,hu]
   rw [hi2] at c2
   clear hg hi
   have k4:=nj hL (r:=⟨q1+1,b1⟩) (by dsimp only;omega) 4
   have t3:=zR hok ⟨q1+1,b1⟩ (k:=4) (by decide)
   generalize taI L ⟨q1+1,b1⟩ 4=x3 at *
   obtain⟨⟨u1,u2,u3⟩,q3⟩:=x3
   dsimp only at *
   have k7:=eB hL (r:=q3) omq ⟨#[41]⟩
   generalize waI L q3 ⟨#[41]⟩=r6 at *
   clear w1 t1 t3 hi1 hi2
   cases f1 with
   | mk m1 m2 m3 m4 _ _ _ _ =>
   refine av func51 rfl rfl ?_
   unfold di at *
   dsimp only at c1 c2 k1 k2 k4 k7 ⊢
   repeat' (first|(apply ay;first|refine al ?_|refine ai ?_|refine bj ?_|refine aI ?_|refine bN ?_|refine d8 0 [6] (k1) ?_ (hl:=bz (by rfl) bW)|refine d8 0 [52] (k7) ?_ (hl:=bz (by rfl) bW)|refine aK 0 (c1) ?_|refine aK 0 (c2) ?_|refine aK 0 (k2) ?_|refine bC ?_|refine aw ?_|refine bZ ?_|refine dX ?_|refine az ?_)|refine ak ?_|refine ab ?_|(apply dC;first|(apply ep;refine aN ?_)|refine mF ?_|refine pm 0 (k4) ?_|refine pn ?_|refine um ?_|refine aN ?_)|refine ak ?_|refine ab ?_|refine aa fun C=>?_|refine ar (by kernel_rfl) (by kernel_rfl) fun C=>?_|refine ac ?_|refine ah ?_|refine aq rfl ?_|refine au rfl ?_)
   refine bk (em (i:=49) (j:=1000) rfl rfl rfl (pre:=[_,_,_]) (post:=[]) rfl) ?_
   exact ly
  | false =>
   rw [if_neg (by simp)]
   rw [hi2] at c2
   have k4:=nj hL (r:=⟨q1,b1⟩) (by dsimp only;omega) 5
   have t3:=zR hok ⟨q1,b1⟩ (k:=5) (by decide)
   generalize taI L ⟨q1,b1⟩ 5=x3 at *
   obtain⟨⟨u1,u2,u3⟩,q3⟩:=x3
   dsimp only at *
   have bb1:=gF r1.b;have bb2:=gF b1;have bb3:=gF q3.b
   have t4:TI L q3:=fun h=>by have:=t3.2.1 h;omega
   have g5:=hg q3 t4
   have k6:=hi q3 t4 (fun _=>by omega)
   have n5:=g5.n
   have f5:=g5.fine
   clear g5 hg hi
   generalize g q3=x5 at *
   have k7:=eB hL (r:=x5.2) omq ⟨#[41]⟩
   generalize waI L x5.2 ⟨#[41]⟩=r6 at *
   obtain⟨y5,q5⟩:=x5
   dsimp only at *
   clear w1 t1 t3 hi1 hi2 n1 n5 t4 bb1 bb2 bb3
   cases f1 with
   | mk m1 m2 m3 m4 _ _ _ _ =>
   cases f5 with
   | mk h1 h2 h3 h4 _ _ _ _ =>
   refine av func51 rfl rfl ?_
   unfold di at *
   dsimp only at c1 c2 k1 k2 k4 k6 k7 ⊢
   repeat' (first|(apply ay;first|refine al ?_|refine ai ?_|refine bN ?_|refine d8 0 [6] (k1) ?_ (hl:=bz (by rfl) bW)|refine d8 0 [52] (k7) ?_ (hl:=bz (by rfl) bW)|refine aK 0 (c1) ?_|refine aK 0 (c2) ?_|refine aK 0 (k4) ?_|refine aK 0 (k2) ?_|refine bC ?_|refine bZ ?_|refine dX ?_|refine az ?_)|refine ak ?_|refine ab ?_|(apply dC;first|(apply ep;refine aN ?_)|refine fA ?_|refine mF ?_|refine pm 0 (k6) ?_|refine pn ?_|refine um ?_)|refine ak ?_|refine ab ?_|refine aa fun C=>?_|refine ar (by kernel_rfl) (by kernel_rfl) fun C=>?_|refine ac ?_|refine ah ?_|refine au rfl ?_)
   refine bk (em (i:=17) (j:=1000) rfl rfl rfl (pre:=[_,_,_]) (post:=[_,_,_,_]) rfl) ?_
   refine bk (em (i:=17) (j:=1700) rfl rfl rfl (pre:=[_,_,_,_,_,_,_]) (post:=[]) rfl) ?_
   exact ly
theorem oQ {L:List T3}{r:RI}(hb:r.b=true):Ctr prog 26 [.c (.pt 0 0)] [di L r] (.ag (owE (zE,r).1)) [di L (zE,r).2]:=by
 obtain⟨a,b⟩:=r
 have hb:b=true:=hb
 subst hb
 refine av func26 rfl rfl ?_
 unfold di
 dsimp only
 repeat' (first|(apply ay;first|refine al ?_|refine bj ?_|refine aI ?_|refine bC ?_|refine bZ ?_|refine az ?_)|refine ak ?_|refine ab ?_|refine aa fun C=>?_|refine ac ?_|refine aq rfl ?_)
 refine bk (cP 90000 (i:=2) 26 4 rfl rfl (pre:=[_,_,_]) (post:=[]) rfl) ?_
 exact ly
theorem zy2 {L:List T3}(hL:L.length≤2000)(hok:okL L){f:Nat}(hf:f≤3000){g:RI→E×RI}(hg:GI L f g)(hi:HI L f g){r:RI}(hb:r.b=false)(hr:L.length+1≤r.a+(f+1))(ht:TI L r):Ctr prog 26 [.c (.pt 0 0)] [di L r] (.ag (owE (paI L g r).1)) [di L (paI L g r).2]:=by
 have ha0:r.a≤L.length:=ht (by rw [hb];rfl)
 have cw:r.a<L.length→Ctr prog 49 [.c (.pt 0 0)] [di L r] (.ag (owE (cu L g (tAt L r.a).2.2 r).1)) [di L (cu L g (tAt L r.a).2.2 r).2]:=fun h=>zw2 hL hok hf hg hi hb hr h
 have fw:r.a<L.length→FnX (cu L g (tAt L r.a).2.2 r).1:=fun h=>(wq hok hg (wo hok r.a).1 (by rw [hb];rfl) h).fine
 have ce:r.a<L.length→Ctr prog 51 [.c (.pt 0 0)] [di L r] (.ag (owE (enI L g r).1)) [di L (enI L g r).2]:=fun h=>qf hL hok hf hg hi hb hr h
 have fe:r.a<L.length→FnX (enI L g r).1:=fun h=>(en_PI hok hg (by rw [hb];rfl) h).fine
 have hlt0:(tAt L r.a).1≠0→r.a<L.length:=fun h=>pZ h
 obtain⟨a,b⟩:=r
 have hb:b=false:=hb
 subst hb
 dsimp only at hr ha0 cw fw ce fe hlt0
 have c1:=gG hL (r:=⟨a,false⟩) (by dsimp only;omega) (j:=0) omq (z:=0) rfl
 have c2:=oM hL (r:=⟨a,false⟩) (by dsimp only;omega) (j:=0) omq (z:=0) rfl ⟨#[40]⟩
 rw [show (⟨a,false⟩:RI).a+0=a from rfl] at c1
 unfold paI
 dsimp only
 generalize htt:tAt L a=t at *
 obtain⟨k,n,s⟩:=t
 dsimp only at *
 have hu:RI.up ⟨a,false⟩=⟨a+1,false⟩:=rfl
 by_cases h1:k=1
 ·subst h1
  rw [if_pos rfl,hu]
  clear cw fw ce fe hg hi c2
  refine av func26 rfl rfl ?_
  unfold di at *
  dsimp only at c1 ⊢
  repeat' (first|((refine fI (by decide) (by decide) (by decide) ?_))|(apply ay;first|refine al ?_|refine ai ?_|refine bj ?_|refine aI ?_|refine aK 0 (c1) ?_|refine bC ?_|refine ao ?_|refine aw ?_|refine bZ ?_|refine az ?_)|refine ak ?_|refine ab ?_|refine aa fun C=>?_|refine ac ?_|refine ah ?_|refine aj ?_|refine aq rfl ?_|refine au rfl ?_)
  refine bk (cP 90000 (i:=2) 26 4 rfl rfl (pre:=[_,_,_]) (post:=[]) rfl) ?_
  exact ly
 rw [if_neg h1]
 by_cases h3:k=3
 ·subst h3
  rw [if_pos rfl,hu]
  clear cw fw ce fe hg hi c2
  refine av func26 rfl rfl ?_
  unfold di at *
  dsimp only at c1 ⊢
  repeat' (first|((refine fI (by decide) (by decide) (by decide) ?_))|(apply ay;first|refine al ?_|refine ai ?_|refine bj ?_|refine aI ?_|refine aK 0 (c1) ?_|refine bC ?_|refine ao ?_|refine aw ?_|refine bZ ?_|refine az ?_)|refine ak ?_|refine ab ?_|refine aa fun C=>?_|refine ac ?_|refine ah ?_|refine aj ?_|refine aq rfl ?_|refine au rfl ?_)
  refine bk (cP 90000 (i:=2) 26 4 rfl rfl (pre:=[_,_,_]) (post:=[]) rfl) ?_
  exact ly
 rw [if_neg h3]
 by_cases h2:k=2
 ·subst h2
  rw [if_pos rfl]
  have cw:=cw (hlt0 (by decide))
  have fw:=fw (hlt0 (by decide))
  clear ce fe hg hi c2
  generalize cu L g s ⟨a,false⟩=x1 at *
  obtain⟨y1,q1⟩:=x1
  dsimp only at *
  cases fw with
  | mk m1 m2 m3 m4 _ _ _ _ =>
  refine av func26 rfl rfl ?_
  unfold di at *
  dsimp only at c1 cw ⊢
  repeat' (first|((refine fI (by decide) (by decide) (by decide) ?_))|(apply ay;first|refine al ?_|refine ai ?_|refine bj ?_|refine aI ?_|refine aK 0 (c1) ?_|refine aK 0 (cw) ?_|refine bC ?_|refine ao ?_|refine bZ ?_|refine az ?_)|refine ak ?_|refine ab ?_|refine aa fun C=>?_|refine ac ?_|refine ah ?_|refine aj ?_|refine aq rfl ?_|refine au rfl ?_)
  exact ly
 rw [if_neg h2]
 clear cw fw
 have e1:(k==1)=false:=by simpa using h1
 have e2:(k==2)=false:=by simpa using h2
 have e3:(k==3)=false:=by simpa using h3
 cases hi1:isI L ⟨a,false⟩ 0 ⟨#[40]⟩ with
 | true =>
  rw [if_pos rfl]
  rw [hi1] at c2
  have hlt:a<L.length:=lf hi1
  have ce:=ce hlt
  have fe:=fe hlt
  clear hg hi
  generalize enI L g ⟨a,false⟩=x1 at *
  obtain⟨y1,q1⟩:=x1
  dsimp only at *
  cases fe with
  | mk m1 m2 m3 m4 _ _ _ _ =>
  refine av func26 rfl rfl ?_
  unfold di at *
  dsimp only at c1 c2 ce ⊢
  repeat' (first|(apply ay;first|refine al ?_|refine bj ?_|refine aI ?_|refine bZ ?_|refine az ?_)|refine ak ?_|refine ab ?_|refine aa fun C=>?_|refine ac ?_)
  refine au rfl ?_
  repeat' (first|((refine fI (by decide) (by decide) (by decide) ?_))|(apply ay;first|refine al ?_|refine ai ?_|refine bj ?_|refine aI ?_|refine aK 0 (c1) ?_|refine bC ?_|refine ao ?_|refine bZ ?_)|refine ak ?_|refine ab ?_|refine aa fun C=>?_|refine ac ?_|refine ah ?_|refine aj ?_)
  refine ae (by rfl) (fun hC=>absurd (eq_of_beq hC) h1) fun hC=>?_
  repeat' (first|(apply ay;first|refine ai ?_|refine bj ?_|refine aI ?_|refine ao ?_)|refine ak ?_|refine ab ?_|refine aa fun C=>?_|refine ac ?_)
  refine ae (by rfl) (fun hC=>absurd (eq_of_beq hC) h3) fun hC=>?_
  repeat' (first|(apply ay;first|refine ai ?_|refine bj ?_|refine aI ?_|refine ao ?_)|refine ak ?_|refine ab ?_|refine aa fun C=>?_|refine ac ?_)
  refine ae (by rfl) (fun hC=>absurd (eq_of_beq hC) h2) fun hC=>?_
  repeat' (first|(apply ay;first|refine al ?_|refine ai ?_|refine aK 0 (c2) ?_|refine aK 0 (ce) ?_|refine bC ?_)|refine ak ?_|refine ab ?_|refine aa fun C=>?_|refine ac ?_|refine aq rfl ?_)
  exact ly
 | false =>
  rw [if_neg (by simp)]
  rw [hi1] at c2
  clear ce fe
  by_cases h5:k=5∧0<fH s
  ·rw [if_pos h5,hu]
   obtain⟨h5,hk⟩:=h5
   subst h5
   have hlt:=hlt0 (by decide)
   have t1:TI L ⟨a+1,false⟩:=fun h=>by dsimp only;omega
   have g1:=hg ⟨a+1,false⟩ t1
   have k2:=hi ⟨a+1,false⟩ t1 (fun _=>by dsimp only;omega)
   have f1:=g1.fine
   clear g1 hg hi
   generalize g ⟨a+1,false⟩=x1 at *
   obtain⟨y1,q1⟩:=x1
   dsimp only at *
   cases f1 with
   | mk m1 m2 m3 m4 _ _ _ _ =>
   have hk2:decide (0<fH s)=true:=decide_eq_true hk
   refine av func26 rfl rfl ?_
   unfold di at *
   dsimp only at c1 c2 k2 ⊢
   repeat' (first|((refine fI (by decide) (by decide) (by decide) ?_))|(apply ay;refine n_lk ?_)|(apply ay;first|(refine aR ?_ ?_<;>intro hG<;>(try cases hG))|refine al ?_|refine ai ?_|refine bj ?_|refine aI ?_|refine aK 0 (c1) ?_|refine aK 0 (c2) ?_|refine bC ?_|refine ao ?_|refine a7 ?_|refine aB ?_|refine bZ ?_|refine az ?_)|refine ak ?_|refine ab ?_|refine aa fun C=>?_|refine ac ?_|refine ah ?_|refine aj ?_|refine au rfl ?_)
   refine ae (by rfl) (fun hC=>?_) fun hC=>by exfalso;simp only [decide_eq_false_iff_not] at hC;exact hC hk
   repeat' (first|(apply dC;refine o_lk ?_)|(apply ay;first|refine al ?_|refine bj ?_|refine aI ?_|refine bC ?_|refine aw ?_|refine az ?_)|refine ak ?_|refine ab ?_|(apply dC;first|(apply ep;refine aN ?_)|refine fA ?_|refine cY ?_|refine pm 0 (k2) ?_|refine pn ?_|refine um ?_|refine aN ?_)|refine ak ?_|refine ab ?_|refine aa fun C=>?_|refine ar (by kernel_rfl) (by kernel_rfl) fun C=>?_|refine ac ?_)
   refine bk (em (i:=77) (j:=7700) rfl rfl rfl (pre:=[_,_,_]) (post:=[]) rfl) ?_
   exact ly
  ·rw [if_neg h5]
   clear hg hi
   refine av func26 rfl rfl ?_
   unfold di at *
   dsimp only at c1 c2 ⊢
   repeat' (first|(apply ay;first|refine al ?_|refine bj ?_|refine aI ?_|refine bZ ?_|refine az ?_)|refine ak ?_|refine ab ?_|refine aa fun C=>?_|refine ac ?_)
   refine au rfl ?_
   repeat' (first|((refine fI (by decide) (by decide) (by decide) ?_))|(apply ay;first|refine al ?_|refine ai ?_|refine bj ?_|refine aI ?_|refine aK 0 (c1) ?_|refine bC ?_|refine ao ?_|refine bZ ?_)|refine ak ?_|refine ab ?_|refine aa fun C=>?_|refine ac ?_|refine ah ?_|refine aj ?_)
   refine ae (by rfl) (fun hC=>absurd (eq_of_beq hC) h1) fun hC=>?_
   repeat' (first|(apply ay;first|refine ai ?_|refine bj ?_|refine aI ?_|refine ao ?_)|refine ak ?_|refine ab ?_|refine aa fun C=>?_|refine ac ?_)
   refine ae (by rfl) (fun hC=>absurd (eq_of_beq hC) h3) fun hC=>?_
   repeat' (first|(apply ay;first|refine ai ?_|refine bj ?_|refine aI ?_|refine ao ?_)|refine ak ?_|refine ab ?_|refine aa fun C=>?_|refine ac ?_)
   refine ae (by rfl) (fun hC=>absurd (eq_of_beq hC) h2) fun hC=>?_
   repeat' (first|(apply ay;refine n_lk ?_)|(apply ay;first|refine bX ?_|(refine aR ?_ ?_<;>intro hG<;>(try cases hG))|refine al ?_|refine ai ?_|refine bj ?_|refine aI ?_|refine aK 0 (c2) ?_|refine bC ?_|refine ao ?_|refine a7 ?_|refine aB ?_|refine az ?_)|refine ak ?_|refine ab ?_|refine aa fun C=>?_|refine ac ?_|refine aj ?_|refine au rfl ?_)
   ·refine ae (by rfl) (fun hC=>?_) fun hC=>?_
    ·exfalso
     simp only [decide_eq_true_iff] at hC
     exact h5 ⟨eq_of_beq hG,hC⟩
    ·repeat' (first|(apply ay;first|refine al ?_|refine bj ?_|refine bC ?_|refine az ?_)|refine ak ?_|refine ab ?_|refine aa fun C=>?_|refine ac ?_|refine aj ?_)
     refine bk (cP 90000 (i:=2) 26 4 rfl rfl (pre:=[_,_,_]) (post:=[]) rfl) ?_
     exact ly
   ·skip
    refine bk (cP 90000 (i:=2) 26 4 rfl rfl (pre:=[_,_,_]) (post:=[]) rfl) ?_
    exact ly
theorem wz {L:List T3}(hL:L.length≤2000)(hok:okL L):∀f:Nat,f≤3000→HI L f (exI L f)
 | 0,_,q,ht,hq=>by
  cases hb:q.b with
  | true =>
   have e:exI L 0 q=(zE,q):=by obtain⟨a,b⟩:=q;have hb:b=true:=hb;subst hb;rfl
   rw [e]
   exact oQ hb
  | false=>exact absurd (ht (by rw [hb];rfl)) (by have:=hq hb;omega)
 | f+1,hf,q,ht,hq=>by
  have ih:=wz hL hok f omq
  unfold exI
  cases hb:q.b with
  | true=>rw [if_pos rfl];exact oQ hb
  | false=>rw [if_neg (by simp)];exact zy2 hL hok omq (wu hok f) ih hb (hq hb) ht
end Go.Proofs.YtomolhbkdhjofaaGreatDoor
