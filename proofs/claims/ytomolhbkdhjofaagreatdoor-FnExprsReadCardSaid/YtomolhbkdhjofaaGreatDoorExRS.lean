/- T -/
import Derived.Test.YtomolhbkdhjofaaGreatDoorExRR
set_option maxHeartbeats 0
set_option maxRecDepth 100000
namespace Go.Proofs.YtomolhbkdhjofaaGreatDoor
open Go.RowKit Go.Proofs.Tryz
structure GoodS (s:ByteArray)(p:PS)(r:E×PS):Prop where
 fine:Fine r.1
 ge:p.a≤r.2.a
 le:r.2.a≤s.size
 dg:p.d≤r.2.d
 dl:r.2.d≤9
 nb:r.2.b=false→p.b=false∧r.2.d=p.d
def Pre (s:ByteArray)(p:PS):Prop:=p.a≤s.size∧p.d≤9∧(p.b=false→p.d≤8)
section
variable {s:ByteArray}(hs:s.size≤1048576)
theorem kP {c:Nat}{p:PS}(h:isB s c p=true):p.b=false∧p.a<s.size∧bAt s p.a=c:=by
 unfold isB at h
 simp only [baq,bnt,dqt,beq_iff_eq] at h
 exact⟨h.1.1,h.1.2,h.2⟩
theorem GoodS.bad {p q:PS}(hp:Pre s p)(h1:p.a≤q.a)(h2:q.a≤s.size)(h3:p.d≤q.d)(h4:q.d≤9):GoodS s p (dv,q.bad):=⟨Fine.zero,h1,h2,h3,h4,fun h=>by cases h⟩
theorem mo {alt:PS→E×PS}{q:PS}(hq:Pre s q)(hb:q.b=false)(ha:q.d≤7→GoodS s ⟨q.a,q.d+1,q.b⟩ (alt ⟨q.a,q.d+1,q.b⟩)):GoodS s q (eg s alt q):=by
 obtain⟨h1,h2,h3⟩:=hq
 have h3:=h3 hb
 unfold eg
 split
 ·rename_i h
  obtain⟨i1,i2,i3⟩:=kP h
  exact⟨Fine.leaf omq (by show (0:Nat)≤_;omega),by show q.a≤q.a+1;omega,by show q.a+1≤_;omega,nlr _,h2,fun _=>⟨hb,rfl⟩⟩
 split
 ·exact⟨Fine.zero,nlr _,h1,by show q.d≤q.d+1;omega,by show q.d+1≤9;omega,fun h=>by cases h⟩
 ·obtain⟨g1,g2,g3,g4,g5,g6⟩:=ha omq
  dsimp only at g2 g4 ⊢
  split
  ·rename_i h
   obtain⟨i1,i2,i3⟩:=kP h
   dsimp only at i1 i2
   obtain⟨j1,j2⟩:=g6 i1
   exact⟨g1,by show q.a≤(alt ⟨q.a,q.d+1,q.b⟩).2.a+1;omega,by show (alt ⟨q.a,q.d+1,q.b⟩).2.a+1≤_;omega,by show q.d≤(alt ⟨q.a,q.d+1,q.b⟩).2.d-1;omega,by show (alt ⟨q.a,q.d+1,q.b⟩).2.d-1≤9;omega,fun _=>⟨hb,by show (alt ⟨q.a,q.d+1,q.b⟩).2.d-1=q.d;dsimp only at j2;omega⟩⟩
  ·exact⟨Fine.zero,g2,g3,by show q.d≤(alt ⟨q.a,q.d+1,q.b⟩).2.d-1;omega,by show (alt ⟨q.a,q.d+1,q.b⟩).2.d-1≤9;omega,fun h=>by cases h⟩
include hs
theorem nG {alt:PS→E×PS}{p:PS}(hp:Pre s p)(ha:p.b=false→p.a<s.size→p.d≤7→GoodS s ⟨p.a+1,p.d+1,p.b⟩ (alt ⟨p.a+1,p.d+1,p.b⟩)):GoodS s p (dR s alt p)∧((dR s alt p).2.b=false→p.a<(dR s alt p).2.a):=by
 obtain⟨h1,h2,h3⟩:=hp
 unfold dR
 split
 ·exact⟨GoodS.bad ⟨h1,h2,h3⟩ (nlr _) h1 (nlr _) h2,fun h=>by cases h⟩
 ·rename_i hn
  simp only [not_or,Bool.not_eq_true,Nat.not_le] at hn
  obtain⟨hb,hlt⟩:=hn
  have up:∀r:E×PS,GoodS s (p.go 1) r→GoodS s p r∧(r.2.b=false→p.a<r.2.a):=fun r g =>
   ⟨⟨g.fine,by have:=g.ge;have e:(p.go 1).a=p.a+1:=rfl;omega,g.le,g.dg,g.dl,g.nb⟩,fun _=>by have:=g.ge;have e:(p.go 1).a=p.a+1:=rfl;omega⟩
  have hq:Pre s (p.go 1):=⟨by show p.a+1≤_;omega,h2,h3⟩
  apply up
  have leaf:∀(k:Int) (t:ByteArray),0≤k∧k≤11→t.size≤1→GoodS s (p.go 1) (du k t [],p.go 1):=fun k t hk ht=>⟨Fine.leaf hk omq,nlr _,hq.1,nlr _,hq.2.1,fun h=>⟨h,rfl⟩⟩
  have e0:ByteArray.empty.size=0:=rfl
  unfold eZ
  split
  ·exact leaf 2 _ omq omq
  split
  ·exact leaf 10 _ omq omq
  split
  ·exact leaf 11 _ omq omq
  split
  ·exact mo hq hb fun h=>ha hb hlt h
  split
  ·exact leaf 1 _ omq (by show (1:Nat)≤1;omega)
  split
  ·exact GoodS.bad hq (nlr _) hq.1 (nlr _) hq.2.1
  ·obtain⟨u1,u2⟩:=qT (s:=s) (c:=93) s.size (p.go 1).a hq.1
   dsimp only
   split
   ·rename_i h
    obtain⟨i1,i2,i3⟩:=kP h
    dsimp only at i2
    refine⟨Fine.leaf omq (by show (bz _ _ _).size≤_;unfold bz;rw [ByteArray.size_extract];omega),?_,?_,nlr _,hq.2.1,fun h=>⟨h,rfl⟩⟩
    ·show (p.go 1).a≤eS s 93 s.size (p.go 1).a+1;omega
    ·show eS s 93 s.size (p.go 1).a+1≤_;omega
   ·exact GoodS.bad hq u1 u2 (nlr _) hq.2.1
omit hs in
theorem kq {atom:PS→E×PS}{p:PS}(ha:GoodS s p (atom p)∧((atom p).2.b=false→p.a<(atom p).2.a)):GoodS s p (fc s atom p)∧((fc s atom p).2.b=false→p.a<(fc s atom p).2.a):=by
 obtain⟨⟨g1,g2,g3,g4,g5,g6⟩,g7⟩:=ha
 have star:∀k:Int,0≤k∧k≤11→(atom p).2.a<s.size→GoodS s p (du k ByteArray.empty [(atom p).1],(atom p).2.go 1)∧(((atom p).2.go 1).b=false→p.a<((atom p).2.go 1).a):=fun k hk hl =>
  ⟨⟨.mk k _ _ hk (by show (0:Nat)≤_;omega) (fun x hx=>by obtain rfl:=List.mem_singleton.1 hx;exact g1),by show p.a≤(atom p).2.a+1;omega,by show (atom p).2.a+1≤_;omega,g4,g5,g6⟩,fun _=>by show p.a<(atom p).2.a+1;omega⟩
 unfold fc
 dsimp only
 split
 ·rename_i h;exact star 6 omq (kP h).2.1
 split
 ·rename_i h;exact star 7 omq (kP h).2.1
 split
 ·rename_i h;exact star 8 omq (kP h).2.1
 ·exact⟨⟨g1,g2,g3,g4,g5,g6⟩,g7⟩
omit hs in
structure GoodLS (s:ByteArray)(p0:PS)(l:List E)(q:PS):Prop where
 fine:∀x∈l,Fine x
 ge:p0.a≤q.a
 le:q.a≤s.size
 dg:p0.d≤q.d
 dl:q.d≤9
 nb:q.b=false→p0.b=false∧q.d=p0.d
 len:l.length+p0.a≤q.a+2∧(q.b=false→l.length+p0.a≤q.a+1)
 ne:0<l.length
omit hs in
theorem zp2 {p:PS}(h:goS s p=true):p.b=false∧p.a<s.size∧bAt s p.a≠124∧bAt s p.a≠41:=by
 unfold goS at h
 simp only [baq,bnt,dqt,beq_eq_false_iff_ne] at h
 exact⟨h.1.1.1,h.1.1.2,h.1.2,h.2⟩
omit hs in
theorem GoodLS.pre {p0 q:PS}{l:List E}(h:GoodLS s p0 l q)(hp:Pre s p0):Pre s q:=⟨h.le,h.dl,fun hb=>by obtain⟨h1,h2⟩:=h.nb hb;have:=hp.2.2 h1;omega⟩
omit hs in
theorem GoodLS.step {p0 q:PS}{l:List E}{r:E×PS}(h:GoodLS s p0 l q)(hb:q.b=false)(hr:GoodS s q r∧(r.2.b=false→q.a<r.2.a)):GoodLS s p0 (l++[r.1]) r.2:=by
 obtain⟨k1,k2,k3,k4,k5,k6,k7,k8⟩:=h
 obtain⟨⟨g1,g2,g3,g4,g5,g6⟩,g7⟩:=hr
 have k7:=k7.2 hb
 refine⟨fun x hx=>?_,omq,g3,omq,g5,fun h=>?_,⟨?_,fun h=>?_⟩,?_⟩
 ·rcases List.mem_append.1 hx with hx|hx
  ·exact k1 x hx
  ·obtain rfl:=List.mem_singleton.1 hx;exact g1
 ·exact⟨(k6 hb).1,by have:=(g6 h).2;have:=(k6 hb).2;omega⟩
 ·rw [lla,List.length_singleton];omega
 ·have:=g7 h;rw [lla,List.length_singleton];omega
 ·rw [lla,List.length_singleton];omega
omit hs in
theorem GoodLS.one {p0:PS}{r:E×PS}(hr:GoodS s p0 r):GoodLS s p0 [r.1] r.2:=by
 obtain⟨g1,g2,g3,g4,g5,g6⟩:=hr
 exact⟨fun x hx=>by obtain rfl:=List.mem_singleton.1 hx;exact g1,g2,g3,g4,g5,g6,⟨by rw [List.length_singleton];omega,fun _=>by rw [List.length_singleton];omega⟩,by simp⟩
omit hs in
theorem jP {item:PS→E×PS}{p0:PS}(hp0:Pre s p0)(hi:∀p,Pre s p→p0.a≤p.a→p.d≤p0.d∨p.b=true→GoodS s p (item p)∧((item p).2.b=false→p.a<(item p).2.a)):∀(n:Nat) (l:List E) (p:PS),GoodLS s p0 l p→GoodLS s p0 (cz s item n l p).1 (cz s item n l p).2
 | 0,l,p,h=>h
 | n+1,l,p,h=>by
  unfold cz
  split
  ·rename_i hg
   obtain⟨hb,hlt,-⟩:=zp2 hg
   exact jP hp0 hi n _ _ (h.step hb (hi p (h.pre hp0) h.ge (.inl (by have:=(h.nb hb).2;omega))))
  ·exact h
omit hs in
theorem GoodLS.fin {p0 q:PS}{l:List E}{k:Int}(hk:0≤k∧k≤11)(h:GoodLS s p0 l q):GoodS s p0 (kW k l,q):=⟨(kp hk h.fine).1,h.ge,h.le,h.dg,h.dl,h.nb⟩
omit hs in
theorem pE {item:PS→E×PS}{p:PS}(hp:Pre s p)(hi:∀q,Pre s q→p.a≤q.a→GoodS s q (item q)∧((item q).2.b=false→q.a<(item q).2.a)):GoodS s p (qk s item p) :=
 (jP hp (fun q h1 h2 _=>hi q h1 h2) (s.size+1) _ _ (GoodLS.one (hi p hp (nlr _)).1)).fin omq
omit hs in
theorem jQ {cat:PS→E×PS}{p0:PS}(hp0:Pre s p0)(hc:∀q,Pre s q→p0.a≤q.a→GoodS s q (cat q)):∀(n:Nat) (l:List E) (p:PS),GoodLS s p0 l p→GoodLS s p0 (cC s cat n l p).1 (cC s cat n l p).2
 | 0,l,p,h=>h
 | n+1,l,p,h=>by
  unfold cC
  split
  ·rename_i hg
   obtain⟨hb,hlt,-⟩:=kP hg
   have hpre:=h.pre hp0
   have e1:(p.go 1).a=p.a+1:=rfl
   have hge:=h.ge
   have hgd:=hc (p.go 1) ⟨omq,hpre.2.1,hpre.2.2⟩ omq
   refine jQ hp0 hc n _ _ (h.step hb ⟨⟨hgd.fine,by have:=hgd.ge;omega,hgd.le,hgd.dg,hgd.dl,hgd.nb⟩,fun _=>by have:=hgd.ge;omega⟩)
  ·exact h
omit hs in
theorem xh {cat:PS→E×PS}{p:PS}(hp:Pre s p)(hc:∀q,Pre s q→p.a≤q.a→GoodS s q (cat q)):GoodS s p (zw s cat p) :=
 (jQ hp hc (s.size+1) _ _ (GoodLS.one (hc p hp (nlr _)))).fin omq
theorem pF (f:Nat):∀p:PS,Pre s p→s.size+1≤p.a+f→GoodS s p (ja s f p):=by
 induction f with
 | zero=>intro p h1 h2;have:=h1.1;omega
 | succ f ih =>
  intro p h1 h2
  exact xh h1 fun q hq hqa=>pE hq fun r hr hra=>kq (nG hs hr fun hb hlt hd=>ih _ ⟨by show r.a+1≤_;omega,by show r.d+1≤9;omega,fun _=>by show r.d+1≤8;omega⟩ (by show s.size+1≤r.a+1+f;omega))
end
theorem oy {c:Nat}(hc:c<256):Ctr prog 179 [.c (.v (.int .u8 (c:Int)))] [] (.c (.v (.bool (ma c)))) []:=by
 have h2:=iv hc
 refine az func179 rfl rfl ?_
 repeat' (first|(apply ay;first|refine bH ?_|(refine aK ?_ ?_<;>intro hG<;>(try cases hG))|refine ak ?_|refine ai ?_|refine aH ((jc _ _ _)) ?_|refine aH h2 ?_|refine aR ?_|refine aB ?_|refine dc ?_)|refine aj ?_|refine ab ?_|refine aa fun C=>?_|refine ac ?_)
 all_goals
  (first|refine am ?_|skip);refine bA rfl aJ ⟨?_,rfl⟩;refine congrArg (fun s=>AV.c (AC.v (Value.bool s))) ?_
  clear h2
  unfold ma
  simp only [inR,cW,Bool.or_eq_true,baq,dqt,beq_iff_eq,Bool.and_eq_false_iff,dqn] at *
  (rw [Bool.eq_iff_iff];(try simp only [baq,Bool.or_eq_true,bnt,dqt,dqn,beq_iff_eq,Bool.and_eq_false_iff,Bool.or_eq_false_iff,bne_iff_ne,ne_eq,Bool.true_eq_false,Bool.false_eq_true,true_iff,false_iff,iff_true,iff_false] at *);first|omega|(simp at *;omega))
theorem mq (k:Int):Ctr prog 178 [.c (.v (.int .i64 k))] [] (.c (.v (.bool (gR k)))) []:=by
 refine az func178 rfl rfl ?_
 repeat' (first|(apply ay;first|refine bH ?_|(refine aK ?_ ?_<;>intro hG<;>(try cases hG))|refine ak ?_|refine ai ?_|refine ao ?_|refine aB ?_)|refine aj ?_|refine ab ?_|refine aa fun C=>?_|refine ac ?_)
 all_goals
  (first|refine am ?_|skip);refine bA rfl aJ ⟨?_,rfl⟩;refine congrArg (fun s=>AV.c (AC.v (Value.bool s))) ?_
  unfold gR
  (rw [Bool.eq_iff_iff];(try simp only [baq,Bool.or_eq_true,bnt,dqt,dqn,beq_iff_eq,Bool.and_eq_false_iff,Bool.or_eq_false_iff,bne_iff_ne,ne_eq,Bool.true_eq_false,Bool.false_eq_true,true_iff,false_iff,iff_true,iff_false] at *);first|omega|(simp at *;omega))
theorem zj5 {s:ByteArray}(hs:s.size≤1073741824):Ctr prog 180 [.c (.v (.string s))] [] (.c (.v (.bool (ig s)))) []:=by
 refine az func180 rfl rfl ?_
 repeat' (first|(apply ay;refine ai ?_)|refine aj ?_|refine ab ?_|refine aa fun C=>?_|refine ac ?_|refine ah ?_)
 refine aY (fun k:Nat=>⟨ft [(0,.c (.v (.string s))),(3,.c (.v (.int .i64 k)))],eW [],0,[],32⟩) (fun N k=>k+N=s.size∧∀j,j<k→eX s j=true) s.size 0 ⟨omq,fun j hj=>by omega⟩ ?_ ?_
 ·(refine aL _ _ rfl rfl ?_ ?_<;>exact tdy0)
 rintro N k ⟨hN,hall⟩
 repeat' (first|(apply ay;first|refine ak ?_|refine a7 ?_|refine aA ?_)|refine aj ?_|refine ab ?_|refine aa fun C=>?_|refine ac ?_)
 refine ae rqf (fun h1=>?_) fun h1=>?_
 ·have hk:k<s.size:=by simpa using h1
  have hl:=oy (cZ s k)
  cases k with
  | zero =>
   repeat' (first|(apply ay;first|refine ak ?_|refine ai ?_|refine aw ?_)|refine aj ?_|refine ab ?_|(apply da;first|refine fg ?_|(refine e7 ?_ ?_<;>intro hG<;>(try cases hG))|(apply dC;refine aD ?_)|refine ei hl ?_|(apply fF;refine aD ?_)|refine eU ?_|refine aD ?_)|refine aj ?_|refine ab ?_|refine aa fun C=>?_|refine av krq krq fun C=>?_|refine ac ?_|refine ah ?_|refine al ?_|(refine ae rqf ?_ ?_<;>intro hC<;>(try cases hC)))
   all_goals first
    | (exfalso;revert hG;simp;done)
    | (refine am ?_
       refine bA (x:=.c (.v (.bool false))) rfl aJ ⟨?_,rfl⟩
       rw [ly hk (by unfold eX;simp_all)])
    | (refine⟨N-1,1,omq,⟨omq,fun j hj=>?_⟩,?_⟩
       ·obtain rfl:j=0:=by omega
        unfold eX;simp_all
       ·(refine aL _ _ rfl rfl ?_ ?_<;>(repeat' (first|exact TmOk.nil|exact RwOk.nil|refine TmOk.cons ?_ ?_|refine RwOk.cons ?_ ?_|rfl|(refine rnV_id' rfl ?_;exact byc)|(refine cK ?_;first|rfl|omega|(rw [bB omq omq];omega))|(refine bg rfl ?_;exact byc)|exact dP rfl rfl|(refine rw_mid rqf rqf ?_ ?_<;>exact byc)|(refine rw_rn' rfl rfl ?_;simp;done)))))
  | succ m =>
   have hm:((m+1:Nat):Int)-1=(m:Int):=by omega
   repeat' (first|(apply ay;first|refine ak ?_|refine ai ?_|refine aw ?_)|refine aj ?_|refine ab ?_|(apply da;first|refine fg ?_|(refine e7 ?_ ?_<;>intro hG<;>(try cases hG))|(apply dC;refine aD ?_)|refine ei hl ?_|(apply fF;first|refine cS ?_|refine aD ?_)|refine eU ?_|refine aD ?_)|refine aj ?_|refine ab ?_|refine aa fun C=>?_|refine av krq krq fun C=>?_|refine ac ?_|refine ah ?_|refine al ?_|(refine ae rqf ?_ ?_<;>intro hC<;>(try cases hC)))
   all_goals first
    | (refine am ?_
       refine bA (x:=.c (.v (.bool false))) rfl aJ ⟨?_,rfl⟩
       rw [ly hk (by unfold eX;simp_all;try omega)])
    | (refine⟨N-1,m+2,omq,⟨omq,fun j hj=>?_⟩,?_⟩
       ·rcases Nat.lt_or_ge j (m+1) with h|h
        ·exact hall j h
        ·obtain rfl:j=m+1:=by omega
         unfold eX;simp_all;try omega
       ·(refine aL _ _ rfl rfl ?_ ?_<;>(repeat' (first|exact TmOk.nil|exact RwOk.nil|refine TmOk.cons ?_ ?_|refine RwOk.cons ?_ ?_|rfl|(refine rnV_id' rfl ?_;exact byc)|(refine cK ?_;first|rfl|omega|(rw [bB omq omq];omega))|(refine bg rfl ?_;exact byc)|exact dP rfl rfl|(refine rw_mid rqf rqf ?_ ?_<;>exact byc)|(refine rw_rn' rfl rfl ?_;simp;done)))))
    | skip
 ·repeat' (first|(apply ay;first|refine ak ?_|refine ai ?_|refine aH ((jc _ _ _)) ?_|refine a7 ?_)|refine aj ?_|refine ab ?_|refine aa fun C=>?_|refine ac ?_|refine aE ?_)
  refine am ?_
  refine bA rfl aJ ⟨?_,rfl⟩
  rw [pB fun j hj=>hall j (by simp at h1;omega)]
  refine congrArg (fun s=>AV.c (AC.v (Value.bool s))) ?_
  unfold inR
  (rw [Bool.eq_iff_iff];(try simp only [baq,Bool.or_eq_true,bnt,dqt,dqn,beq_iff_eq,Bool.and_eq_false_iff,Bool.or_eq_false_iff,bne_iff_ne,ne_eq,Bool.true_eq_false,Bool.false_eq_true,true_iff,false_iff,iff_true,iff_false] at *);first|omega|(simp at *;omega))
theorem xi {g:E→Nat}{B:Nat}:∀(l:List E) (n:Nat),(∀x∈l,g x≤B)→nz g l n≤max n (60+B)
 | [],n,_=>by unfold nz;omega
 | x :: r,n,h=>by
  unfold nz
  split
  ·have h1:=h x mcs
   have:=xi r (n+g x) fun y hy=>h y (mco _ hy)
   omega
  ·omega
theorem pG:∀(f:Nat) (e:E),dF f e≤61+60*f
 | 0,_=>by unfold dF;omega
 | f+1,e=>by
  have:=xi e.rl 1 fun x _=>pG f x
  unfold dF;omega
theorem xj {g:E→Nat}:∀(l:List E) {n:Nat},60<n→nz g l n=n
 | [],_,_=>rfl
 | x :: r,n,h=>by unfold nz;rw [if_neg omq]
theorem xk (f:Nat):∀(e:E) (deep:Nat),f≤6→e.Ty prog 112→e.sz≤4194304→deep+f=7→Ctr prog 164 [.ag (acE e),.c (.v (.int .i64 (deep:Int)))] [] (.c (.v (.int .i64 ((dF f e:Nat):Int)))) []:=by
 induction f with
 | zero =>
  intro e deep hf he hsz hd
  obtain⟨x0,x1,x2A,x2c,l,rfl,gx0,gx1,gx2,-⟩:=aU he
  obtain rfl:deep=7:=by omega
  refine az func164 rfl rfl ?_
  repeat' (first|(apply ay;first|refine ak ?_|refine ai ?_|refine aX ?_|refine cE ?_)|refine aj ?_|refine ab ?_|refine aa fun C=>?_|refine ac ?_|refine aq rfl ?_)
  refine am ?_
  exact bA (x:=.c (.v (.int .i64 61))) rfl aJ ⟨rfl,rfl⟩
 | succ f ih =>
  intro e deep hf he hsz hd
  obtain⟨x0,x1,x2A,x2c,l,rfl,gx0,gx1,gx2,-⟩:=aU he
  simp only [E.sz,E.szL] at hsz
  have hl:l.length≤4194304:=by omega
  refine az func164 rfl rfl ?_
  have hres:dF (f+1) (E.agg [.int .i64 x0,.str x1,.lst 3 112 x2A x2c l])=nz (dF f) l 1:=rfl
  rw [hres]
  clear hres
  generalize hT:nz (dF f) l 1=tot
  repeat' (first|(apply ay;first|refine ak ?_|refine ai ?_|refine aX ?_|refine cE ?_)|refine aj ?_|refine ab ?_|refine aa fun C=>?_|refine ac ?_)
  refine ae rqf (fun h=>by exfalso;simp at h;omega) fun _=>?_
  repeat' (first|(apply ay;refine ai ?_)|refine aj ?_|refine ab ?_|refine aa fun C=>?_|refine ac ?_|refine ah ?_|refine al ?_)
  refine aY (fun d:Nat×Nat=>⟨ft [(1,.c (.v (.int .i64 (deep:Int)))),(2,.c (.pt 2 0)),(5,.c (.v (.int .i64 (d.2:Int)))),(6,.c (.v (.int .i64 (d.1:Int))))],eW [(2,2,⟨112,0,0,true,[.v (.int .i64 x0),.v (.string x1),.ro l.length 3 (acL l)]⟩)],0,[2],31⟩) (fun N d=>d.1+N=l.length∧d.2≤600∧nz (dF f) (l.drop d.1) d.2=tot) l.length (0,1) ⟨by simp,by simp,hT⟩ ?_ ?_
  ·(refine aL _ _ rfl rfl ?_ ?_<;>exact tdy0)
  rintro N ⟨k,n⟩ ⟨hN,hn,hs⟩
  dsimp only at hN hn hs ⊢
  repeat' (first|(apply ay;first|refine bH ?_|(refine aK ?_ ?_<;>intro hG<;>(try cases hG))|refine ak ?_|refine bf ?_|refine aI ?_|refine bC ?_|refine aA ?_|refine bp ?_|refine aB ?_)|refine aj ?_|refine ab ?_|refine aa fun C=>?_|refine ac ?_)
  ·have hk:k<l.length:=by simpa using hG
   obtain⟨x,hx⟩:∃x,l[k]? = some x:=⟨_,List.getElem?_eq_getElem hk⟩
   have hd1:l.drop k=x :: l.drop (k+1):=by rw [List.drop_eq_getElem_cons hk];congr 1;rw [List.getElem?_eq_getElem hk] at hx;exact Option.some.inj hx
   refine ae rqf (fun h2=>?_) fun h2=>?_
   ·have hn2:n≤60:=by simp only [dqt] at h2;omega
    have hxt:=gx2.1 x (mge hx)
    have hxs:=E.szL_mem (mge hx)
    have hc:=ih x (deep+1) omq hxt omq omq
    have hb:=pG f x
    rw [hd1] at hs
    unfold nz at hs
    rw [if_pos hn2] at hs
    have hgk:=gx2.2
    obtain⟨y0,y1,y2A,y2c,y2l,rfl,gy0,gy1,gy2,-⟩:=aU hxt
    repeat' (first|(apply ay;first|refine ak ?_|refine ai ?_|refine bf ?_|refine aI ?_|refine cX ?_|refine aH hc ?_|refine gJ ?_|refine aw ?_)|refine aj ?_|refine ab ?_|refine aa fun C=>?_|refine ac ?_|refine ah ?_|refine al ?_)
    refine⟨N-1,(k+1,n+dF f (E.agg [.int .i64 y0,.str y1,.lst 3 112 y2A y2c y2l])),omq,⟨by dsimp only;omega,by dsimp only;omega,hs⟩,?_⟩
    (refine aL _ _ rfl rfl ?_ ?_<;>exact tdy0)
   ·have hn2:60<n:=by simp only [dqn] at h2;omega
    rw [xj _ hn2] at hs
    repeat' (first|(apply ay;first|refine ak ?_|refine ai ?_)|refine aj ?_|refine ab ?_|refine aa fun C=>?_|refine ac ?_|refine aE ?_)
    refine am ?_
    refine bA (x:=.c (.v (.int .i64 (n:Int)))) rfl aJ ⟨?_,rfl⟩
    rw [hs]
  ·have hk:k=l.length:=by simp at hG;omega
   repeat' (first|(apply ay;first|refine ak ?_|refine ai ?_)|refine aj ?_|refine ab ?_|refine aa fun C=>?_|refine ac ?_|refine aE ?_|refine ar rfl ?_)
   refine am ?_
   refine bA (x:=.c (.v (.int .i64 (n:Int)))) rfl aJ ⟨?_,rfl⟩
   rw [hk,List.drop_length] at hs
   rw [←hs];rfl
theorem xm {f:Nat}{e:E}(h:dF (f+1) e≤60):∀x∈e.rl,dF f x≤60:=by unfold dF at h;exact (mc h).2
def zR (f:Nat)(k:Int)(x:E):Bool:=okS f x&&!(x.rk==k&&!gR k)
theorem zk5 {f:Nat}{x0:Int}{x1:ByteArray}{A:Option Addr}{c:Nat}{l:List E}:okS (f+1) (E.agg [.int .i64 x0,.str x1,.lst 3 112 A c l])=(l.all (zR f x0)&&fW x0 x1 l):=rfl
theorem zd8 {p:E→Bool}{l:List E}{k:Nat}{x:E}(hx:l[k]? = some x)(h:p x=false):l.all p=false:=List.all_eq_false.2 ⟨x,mge hx,by simp [h]⟩
theorem zl5 {p:E→Bool}{l:List E}(h:∀j y,j<l.length→l[j]? = some y→p y=true):l.all p=true:=List.all_eq_true.2 fun y hy=>by
 obtain⟨j,hj,rfl⟩:=List.getElem_of_mem hy
 exact h j _ hj (List.getElem?_eq_getElem hj)
theorem ze8 (f:Nat):∀(e:E),e.Ty prog 112→e.sz≤4194304→dF f e≤60→Ctr prog 165 [.ag (acE e)] [] (.c (.v (.bool (okS f e)))) []:=by
 induction f with
 | zero=>intro e _ _ h;exact absurd h (by unfold dF;omega)
 | succ f ih =>
  intro e he hsz hp
  have hkid:=xm hp
  obtain⟨x0,x1,x2A,x2c,l,rfl,gx0,gx1,gx2,-⟩:=aU he
  have hkid:∀x∈l,dF f x≤60:=hkid
  simp only [E.sz,E.szL] at hsz
  have hl:l.length≤4194304:=by omega
  rw [zk5]
  refine az func165 rfl rfl ?_
  repeat' (first|(apply ay;first|refine ai ?_|refine cE ?_)|refine aj ?_|refine ab ?_|refine aa fun C=>?_|refine ac ?_|refine ah ?_)
  refine aY (fun k:Nat=>⟨ft [(1,.c (.pt 1 0)),(3,.c (.v (.int .i64 (k:Int))))],eW [(1,1,⟨112,0,0,true,[.v (.int .i64 x0),.v (.string x1),.ro l.length 3 (acL l)]⟩)],0,[1],114⟩) (fun N k=>k+N=l.length∧∀j y,j<k→l[j]? = some y→zR f x0 y=true) l.length 0 ⟨omq,omq⟩ ?_ ?_
  ·(refine aL _ _ rfl rfl ?_ ?_<;>exact tdy0)
  rintro N k ⟨hN,hno⟩
  repeat' (first|(apply ay;first|refine ak ?_|refine bf ?_|refine aI ?_|refine bC ?_|refine aA ?_)|refine aj ?_|refine ab ?_|refine aa fun C=>?_|refine ac ?_)
  refine ae rqf (fun h1=>?_) fun h1=>?_
  ·have hk':k<l.length:=by simpa using h1
   obtain⟨x,hx⟩:∃x,l[k]? = some x:=⟨_,List.getElem?_eq_getElem hk'⟩
   have hxm:=mge hx
   have hxt:=gx2.1 x hxm
   have hxz:=E.szL_mem hxm
   have hgk:=gx2.2
   have hc:=ih x hxt omq (hkid x hxm)
   have hrk:∀y0 y1 A c l',x=E.agg [.int .i64 y0,.str y1,.lst 3 112 A c l']→zR f x0 x=(okS f x&&!(y0==x0&&!gR x0)):=fun y0 y1 A c l' e=>by subst e;rfl
   obtain⟨y0,y1,y2A,y2c,y2l,rfl,gy0,gy1,gy2,-⟩:=aU hxt
   have hrk:=hrk _ _ _ _ _ rfl
   generalize hok:okS f (E.agg [E.int IntKind.i64 y0,E.str y1,E.lst 3 112 y2A y2c y2l])=ok at hc hrk
   repeat' (first|(apply ay;first|refine ak ?_|refine ai ?_|refine aw ?_)|refine aj ?_|refine ab ?_|(apply da;first|refine fg ?_|(refine e7 ?_ ?_<;>intro hG<;>(try cases hG))|(apply dC;refine aD ?_)|refine dZ ?_|refine ga ?_|refine bW ?_|refine d7 ?_|refine dQ ?_|refine ei hc ?_|refine ei ((mq _)) ?_|refine iY ?_|(apply fF;refine aD ?_)|refine aD ?_)|refine aj ?_|refine ab ?_|refine aa fun C=>?_|refine av krq krq fun C=>?_|refine ac ?_|refine ah ?_|refine al ?_|(refine ae rqf ?_ ?_<;>intro hC<;>(try cases hC)))
   all_goals first
    | (refine am ?_
       refine bA (x:=.c (.v (.bool false))) rfl aJ ⟨?_,rfl⟩
       rw [zd8 hx (by rw [hrk];clear hc ih;simp_all),Bool.false_and])
    | (refine⟨N-1,k+1,omq,⟨omq,fun j z hj hz=>?_⟩,?_⟩
       ·by_cases e:j=k
        ·rw [e,hx] at hz;injection hz with hz;subst hz;rw [hrk];clear hc ih;simp_all
        ·exact hno j z omq hz
       ·(refine aL _ _ rfl rfl ?_ ?_<;>(repeat' (first|exact TmOk.nil|exact RwOk.nil|refine TmOk.cons ?_ ?_|refine RwOk.cons ?_ ?_|rfl|(refine rnV_id' rfl ?_;exact byc)|(refine cK ?_;first|rfl|omega|(rw [bB omq omq];omega))|(refine bg rfl ?_;exact byc)|exact dP rfl rfl|(refine rw_mid rqf rqf ?_ ?_<;>exact byc)|(refine rw_rn' rfl rfl ?_;simp;done)))))
  ·have hk':¬k<l.length:=by simpa using h1
   rw [zl5 (p:=zR f x0) fun j y hj hy=>hno j y omq hy,Bool.true_and]
   clear hno h1 ih hN hp
   have c1:=zj5 (s:=x1) omq
   have c2:=oy (cZ x1 0)
   by_cases hin:x0=1∨x0=2∨x0=3∨x0=4∨x0=5∨x0=9∨x0=10∨x0=11
   ·rcases hin with rfl|rfl|rfl|rfl|rfl|rfl|rfl|rfl
    all_goals
     repeat' (first|(apply ay;first|refine bH ?_|(refine aK ?_ ?_<;>intro hG<;>(try cases hG))|refine ai ?_|refine bf ?_|refine aI ?_|refine aH c1 ?_|refine aH c2 ?_|refine aH ((jc _ _ _)) ?_|refine bC ?_|refine a7 ?_|refine ao ?_|refine aC ?_|refine aB ?_|refine bV ?_)|refine aj ?_|refine ab ?_|refine aa fun C=>?_|refine ac ?_|refine ah ?_|refine al ?_|refine aE ?_|(refine ae rqf ?_ ?_<;>intro hC<;>(try cases hC)))
    all_goals
     (first|refine am ?_|skip);refine bA rfl aJ ⟨?_,rfl⟩;refine congrArg (fun s=>AV.c (AC.v (Value.bool s))) ?_
     clear c1 c2 gx0 gx1 gx2 he hsz hkid
     unfold fW
     (try simp only [ou,ib0,ib1,zL] at *)
     first
      | (simp_all;done)
      | (simp_all;intros;omega)
   by_cases hlp:x0=6∨x0=7∨x0=8
   ·by_cases hl1:l.length=1
    ·obtain⟨y,hy⟩:∃y,l[0]? = some y:=⟨_,List.getElem?_eq_getElem omq⟩
     have hl2:l=[y]:=sM hl1 hy
     have hyt:=gx2.1 y (mge hy)
     have hgk:=gx2.2
     obtain⟨y0,y1,y2A,y2c,y2l,rfl,gy0,gy1,gy2,-⟩:=aU hyt
     have hr:fW x0 x1 l=(x1.size==0&&!(gR y0)):=by
      rw [hl2];unfold fW
      rcases hlp with rfl|rfl|rfl<;>simp [E.rk]
     rw [hr]
     clear hr
     rcases hlp with rfl|rfl|rfl
     all_goals
      repeat' (first|(apply ay;first|refine bH ?_|(refine aK ?_ ?_<;>intro hG<;>(try cases hG))|refine ai ?_|refine bf ?_|refine iZ ?_|refine aI ?_|refine dD ?_|refine aH ((mq _)) ?_|refine bC ?_|refine gJ ?_|refine ao ?_|refine aC ?_|refine bI ?_|refine aB ?_)|refine aj ?_|refine ab ?_|refine aa fun C=>?_|refine ac ?_|refine ah ?_|refine al ?_|refine aE ?_|(refine ae rqf ?_ ?_<;>intro hC<;>(try cases hC)))
     all_goals
      (first|refine am ?_|skip);refine bA rfl aJ ⟨?_,rfl⟩;refine congrArg (fun s=>AV.c (AC.v (Value.bool s))) ?_
      clear c1 c2 gx0 gx1 gx2 he hsz hkid hgk hyt gy0 gy1 gy2
      (try simp only [ou,ib0,ib1,zL] at *)
      first
       | (simp_all;done)
       | (simp_all;intros;omega)
    ·have hr:fW x0 x1 l=false:=by
      unfold fW
      rcases hlp with rfl|rfl|rfl<;>simp [hl1]
     have hl1':((l.length:Int)==1)=false:=by rw [ib1];simpa using hl1
     rw [hr]
     clear hr
     rcases hlp with rfl|rfl|rfl
     all_goals
      repeat' (first|(apply ay;first|refine bH ?_|(refine aK ?_ ?_<;>intro hG<;>(try cases hG))|refine ai ?_|refine bf ?_|refine aI ?_|refine bC ?_|refine ao ?_|refine aB ?_)|refine aj ?_|refine ab ?_|refine aa fun C=>?_|refine ac ?_|refine ah ?_|refine al ?_|refine aE ?_|(refine ae rqf ?_ ?_<;>intro hC<;>(try cases hC)))
     all_goals first
      | (exfalso;rw [hl1'] at hG;cases hG;done)
      | ((first|refine am ?_|skip);refine bA rfl aJ ⟨?_,rfl⟩;refine congrArg (fun s=>AV.c (AC.v (Value.bool s))) ?_;rfl)
   have hk0:∀k:Int,1≤k→k≤11→x0≠k:=fun k g1 g2 g3=>by omega
   rw [sN hk0]
   repeat' (first|(apply ay;first|refine ai ?_|refine bf ?_|refine aI ?_|refine ao ?_)|refine aj ?_|refine ab ?_|refine aa fun C=>?_|refine ac ?_|refine ah ?_|refine aE ?_)
   iterate 20
    (first
      | refine ar rfl ?_
      | refine ae rqf (fun hC=>absurd (eq_of_beq hC) (hk0 _ omq omq)) fun hC=>?_
      | skip)<;>repeat' (first|(apply ay;first|refine ai ?_|refine ao ?_)|refine aj ?_|refine ab ?_|refine aa fun C=>?_|refine ac ?_|refine al ?_)
   (first|refine am ?_|skip);refine bA rfl aJ ⟨?_,rfl⟩;refine congrArg (fun s=>AV.c (AC.v (Value.bool s))) ?_
   rfl
theorem qX {e:E}(he:e.Ty prog 112)(hsz:e.sz≤4194304):Ctr prog 150 [.ag (acE e)] [] (.c (.v (.bool (mb e)))) []:=by
 have c1:=xk 6 e 1 omq he hsz rfl
 by_cases hp:dF 6 e≤60
 ·have c2:=ze8 6 e he hsz hp
  have hr:mb e=okS 6 e:=by unfold mb;rw [decide_eq_true hp,Bool.true_and]
  rw [hr]
  clear hr
  obtain⟨x0,x1,x2A,x2c,l,rfl,gx0,gx1,gx2,-⟩:=aU he
  refine az func150 rfl rfl ?_
  repeat' (first|(apply ay;first|refine bH ?_|(refine aK ?_ ?_<;>intro hG<;>(try cases hG))|refine ai ?_|refine bM ?_|refine aH c1 ?_|refine aH c2 ?_|refine bp ?_|refine aB ?_|refine cE ?_)|refine aj ?_|refine ab ?_|refine aa fun C=>?_|refine ac ?_)
  ·(first|refine am ?_|skip);refine bA rfl aJ ⟨?_,rfl⟩;refine congrArg (fun s=>AV.c (AC.v (Value.bool s))) ?_
   rfl
  ·exfalso;simp only [dqn] at hG;omega
 ·have hr:mb e=false:=by unfold mb;rw [decide_eq_false hp,Bool.false_and]
  rw [hr]
  clear hr
  obtain⟨x0,x1,x2A,x2c,l,rfl,gx0,gx1,gx2,-⟩:=aU he
  refine az func150 rfl rfl ?_
  repeat' (first|(apply ay;first|refine bH ?_|(refine aK ?_ ?_<;>intro hG<;>(try cases hG))|refine ai ?_|refine bM ?_|refine aH c1 ?_|refine bp ?_|refine aB ?_|refine cE ?_)|refine aj ?_|refine ab ?_|refine aa fun C=>?_|refine ac ?_)
  ·exfalso;simp only [dqt] at hG;omega
  ·skip
   (first|refine am ?_|skip);refine bA rfl aJ ⟨?_,rfl⟩;refine congrArg (fun s=>AV.c (AC.v (Value.bool s))) ?_
   rfl
theorem sQ {g:E→ByteArray}{b:ByteArray}(hb:b.size≤1){l:List E}(hl:∀x∈l,x.Ty prog 112)(hk3:∀x∈l,x.enc.length=3)(hlen:l.length≤8)(hsz:∀x∈l,(g x).size≤960)
 (hg:∀x∈l,Ctr prog 151 [.ag (acE x)] [] (.c (.v (.string (g x)))) []) :
 Ctr prog 166 [.c (.ro l.length 3 (acL l)),.c (.v (.string b)),.c (.v (.int .i64 5))] [] (.c (.v (.string (eK g b l)))) []:=by
 refine az func166 rfl rfl ?_
 repeat' (first|(apply ay;refine ai ?_)|refine aj ?_|refine ab ?_|refine aa fun C=>?_|refine ac ?_|refine ah ?_)
 refine aY (fun k:Nat=>⟨ft [(0,.c (.ro l.length 3 (acL l))),(1,.c (.v (.string b))),(2,.c (.v (.int .i64 5))),(7,.c (.v (.string (eK g b (l.take k))))),(8,.c (.v (.int .i64 k)))],eW [],0,[],44⟩)
  (fun N k=>k+N=l.length) l.length 0 omq ?_ ?_
 ·(refine aL _ _ rfl rfl ?_ ?_<;>exact tdy0)
 rintro N k hN
 repeat' (first|(apply ay;first|refine ak ?_|refine bC ?_|refine aA ?_)|refine aj ?_|refine ab ?_|refine aa fun C=>?_|refine ac ?_)
 refine ae rqf (fun hk1=>?_) fun hk1=>?_
 ·have hk':k<l.length:=by simpa using hk1
  obtain⟨x,hx⟩:∃x,l[k]? = some x:=⟨_,List.getElem?_eq_getElem hk'⟩
  have hxm:=mge hx
  have hxt:=hl x hxm
  have hc:=hg x hxm
  have hz1:=iT (b:=b) hsz k omq
  have hz2:=hsz x hxm
  have hz3:k*(960+2+b.size)≤8*963:=Nat.mul_le_mul omq omq
  have e:=iS g b hx
  have o1:(ByteArray.mk #[40]).size=1:=rfl
  have o2:(ByteArray.mk #[41]).size=1:=rfl
  have hgk:=hk3
  have hkk:∀y0 y1 A c l',x=E.agg [.int .i64 y0,.str y1,.lst 3 112 A c l']→brk g x=if y0=5 then ⟨#[40]⟩++g x++⟨#[41]⟩ else g x:=fun y0 y1 A c l' h=>by subst h;rfl
  obtain⟨y0,y1,y2A,y2c,y2l,rfl,gy0,gy1,gy2,-⟩:=aU hxt
  have hkk:=hkk _ _ _ _ _ rfl
  rw [hkk] at e
  generalize hgx:g (E.agg [E.int IntKind.i64 y0,E.str y1,E.lst 3 112 y2A y2c y2l])=t at hc hz2 e
  generalize hJ:eK g b (l.take k)=J at hz1 e ⊢
  have s1:(J++b).size=J.size+b.size:=ByteArray.size_append' ..
  have s2:(J++b++⟨#[40]⟩).size=J.size+b.size+1:=by rw [ByteArray.size_append',s1];rfl
  have s3:(J++⟨#[40]⟩).size=J.size+1:=by rw [ByteArray.size_append'];rfl
  have s4:(J++b++⟨#[40]⟩++t).size=J.size+b.size+1+t.size:=by rw [ByteArray.size_append',s2]
  have s5:(J++⟨#[40]⟩++t).size=J.size+1+t.size:=by rw [ByteArray.size_append',s3]
  repeat' (first|(apply ay;first|refine ak ?_|refine aX ?_)|refine aj ?_|refine ab ?_|refine aa fun C=>?_|refine ac ?_|refine ah ?_|refine al ?_)
  by_cases hk0:k=0
  ·subst hk0
   refine ar rfl ?_
   repeat' (first|(apply ay;first|refine ak ?_|refine iZ ?_|refine dD ?_|refine gJ ?_|refine ao ?_)|refine aj ?_|refine ab ?_|refine aa fun C=>?_|refine ac ?_|refine al ?_)
   obtain rfl:J=ByteArray.empty:=hJ.symm
   refine ae rqf (fun h5=>?_) fun h5=>?_
   ·repeat' (first|(apply ay;first|refine ak ?_|refine ai ?_|refine cX ?_|refine aH hc ?_|refine gJ ?_|refine aw ?_|refine dI ?_)|refine aj ?_|refine ab ?_|refine aa fun C=>?_)
    refine⟨N-1,1,omq,omq,?_⟩
    rw [e,if_pos rfl,if_pos (eq_of_beq h5)]
    simp only [kl,iy]
    (refine aL _ _ rfl rfl ?_ ?_<;>exact tdy0)
   ·repeat' (first|(apply ay;first|refine ak ?_|refine ai ?_|refine cX ?_|refine aH hc ?_|refine gJ ?_|refine aw ?_|refine dI ?_)|refine aj ?_|refine ab ?_|refine aa fun C=>?_)
    refine⟨N-1,1,omq,omq,?_⟩
    rw [e,if_pos rfl,if_neg (fun h=>by rw [h] at h5;cases h5)]
    (refine aL _ _ rfl rfl ?_ ?_<;>exact tdy0)
  ·refine ae rqf (fun _=>?_) fun hC=>by exfalso;simp only [dqn] at hC;omega
   repeat' (first|(apply ay;first|refine ak ?_|refine ai ?_|refine iZ ?_|refine dD ?_|refine gJ ?_|refine ao ?_|refine dI ?_)|refine aj ?_|refine ab ?_|refine aa fun C=>?_|refine ac ?_)
   refine ae rqf (fun h5=>?_) fun h5=>?_
   ·repeat' (first|(apply ay;first|refine ak ?_|refine ai ?_|refine cX ?_|refine aH hc ?_|refine gJ ?_|refine aw ?_|refine dI ?_)|refine aj ?_|refine ab ?_|refine aa fun C=>?_)
    refine⟨N-1,k+1,omq,omq,?_⟩
    rw [e,if_neg hk0,if_pos (eq_of_beq h5)]
    simp only [iy]
    (refine aL _ _ rfl rfl ?_ ?_<;>exact tdy0)
   ·repeat' (first|(apply ay;first|refine ak ?_|refine ai ?_|refine cX ?_|refine aH hc ?_|refine gJ ?_|refine aw ?_|refine dI ?_)|refine aj ?_|refine ab ?_|refine aa fun C=>?_)
    refine⟨N-1,k+1,omq,omq,?_⟩
    rw [e,if_neg hk0,if_neg (fun h=>by rw [h] at h5;cases h5)]
    (refine aL _ _ rfl rfl ?_ ?_<;>exact tdy0)
 ·have hk':¬k<l.length:=by simpa using hk1
  repeat' (first|(apply ay;first|refine ak ?_|refine ai ?_)|refine aj ?_|refine ab ?_|refine aa fun C=>?_|refine ac ?_|refine aE ?_)
  refine am ?_
  refine bA (x:=.c (.v (.string (eK g b (l.take k))))) rfl aJ ⟨?_,rfl⟩
  rw [List.take_of_length_le omq]
theorem zm5 {g:E→ByteArray}{x:E}(hx:x.Ty prog 112)(hsz:(g x).size≤960)(hg:Ctr prog 151 [.ag (acE x)] [] (.c (.v (.string (g x)))) []) :
 Ctr prog 167 [.ag (acE x)] [] (.c (.v (.string (jb g x)))) []:=by
 have hkk:∀y0 y1 A c l',x=E.agg [.int .i64 y0,.str y1,.lst 3 112 A c l']→jb g x=if y0=4∨y0=5 then ⟨#[40]⟩++g x++⟨#[41]⟩ else g x:=fun y0 y1 A c l' h=>by subst h;rfl
 obtain⟨y0,y1,y2A,y2c,y2l,rfl,gy0,gy1,gy2,-⟩:=aU hx
 rw [hkk _ _ _ _ _ rfl]
 clear hkk
 generalize g (E.agg [E.int IntKind.i64 y0,E.str y1,E.lst 3 112 y2A y2c y2l])=t at *
 refine az func167 rfl rfl ?_
 have s3:(ByteArray.mk #[40]++t).size=1+t.size:=by rw [ByteArray.size_append'];rfl
 repeat' (first|(apply ay;first|refine bH ?_|(refine aK ?_ ?_<;>intro hG<;>(try cases hG))|refine ai ?_|refine bf ?_|refine aI ?_|refine bM ?_|refine aH hg ?_|refine ao ?_|refine dI ?_|refine aB ?_|refine cE ?_)|refine aj ?_|refine ab ?_|refine aa fun C=>?_|refine ac ?_|refine al ?_|(refine ae rqf ?_ ?_<;>intro hC<;>(try cases hC)))
 all_goals
  refine am ?_
  refine bA rfl aJ ⟨?_,rfl⟩
  clear hg
  first
   | (rw [if_pos (by simp only [beq_iff_eq] at *;omega)];done)
   | (rw [if_neg (by simp only [beq_eq_false_iff_ne,ne_eq] at *;omega)];done)
theorem zS (f:Nat):∀(e:E),e.Ty prog 112→e.sz≤4194304→bR f e≤60→Ctr prog 151 [.ag (acE e)] [] (.c (.v (.string (aS f e)))) []:=by
 induction f with
 | zero=>intro e _ _ h;exact absurd h (by unfold bR;omega)
 | succ f ih =>
  intro e he hsz hp
  obtain⟨hhd,hkid⟩:=pD hp
  have hts:=lz hp
  obtain⟨x0,x1,x2A,x2c,l,rfl,gx0,gx1,gx2,-⟩:=aU he
  simp only [E.sz,E.szL] at hsz
  have hkid:∀x∈l,bR f x≤60:=hkid
  have hxs:∀x∈l,(aS f x).size≤960:=fun x hx=>lz (hkid x hx)
  have hcs:∀x∈l,Ctr prog 151 [.ag (acE x)] [] (.c (.v (.string (aS f x)))) []:=fun x hx=>ih x (gx2.1 x hx) (by have:=E.szL_mem hx;omega) (hkid x hx)
  have hh2:=hhd
  rw [ov] at hh2
  simp only [baq,bnt] at hh2
  obtain⟨hh,hno⟩:=hh2
  clear hhd ih hp
  refine az func151 rfl rfl ?_
  rcases dN hh with ⟨rfl,h1,h2,h3⟩|⟨rfl,h1,h3⟩|⟨rfl|rfl|rfl|rfl,h1,h3⟩|⟨rfl|rfl,h1,h2,h3⟩|⟨rfl|rfl|rfl,h1,y,h3,h4⟩
  case inl =>
   repeat' (first|(apply ay;first|refine ai ?_|refine bf ?_|refine aI ?_|refine ao ?_|refine cE ?_)|refine aj ?_|refine ab ?_|refine aa fun C=>?_|refine ac ?_|refine ah ?_|(refine ae rqf ?_ ?_<;>intro hC<;>(try cases hC)))
   refine am ?_;refine bA rfl aJ ⟨?_,rfl⟩
   rfl
  case inr.inl =>
   repeat' (first|(apply ay;first|refine ai ?_|refine bf ?_|refine aI ?_|refine ao ?_|refine dI ?_|refine cE ?_)|refine aj ?_|refine ab ?_|refine aa fun C=>?_|refine ac ?_|refine ah ?_|(refine ae rqf ?_ ?_<;>intro hC<;>(try cases hC)))
   refine am ?_;refine bA rfl aJ ⟨?_,rfl⟩
   rfl
  case inr.inr.inl.inl =>
   repeat' (first|(apply ay;first|refine ai ?_|refine bf ?_|refine aI ?_|refine ao ?_|refine cE ?_)|refine aj ?_|refine ab ?_|refine aa fun C=>?_|refine ac ?_|refine ah ?_|(refine ae rqf ?_ ?_<;>intro hC<;>(try cases hC)))
   refine am ?_;refine bA rfl aJ ⟨?_,rfl⟩
   rfl
  case inr.inr.inl.inr.inl =>
   repeat' (first|(apply ay;first|refine ai ?_|refine bf ?_|refine aI ?_|refine ao ?_|refine cE ?_)|refine aj ?_|refine ab ?_|refine aa fun C=>?_|refine ac ?_|refine ah ?_|refine al ?_|(refine ae rqf ?_ ?_<;>intro hC<;>(try cases hC)))
   refine am ?_;refine bA rfl aJ ⟨?_,rfl⟩
   rfl
  case inr.inr.inl.inr.inr.inl =>
   repeat' (first|(apply ay;first|refine ai ?_|refine bf ?_|refine aI ?_|refine ao ?_|refine cE ?_)|refine aj ?_|refine ab ?_|refine aa fun C=>?_|refine ac ?_|refine ah ?_|(refine ae rqf ?_ ?_<;>intro hC<;>(try cases hC)))
   refine am ?_;refine bA rfl aJ ⟨?_,rfl⟩
   rfl
  case inr.inr.inl.inr.inr.inr =>
   repeat' (first|(apply ay;first|refine ai ?_|refine bf ?_|refine aI ?_|refine ao ?_|refine cE ?_)|refine aj ?_|refine ab ?_|refine aa fun C=>?_|refine ac ?_|refine ah ?_|(refine ae rqf ?_ ?_<;>intro hC<;>(try cases hC)))
   refine am ?_;refine bA rfl aJ ⟨?_,rfl⟩
   rfl
  case inr.inr.inr.inl.inl =>
   have c2:=sQ (b:=⟨#[]⟩) (by decide) gx2.1 gx2.2 h3 hxs hcs
   repeat' (first|(apply ay;first|refine ai ?_|refine bf ?_|refine aI ?_|refine aH c2 ?_|refine ao ?_|refine cE ?_)|refine aj ?_|refine ab ?_|refine aa fun C=>?_|refine ac ?_|refine ah ?_|(refine ae rqf ?_ ?_<;>intro hC<;>(try cases hC)))
   refine am ?_;refine bA rfl aJ ⟨?_,rfl⟩
   rfl
  case inr.inr.inr.inl.inr =>
   have c2:=sQ (b:=⟨#[124]⟩) (by decide) gx2.1 gx2.2 h3 hxs hcs
   repeat' (first|(apply ay;first|refine ai ?_|refine bf ?_|refine aI ?_|refine aH c2 ?_|refine ao ?_|refine cE ?_)|refine aj ?_|refine ab ?_|refine aa fun C=>?_|refine ac ?_|refine ah ?_|(refine ae rqf ?_ ?_<;>intro hC<;>(try cases hC)))
   refine am ?_;refine bA rfl aJ ⟨?_,rfl⟩
   rfl
  all_goals
   subst h3
   have hym:y∈[y]:=List.mem_singleton.2 rfl
   have hyt:=gx2.1 y hym
   have c2:=zm5 hyt (hxs y hym) (hcs y hym)
   have hgk:=gx2.2
   have hz2:=jN (hxs y hym)
   have hy0:[y][0]? = some y:=rfl
   obtain⟨y0,y1,y2A,y2c,y2l,rfl,gy0,gy1,gy2,-⟩:=aU hyt
   repeat' (first|(apply ay;first|refine ai ?_|refine bf ?_|refine aI ?_|refine cX ?_|refine aH c2 ?_|refine gJ ?_|refine ao ?_|refine dI ?_|refine cE ?_)|refine aj ?_|refine ab ?_|refine aa fun C=>?_|refine ac ?_|refine ah ?_|(refine ae rqf ?_ ?_<;>intro hC<;>(try cases hC)))
   refine am ?_;refine bA rfl aJ ⟨?_,rfl⟩
   rfl
theorem oz {e:E}(he:e.Ty prog 112)(hsz:e.sz≤4194304):Ctr prog 135 [.ag (acE e)] [] (.c (.v (.string (kZ e)))) []:=by
 have c1:=qX he hsz
 rw [←uk] at c1
 cases hr:eO e with
 | false =>
  have hres:kZ e=ByteArray.empty:=by unfold kZ;rw [hr];rfl
  rw [hres]
  rw [hr] at c1
  clear hres hr
  obtain⟨x0,x1,x2A,x2c,l,rfl,gx0,gx1,gx2,-⟩:=aU he
  refine az func135 rfl rfl ?_
  repeat' (first|(apply ay;first|refine ai ?_|refine bM ?_|refine aH c1 ?_|refine bI ?_|refine cE ?_)|refine aj ?_|refine ab ?_|refine aa fun C=>?_|refine ac ?_|refine aq rfl ?_)
  refine am ?_;refine bA rfl aJ ⟨?_,rfl⟩
  rfl
 | true =>
  have hres:kZ e=aS 6 e:=by unfold kZ;rw [hr];rfl
  rw [hres]
  have hp:bR 6 e≤60:=by unfold eO at hr;simpa using hr
  have c2:=zS 6 e he hsz hp
  rw [hr] at c1
  clear hres hr hp
  obtain⟨x0,x1,x2A,x2c,l,rfl,gx0,gx1,gx2,-⟩:=aU he
  refine az func135 rfl rfl ?_
  repeat' (first|(apply ay;first|refine ai ?_|refine bM ?_|refine aH c1 ?_|refine aH c2 ?_|refine bI ?_|refine cE ?_)|refine aj ?_|refine ab ?_|refine aa fun C=>?_|refine ac ?_|refine al ?_|refine ar rfl ?_)
  refine am ?_;refine bA rfl aJ ⟨?_,rfl⟩
  rfl
end Go.Proofs.YtomolhbkdhjofaaGreatDoor
