/- T -/
import Derived.Test.YtomolhbkdhjofaaGreatDoorExAV
set_option maxHeartbeats 0
set_option maxRecDepth 100000
namespace Go.Proofs.YtomolhbkdhjofaaGreatDoor
open Go.RowKit Go.Proofs.Tryz
theorem zw1 {s:ByteArray}(hs:s.size≤1048576){cat:PS→E×PS}{p0:PS}(hp:Pre s p0)
 (hg:∀q,Pre s q→p0.a≤q.a→GoodS s q (cat q))
 (hi:∀q,Pre s q→p0.a≤q.a→Ctr prog 148 [.c (.pt 0 0)] [eI s q] (.ag (owE (cat q).1)) [eI s (cat q).2]) :
 Ctr prog 134 [.c (.pt 0 0)] [eI s p0] (.ag (owE (xK s cat p0).1)) [eI s (xK s cat p0).2]:=by
 have hic0:=hi p0 hp (Nat.le_refl _)
 have hg0:=hg p0 hp (Nat.le_refl _)
 have hL0:=GoodLS.one hg0
 have hr:xK s cat p0=(jP 5 (bV s cat (s.size+1) [(cat p0).1] (cat p0).2).1,(bV s cat (s.size+1) [(cat p0).1] (cat p0).2).2):=rfl
 rw [hr]
 clear hr
 obtain⟨⟨e,q0⟩,hq0⟩:∃r,cat p0=r:=⟨_,rfl⟩
 rw [hq0] at hic0 hg0 hL0 ⊢
 have hfi:Fine e:=hg0.fine
 dsimp only at hic0 hL0 ⊢
 cases hfi with
 | mk k t l hk ht hl2 =>
 refine av func134 rfl rfl ?_
 repeat' (first|(apply ay;first|refine al ?_|refine ai ?_|refine aK 0 (hic0) ?_|refine bZ ?_|refine dX ?_)|refine ak ?_|refine ab ?_|refine aa fun C=>?_|refine ac ?_|refine ah ?_)
 refine a8 (fun q:List E×PS=>⟨eX [(0,.c (.pt 0 0)),(2,.c (.pt 2 0)),(3,.c (.sl 9 q.1.length))],eJ [(0,0,⟨0,0,0,true,eI s q.2⟩),(2,2,⟨112,0,0,true,[.v (.int .i64 0),.v (.string ByteArray.empty),.v (.slice none 0 0)]⟩),(9,9,⟨112,3,q.1.length,false,owL q.1⟩)],1,[0,2,9],22⟩)
  (fun N q=>GoodLS s p0 q.1 q.2∧s.size+1≤q.2.a+N∧bV s cat N q.1 q.2=bV s cat (s.size+1) [cL k t l] q0) (s.size+1) ([cL k t l],q0) ⟨hL0,by dsimp only;omega,rfl⟩ ?_ ?_
 ·refine (em (i:=6) (j:=600) rfl rfl rfl (pre:=[_,_]) (post:=[]) rfl).trans ?_
  (refine ei (fun j=>if j=9 then 6 else j) _ _ rfl rfl ?_ ?_<;>exact tdy0)
 rintro N ⟨L,q⟩ ⟨hgl,hN,htot⟩
 dsimp only at hgl hN htot ⊢
 have hpre:=hgl.pre hp
 have hbar:=kP hs (c:=124) omq (p:=q)
 obtain⟨a,d,b⟩:=q
 have hlen:=hgl.len.1
 have hale:a≤s.size:=hgl.le
 dsimp only at hlen hN
 cases hgo:isB s 124 ⟨a,d,b⟩ with
 | true =>
  obtain⟨hb,hlt,hv⟩:=jG hgo
  dsimp only at hb hlt hv
  subst hb
  rw [ir hgo,hgo] at hbar
  obtain⟨M,rfl⟩:∃M,N=M+1:=⟨N-1,omq⟩
  have hpre2:Pre s ⟨a+1,d,false⟩:=⟨by show a+1≤_;omega,hpre.2.1,hpre.2.2⟩
  have hge:p0.a≤a:=hgl.ge
  have hic:=hi ⟨a+1,d,false⟩ hpre2 (by show p0.a≤a+1;omega)
  have hgd:=hg ⟨a+1,d,false⟩ hpre2 (by show p0.a≤a+1;omega)
  have hst:bV s cat (M+1) L ⟨a,d,false⟩=bV s cat M (L++[(cat ⟨a+1,d,false⟩).1]) (cat ⟨a+1,d,false⟩).2:=by
   show (if isB s 124 ⟨a,d,false⟩ then _ else _)=_
   rw [if_pos hgo];rfl
  rw [hst] at htot
  clear hst hi hg hic0
  have hge2:a+1≤(cat ⟨a+1,d,false⟩).2.a:=hgd.ge
  have hgl2:=hgl.step rfl (r:=cat ⟨a+1,d,false⟩) ⟨⟨hgd.fine,by show a≤_;omega,hgd.le,hgd.dg,hgd.dl,hgd.nb⟩,fun _=>by show a<_;omega⟩
  obtain⟨⟨e2,q2⟩,hq2⟩:∃r,cat ⟨a+1,d,false⟩=r:=⟨_,rfl⟩
  rw [hq2] at hic htot hgd hgl2 hge2
  dsimp only at hic htot hgd hgl2 hge2
  have hfi2:Fine e2:=hgd.fine
  cases hfi2 with
  | mk k' t' l' hk' ht' hl2' =>
  unfold eI at hbar hic ⊢
  dsimp only [PS.go] at hbar hic ⊢
  repeat' (first|(apply ay;first|refine al ?_|refine ai ?_|refine aK 0 (hbar) ?_|refine aK 0 (hic) ?_|refine fj ?_|refine dX ?_)|refine ak ?_|refine ab ?_|refine aa fun C=>?_|refine ac ?_|refine ah ?_|refine aj ?_|refine aq rfl ?_)
  refine⟨M,(L++[cL k' t' l'],q2),omq,⟨hgl2,by dsimp only;omega,htot⟩,?_⟩
  dsimp only
  rw [List.length_append,List.length_singleton]
  refine (em (i:=13) (j:=1200) rfl rfl rfl (pre:=owL L++[.v (.int .i64 k'),.v (.string t')]) (post:=[]) (by rw [List.append_assoc];rfl)).trans ?_
  (refine ei (fun j=>if j=9 then 13 else j) _ _ rfl rfl ?_ ?_<;>(repeat' (first|exact TmOk.nil|exact RwOk.nil|refine TmOk.cons ?_ ?_|refine RwOk.cons ?_ ?_|rfl|(refine rnV_id' rfl ?_;exact byc)|(refine cV ?_;first|rfl|omega|(rw [bM omq omq];omega))|(refine bq rfl ?_;exact byc)|exact d5 rfl rfl|(refine rw_mid (by rfl) (by rfl) ?_ ?_<;>exact byc)|(refine rw_rn' rfl rfl ?_;simp;done))))
  exact gf (r:=⟨112,3,L.length+1,false,(owL L++[.v (.int .i64 k'),.v (.string t')])++[.ow 112 l'.length 3 (owL l')]⟩) rfl (by rw [eM,List.append_assoc];rfl) (by first|rfl|(simp [nR,bi,clo,bc,aG,bf,aV,aW];done))
 | false =>
  rw [pO hgo] at htot
  rw [←htot]
  rw [kR hgo,hgo] at hbar
  have hfine:=hgl.fine
  have hne:=hgl.ne
  clear htot hi hg hic0 hL0 hgl hpre hg0
  unfold eI at hbar ⊢
  dsimp only at hbar ⊢
  match L,hfine,hne with
  | [],_,h0=>exact absurd h0 (by simp)
  | [x],hf,_ =>
   have hx:=hf x (List.mem_singleton.2 rfl)
   cases hx with
   | mk k' t' l' hk' ht' hl2' =>
   repeat' (first|(apply ay;first|refine al ?_|refine aK 0 (hbar) ?_)|refine ak ?_|refine ab ?_|refine aa fun C=>?_|refine ac ?_)
   refine au rfl ?_
   refine bk (xj 800 (i:=9) rfl rfl (pre:=[.v (.int .i64 k'),.v (.string t')]) (post:=[]) rfl) ?_
   repeat' (first|(apply ay;first|refine al ?_|refine bN ?_|refine dA ?_|refine bC ?_|refine eO ?_|refine ao ?_)|refine ak ?_|refine ab ?_|refine aa fun C=>?_|refine ac ?_|refine aA ?_|refine aq rfl ?_)
   exact oZ
  | x :: y :: r,hf,_ =>
   have hlen2:(x :: y :: r).length=r.length+2:=rfl
   repeat' (first|(apply ay;first|refine al ?_|refine aK 0 (hbar) ?_|refine dA ?_|refine bC ?_|refine ao ?_|refine az ?_)|refine ak ?_|refine ab ?_|refine aa fun C=>?_|refine ac ?_|refine aj ?_|refine aA ?_|refine au rfl ?_)
   exact oZ
theorem zm4 {s:ByteArray}(hs:s.size≤1048576)(f:Nat):∀p:PS,Pre s p→s.size+1≤p.a+f→Ctr prog 134 [.c (.pt 0 0)] [eI s p] (.ag (owE (hZ s f p).1)) [eI s (hZ s f p).2]:=by
 induction f with
 | zero=>intro p h1 h2;have:=h1.1;omega
 | succ f ih =>
  intro p h1 h2
  have hkid:∀r:PS,Pre s r→p.a≤r.a→r.b=false→r.a<s.size→r.d≤7→GoodS s ⟨r.a+1,r.d+1,r.b⟩ (hZ s f ⟨r.a+1,r.d+1,r.b⟩):=fun r hr hra hb hlt hd=>ot hs f _ ⟨by show r.a+1≤_;omega,by show r.d+1≤9;omega,fun _=>by show r.d+1≤8;omega⟩ (by show s.size+1≤r.a+1+f;omega)
  have hat:∀r:PS,Pre s r→p.a≤r.a→GoodS s r (dc s (hZ s f) r)∧((dc s (hZ s f) r).2.b=false→r.a<(dc s (hZ s f) r).2.a):=fun r hr hra=>l9 hs hr fun hb hlt hd=>hkid r hr hra hb hlt hd
  refine zw1 hs h1 (fun q hq hqa=>oq hq fun r hr hra=>jl (hat r hr omq)) fun q hq hqa=>?_
  refine zv1 hs hq (fun r hr hra=>jl (hat r hr omq)) fun r hr hra=>?_
  refine yd hs (hat r hr omq).1 ?_
  have hpre:r.b=false→r.a<s.size→Pre s (r.go 1):=fun hb hlt=>⟨by show r.a+1≤_;omega,hr.2.1,hr.2.2⟩
  refine yb hs hr (fun hb hlt=>?_) fun hb hlt=>kN (hpre hb hlt) hb fun hd=>hkid r hr omq hb hlt hd
  exact vI hs (hpre hb hlt) hb (fun hd=>hkid r hr omq hb hlt hd) fun hd=>ih _ ⟨by show r.a+1≤_;omega,by have:=hd;show r.d+1≤9;have h7:r.d≤7:=hd;omega,fun _=>by show r.d+1≤8;have h7:r.d≤7:=hd;omega⟩ (by show s.size+1≤r.a+1+f;omega)
theorem lI {s:ByteArray}(hs:s.size≤1048576):Ctr prog 108 [.c (.v (.string s))] [] (.tu [.ag (owE (xS s)),.c (.v (.bool (qZ s)))]) []:=by
 rw [zc4,q6]
 by_cases hbig:1000<s.size
 ·have hP:vv s=false:=by unfold vv;rw [decide_eq_false omq];rfl
  rw [hP]
  refine av func108 rfl rfl ?_
  repeat' (first|(apply ay;first|refine al ?_|refine ai ?_|refine bK ?_|refine a7 ?_|refine bZ ?_)|refine ak ?_|refine ab ?_|refine aa fun C=>?_|refine ac ?_)
  refine ae (by rfl) (fun hC=>?_) fun hC=>by exfalso;simp only [decide_eq_false_iff_not] at hC;omega
  repeat' (first|(apply ay;first|refine ai ?_|refine bC ?_|refine az ?_)|refine ak ?_|refine ab ?_|refine aa fun C=>?_|refine ac ?_)
  refine bk (cP 900 (i:=2) 112 3 rfl rfl (pre:=[_,_]) (post:=[]) rfl) ?_
  refine am ?_;refine bv rfl (cf (aC (aZ (aE rfl (aE rfl (ba rfl rfl rfl cls0 aL)))) (aC aH bh))) ⟨?_,rfl⟩
  rfl
 have hpre:Pre s p00:=⟨Nat.zero_le _,by show (0:Nat)≤9;omega,fun _=>by show (0:Nat)≤8;omega⟩
 have halt:=zm4 hs (s.size+8) p00 hpre (by show s.size+1≤0+(s.size+8);omega)
 have hgd:=ot hs (s.size+8) p00 hpre (by show s.size+1≤0+(s.size+8);omega)
 have hsz:(hZ s (s.size+8) p00).2.b=false→(hZ s (s.size+8) p00).1.sz≤4194304:=fun hb=>by
  have h1:=(qV (s.size+8) p00 rfl (by show (0:Nat)≤8;omega) hb).1
  have h2:=(jm hs).2.2
  unfold fo at h2
  rw [h1] at h2;omega
 unfold vv
 unfold kJ
 rw [decide_eq_true (show s.size≤1000 by omega)]
 obtain⟨⟨e,q⟩,hq⟩:∃r,hZ s (s.size+8) p00=r:=⟨_,rfl⟩
 rw [hq] at halt hgd hsz ⊢
 have hf:Fine e:=hgd.fine
 dsimp only at halt hsz ⊢
 have hty:=hf.ty.1
 obtain⟨qa,qd,qb⟩:=q
 dsimp only at hsz
 cases qb with
 | true =>
  cases hf with
  | mk k t l hk ht hl2 =>
  unfold eI at halt
  dsimp only [p00] at halt ⊢
  refine av func108 rfl rfl ?_
  repeat' (first|(apply ay;first|refine al ?_|refine ai ?_|refine bK ?_|refine a7 ?_|refine bZ ?_)|refine ak ?_|refine ab ?_|refine aa fun C=>?_|refine ac ?_)
  refine ae (by rfl) (fun hC=>by exfalso;simp only [decide_eq_true_iff] at hC;omega) fun hC=>?_
  repeat' (first|(apply ay;first|refine bX ?_|(refine aR ?_ ?_<;>intro hG<;>(try cases hG))|refine al ?_|refine ai ?_|refine bj ?_|refine aI ?_|refine aK 12 (halt) ?_|refine bC ?_|refine aB ?_|refine bZ ?_|refine cA ?_|refine az ?_)|refine ak ?_|refine ab ?_|refine aa fun C=>?_|refine ac ?_|refine aj ?_|refine aq rfl ?_)
  refine bk (cP 900 (i:=2) 112 3 rfl rfl (pre:=[_,_]) (post:=[]) rfl) ?_
  refine am ?_;refine bv rfl (cf (aC (aZ (aE rfl (aE rfl (ba rfl rfl rfl cls0 aL)))) (aC aH bh))) ⟨?_,rfl⟩
  rfl
 | false =>
  have c2:=mX hty (hsz rfl)
  cases hf with
  | mk k t l hk ht hl2 =>
  unfold eI at halt
  dsimp only [p00] at halt ⊢
  refine av func108 rfl rfl ?_
  repeat' (first|(apply ay;first|refine al ?_|refine ai ?_|refine bK ?_|refine a7 ?_|refine bZ ?_)|refine ak ?_|refine ab ?_|refine aa fun C=>?_|refine ac ?_)
  refine ae (by rfl) (fun hC=>by exfalso;simp only [decide_eq_true_iff] at hC;omega) fun hC=>?_
  repeat' (first|(apply ay;first|refine bX ?_|(refine aR ?_ ?_<;>intro hG<;>(try cases hG))|refine al ?_|refine ai ?_|refine bj ?_|refine aI ?_|refine bN ?_|refine aK 12 (halt) ?_|refine aF c2 ?_|refine bK ?_|refine bC ?_|refine aS ?_|refine fm ?_|refine aB ?_|refine bZ ?_|refine cA ?_|refine az ?_)|refine ak ?_|refine ab ?_|refine aa fun C=>?_|refine ac ?_|refine aj ?_)
  ·repeat' (first|(apply ay;first|refine ai ?_|refine bC ?_|refine az ?_)|refine ak ?_|refine ab ?_|refine aa fun C=>?_|refine ac ?_|refine aq rfl ?_)
   refine bk (cP 900 (i:=2) 112 3 rfl rfl (pre:=[_,_]) (post:=[]) rfl) ?_
   refine am ?_;refine bv rfl (cf (aC (aZ (aE rfl (aE rfl (ba rfl rfl rfl cls0 aL)))) (aC aH bh))) ⟨?_,rfl⟩
   have hP:(true&&!false&&(qa==s.size)&&(jS (cL k t l)).toList==s.toList)=false:=by clear halt c2;first|(simp_all;done)|(simp_all;(try intros);omega)
   rw [hP];rfl
  ·refine ae (by rfl) (fun hC=>?_) fun hC=>?_
   ·repeat' (first|(apply ay;first|refine ai ?_|refine bC ?_|refine az ?_)|refine ak ?_|refine ab ?_|refine aa fun C=>?_|refine ac ?_)
    refine bk (cP 900 (i:=2) 112 3 rfl rfl (pre:=[_,_]) (post:=[]) rfl) ?_
    refine am ?_;refine bv rfl (cf (aC (aZ (aE rfl (aE rfl (ba rfl rfl rfl cls0 aL)))) (aC aH bh))) ⟨?_,rfl⟩
    have hP:(true&&!false&&(qa==s.size)&&(jS (cL k t l)).toList==s.toList)=false:=by clear halt c2;first|(simp_all;done)|(simp_all;(try intros);omega)
    rw [hP];rfl
   ·repeat' (first|(apply ay;first|refine ai ?_|refine bN ?_|refine bC ?_)|refine ak ?_|refine ab ?_|refine aa fun C=>?_|refine ac ?_|refine aj ?_)
    refine am ?_;refine bv rfl (cf (aC (aZ (aE rfl (aE rfl (ba rfl rfl rfl cls0 aL)))) (aC aH bh))) ⟨?_,rfl⟩
    have hP:(true&&!false&&(qa==s.size)&&(jS (cL k t l)).toList==s.toList)=true:=by clear halt c2;first|(simp_all;done)|(simp_all;(try intros);omega)
    rw [hP];rfl
def oY (s:ByteArray):Bool:=qZ s&&decide (s.size≤200)
theorem ox {s:ByteArray}(hs:s.size≤1048576):Fine (xS s):=by
 unfold xS
 split
 ·exact (jm hs).1
 ·exact Fine.zero
theorem ma {s:ByteArray}(hs:s.size≤1048576):Ctr prog 82 [.c (.v (.string s))] [] (.c (.v (.bool (oY s)))) []:=by
 have hc:=lH hs
 have hf:=ox hs
 generalize xS s=e at hc hf
 cases hf with
 | mk k t l hk ht hl2 =>
 refine av func82 rfl rfl ?_
 unfold oY
 generalize qZ s=b at *
 repeat' (first|(apply ay;first|refine bX ?_|(refine aR ?_ ?_<;>intro hG<;>(try cases hG))|refine al ?_|refine db (v:=.tu _) ?_|refine ai ?_|refine dn hc ?_|refine bK ?_|refine bC ?_|refine bG ?_|refine aB ?_|refine cE ?_|refine fQ (v:=.ag _) ?_|refine bZ ?_)|refine ak ?_|refine ab ?_|refine aa fun C=>?_|refine ac ?_)
 all_goals
  (first|refine am ?_|skip);refine bv rfl aH ⟨?_,rfl⟩;refine congrArg (fun s=>AV.c (AC.v (Value.bool s))) ?_
  first
   | rfl
   | (simp only [Bool.true_and];(rw [Bool.eq_iff_iff];(try simp only [Bool.and_eq_true,Bool.or_eq_true,Bool.not_eq_true',decide_eq_true_iff,decide_eq_false_iff_not,beq_iff_eq,Bool.and_eq_false_iff,Bool.or_eq_false_iff,bne_iff_ne,ne_eq,Bool.true_eq_false,Bool.false_eq_true,true_iff,false_iff,iff_true,iff_false] at *);first|omega|(simp at *;omega)))
theorem vK {s:ByteArray}(hs:s.size≤1048576):Ctr prog 76 [.c (.v (.string s))] [] (.c (.v (.bool (oY s)))) []:=by
 have hc:=lI hs
 have hf:=ox hs
 generalize xS s=e at hc hf
 cases hf with
 | mk k t l hk ht hl2 =>
 refine av func76 rfl rfl ?_
 unfold oY
 generalize qZ s=b at *
 repeat' (first|(apply ay;first|refine bX ?_|(refine aR ?_ ?_<;>intro hG<;>(try cases hG))|refine al ?_|refine db (v:=.tu _) ?_|refine ai ?_|refine dn hc ?_|refine bK ?_|refine bC ?_|refine bG ?_|refine aB ?_|refine cE ?_|refine fQ (v:=.ag _) ?_|refine bZ ?_)|refine ak ?_|refine ab ?_|refine aa fun C=>?_|refine ac ?_)
 all_goals
  (first|refine am ?_|skip);refine bv rfl aH ⟨?_,rfl⟩;refine congrArg (fun s=>AV.c (AC.v (Value.bool s))) ?_
  first
   | rfl
   | (simp only [Bool.true_and];(rw [Bool.eq_iff_iff];(try simp only [Bool.and_eq_true,Bool.or_eq_true,Bool.not_eq_true',decide_eq_true_iff,decide_eq_false_iff_not,beq_iff_eq,Bool.and_eq_false_iff,Bool.or_eq_false_iff,bne_iff_ne,ne_eq,Bool.true_eq_false,Bool.false_eq_true,true_iff,false_iff,iff_true,iff_false] at *);first|omega|(simp at *;omega)))
theorem pR {l:List E}(hl:∀e∈l,e.Ty prog 9)(hk:∀e∈l,e.enc.length=1)(hlen:l.length≤1073741824)(v:ByteArray):Ctr prog 110 [.c (.ro l.length 1 (acL l)),.c (.v (.string v))] [] (.c (.v (.int .i64 (oW (fun e=>v.toList==(lx e).toList) l)))) []:=by
 refine av func110 rfl rfl ?_
 repeat (first|refine ac ?_|refine ah ?_|refine aj ?_|refine aA ?_|refine am ?_|refine aa fun C=>?_|refine ar (by kernel_rfl) (by kernel_rfl) fun C=>?_|refine ab ?_|refine b9 ?_|refine gt ?_|refine gg ?_|refine gu ?_|refine x_mv ?_|refine fh ?_|refine x_sk0 ?_|refine gv ?_|refine dj ?_|refine x_sto ?_|refine dk ?_|refine x_app0 ?_|refine gx ?_)
 refine a8 (fun k:Nat=>⟨eX [(0,.c (.ro l.length 1 (acL l))),(1,.c (.v (.string v))),(7,.c (.v (.int .i64 l.length))),(8,.c (.v (.int .i64 k)))],eJ [],0,[],19⟩)
  (fun N k=>k+N=l.length∧∀j y,j<k→l[j]? = some y→(fun e=>v.toList==(lx e).toList) y=false) l.length 0 ⟨omq,omq⟩ ?_ ?_
 ·(refine aM _ _ rfl rfl ?_ ?_<;>exact tdy0)
 rintro N k ⟨hN,hno⟩
 repeat (first|refine ac ?_|refine ah ?_|refine aj ?_|refine aA ?_|refine am ?_|refine aa fun C=>?_|refine ar (by kernel_rfl) (by kernel_rfl) fun C=>?_|refine ab ?_|refine b9 ?_|refine gt ?_|refine gg ?_|refine gu ?_|refine x_mv ?_|refine fh ?_|refine x_sk0 ?_|refine gv ?_|refine dj ?_|refine x_sto ?_|refine dk ?_|refine x_app0 ?_|refine gx ?_)
 refine cS (by rfl) (fun h1=>?_) fun h1=>?_
 ·have hk':k<l.length:=by simpa using h1
  obtain⟨x,hx⟩:∃x,l[k]? = some x:=⟨_,List.getElem?_eq_getElem hk'⟩
  have hxt:=hl x (List.mem_of_getElem? hx)
  obtain⟨y0,rfl,-⟩:=hxt.str_ underlying9
  repeat (first|refine ac ?_|refine ah ?_|refine aj ?_|refine aA ?_|refine am ?_|refine aa fun C=>?_|refine ar (by kernel_rfl) (by kernel_rfl) fun C=>?_|refine ab ?_|refine b9 ?_|refine gt ?_|refine gg ?_|refine gu ?_|refine x_mv ?_|refine fh ?_|refine x_sk0 ?_|refine gv ?_|refine dj ?_|refine x_sto ?_|refine dk ?_|refine x_app0 ?_|refine gx ?_)
  refine cS (by rfl) (fun h2=>?_) fun h2=>?_
  ·repeat (first|refine ac ?_|refine ah ?_|refine aj ?_|refine aA ?_|refine am ?_|refine aa fun C=>?_|refine ar (by kernel_rfl) (by kernel_rfl) fun C=>?_|refine ab ?_|refine b9 ?_|refine gt ?_|refine gg ?_|refine gu ?_|refine x_mv ?_|refine fh ?_|refine x_sk0 ?_|refine gv ?_|refine dj ?_|refine x_sto ?_|refine dk ?_|refine x_app0 ?_|refine gx ?_)
   refine bv (x:=.c (.v (.int .i64 k))) rfl aH ⟨?_,rfl⟩
   rw [pk hno hx (by simpa [lx] using h2)]
  ·repeat (first|refine ac ?_|refine ah ?_|refine aj ?_|refine aA ?_|refine am ?_|refine aa fun C=>?_|refine ar (by kernel_rfl) (by kernel_rfl) fun C=>?_|refine ab ?_|refine b9 ?_|refine gt ?_|refine gg ?_|refine gu ?_|refine x_mv ?_|refine fh ?_|refine x_sk0 ?_|refine gv ?_|refine dj ?_|refine x_sto ?_|refine dk ?_|refine x_app0 ?_|refine gx ?_)
   refine⟨N-1,k+1,omq,⟨omq,fun j z hj hz=>?_⟩,?_⟩
   ·by_cases e:j=k
    ·rw [e,hx] at hz;injection hz with hz;subst hz;simpa [lx] using h2
    ·exact hno j z omq hz
   ·(refine aM _ _ rfl rfl ?_ ?_<;>exact tdy0)
 ·have hk':¬k<l.length:=by simpa using h1
  repeat (first|refine ac ?_|refine ah ?_|refine aj ?_|refine aA ?_|refine am ?_|refine aa fun C=>?_|refine ar (by kernel_rfl) (by kernel_rfl) fun C=>?_|refine ab ?_|refine b9 ?_|refine gt ?_|refine gg ?_|refine gu ?_|refine x_mv ?_|refine fh ?_|refine x_sk0 ?_|refine gv ?_|refine dj ?_|refine x_sto ?_|refine dk ?_|refine x_app0 ?_|refine gx ?_)
  refine bv (x:=.c (.v (.int .i64 (-1)))) rfl aH ⟨?_,rfl⟩
  rw [iD fun j y hj hy=>hno j y omq hy]
theorem kS {l:List E}(hl:∀e∈l,e.Ty prog 9)(hk:∀e∈l,e.enc.length=1)(hlen:l.length≤1073741824)(v:ByteArray):Ctr prog 80 [.c (.ro l.length 1 (acL l)),.c (.v (.string v))] [] (.c (.v (.bool (l.any (fun e=>v.toList==(lx e).toList))))) []:=by
 refine av func80 rfl rfl ?_
 have hcc:=pR hl hk hlen v
 repeat (first|refine ac ?_|refine ah ?_|refine aj ?_|refine aA ?_|refine am ?_|refine aa fun C=>?_|refine ar (by kernel_rfl) (by kernel_rfl) fun C=>?_|refine ab ?_|refine b9 ?_|refine gt ?_|refine gg ?_|refine gu ?_|refine x_mv ?_|refine fh ?_|refine x_sk0 ?_|refine gv ?_|refine dj ?_|refine x_sto ?_|refine dk ?_|refine x_app0 ?_|refine gx ?_)
 refine lD hcc ?_
 repeat (first|refine ac ?_|refine ah ?_|refine aj ?_|refine aA ?_|refine am ?_|refine aa fun C=>?_|refine ar (by kernel_rfl) (by kernel_rfl) fun C=>?_|refine ab ?_|refine b9 ?_|refine gt ?_|refine gg ?_|refine gu ?_|refine x_mv ?_|refine fh ?_|refine x_sk0 ?_|refine gv ?_|refine dj ?_|refine x_sto ?_|refine dk ?_|refine x_app0 ?_|refine gx ?_)
 refine bv (x:=.c (.v (.bool (decide (oW (fun e=>v.toList==(lx e).toList) l ≥ 0))))) rfl aH ⟨?_,rfl⟩
 rw [mH]
theorem aU {e:E}(h:e.Ty prog 26):∃(x0:Int) (x1:Int) (x2:ByteArray) (x3A:Option Addr) (x3c:Nat) (x3l:List E),e=(E.agg [.int .i64 x0,.int .i64 x1,.str x2,.lst 4 26 x3A x3c x3l])∧((Lit.int .i64 x0).wf=true)∧((Lit.int .i64 x1).wf=true)∧(x2.size≤9223372036854775807)∧((∀y∈x3l,y.Ty prog 26)∧(∀y∈x3l,y.enc.length=4))∧True:=by
 obtain⟨fs,rfl,q0⟩:=h.agg_ underlying26
 change E.TyF _ _ [3,3,9,24] at q0
 obtain⟨e0,r0,rfl,h0,q1⟩:=q0.cons_
 obtain⟨e1,r1,rfl,h1,q2⟩:=q1.cons_
 obtain⟨e2,r2,rfl,h2,q3⟩:=q2.cons_
 obtain⟨e3,r3,rfl,h3,q4⟩:=q3.cons_
 obtain rfl:=q4.nil_
 obtain⟨x0,rfl,gx0⟩:=h0.int_ underlying3
 obtain⟨x1,rfl,gx1⟩:=h1.int_ underlying3
 obtain⟨x2,rfl,gx2⟩:=h2.str_ underlying9
 obtain⟨x3A,x3c,x3l,rfl,gx3,gx3'⟩:=h3.lst_ underlying24 (k:=4) (by kernel_rfl)
 exact⟨x0,x1,x2,x3A,x3c,x3l,rfl,gx0,gx1,gx2,⟨gx3,gx3'⟩,trivial⟩
def su (ns:List ByteArray):List E:=ns.map fun n=>.str n
def kwL:List E:=su [⟨#[98,101,103,105,110]⟩,⟨#[101,110,100]⟩,⟨#[102,117,110,99]⟩,⟨#[112,114,105,110,116]⟩,⟨#[105,102]⟩,⟨#[101,108,115,101]⟩,⟨#[119,104,105,108,101]⟩,⟨#[102,111,114]⟩,⟨#[105,110]⟩,⟨#[110,101,120,116]⟩,⟨#[101,120,105,116]⟩,⟨#[114,101,116,117,114,110]⟩,⟨#[100,101,108,101,116,101]⟩,⟨#[108,101,110,103,116,104]⟩,⟨#[115,117,98,115,116,114]⟩,⟨#[105,110,100,101,120]⟩,⟨#[117,112,112,101,114]⟩,⟨#[103,115,117,98]⟩,⟨#[110,114]⟩,⟨#[110,102]⟩]
def kT:List E:=su [⟨#[43]⟩,⟨#[45]⟩,⟨#[42]⟩,⟨#[47]⟩,⟨#[37]⟩,⟨#[46]⟩,⟨#[60]⟩,⟨#[60,61]⟩,⟨#[61,61]⟩,⟨#[33,61]⟩,⟨#[62]⟩,⟨#[62,61]⟩,⟨#[38,38]⟩,⟨#[124,124]⟩]
def kU (l:List E)(s:ByteArray):Bool:=l.any fun e=>s.toList==(lx e).toList
def dK (s:ByteArray):Bool:=dD s&&!kU kwL s
def emB (s:ByteArray):Bool:=s.toList==(ByteArray.mk #[]).toList
def eu (k n:Int)(s:ByteArray)(m:Int):Bool :=
 if k=1 then inR n 0 2147483647&&(emB s&&(m==0))
 else decide (n=0)&&(
  if k=2 then df 39 s&&(m==0)
  else if k=3 then dK s&&(m==0)
  else if k=4∨k=9 then dK s&&(m==1)
  else if k=5∨k=7∨k=8∨k=12∨k=17 then emB s&&(m==1)
  else if k=6 then kU kT s&&(m==2)
  else if k=10 then (m==1)&&oY s
  else if k=18 then (m==2)&&oY s
  else if k=11 then dK s&&decide (m≤4)
  else if k=13 then emB s&&(m==3)
  else if k=14∨k=15 then emB s&&(m==0)
  else if k=16 then emB s&&(m==2)
  else false)
def mY (e:E):Bool:=match e with | .agg [.int _ k,.int _ n,.str s,.lst _ _ _ _ l]=>eu k n s l.length|_=>false
def dh (e:E):List E:=match e with | .agg [_,_,_,.lst _ _ _ _ l]=>l|_=>[]
theorem dR (e x:E)(h:x∈dh e):x.sz<e.sz:=by
 unfold dh at h
 split at h
 ·have:=E.szL_mem h
  simp only [E.sz,E.szL]
  have h2:0<List.length _:=List.length_pos_of_mem h
  omega
 ·cases h
def gA (f:Nat)(e:E):Nat:=qR 100 mY dh f e
def iR (f:Nat)(e:E):Nat:=j3 100 dh f e
def okX (e:E):Bool:=okE mY dh e
def fq (e:E):Bool:=decide (iR 10 e≤100)&&okX e
theorem zx1 (e:E):fq e=decide (gA 10 e≤100):=(zb4 omq dR 10 e).symm
def joC (ts:List ByteArray):ByteArray:=jb (ts.map E.str) ⟨#[44,32]⟩
def atB (ts:List ByteArray)(k:Nat):ByteArray:=ts.getD k ByteArray.empty
def pS (k n:Int)(s:ByteArray)(ts:List ByteArray):ByteArray :=
 if k=1 then iE n
 else if k=2 then (⟨#[39]⟩++s)++⟨#[39]⟩
 else if k=3 then s
 else if k=4 then ((s++⟨#[91]⟩)++joC ts)++⟨#[93]⟩
 else if k=5 then ⟨#[36]⟩++joC ts
 else if k=6 then ((((((⟨#[40]⟩:ByteArray)++atB ts 0)++⟨#[32]⟩)++s)++⟨#[32]⟩)++atB ts 1)++⟨#[41]⟩
 else if k=7 then ⟨#[33]⟩++joC ts
 else if k=8 then ⟨#[45]⟩++joC ts
 else if k=9 then ((((⟨#[40]⟩:ByteArray)++joC ts)++⟨#[32,105,110,32]⟩)++s)++⟨#[41]⟩
 else if k=10 then ((((⟨#[40]⟩:ByteArray)++joC ts)++⟨#[32,126,32,47]⟩)++s)++⟨#[47,41]⟩
 else if k=11 then ((s++(⟨#[40]⟩:ByteArray))++joC ts)++⟨#[41]⟩
 else if k=12 then (⟨#[108,101,110,103,116,104,40]⟩++joC ts)++⟨#[41]⟩
 else if k=13 then (⟨#[115,117,98,115,116,114,40]⟩++joC ts)++⟨#[41]⟩
 else if k=14 then ⟨#[110,114]⟩
 else if k=15 then ⟨#[110,102]⟩
 else if k=16 then (⟨#[105,110,100,101,120,40]⟩++joC ts)++⟨#[41]⟩
 else if k=17 then (⟨#[117,112,112,101,114,40]⟩++joC ts)++⟨#[41]⟩
 else (((((⟨#[103,115,117,98,40]⟩++atB ts 0)++⟨#[32,126,32,47]⟩)++s)++⟨#[47,44,32]⟩)++atB ts 1)++⟨#[41]⟩
def txF:Nat→E→ByteArray
 | 0,_=>ByteArray.empty
 | f+1,e=>match e with
  | .agg [.int _ k,.int _ n,.str s,.lst _ _ _ _ l]=>pS k n s (l.map (txF f))
  | _=>ByteArray.empty
def txE (e:E):ByteArray:=txF (e.sz+1) e
theorem vL:∀(n f:Nat) (e:E),e.sz<n→e.sz<f→txF f e=txE e
 | 0,_,_,h,_=>absurd h (Nat.not_lt_zero _)
 | n+1,0,_,_,h=>absurd h (Nat.not_lt_zero _)
 | n+1,f+1,e,h1,h2=>by
  have key:∀x∈dh e,txF f x=txF e.sz x:=fun x hx=>by
   have hs:=dR e x hx
   rw [vL n f x omq omq,vL n e.sz x omq hs]
  unfold txE
  unfold txF
  split
  ·rename_i k n' s T A c m l
   congr 1
   exact List.map_congr_left key
  ·rfl
theorem mZ (i j:IntKind)(k n:Int)(s:ByteArray)(w:Nat)(T:TypeId)(A:Option Addr)(c:Nat)(l:List E):txE (.agg [.int i k,.int j n,.str s,.lst w T A c l])=pS k n s (l.map txE):=by
 show pS k n s (l.map (txF (E.sz (.agg [.int i k,.int j n,.str s,.lst w T A c l]))))=_
 congr 1
 refine List.map_congr_left fun x hx=>?_
 exact vL (x.sz+1) _ x omq (dR _ x hx)
def smB:List ByteArray→Nat
 | []=>0
 | t :: r=>t.size+2+smB r
theorem vM (x:ByteArray):joC [x]=x:=by
 unfold joC jb
 simp only [List.map_cons,List.map_nil,lx]
 rw [Lib.join_one,qP]
theorem oy (x y:ByteArray)(r:List ByteArray):joC (x :: y :: r)=(x++⟨#[44,32]⟩)++joC (y :: r):=by
 unfold joC jb
 simp only [List.map_cons,lx]
 have hj:∀(sep u:List UInt8) (v:List (List UInt8)),Lib.joinTail sep (u :: v)=sep++(u++Lib.joinTail sep v):=fun sep u v=>by simp [Lib.joinTail]
 rw [Lib.join_cons,hj,Lib.join_cons,gV,gV,qP,ByteArray.append_assoc]
theorem m0:∀ts:List ByteArray,(joC ts).size≤smB ts
 | []=>Nat.zero_le _
 | [x]=>by rw [vM];simp only [smB];omega
 | x :: y :: r=>by
  rw [oy,ByteArray.size_append',ByteArray.size_append']
  have h:=m0 (y :: r)
  have h2:(⟨#[44,32]⟩:ByteArray).size=2:=rfl
  simp only [smB] at h ⊢
  omega
theorem rf:∀(ts:List ByteArray) (k:Nat),(atB ts k).size≤smB ts
 | [],_=>Nat.zero_le _
 | x :: r,0=>by simp only [smB];show x.size≤_;omega
 | x :: r,k+1=>by
  have:=rf r k
  simp only [smB]
  show (atB r k).size≤_;omega
theorem zn4:∀ts:List ByteArray,(atB ts 0).size+(atB ts 1).size≤smB ts
 | []=>Nat.zero_le _
 | x :: r=>by
  have:=rf r 0
  simp only [smB]
  show x.size+(atB r 0).size≤_;omega
theorem yf {c:Prop}[Decidable c]{a b:ByteArray}{n:Nat}(ha:a.size≤n)(hb:b.size≤n):(if c then a else b).size≤n:=by split<;>assumption
theorem sv {k n:Int}(hn : -9223372036854775808≤n∧n≤9223372036854775807)(s:ByteArray)(ts:List ByteArray):(pS k n s ts).size≤30+s.size+smB ts:=by
 have h1:=m0 ts
 have h2:=zn4 ts
 have h3:=zw hn.1 hn.2
 have hm:∀a:Array UInt8,(ByteArray.mk a).size=a.size:=fun _=>rfl
 unfold pS
 repeat' refine yf ?_ ?_
 all_goals
  try simp only [ByteArray.size_append',ByteArray.size_mk',List.size_toArray,List.length_cons,List.length_nil]
  omega
theorem m5:∀(n:Nat) (e:E),e.Ty prog 26→e.sz<n→(txE e).size+2≤40*(1+e.sz)
 | 0,_,_,h=>absurd h (Nat.not_lt_zero _)
 | n+1,e,he,h=>by
  obtain⟨k,m,s,xA,xc,l,rfl,-,gm,-,⟨hl,hk⟩,-⟩:=aU he
  have h1:=sv (k:=k) (rI gm) s (l.map txE)
  rw [mZ]
  simp only [E.sz,E.szL] at h ⊢
  have key:∀r:List E,(∀x∈r,x.Ty prog 26)→E.szL r≤E.szL l→(∀x∈r,x∈l)→smB (r.map txE)≤40*(r.length+E.szL r):=fun r=>by
   induction r with
   | nil=>intros;exact Nat.zero_le _
   | cons x r ih =>
    intro a b c
    simp only [E.szL] at b
    have i1:=ih (fun y hy=>a y (List.mem_cons_of_mem _ hy)) omq (fun y hy=>c y (List.mem_cons_of_mem _ hy))
    have hxm:=c x (List.mem_cons_self ..)
    have h0:0<l.length:=List.length_pos_of_mem hxm
    have i2:=m5 n x (a x (List.mem_cons_self ..)) omq
    simp only [List.map_cons,smB,List.length_cons,E.szL]
    omega
  have h2:=key l hl (Nat.le_refl _) (fun _ h=>h)
  omega
theorem oz {e:E}(he:e.Ty prog 26):(txE e).size≤40*(1+e.sz):=by have:=m5 (e.sz+1) e he omq;omega
theorem zD:∀{l:List E},(∀x∈l,x.Ty prog 26)→smB (l.map txE)≤40*(l.length+E.szL l)
 | [],_=>Nat.zero_le _
 | x :: r,h=>by
  have h1:=zD (l:=r) fun y hy=>h y (List.mem_cons_of_mem _ hy)
  have h2:=m5 (x.sz+1) x (h x (List.mem_cons_self ..)) omq
  simp only [List.map_cons,smB,List.length_cons,E.szL]
  omega
theorem rg {ns:List ByteArray}(h:∀s∈ns,s.size≤9223372036854775807):∀e∈su ns,e.Ty prog 9:=fun e he=>by
 obtain⟨s,hs,rfl⟩:=List.mem_map.1 he
 have:=h s hs
 simp only [E.Ty];exact⟨underlying9,by unfold maxLen;omega⟩
theorem oA {ns:List ByteArray}:∀e∈su ns,e.enc.length=1:=fun e he=>by obtain⟨x,-,rfl⟩:=List.mem_map.1 he;rfl
theorem zF:∀e∈kwL,e.Ty prog 9:=rg (by decide)
theorem vN:∀e∈kT,e.Ty prog 9:=rg (by decide)
theorem vO {l:List E}(hl:∀e∈l,e.Ty prog 9)(hlen:l.length≤1048576)(s:ByteArray):Ctr prog 75 [.c (.ro l.length 1 (acL l)),.c (.v (.string s))] [] (.c (.v (.bool (kU l s)))) []:=by
 have hk:∀e∈l,e.enc.length=1:=fun e he=>by obtain⟨x,rfl,-⟩:=(hl e he).str_ underlying9;rfl
 refine av func75 rfl rfl ?_
 repeat' (first|(apply ay;refine ai ?_)|refine ak ?_|refine ab ?_|refine aa fun C=>?_|refine ac ?_|refine ah ?_)
 refine a8 (fun k:Nat=>⟨eX [(0,.c (.ro l.length 1 (acL l))),(1,.c (.v (.string s))),(5,.c (.v (.int .i64 (k:Int))))],eJ [],0,[],18⟩)
  (fun N k=>k+N=l.length∧∀j y,j<k→l[j]? = some y→(s.toList==(lx y).toList)=false) l.length 0 ⟨omq,fun j y hj=>absurd hj (Nat.not_lt_zero j)⟩ ?_ ?_
 ·(refine aM _ _ rfl rfl ?_ ?_<;>exact tdy0)
 rintro N k ⟨hN,hr⟩
 try dsimp only
 repeat' (first|(apply ay;first|refine al ?_|refine bE ?_|refine aD ?_)|refine ak ?_|refine ab ?_|refine aa fun C=>?_|refine ac ?_)
 refine ae (by rfl) (fun h1=>?_) fun h1=>?_
 ·have hk':k<l.length:=by simpa using h1
  obtain⟨x,hx⟩:∃x,l[k]? = some x:=⟨_,List.getElem?_eq_getElem hk'⟩
  obtain⟨z,rfl,-⟩:=(hl x (List.mem_of_getElem? hx)).str_ underlying9
  repeat' (first|(apply ay;first|refine al ?_|refine dO ?_|refine iv ?_|refine aQ ?_)|refine ak ?_|refine ab ?_|refine aa fun C=>?_|refine ac ?_|refine ah ?_|refine aj ?_)
  refine ae (by rfl) (fun hC=>?_) fun hC=>?_
  ·have e:kU l s=true:=List.any_eq_true.2 ⟨_,List.mem_of_getElem? hx,by rw [beq_iff_eq] at hC ⊢;exact hC.symm⟩
   rw [e]
   repeat' (first|(apply ay;refine ai ?_)|refine ak ?_|refine ab ?_|refine aa fun C=>?_|refine ac ?_)
   exact fJ
  ·repeat' (first|(apply ay;first|refine al ?_|refine ai ?_|refine aw ?_)|refine ak ?_|refine ab ?_|refine aa fun C=>?_|refine aj ?_)
   refine⟨N-1,k+1,omq,⟨omq,fun j y hj hy=>?_⟩,?_⟩
   ·by_cases e:j=k
    ·rw [e,hx] at hy;injection hy with hy;subst hy
     cases hb:(s.toList==(lx (E.str z)).toList) with
     | false=>rfl
     | true=>rw [beq_iff_eq] at hb;rw [←hC];exact (beq_iff_eq.2 hb.symm).symm
    ·exact hr j y omq hy
   ·(refine aM _ _ rfl rfl ?_ ?_<;>exact tdy0)
 ·have hk':¬k<l.length:=by simpa using h1
  have e:kU l s=false:=by
   cases hb:kU l s with
   | false=>rfl
   | true =>
    obtain⟨x,hx,hp⟩:=List.any_eq_true.1 hb
    obtain⟨j,hj⟩:=List.getElem?_of_mem hx
    have:=(List.getElem?_eq_some_iff.1 hj).1
    rw [hr j x omq hj] at hp;cases hp
  rw [e]
  repeat' (first|(apply ay;refine ai ?_)|refine ak ?_|refine ab ?_|refine aa fun C=>?_|refine ac ?_|refine aA ?_)
  exact fJ
theorem vP:Ctr prog 107 [] [] (.c (.ow 9 kwL.length 1 (acL kwL))) []:=by
 refine av func107 rfl rfl ?_
 repeat' (first|(apply ay;first|refine ai ?_|refine dX ?_)|refine ak ?_|refine ab ?_|refine aa fun C=>?_|refine ac ?_)
 refine am ?_
 refine bv rfl (lC (ba rfl rfl rfl (by rfl) aL)) ⟨?_,rfl⟩
 rfl
theorem vQ:Ctr prog 58 [] [] (.c (.ow 9 kT.length 1 (acL kT))) []:=by
 refine av func58 rfl rfl ?_
 repeat' (first|(apply ay;first|refine ai ?_|refine dX ?_)|refine ak ?_|refine ab ?_|refine aa fun C=>?_|refine ac ?_)
 refine am ?_
 refine bv rfl (lC (ba rfl rfl rfl (by rfl) aL)) ⟨?_,rfl⟩
 rfl
theorem yg:Ctr prog 81 [] [] (.c (.ow 9 kT.length 1 (acL kT))) []:=by
 refine av func81 rfl rfl ?_
 repeat' (first|(apply ay;first|refine ai ?_|refine dX ?_)|refine ak ?_|refine ab ?_|refine aa fun C=>?_|refine ac ?_)
 refine am ?_
 refine bv rfl (lC (ba rfl rfl rfl (by rfl) aL)) ⟨?_,rfl⟩
 rfl
theorem fc {s:ByteArray}(hs:s.size≤1048576):Ctr prog 79 [.c (.v (.string s))] [] (.c (.v (.bool (dK s)))) []:=by
 have c1:=xu hs
 have c2:Ctr prog 80 [.c (.ro kwL.length 1 (acL kwL)),.c (.v (.string s))] [] (.c (.v (.bool (kU kwL s)))) []:=kS zF oA (by decide) s
 unfold dK
 generalize dD s=b1 at c1 ⊢
 generalize kU kwL s=b2 at c2 ⊢
 cases b1
 all_goals
  refine av func79 rfl rfl ?_
  repeat' (first|(apply ay;first|refine bX ?_|(refine aR ?_ ?_<;>intro hG<;>(try cases hG))|refine al ?_|refine ai ?_|refine aF c1 ?_|refine aF c2 ?_|refine b7 ?_|refine aB ?_|refine dX ?_)|refine ak ?_|refine ab ?_|refine aa fun C=>?_|refine ac ?_)
  exact fJ
theorem fd {s:ByteArray}(hs:s.size≤1048576):Ctr prog 74 [.c (.v (.string s))] [] (.c (.v (.bool (dK s)))) []:=by
 have c1:=xv hs
 have c2:=vO zF (by decide) s
 have c3:=vP
 unfold dK
 generalize dD s=b1 at c1 ⊢
 generalize kU kwL s=b2 at c2 ⊢
 cases b1
 all_goals
  refine av func74 rfl rfl ?_
  repeat' (first|(apply ay;first|refine bX ?_|(refine aR ?_ ?_<;>intro hG<;>(try cases hG))|refine al ?_|refine ai ?_|refine aF c1 ?_|refine aF c2 ?_|refine dn c3 ?_|refine b7 ?_|refine aB ?_)|refine ak ?_|refine ab ?_|refine aa fun C=>?_|refine ac ?_)
  exact fJ
end Go.Proofs.YtomolhbkdhjofaaGreatDoor
