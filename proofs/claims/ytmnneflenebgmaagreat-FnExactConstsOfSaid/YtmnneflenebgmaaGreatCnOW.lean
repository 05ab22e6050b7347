/- T -/
import Derived.Test.YtmnneflenebgmaaGreatCnOV
set_option maxHeartbeats 0
set_option maxRecDepth 100000
namespace Go.Proofs.YtmnneflenebgmaaGreat
open Go.RowKit Go.Proofs.Tryz
theorem za1 {s:ByteArray}(hs:s.size≤1048576){cat:PS→E×PS}{p0:PS}(hp:Pre s p0)
 (hg:∀q,Pre s q→p0.a≤q.a→GoodS s q (cat q))
 (hi:∀q,Pre s q→p0.a≤q.a→Ctr prog 260 [.c (.pt 0 0)] [eH s q] (.ag (owE (cat q).1)) [eH s (cat q).2]) :
 Ctr prog 258 [.c (.pt 0 0)] [eH s p0] (.ag (owE (xw s cat p0).1)) [eH s (xw s cat p0).2]:=by
 have hic0:=hi p0 hp (Nat.le_refl _)
 have hg0:=hg p0 hp (Nat.le_refl _)
 have hL0:=GoodLS.one hg0
 have hr:xw s cat p0=(jB 5 (b9 s cat (s.size+1) [(cat p0).1] (cat p0).2).1,(b9 s cat (s.size+1) [(cat p0).1] (cat p0).2).2):=rfl
 rw [hr]
 clear hr
 obtain⟨⟨e,q0⟩,hq0⟩:∃r,cat p0=r:=⟨_,rfl⟩
 rw [hq0] at hic0 hg0 hL0 ⊢
 have hfi:Fine e:=hg0.fine
 dsimp only at hic0 hL0 ⊢
 cases hfi with
 | mk k t l hk ht hl2 =>
 refine av func258 rfl rfl ?_
 repeat' (first|(apply ay;first|refine ao ?_|refine ak ?_|refine be 0 (hic0) ?_|refine dn ?_|refine gh ?_)|refine al ?_|refine ab ?_|refine aa fun C=>?_|refine ae ?_|refine ah ?_)
 refine aP (fun q:List E×PS=>⟨dA [(0,.c (.pt 0 0)),(2,.c (.pt 2 0)),(3,.c (.sl 9 q.1.length))],dq [(0,0,⟨0,0,0,true,eH s q.2⟩),(2,2,⟨39,0,0,true,[.v (.int .i64 0),.v (.string ByteArray.empty),.v (.slice none 0 0)]⟩),(9,9,⟨39,3,q.1.length,false,owL q.1⟩)],1,[0,2,9],22⟩)
  (fun N q=>GoodLS s p0 q.1 q.2∧s.size+1≤q.2.a+N∧b9 s cat N q.1 q.2=b9 s cat (s.size+1) [cU k t l] q0) (s.size+1) ([cU k t l],q0) ⟨hL0,by dsimp only;omega,rfl⟩ ?_ ?_
 ·refine (dN (i:=6) (j:=600) rfl rfl rfl (pre:=[_,_]) (post:=[]) rfl).trans ?_
  (refine fW (fun j=>if j=9 then 6 else j) _ _ rfl rfl ?_ ?_<;>exact tdy0)
 rintro N ⟨L,q⟩ ⟨hgl,hN,htot⟩
 dsimp only at hgl hN htot ⊢
 have hpre:=hgl.pre hp
 have hbar:=kH hs (c:=124) omq (p:=q)
 obtain⟨a,d,b⟩:=q
 have hlen:=hgl.len.1
 have hale:a≤s.size:=hgl.le
 dsimp only at hlen hN
 cases hgo:isB s 124 ⟨a,d,b⟩ with
 | true =>
  obtain⟨hb,hlt,hv⟩:=ju hgo
  dsimp only at hb hlt hv
  subst hb
  rw [g9 hgo,hgo] at hbar
  obtain⟨M,rfl⟩:∃M,N=M+1:=⟨N-1,omq⟩
  have hpre2:Pre s ⟨a+1,d,false⟩:=⟨by show a+1≤_;omega,hpre.2.1,hpre.2.2⟩
  have hge:p0.a≤a:=hgl.ge
  have hic:=hi ⟨a+1,d,false⟩ hpre2 (by show p0.a≤a+1;omega)
  have hgd:=hg ⟨a+1,d,false⟩ hpre2 (by show p0.a≤a+1;omega)
  have hst:b9 s cat (M+1) L ⟨a,d,false⟩=b9 s cat M (L++[(cat ⟨a+1,d,false⟩).1]) (cat ⟨a+1,d,false⟩).2:=by
   show (if isB s 124 ⟨a,d,false⟩ then _ else _)=_
   rw [if_pos hgo];rfl
  rw [hst] at htot
  clear hst hi hg hic0
  have hge2:a+1≤(cat ⟨a+1,d,false⟩).2.a:=hgd.ge
  have hgl2:=hgl.step rfl (r:=cat ⟨a+1,d,false⟩) ⟨⟨hgd.fine,by show a≤_;omega,hgd.le,hgd.dg,hgd.dl,hgd.nb⟩,fun _=>by show a<_;omega⟩
  obtain⟨⟨e2,q2⟩,hq2⟩:∃r,cat ⟨a+1,d,false⟩=r:=⟨_,rfl⟩
  rw [hq2] at hic htot hgd hgl2 hge2
  dsimp only at hic htot hgd hgl2 hge2
  have hfi2:Fine e2:=hgd.fine
  cases hfi2 with
  | mk k' t' l' hk' ht' hl2' =>
  unfold eH at hbar hic ⊢
  dsimp only [PS.go] at hbar hic ⊢
  repeat' (first|(apply ay;first|refine ao ?_|refine ak ?_|refine be 0 (hbar) ?_|refine be 0 (hic) ?_|refine ll ?_|refine gh ?_)|refine al ?_|refine ab ?_|refine aa fun C=>?_|refine ae ?_|refine ah ?_|refine ai ?_|refine az rfl ?_)
  refine⟨M,(L++[cU k' t' l'],q2),omq,⟨hgl2,by dsimp only;omega,htot⟩,?_⟩
  dsimp only
  rw [List.length_append,List.length_singleton]
  refine (dN (i:=13) (j:=1200) rfl rfl rfl (pre:=owL L++[.v (.int .i64 k'),.v (.string t')]) (post:=[]) (by rw [List.append_assoc];rfl)).trans ?_
  (refine fW (fun j=>if j=9 then 13 else j) _ _ rfl rfl ?_ ?_<;>(repeat' (first|exact TmOk.nil|exact RwOk.nil|refine TmOk.cons ?_ ?_|refine RwOk.cons ?_ ?_|rfl|(refine rnV_id' rfl ?_;exact byc)|(refine bv ?_;first|rfl|omega|(rw [aW omq omq];omega))|(refine aK rfl ?_;exact byc)|exact cb rfl rfl|(refine rw_mid (by rfl) (by rfl) ?_ ?_<;>exact byc)|(refine rw_rn' rfl rfl ?_;simp;done))))
  exact lj (r:=⟨39,3,L.length+1,false,(owL L++[.v (.int .i64 k'),.v (.string t')])++[.ow 39 l'.length 3 (owL l')]⟩) rfl (by rw [ff,List.append_assoc];rfl) (by first|rfl|(simp [rJ,bf,clo,bp,aH,bq,ba,aZ];done))
 | false =>
  rw [px hgo] at htot
  rw [←htot]
  rw [kJ hgo,hgo] at hbar
  have hfine:=hgl.fine
  have hne:=hgl.ne
  clear htot hi hg hic0 hL0 hgl hpre hg0
  unfold eH at hbar ⊢
  dsimp only at hbar ⊢
  match L,hfine,hne with
  | [],_,h0=>exact absurd h0 (by simp)
  | [x],hf,_ =>
   have hx:=hf x (List.mem_singleton.2 rfl)
   cases hx with
   | mk k' t' l' hk' ht' hl2' =>
   repeat' (first|(apply ay;first|refine ao ?_|refine be 0 (hbar) ?_)|refine al ?_|refine ab ?_|refine aa fun C=>?_|refine ae ?_)
   refine aE rfl ?_
   refine bH (gW 800 (i:=9) rfl rfl (pre:=[.v (.int .i64 k'),.v (.string t')]) (post:=[]) rfl) ?_
   repeat' (first|(apply ay;first|refine ao ?_|refine bu ?_|refine gp ?_|refine cG ?_|refine uo ?_|refine aq ?_)|refine al ?_|refine ab ?_|refine aa fun C=>?_|refine ae ?_|refine au ?_|refine az rfl ?_)
   exact oV
  | x :: y :: r,hf,_ =>
   have hlen2:(x :: y :: r).length=r.length+2:=rfl
   repeat' (first|(apply ay;first|refine ao ?_|refine be 0 (hbar) ?_|refine gp ?_|refine cG ?_|refine aq ?_|refine aS ?_)|refine al ?_|refine ab ?_|refine aa fun C=>?_|refine ae ?_|refine ai ?_|refine au ?_|refine aE rfl ?_)
   exact oV
theorem zd4 {s:ByteArray}(hs:s.size≤1048576)(f:Nat):∀p:PS,Pre s p→s.size+1≤p.a+f→Ctr prog 258 [.c (.pt 0 0)] [eH s p] (.ag (owE (gP s f p).1)) [eH s (gP s f p).2]:=by
 induction f with
 | zero=>intro p h1 h2;have:=h1.1;omega
 | succ f ih =>
  intro p h1 h2
  have hkid:∀r:PS,Pre s r→p.a≤r.a→r.b=false→r.a<s.size→r.d≤7→GoodS s ⟨r.a+1,r.d+1,r.b⟩ (gP s f ⟨r.a+1,r.d+1,r.b⟩):=fun r hr hra hb hlt hd=>n8 hs f _ ⟨by show r.a+1≤_;omega,by show r.d+1≤9;omega,fun _=>by show r.d+1≤8;omega⟩ (by show s.size+1≤r.a+1+f;omega)
  have hat:∀r:PS,Pre s r→p.a≤r.a→GoodS s r (dh s (gP s f) r)∧((dh s (gP s f) r).2.b=false→r.a<(dh s (gP s f) r).2.a):=fun r hr hra=>lX hs hr fun hb hlt hd=>hkid r hr hra hb hlt hd
  refine za1 hs h1 (fun q hq hqa=>n7 hq fun r hr hra=>i7 (hat r hr omq)) fun q hq hqa=>?_
  refine zy hs hq (fun r hr hra=>i7 (hat r hr omq)) fun r hr hra=>?_
  refine xS hs (hat r hr omq).1 ?_
  have hpre:r.b=false→r.a<s.size→Pre s (r.go 1):=fun hb hlt=>⟨by show r.a+1≤_;omega,hr.2.1,hr.2.2⟩
  refine xR hs hr (fun hb hlt=>?_) fun hb hlt=>kF (hpre hb hlt) hb fun hd=>hkid r hr omq hb hlt hd
  exact vj hs (hpre hb hlt) hb (fun hd=>hkid r hr omq hb hlt hd) fun hd=>ih _ ⟨by show r.a+1≤_;omega,by have:=hd;show r.d+1≤9;have h7:r.d≤7:=hd;omega,fun _=>by show r.d+1≤8;have h7:r.d≤7:=hd;omega⟩ (by show s.size+1≤r.a+1+f;omega)
theorem lw {s:ByteArray}(hs:s.size≤1048576):Ctr prog 255 [.c (.v (.string s))] [] (.tu [.ag (owE (xF s)),.c (.v (.bool (rW s)))]) []:=by
 rw [zs3,qQ]
 by_cases hbig:1000<s.size
 ·have hP:uX s=false:=by unfold uX;rw [decide_eq_false omq];rfl
  rw [hP]
  refine av func255 rfl rfl ?_
  repeat' (first|(apply ay;first|refine ao ?_|refine ak ?_|refine dk ?_|refine a8 ?_|refine dn ?_)|refine al ?_|refine ab ?_|refine aa fun C=>?_|refine ae ?_)
  refine aj (by rfl) (fun hC=>?_) fun hC=>by exfalso;simp only [decide_eq_false_iff_not] at hC;omega
  repeat' (first|(apply ay;first|refine ak ?_|refine cG ?_|refine aS ?_)|refine al ?_|refine ab ?_|refine aa fun C=>?_|refine ae ?_)
  refine bH (dZ 900 (i:=2) 39 3 rfl rfl (pre:=[_,_]) (post:=[]) rfl) ?_
  refine am ?_;refine bi rfl (gR (ca (cq (bC rfl (bC rfl (bZ rfl rfl rfl cls0 bj)))) (ca aN ei))) ⟨?_,rfl⟩
  rfl
 have hpre:Pre s p00:=⟨Nat.zero_le _,by show (0:Nat)≤9;omega,fun _=>by show (0:Nat)≤8;omega⟩
 have halt:=zd4 hs (s.size+8) p00 hpre (by show s.size+1≤0+(s.size+8);omega)
 have hgd:=n8 hs (s.size+8) p00 hpre (by show s.size+1≤0+(s.size+8);omega)
 have hsz:(gP s (s.size+8) p00).2.b=false→(gP s (s.size+8) p00).1.sz≤4194304:=fun hb=>by
  have h1:=(qM (s.size+8) p00 rfl (by show (0:Nat)≤8;omega) hb).1
  have h2:=(i9 hs).2.2
  unfold fB at h2
  rw [h1] at h2;omega
 unfold uX
 unfold ky
 rw [decide_eq_true (show s.size≤1000 by omega)]
 obtain⟨⟨e,q⟩,hq⟩:∃r,gP s (s.size+8) p00=r:=⟨_,rfl⟩
 rw [hq] at halt hgd hsz ⊢
 have hf:Fine e:=hgd.fine
 dsimp only at halt hsz ⊢
 have hty:=hf.ty.1
 obtain⟨qa,qd,qb⟩:=q
 dsimp only at hsz
 cases qb with
 | true =>
  cases hf with
  | mk k t l hk ht hl2 =>
  unfold eH at halt
  dsimp only [p00] at halt ⊢
  refine av func255 rfl rfl ?_
  repeat' (first|(apply ay;first|refine ao ?_|refine ak ?_|refine dk ?_|refine a8 ?_|refine dn ?_)|refine al ?_|refine ab ?_|refine aa fun C=>?_|refine ae ?_)
  refine aj (by rfl) (fun hC=>by exfalso;simp only [decide_eq_true_iff] at hC;omega) fun hC=>?_
  repeat' (first|(apply ay;first|refine bO ?_|(refine aU ?_ ?_<;>intro hG<;>(try cases hG))|refine ao ?_|refine ak ?_|refine bd ?_|refine aL ?_|refine be 12 (halt) ?_|refine cG ?_|refine aF ?_|refine dn ?_|refine bL ?_|refine aS ?_)|refine al ?_|refine ab ?_|refine aa fun C=>?_|refine ae ?_|refine ai ?_|refine az rfl ?_)
  refine bH (dZ 900 (i:=2) 39 3 rfl rfl (pre:=[_,_]) (post:=[]) rfl) ?_
  refine am ?_;refine bi rfl (gR (ca (cq (bC rfl (bC rfl (bZ rfl rfl rfl cls0 bj)))) (ca aN ei))) ⟨?_,rfl⟩
  rfl
 | false =>
  have c2:=mP hty (hsz rfl)
  cases hf with
  | mk k t l hk ht hl2 =>
  unfold eH at halt
  dsimp only [p00] at halt ⊢
  refine av func255 rfl rfl ?_
  repeat' (first|(apply ay;first|refine ao ?_|refine ak ?_|refine dk ?_|refine a8 ?_|refine dn ?_)|refine al ?_|refine ab ?_|refine aa fun C=>?_|refine ae ?_)
  refine aj (by rfl) (fun hC=>by exfalso;simp only [decide_eq_true_iff] at hC;omega) fun hC=>?_
  repeat' (first|(apply ay;first|refine bO ?_|(refine aU ?_ ?_<;>intro hG<;>(try cases hG))|refine ao ?_|refine ak ?_|refine bd ?_|refine aL ?_|refine bu ?_|refine be 12 (halt) ?_|refine aI c2 ?_|refine dk ?_|refine cG ?_|refine aG ?_|refine cu ?_|refine aF ?_|refine dn ?_|refine bL ?_|refine aS ?_)|refine al ?_|refine ab ?_|refine aa fun C=>?_|refine ae ?_|refine ai ?_)
  ·repeat' (first|(apply ay;first|refine ak ?_|refine cG ?_|refine aS ?_)|refine al ?_|refine ab ?_|refine aa fun C=>?_|refine ae ?_|refine az rfl ?_)
   refine bH (dZ 900 (i:=2) 39 3 rfl rfl (pre:=[_,_]) (post:=[]) rfl) ?_
   refine am ?_;refine bi rfl (gR (ca (cq (bC rfl (bC rfl (bZ rfl rfl rfl cls0 bj)))) (ca aN ei))) ⟨?_,rfl⟩
   have hP:(true&&!false&&(qa==s.size)&&(jO (cU k t l)).toList==s.toList)=false:=by clear halt c2;first|(simp_all;done)|(simp_all;(try intros);omega)
   rw [hP];rfl
  ·refine aj (by rfl) (fun hC=>?_) fun hC=>?_
   ·repeat' (first|(apply ay;first|refine ak ?_|refine cG ?_|refine aS ?_)|refine al ?_|refine ab ?_|refine aa fun C=>?_|refine ae ?_)
    refine bH (dZ 900 (i:=2) 39 3 rfl rfl (pre:=[_,_]) (post:=[]) rfl) ?_
    refine am ?_;refine bi rfl (gR (ca (cq (bC rfl (bC rfl (bZ rfl rfl rfl cls0 bj)))) (ca aN ei))) ⟨?_,rfl⟩
    have hP:(true&&!false&&(qa==s.size)&&(jO (cU k t l)).toList==s.toList)=false:=by clear halt c2;first|(simp_all;done)|(simp_all;(try intros);omega)
    rw [hP];rfl
   ·repeat' (first|(apply ay;first|refine ak ?_|refine bu ?_|refine cG ?_)|refine al ?_|refine ab ?_|refine aa fun C=>?_|refine ae ?_|refine ai ?_)
    refine am ?_;refine bi rfl (gR (ca (cq (bC rfl (bC rfl (bZ rfl rfl rfl cls0 bj)))) (ca aN ei))) ⟨?_,rfl⟩
    have hP:(true&&!false&&(qa==s.size)&&(jO (cU k t l)).toList==s.toList)=true:=by clear halt c2;first|(simp_all;done)|(simp_all;(try intros);omega)
    rw [hP];rfl
def oS (s:ByteArray):Bool:=rW s&&decide (s.size≤200)
theorem ob {s:ByteArray}(hs:s.size≤1048576):Fine (xF s):=by
 unfold xF
 split
 ·exact (i9 hs).1
 ·exact Fine.zero
theorem lY {s:ByteArray}(hs:s.size≤1048576):Ctr prog 251 [.c (.v (.string s))] [] (.c (.v (.bool (oS s)))) []:=by
 have hc:=lu hs
 have hf:=ob hs
 generalize xF s=e at hc hf
 cases hf with
 | mk k t l hk ht hl2 =>
 refine av func251 rfl rfl ?_
 unfold oS
 generalize rW s=b at *
 repeat' (first|(apply ay;first|refine bO ?_|(refine aU ?_ ?_<;>intro hG<;>(try cases hG))|refine ao ?_|refine uq (v:=.tu _) ?_|refine ak ?_|refine gm hc ?_|refine dk ?_|refine cG ?_|refine bz ?_|refine aF ?_|(apply f_ex;first|refine zH ?_|refine aS ?_)|refine dn ?_)|refine al ?_|refine ab ?_|refine aa fun C=>?_|refine ae ?_)
 all_goals
  (first|refine am ?_|skip);refine bi rfl aN ⟨?_,rfl⟩;refine congrArg (fun s=>AV.c (AC.v (Value.bool s))) ?_
  first
   | rfl
   | (simp only [Bool.true_and];(rw [Bool.eq_iff_iff];(try simp only [Bool.and_eq_true,Bool.or_eq_true,Bool.not_eq_true',decide_eq_true_iff,decide_eq_false_iff_not,beq_iff_eq,Bool.and_eq_false_iff,Bool.or_eq_false_iff,bne_iff_ne,ne_eq,Bool.true_eq_false,Bool.false_eq_true,true_iff,false_iff,iff_true,iff_false] at *);first|omega|(simp at *;omega)))
theorem vl {s:ByteArray}(hs:s.size≤1048576):Ctr prog 239 [.c (.v (.string s))] [] (.c (.v (.bool (oS s)))) []:=by
 have hc:=lw hs
 have hf:=ob hs
 generalize xF s=e at hc hf
 cases hf with
 | mk k t l hk ht hl2 =>
 refine av func239 rfl rfl ?_
 unfold oS
 generalize rW s=b at *
 repeat' (first|(apply ay;first|refine bO ?_|(refine aU ?_ ?_<;>intro hG<;>(try cases hG))|refine ao ?_|refine uq (v:=.tu _) ?_|refine ak ?_|refine gm hc ?_|refine dk ?_|refine cG ?_|refine bz ?_|refine aF ?_|(apply f_ex;first|refine zH ?_|refine aS ?_)|refine dn ?_)|refine al ?_|refine ab ?_|refine aa fun C=>?_|refine ae ?_)
 all_goals
  (first|refine am ?_|skip);refine bi rfl aN ⟨?_,rfl⟩;refine congrArg (fun s=>AV.c (AC.v (Value.bool s))) ?_
  first
   | rfl
   | (simp only [Bool.true_and];(rw [Bool.eq_iff_iff];(try simp only [Bool.and_eq_true,Bool.or_eq_true,Bool.not_eq_true',decide_eq_true_iff,decide_eq_false_iff_not,beq_iff_eq,Bool.and_eq_false_iff,Bool.or_eq_false_iff,bne_iff_ne,ne_eq,Bool.true_eq_false,Bool.false_eq_true,true_iff,false_iff,iff_true,iff_false] at *);first|omega|(simp at *;omega)))
theorem pC {l:List E}(hl:∀e∈l,e.Ty prog 9)(hk:∀e∈l,e.enc.length=1)(hlen:l.length≤1073741824)(v:ByteArray):Ctr prog 106 [.c (.ro l.length 1 (acL l)),.c (.v (.string v))] [] (.c (.v (.int .i64 (gf (fun e=>v.toList==(jt e).toList) l)))) []:=by
 refine av func106 rfl rfl ?_
 repeat (first|refine ae ?_|refine ah ?_|refine ai ?_|refine au ?_|refine am ?_|refine aa fun C=>?_|refine ar (by kernel_rfl) (by kernel_rfl) fun C=>?_|refine ab ?_|refine bD ?_|refine dP ?_|refine dM ?_|refine dQ ?_|refine x_mv ?_|refine dB ?_|refine x_sk0 ?_|refine dR ?_|refine ce ?_|refine x_sto ?_|refine cf ?_|refine x_app0 ?_|refine x_ld ?_)
 refine aP (fun k:Nat=>⟨dA [(0,.c (.ro l.length 1 (acL l))),(1,.c (.v (.string v))),(7,.c (.v (.int .i64 l.length))),(8,.c (.v (.int .i64 k)))],dq [],0,[],19⟩)
  (fun N k=>k+N=l.length∧∀j y,j<k→l[j]? = some y→(fun e=>v.toList==(jt e).toList) y=false) l.length 0 ⟨omq,omq⟩ ?_ ?_
 ·(refine aC _ _ rfl rfl ?_ ?_<;>exact tdy0)
 rintro N k ⟨hN,hno⟩
 repeat (first|refine ae ?_|refine ah ?_|refine ai ?_|refine au ?_|refine am ?_|refine aa fun C=>?_|refine ar (by kernel_rfl) (by kernel_rfl) fun C=>?_|refine ab ?_|refine bD ?_|refine dP ?_|refine dM ?_|refine dQ ?_|refine x_mv ?_|refine dB ?_|refine x_sk0 ?_|refine dR ?_|refine ce ?_|refine x_sto ?_|refine cf ?_|refine x_app0 ?_|refine x_ld ?_)
 refine cy (by rfl) (fun h1=>?_) fun h1=>?_
 ·have hk':k<l.length:=by simpa using h1
  obtain⟨x,hx⟩:∃x,l[k]? = some x:=⟨_,List.getElem?_eq_getElem hk'⟩
  have hxt:=hl x (List.mem_of_getElem? hx)
  obtain⟨y0,rfl,-⟩:=hxt.str_ underlying9
  repeat (first|refine ae ?_|refine ah ?_|refine ai ?_|refine au ?_|refine am ?_|refine aa fun C=>?_|refine ar (by kernel_rfl) (by kernel_rfl) fun C=>?_|refine ab ?_|refine bD ?_|refine dP ?_|refine dM ?_|refine dQ ?_|refine x_mv ?_|refine dB ?_|refine x_sk0 ?_|refine dR ?_|refine ce ?_|refine x_sto ?_|refine cf ?_|refine x_app0 ?_|refine x_ld ?_)
  refine cy (by rfl) (fun h2=>?_) fun h2=>?_
  ·repeat (first|refine ae ?_|refine ah ?_|refine ai ?_|refine au ?_|refine am ?_|refine aa fun C=>?_|refine ar (by kernel_rfl) (by kernel_rfl) fun C=>?_|refine ab ?_|refine bD ?_|refine dP ?_|refine dM ?_|refine dQ ?_|refine x_mv ?_|refine dB ?_|refine x_sk0 ?_|refine dR ?_|refine ce ?_|refine x_sto ?_|refine cf ?_|refine x_app0 ?_|refine x_ld ?_)
   refine bi (x:=.c (.v (.int .i64 k))) rfl aN ⟨?_,rfl⟩
   rw [fg hno hx (by simpa [jt] using h2)]
  ·repeat (first|refine ae ?_|refine ah ?_|refine ai ?_|refine au ?_|refine am ?_|refine aa fun C=>?_|refine ar (by kernel_rfl) (by kernel_rfl) fun C=>?_|refine ab ?_|refine bD ?_|refine dP ?_|refine dM ?_|refine dQ ?_|refine x_mv ?_|refine dB ?_|refine x_sk0 ?_|refine dR ?_|refine ce ?_|refine x_sto ?_|refine cf ?_|refine x_app0 ?_|refine x_ld ?_)
   refine⟨N-1,k+1,omq,⟨omq,fun j z hj hz=>?_⟩,?_⟩
   ·by_cases e:j=k
    ·rw [e,hx] at hz;injection hz with hz;subst hz;simpa [jt] using h2
    ·exact hno j z omq hz
   ·(refine aC _ _ rfl rfl ?_ ?_<;>exact tdy0)
 ·have hk':¬k<l.length:=by simpa using h1
  repeat (first|refine ae ?_|refine ah ?_|refine ai ?_|refine au ?_|refine am ?_|refine aa fun C=>?_|refine ar (by kernel_rfl) (by kernel_rfl) fun C=>?_|refine ab ?_|refine bD ?_|refine dP ?_|refine dM ?_|refine dQ ?_|refine x_mv ?_|refine dB ?_|refine x_sk0 ?_|refine dR ?_|refine ce ?_|refine x_sto ?_|refine cf ?_|refine x_app0 ?_|refine x_ld ?_)
  refine bi (x:=.c (.v (.int .i64 (-1)))) rfl aN ⟨?_,rfl⟩
  rw [dt fun j y hj hy=>hno j y omq hy]
theorem hH {l:List E}(hl:∀e∈l,e.Ty prog 9)(hk:∀e∈l,e.enc.length=1)(hlen:l.length≤1073741824)(v:ByteArray):Ctr prog 53 [.c (.ro l.length 1 (acL l)),.c (.v (.string v))] [] (.c (.v (.bool (l.any (fun e=>v.toList==(jt e).toList))))) []:=by
 refine av func53 rfl rfl ?_
 have hcc:=pC hl hk hlen v
 repeat (first|refine ae ?_|refine ah ?_|refine ai ?_|refine au ?_|refine am ?_|refine aa fun C=>?_|refine ar (by kernel_rfl) (by kernel_rfl) fun C=>?_|refine ab ?_|refine bD ?_|refine dP ?_|refine dM ?_|refine dQ ?_|refine x_mv ?_|refine dB ?_|refine x_sk0 ?_|refine dR ?_|refine ce ?_|refine x_sto ?_|refine cf ?_|refine x_app0 ?_|refine x_ld ?_)
 refine il hcc ?_
 repeat (first|refine ae ?_|refine ah ?_|refine ai ?_|refine au ?_|refine am ?_|refine aa fun C=>?_|refine ar (by kernel_rfl) (by kernel_rfl) fun C=>?_|refine ab ?_|refine bD ?_|refine dP ?_|refine dM ?_|refine dQ ?_|refine x_mv ?_|refine dB ?_|refine x_sk0 ?_|refine dR ?_|refine ce ?_|refine x_sto ?_|refine cf ?_|refine x_app0 ?_|refine x_ld ?_)
 refine bi (x:=.c (.v (.bool (decide (gf (fun e=>v.toList==(jt e).toList) l ≥ 0))))) rfl aN ⟨?_,rfl⟩
 rw [fa]
end Go.Proofs.YtmnneflenebgmaaGreat
