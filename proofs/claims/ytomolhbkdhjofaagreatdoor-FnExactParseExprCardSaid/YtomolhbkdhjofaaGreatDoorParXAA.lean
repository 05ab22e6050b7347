/- T -/
import Derived.Test.YtomolhbkdhjofaaGreatDoorParXZ
set_option maxHeartbeats 0
set_option maxRecDepth 100000
namespace Go.Proofs.YtomolhbkdhjofaaGreatDoor
open Go.RowKit Go.Proofs.Tryz
theorem zs4 {s:ByteArray}(hs:s.size≤1048576){cat:PS→E×PS}{p0:PS}(hp:Pre s p0)
 (hg:∀q,Pre s q→p0.a≤q.a→GoodS s q (cat q))
 (hi:∀q,Pre s q→p0.a≤q.a→Ctr prog 148 [.c (.pt 0 0)] [ff s q] (.ag (owE (cat q).1)) [ff s (cat q).2]) :
 Ctr prog 134 [.c (.pt 0 0)] [ff s p0] (.ag (owE (za s cat p0).1)) [ff s (za s cat p0).2]:=by
 have hic0:=hi p0 hp (Nat.le_refl _)
 have hg0:=hg p0 hp (Nat.le_refl _)
 have hL0:=GoodLS.one hg0
 have hr:za s cat p0=(kl 5 (bZ s cat (s.size+1) [(cat p0).1] (cat p0).2).1,(bZ s cat (s.size+1) [(cat p0).1] (cat p0).2).2):=rfl
 rw [hr]
 clear hr
 obtain⟨⟨e,q0⟩,hq0⟩:∃r,cat p0=r:=⟨_,rfl⟩
 rw [hq0] at hic0 hg0 hL0 ⊢
 have hfi:Fine e:=hg0.fine
 dsimp only at hic0 hL0 ⊢
 cases hfi with
 | mk k t l hk ht hl2 =>
 refine ay func134 rfl rfl ?_
 repeat' (first|(apply av;first|refine ak ?_|refine ai ?_|refine aF 0 (hic0) ?_|refine bI ?_|refine ec ?_)|refine aj ?_|refine ab ?_|refine aa fun C=>?_|refine ac ?_|refine ah ?_)
 refine aZ (fun q:List E×PS=>⟨e8 [(0,.c (.pt 0 0)),(2,.c (.pt 2 0)),(3,.c (.sl 9 q.1.length))],eT [(0,0,⟨0,0,0,true,ff s q.2⟩),(2,2,⟨112,0,0,true,[.v (.int .i64 0),.v (.string ByteArray.empty),.v (.slice none 0 0)]⟩),(9,9,⟨112,3,q.1.length,false,owL q.1⟩)],1,[0,2,9],22⟩)
  (fun N q=>GoodLS s p0 q.1 q.2∧s.size+1≤q.2.a+N∧bZ s cat N q.1 q.2=bZ s cat (s.size+1) [cY k t l] q0) (s.size+1) ([cY k t l],q0) ⟨hL0,by dsimp only;omega,rfl⟩ ?_ ?_
 ·refine (dA (i:=6) (j:=600) rfl rfl rfl (pre:=[_,_]) (post:=[]) rfl).trans ?_
  (refine eu (fun j=>if j=9 then 6 else j) _ _ rfl rfl ?_ ?_<;>exact tdy0)
 rintro N ⟨L,q⟩ ⟨hgl,hN,htot⟩
 dsimp only at hgl hN htot ⊢
 have hpre:=hgl.pre hp
 have hbar:=lH hs (c:=124) omq (p:=q)
 obtain⟨a,d,b⟩:=q
 have hlen:=hgl.len.1
 have hale:a≤s.size:=hgl.le
 dsimp only at hlen hN
 cases hgo:isB s 124 ⟨a,d,b⟩ with
 | true =>
  obtain⟨hb,hlt,hv⟩:=ka hgo
  dsimp only at hb hlt hv
  subst hb
  rw [iM hgo,hgo] at hbar
  obtain⟨M,rfl⟩:∃M,N=M+1:=⟨N-1,omq⟩
  have hpre2:Pre s ⟨a+1,d,false⟩:=⟨by show a+1≤_;omega,hpre.2.1,hpre.2.2⟩
  have hge:p0.a≤a:=hgl.ge
  have hic:=hi ⟨a+1,d,false⟩ hpre2 (by show p0.a≤a+1;omega)
  have hgd:=hg ⟨a+1,d,false⟩ hpre2 (by show p0.a≤a+1;omega)
  have hst:bZ s cat (M+1) L ⟨a,d,false⟩=bZ s cat M (L++[(cat ⟨a+1,d,false⟩).1]) (cat ⟨a+1,d,false⟩).2:=by
   show (if isB s 124 ⟨a,d,false⟩ then _ else _)=_
   rw [if_pos hgo];rfl
  rw [hst] at htot
  clear hst hi hg hic0
  have hge2:a+1≤(cat ⟨a+1,d,false⟩).2.a:=hgd.ge
  have hgl2:=hgl.step rfl (r:=cat ⟨a+1,d,false⟩) ⟨⟨hgd.fine,by show a≤_;omega,hgd.le,hgd.dg,hgd.dl,hgd.nb⟩,fun _=>by show a<_;omega⟩
  obtain⟨⟨e2,q2⟩,hq2⟩:∃r,cat ⟨a+1,d,false⟩=r:=⟨_,rfl⟩
  rw [hq2] at hic htot hgd hgl2 hge2
  dsimp only at hic htot hgd hgl2 hge2
  have hfi2:Fine e2:=hgd.fine
  cases hfi2 with
  | mk k' t' l' hk' ht' hl2' =>
  unfold ff at hbar hic ⊢
  dsimp only [PS.go] at hbar hic ⊢
  repeat' (first|(apply av;first|refine ak ?_|refine ai ?_|refine aF 0 (hbar) ?_|refine aF 0 (hic) ?_|refine ip ?_|refine ec ?_)|refine aj ?_|refine ab ?_|refine aa fun C=>?_|refine ac ?_|refine ah ?_|refine al ?_|refine aq rfl ?_)
  refine⟨M,(L++[cY k' t' l'],q2),omq,⟨hgl2,by dsimp only;omega,htot⟩,?_⟩
  dsimp only
  rw [List.length_append,List.length_singleton]
  refine (dA (i:=13) (j:=1200) rfl rfl rfl (pre:=owL L++[.v (.int .i64 k'),.v (.string t')]) (post:=[]) (by rw [List.append_assoc];rfl)).trans ?_
  (refine eu (fun j=>if j=9 then 13 else j) _ _ rfl rfl ?_ ?_<;>(repeat' (first|exact TmOk.nil|exact RwOk.nil|refine TmOk.cons ?_ ?_|refine RwOk.cons ?_ ?_|rfl|(refine rnV_id' rfl ?_;exact byc)|(refine cE ?_;first|rfl|omega|(rw [bA omq omq];omega))|(refine bf rfl ?_;exact byc)|exact dH rfl rfl|(refine rw_mid (by rfl) (by rfl) ?_ ?_<;>exact byc)|(refine rw_rn' rfl rfl ?_;simp;done))))
  exact fa (r:=⟨112,3,L.length+1,false,(owL L++[.v (.int .i64 k'),.v (.string t')])++[.ow 112 l'.length 3 (owL l')]⟩) rfl (by rw [fj,List.append_assoc];rfl) (by first|rfl|(simp [oO,bl,clo,bi,aL,bj,a8,aX];done))
 | false =>
  rw [qK hgo] at htot
  rw [←htot]
  rw [lJ hgo,hgo] at hbar
  have hfine:=hgl.fine
  have hne:=hgl.ne
  clear htot hi hg hic0 hL0 hgl hpre hg0
  unfold ff at hbar ⊢
  dsimp only at hbar ⊢
  match L,hfine,hne with
  | [],_,h0=>exact absurd h0 (by simp)
  | [x],hf,_ =>
   have hx:=hf x (List.mem_singleton.2 rfl)
   cases hx with
   | mk k' t' l' hk' ht' hl2' =>
   repeat' (first|(apply av;first|refine ak ?_|refine aF 0 (hbar) ?_)|refine aj ?_|refine ab ?_|refine aa fun C=>?_|refine ac ?_)
   refine ar rfl ?_
   refine a7 (yF 800 (i:=9) rfl rfl (pre:=[.v (.int .i64 k'),.v (.string t')]) (post:=[]) rfl) ?_
   repeat' (first|(apply av;first|refine ak ?_|refine bL ?_|refine cU ?_|refine bg ?_|refine fc ?_|refine ao ?_)|refine aj ?_|refine ab ?_|refine aa fun C=>?_|refine ac ?_|refine aB ?_|refine aq rfl ?_)
   exact pS
  | x :: y :: r,hf,_ =>
   have hlen2:(x :: y :: r).length=r.length+2:=rfl
   repeat' (first|(apply av;first|refine ak ?_|refine aF 0 (hbar) ?_|refine cU ?_|refine bg ?_|refine ao ?_|refine az ?_)|refine aj ?_|refine ab ?_|refine aa fun C=>?_|refine ac ?_|refine al ?_|refine aB ?_|refine ar rfl ?_)
   exact pS
theorem zl7 {s:ByteArray}(hs:s.size≤1048576)(f:Nat):∀p:PS,Pre s p→s.size+1≤p.a+f→Ctr prog 134 [.c (.pt 0 0)] [ff s p] (.ag (owE (iu s f p).1)) [ff s (iu s f p).2]:=by
 induction f with
 | zero=>intro p h1 h2;have:=h1.1;omega
 | succ f ih =>
  intro p h1 h2
  have hkid:∀r:PS,Pre s r→p.a≤r.a→r.b=false→r.a<s.size→r.d≤7→GoodS s ⟨r.a+1,r.d+1,r.b⟩ (iu s f ⟨r.a+1,r.d+1,r.b⟩):=fun r hr hra hb hlt hd=>ph hs f _ ⟨by show r.a+1≤_;omega,by show r.d+1≤9;omega,fun _=>by show r.d+1≤8;omega⟩ (by show s.size+1≤r.a+1+f;omega)
  have hat:∀r:PS,Pre s r→p.a≤r.a→GoodS s r (dt s (iu s f) r)∧((dt s (iu s f) r).2.b=false→r.a<(dt s (iu s f) r).2.a):=fun r hr hra=>mT hs hr fun hb hlt hd=>hkid r hr hra hb hlt hd
  refine zs4 hs h1 (fun q hq hqa=>pg hq fun r hr hra=>jK (hat r hr omq)) fun q hq hqa=>?_
  refine zr4 hs hq (fun r hr hra=>jK (hat r hr omq)) fun r hr hra=>?_
  refine zwQ hs (hat r hr omq).1 ?_
  have hpre:r.b=false→r.a<s.size→Pre s (r.go 1):=fun hb hlt=>⟨by show r.a+1≤_;omega,hr.2.1,hr.2.2⟩
  refine zvQ hs hr (fun hb hlt=>?_) fun hb hlt=>lF (hpre hb hlt) hb fun hd=>hkid r hr omq hb hlt hd
  exact wN hs (hpre hb hlt) hb (fun hd=>hkid r hr omq hb hlt hd) fun hd=>ih _ ⟨by show r.a+1≤_;omega,by have:=hd;show r.d+1≤9;have h7:r.d≤7:=hd;omega,fun _=>by show r.d+1≤8;have h7:r.d≤7:=hd;omega⟩ (by show s.size+1≤r.a+1+f;omega)
theorem mt {s:ByteArray}(hs:s.size≤1048576):Ctr prog 108 [.c (.v (.string s))] [] (.tu [.ag (owE (zi s)),.c (.v (.bool (sh s)))]) []:=by
 rw [zb7,si]
 by_cases hbig:1000<s.size
 ·have hP:wA s=false:=by unfold wA;rw [decide_eq_false omq];rfl
  rw [hP]
  refine ay func108 rfl rfl ?_
  repeat' (first|(apply av;first|refine ak ?_|refine ai ?_|refine be ?_|refine bu ?_|refine bI ?_)|refine aj ?_|refine ab ?_|refine aa fun C=>?_|refine ac ?_)
  refine ae (by rfl) (fun hC=>?_) fun hC=>by exfalso;simp only [decide_eq_false_iff_not] at hC;omega
  repeat' (first|(apply av;first|refine ai ?_|refine bg ?_|refine az ?_)|refine aj ?_|refine ab ?_|refine aa fun C=>?_|refine ac ?_)
  refine a7 (cR 900 (i:=2) 112 3 rfl rfl (pre:=[_,_]) (post:=[]) rfl) ?_
  refine am ?_;refine bv rfl (bS (aD (bh (aS rfl (aS rfl (bB rfl rfl rfl cls0 aV)))) (aD aJ bc))) ⟨?_,rfl⟩
  rfl
 have hpre:Pre s p00:=⟨Nat.zero_le _,by show (0:Nat)≤9;omega,fun _=>by show (0:Nat)≤8;omega⟩
 have halt:=zl7 hs (s.size+8) p00 hpre (by show s.size+1≤0+(s.size+8);omega)
 have hgd:=ph hs (s.size+8) p00 hpre (by show s.size+1≤0+(s.size+8);omega)
 have hsz:(iu s (s.size+8) p00).2.b=false→(iu s (s.size+8) p00).1.sz≤4194304:=fun hb=>by
  have h1:=(sd (s.size+8) p00 rfl (by show (0:Nat)≤8;omega) hb).1
  have h2:=(jL hs).2.2
  unfold fV at h2
  rw [h1] at h2;omega
 unfold wA
 unfold lB
 rw [decide_eq_true (show s.size≤1000 by omega)]
 obtain⟨⟨e,q⟩,hq⟩:∃r,iu s (s.size+8) p00=r:=⟨_,rfl⟩
 rw [hq] at halt hgd hsz ⊢
 have hf:Fine e:=hgd.fine
 dsimp only at halt hsz ⊢
 have hty:=hf.ty.1
 obtain⟨qa,qd,qb⟩:=q
 dsimp only at hsz
 cases qb with
 | true =>
  cases hf with
  | mk k t l hk ht hl2 =>
  unfold ff at halt
  dsimp only [p00] at halt ⊢
  refine ay func108 rfl rfl ?_
  repeat' (first|(apply av;first|refine ak ?_|refine ai ?_|refine be ?_|refine bu ?_|refine bI ?_)|refine aj ?_|refine ab ?_|refine aa fun C=>?_|refine ac ?_)
  refine ae (by rfl) (fun hC=>by exfalso;simp only [decide_eq_true_iff] at hC;omega) fun hC=>?_
  repeat' (first|(apply av;first|refine bC ?_|(refine aK ?_ ?_<;>intro hG<;>(try cases hG))|refine ak ?_|refine ai ?_|refine ba ?_|refine aI ?_|refine aF 12 (halt) ?_|refine bg ?_|refine aA ?_|refine bI ?_|refine cB ?_|refine az ?_)|refine aj ?_|refine ab ?_|refine aa fun C=>?_|refine ac ?_|refine al ?_|refine aq rfl ?_)
  refine a7 (cR 900 (i:=2) 112 3 rfl rfl (pre:=[_,_]) (post:=[]) rfl) ?_
  refine am ?_;refine bv rfl (bS (aD (bh (aS rfl (aS rfl (bB rfl rfl rfl cls0 aV)))) (aD aJ bc))) ⟨?_,rfl⟩
  rfl
 | false =>
  have c2:=nV hty (hsz rfl)
  cases hf with
  | mk k t l hk ht hl2 =>
  unfold ff at halt
  dsimp only [p00] at halt ⊢
  refine ay func108 rfl rfl ?_
  repeat' (first|(apply av;first|refine ak ?_|refine ai ?_|refine be ?_|refine bu ?_|refine bI ?_)|refine aj ?_|refine ab ?_|refine aa fun C=>?_|refine ac ?_)
  refine ae (by rfl) (fun hC=>by exfalso;simp only [decide_eq_true_iff] at hC;omega) fun hC=>?_
  repeat' (first|(apply av;first|refine bC ?_|(refine aK ?_ ?_<;>intro hG<;>(try cases hG))|refine ak ?_|refine ai ?_|refine ba ?_|refine aI ?_|refine bL ?_|refine aF 12 (halt) ?_|refine aG c2 ?_|refine be ?_|refine bg ?_|refine aQ ?_|refine jy ?_|refine aA ?_|refine bI ?_|refine cB ?_|refine az ?_)|refine aj ?_|refine ab ?_|refine aa fun C=>?_|refine ac ?_|refine al ?_)
  ·repeat' (first|(apply av;first|refine ai ?_|refine bg ?_|refine az ?_)|refine aj ?_|refine ab ?_|refine aa fun C=>?_|refine ac ?_|refine aq rfl ?_)
   refine a7 (cR 900 (i:=2) 112 3 rfl rfl (pre:=[_,_]) (post:=[]) rfl) ?_
   refine am ?_;refine bv rfl (bS (aD (bh (aS rfl (aS rfl (bB rfl rfl rfl cls0 aV)))) (aD aJ bc))) ⟨?_,rfl⟩
   have hP:(true&&!false&&(qa==s.size)&&(kq (cY k t l)).toList==s.toList)=false:=by clear halt c2;first|(simp_all;done)|(simp_all;(try intros);omega)
   rw [hP];rfl
  ·refine ae (by rfl) (fun hC=>?_) fun hC=>?_
   ·repeat' (first|(apply av;first|refine ai ?_|refine bg ?_|refine az ?_)|refine aj ?_|refine ab ?_|refine aa fun C=>?_|refine ac ?_)
    refine a7 (cR 900 (i:=2) 112 3 rfl rfl (pre:=[_,_]) (post:=[]) rfl) ?_
    refine am ?_;refine bv rfl (bS (aD (bh (aS rfl (aS rfl (bB rfl rfl rfl cls0 aV)))) (aD aJ bc))) ⟨?_,rfl⟩
    have hP:(true&&!false&&(qa==s.size)&&(kq (cY k t l)).toList==s.toList)=false:=by clear halt c2;first|(simp_all;done)|(simp_all;(try intros);omega)
    rw [hP];rfl
   ·repeat' (first|(apply av;first|refine ai ?_|refine bL ?_|refine bg ?_)|refine aj ?_|refine ab ?_|refine aa fun C=>?_|refine ac ?_|refine al ?_)
    refine am ?_;refine bv rfl (bS (aD (bh (aS rfl (aS rfl (bB rfl rfl rfl cls0 aV)))) (aD aJ bc))) ⟨?_,rfl⟩
    have hP:(true&&!false&&(qa==s.size)&&(kq (cY k t l)).toList==s.toList)=true:=by clear halt c2;first|(simp_all;done)|(simp_all;(try intros);omega)
    rw [hP];rfl
def pR (s:ByteArray):Bool:=sh s&&decide (s.size≤200)
theorem pk {s:ByteArray}(hs:s.size≤1048576):Fine (zi s):=by
 unfold zi
 split
 ·exact (jL hs).1
 ·exact Fine.zero
theorem mU {s:ByteArray}(hs:s.size≤1048576):Ctr prog 82 [.c (.v (.string s))] [] (.c (.v (.bool (pR s)))) []:=by
 have hc:=mr hs
 have hf:=pk hs
 generalize zi s=e at hc hf
 cases hf with
 | mk k t l hk ht hl2 =>
 refine ay func82 rfl rfl ?_
 unfold pR
 generalize sh s=b at *
 repeat' (first|(apply av;first|refine bC ?_|(refine aK ?_ ?_<;>intro hG<;>(try cases hG))|refine ak ?_|refine dI (v:=.tu _) ?_|refine ai ?_|refine dp hc ?_|refine be ?_|refine bg ?_|refine cJ ?_|refine aA ?_|(apply qn;first|refine cK ?_|refine az ?_)|refine bI ?_)|refine aj ?_|refine ab ?_|refine aa fun C=>?_|refine ac ?_)
 all_goals
  (first|refine am ?_|skip);refine bv rfl aJ ⟨?_,rfl⟩;refine congrArg (fun s=>AV.c (AC.v (Value.bool s))) ?_
  first
   | rfl
   | (simp only [Bool.true_and];(rw [Bool.eq_iff_iff];(try simp only [Bool.and_eq_true,Bool.or_eq_true,Bool.not_eq_true',decide_eq_true_iff,decide_eq_false_iff_not,beq_iff_eq,Bool.and_eq_false_iff,Bool.or_eq_false_iff,bne_iff_ne,ne_eq,Bool.true_eq_false,Bool.false_eq_true,true_iff,false_iff,iff_true,iff_false] at *);first|omega|(simp at *;omega)))
theorem wP {s:ByteArray}(hs:s.size≤1048576):Ctr prog 76 [.c (.v (.string s))] [] (.c (.v (.bool (pR s)))) []:=by
 have hc:=mt hs
 have hf:=pk hs
 generalize zi s=e at hc hf
 cases hf with
 | mk k t l hk ht hl2 =>
 refine ay func76 rfl rfl ?_
 unfold pR
 generalize sh s=b at *
 repeat' (first|(apply av;first|refine bC ?_|(refine aK ?_ ?_<;>intro hG<;>(try cases hG))|refine ak ?_|refine dI (v:=.tu _) ?_|refine ai ?_|refine dp hc ?_|refine be ?_|refine bg ?_|refine cJ ?_|refine aA ?_|(apply qn;first|refine cK ?_|refine az ?_)|refine bI ?_)|refine aj ?_|refine ab ?_|refine aa fun C=>?_|refine ac ?_)
 all_goals
  (first|refine am ?_|skip);refine bv rfl aJ ⟨?_,rfl⟩;refine congrArg (fun s=>AV.c (AC.v (Value.bool s))) ?_
  first
   | rfl
   | (simp only [Bool.true_and];(rw [Bool.eq_iff_iff];(try simp only [Bool.and_eq_true,Bool.or_eq_true,Bool.not_eq_true',decide_eq_true_iff,decide_eq_false_iff_not,beq_iff_eq,Bool.and_eq_false_iff,Bool.or_eq_false_iff,bne_iff_ne,ne_eq,Bool.true_eq_false,Bool.false_eq_true,true_iff,false_iff,iff_true,iff_false] at *);first|omega|(simp at *;omega)))
theorem qN {l:List E}(hl:∀e∈l,e.Ty prog 9)(hk:∀e∈l,e.enc.length=1)(hlen:l.length≤1073741824)(v:ByteArray):Ctr prog 110 [.c (.ro l.length 1 (acL l)),.c (.v (.string v))] [] (.c (.v (.int .i64 (pP (fun e=>v.toList==(mf e).toList) l)))) []:=by
 refine ay func110 rfl rfl ?_
 repeat (first|refine ac ?_|refine ah ?_|refine al ?_|refine aB ?_|refine am ?_|refine aa fun C=>?_|refine au (by kernel_rfl) (by kernel_rfl) fun C=>?_|refine ab ?_|refine cN ?_|refine jS ?_|refine jv ?_|refine jT ?_|refine x_mv ?_|refine im ?_|refine x_sk0 ?_|refine jU ?_|refine eM ?_|refine x_sto ?_|refine eN ?_|refine x_app0 ?_|refine jV ?_)
 refine aZ (fun k:Nat=>⟨e8 [(0,.c (.ro l.length 1 (acL l))),(1,.c (.v (.string v))),(7,.c (.v (.int .i64 l.length))),(8,.c (.v (.int .i64 k)))],eT [],0,[],19⟩)
  (fun N k=>k+N=l.length∧∀j y,j<k→l[j]? = some y→(fun e=>v.toList==(mf e).toList) y=false) l.length 0 ⟨omq,omq⟩ ?_ ?_
 ·(refine aN _ _ rfl rfl ?_ ?_<;>exact tdy0)
 rintro N k ⟨hN,hno⟩
 repeat (first|refine ac ?_|refine ah ?_|refine al ?_|refine aB ?_|refine am ?_|refine aa fun C=>?_|refine au (by kernel_rfl) (by kernel_rfl) fun C=>?_|refine ab ?_|refine cN ?_|refine jS ?_|refine jv ?_|refine jT ?_|refine x_mv ?_|refine im ?_|refine x_sk0 ?_|refine jU ?_|refine eM ?_|refine x_sto ?_|refine eN ?_|refine x_app0 ?_|refine jV ?_)
 refine dG (by rfl) (fun h1=>?_) fun h1=>?_
 ·have hk':k<l.length:=by simpa using h1
  obtain⟨x,hx⟩:∃x,l[k]? = some x:=⟨_,List.getElem?_eq_getElem hk'⟩
  have hxt:=hl x (List.mem_of_getElem? hx)
  obtain⟨y0,rfl,-⟩:=hxt.str_ underlying9
  repeat (first|refine ac ?_|refine ah ?_|refine al ?_|refine aB ?_|refine am ?_|refine aa fun C=>?_|refine au (by kernel_rfl) (by kernel_rfl) fun C=>?_|refine ab ?_|refine cN ?_|refine jS ?_|refine jv ?_|refine jT ?_|refine x_mv ?_|refine im ?_|refine x_sk0 ?_|refine jU ?_|refine eM ?_|refine x_sto ?_|refine eN ?_|refine x_app0 ?_|refine jV ?_)
  refine dG (by rfl) (fun h2=>?_) fun h2=>?_
  ·repeat (first|refine ac ?_|refine ah ?_|refine al ?_|refine aB ?_|refine am ?_|refine aa fun C=>?_|refine au (by kernel_rfl) (by kernel_rfl) fun C=>?_|refine ab ?_|refine cN ?_|refine jS ?_|refine jv ?_|refine jT ?_|refine x_mv ?_|refine im ?_|refine x_sk0 ?_|refine jU ?_|refine eM ?_|refine x_sto ?_|refine eN ?_|refine x_app0 ?_|refine jV ?_)
   refine bv (x:=.c (.v (.int .i64 k))) rfl aJ ⟨?_,rfl⟩
   rw [qg hno hx (by simpa [mf] using h2)]
  ·repeat (first|refine ac ?_|refine ah ?_|refine al ?_|refine aB ?_|refine am ?_|refine aa fun C=>?_|refine au (by kernel_rfl) (by kernel_rfl) fun C=>?_|refine ab ?_|refine cN ?_|refine jS ?_|refine jv ?_|refine jT ?_|refine x_mv ?_|refine im ?_|refine x_sk0 ?_|refine jU ?_|refine eM ?_|refine x_sto ?_|refine eN ?_|refine x_app0 ?_|refine jV ?_)
   refine⟨N-1,k+1,omq,⟨omq,fun j z hj hz=>?_⟩,?_⟩
   ·by_cases e:j=k
    ·rw [e,hx] at hz;injection hz with hz;subst hz;simpa [mf] using h2
    ·exact hno j z omq hz
   ·(refine aN _ _ rfl rfl ?_ ?_<;>exact tdy0)
 ·have hk':¬k<l.length:=by simpa using h1
  repeat (first|refine ac ?_|refine ah ?_|refine al ?_|refine aB ?_|refine am ?_|refine aa fun C=>?_|refine au (by kernel_rfl) (by kernel_rfl) fun C=>?_|refine ab ?_|refine cN ?_|refine jS ?_|refine jv ?_|refine jT ?_|refine x_mv ?_|refine im ?_|refine x_sk0 ?_|refine jU ?_|refine eM ?_|refine x_sto ?_|refine eN ?_|refine x_app0 ?_|refine jV ?_)
  refine bv (x:=.c (.v (.int .i64 (-1)))) rfl aJ ⟨?_,rfl⟩
  rw [iX fun j y hj hy=>hno j y omq hy]
theorem lK {l:List E}(hl:∀e∈l,e.Ty prog 9)(hk:∀e∈l,e.enc.length=1)(hlen:l.length≤1073741824)(v:ByteArray):Ctr prog 80 [.c (.ro l.length 1 (acL l)),.c (.v (.string v))] [] (.c (.v (.bool (l.any (fun e=>v.toList==(mf e).toList))))) []:=by
 refine ay func80 rfl rfl ?_
 have hcc:=qN hl hk hlen v
 repeat (first|refine ac ?_|refine ah ?_|refine al ?_|refine aB ?_|refine am ?_|refine aa fun C=>?_|refine au (by kernel_rfl) (by kernel_rfl) fun C=>?_|refine ab ?_|refine cN ?_|refine jS ?_|refine jv ?_|refine jT ?_|refine x_mv ?_|refine im ?_|refine x_sk0 ?_|refine jU ?_|refine eM ?_|refine x_sto ?_|refine eN ?_|refine x_app0 ?_|refine jV ?_)
 refine mn hcc ?_
 repeat (first|refine ac ?_|refine ah ?_|refine al ?_|refine aB ?_|refine am ?_|refine aa fun C=>?_|refine au (by kernel_rfl) (by kernel_rfl) fun C=>?_|refine ab ?_|refine cN ?_|refine jS ?_|refine jv ?_|refine jT ?_|refine x_mv ?_|refine im ?_|refine x_sk0 ?_|refine jU ?_|refine eM ?_|refine x_sto ?_|refine eN ?_|refine x_app0 ?_|refine jV ?_)
 refine bv (x:=.c (.v (.bool (decide (pP (fun e=>v.toList==(mf e).toList) l ≥ 0))))) rfl aJ ⟨?_,rfl⟩
 rw [nD]
def tE (ns:List ByteArray):List E:=ns.map fun n=>.str n
def kwL:List E:=tE [⟨#[98,101,103,105,110]⟩,⟨#[101,110,100]⟩,⟨#[102,117,110,99]⟩,⟨#[112,114,105,110,116]⟩,⟨#[105,102]⟩,⟨#[101,108,115,101]⟩,⟨#[119,104,105,108,101]⟩,⟨#[102,111,114]⟩,⟨#[105,110]⟩,⟨#[110,101,120,116]⟩,⟨#[101,120,105,116]⟩,⟨#[114,101,116,117,114,110]⟩,⟨#[100,101,108,101,116,101]⟩,⟨#[108,101,110,103,116,104]⟩,⟨#[115,117,98,115,116,114]⟩,⟨#[105,110,100,101,120]⟩,⟨#[117,112,112,101,114]⟩,⟨#[103,115,117,98]⟩,⟨#[110,114]⟩,⟨#[110,102]⟩]
def mV:List E:=tE [⟨#[43]⟩,⟨#[45]⟩,⟨#[42]⟩,⟨#[47]⟩,⟨#[37]⟩,⟨#[46]⟩,⟨#[60]⟩,⟨#[60,61]⟩,⟨#[61,61]⟩,⟨#[33,61]⟩,⟨#[62]⟩,⟨#[62,61]⟩,⟨#[38,38]⟩,⟨#[124,124]⟩]
def lL (l:List E)(s:ByteArray):Bool:=l.any fun e=>s.toList==(mf e).toList
def dT (s:ByteArray):Bool:=dD s&&!lL kwL s
def emB (s:ByteArray):Bool:=s.toList==(ByteArray.mk #[]).toList
def eP (k n:Int)(s:ByteArray)(m:Int):Bool :=
 if k=1 then inR n 0 2147483647&&(emB s&&(m==0))
 else decide (n=0)&&(
  if k=2 then dj 39 s&&(m==0)
  else if k=3 then dT s&&(m==0)
  else if k=4∨k=9 then dT s&&(m==1)
  else if k=5∨k=7∨k=8∨k=12∨k=17 then emB s&&(m==1)
  else if k=6 then lL mV s&&(m==2)
  else if k=10 then (m==1)&&pR s
  else if k=18 then (m==2)&&pR s
  else if k=11 then dT s&&decide (m≤4)
  else if k=13 then emB s&&(m==3)
  else if k=14∨k=15 then emB s&&(m==0)
  else if k=16 then emB s&&(m==2)
  else false)
def nW (e:E):Bool:=match e with | .agg [.int _ k,.int _ n,.str s,.lst _ _ _ _ l]=>eP k n s l.length|_=>false
def dv (e:E):List E:=match e with | .agg [_,_,_,.lst _ _ _ _ l]=>l|_=>[]
theorem ei (e x:E)(h:x∈dv e):x.sz<e.sz:=by
 unfold dv at h
 split at h
 ·have:=E.szL_mem h
  simp only [E.sz,E.szL]
  have h2:0<List.length _:=List.length_pos_of_mem h
  omega
 ·cases h
def gT (f:Nat)(e:E):Nat:=r8 100 nW dv f e
def jm (f:Nat)(e:E):Nat:=kC 100 dv f e
def okX (e:E):Bool:=okE nW dv e
def fx (e:E):Bool:=decide (jm 10 e≤100)&&okX e
theorem zt4 (e:E):fx e=decide (gT 10 e≤100):=(za7 omq ei 10 e).symm
def joC (ts:List ByteArray):ByteArray:=jA (ts.map E.str) ⟨#[44,32]⟩
def atB (ts:List ByteArray)(k:Nat):ByteArray:=ts.getD k ByteArray.empty
def qO (k n:Int)(s:ByteArray)(ts:List ByteArray):ByteArray :=
 if k=1 then i6 n
 else if k=2 then (⟨#[39]⟩++s)++⟨#[39]⟩
 else if k=3 then s
 else if k=4 then ((s++⟨#[91]⟩)++joC ts)++⟨#[93]⟩
 else if k=5 then ⟨#[36]⟩++joC ts
 else if k=6 then ((((((⟨#[40]⟩:ByteArray)++atB ts 0)++⟨#[32]⟩)++s)++⟨#[32]⟩)++atB ts 1)++⟨#[41]⟩
 else if k=7 then ⟨#[33]⟩++joC ts
 else if k=8 then ⟨#[45]⟩++joC ts
 else if k=9 then ((((⟨#[40]⟩:ByteArray)++joC ts)++⟨#[32,105,110,32]⟩)++s)++⟨#[41]⟩
 else if k=10 then ((((⟨#[40]⟩:ByteArray)++joC ts)++⟨#[32,126,32,47]⟩)++s)++⟨#[47,41]⟩
 else if k=11 then ((s++(⟨#[40]⟩:ByteArray))++joC ts)++⟨#[41]⟩
 else if k=12 then (⟨#[108,101,110,103,116,104,40]⟩++joC ts)++⟨#[41]⟩
 else if k=13 then (⟨#[115,117,98,115,116,114,40]⟩++joC ts)++⟨#[41]⟩
 else if k=14 then ⟨#[110,114]⟩
 else if k=15 then ⟨#[110,102]⟩
 else if k=16 then (⟨#[105,110,100,101,120,40]⟩++joC ts)++⟨#[41]⟩
 else if k=17 then (⟨#[117,112,112,101,114,40]⟩++joC ts)++⟨#[41]⟩
 else (((((⟨#[103,115,117,98,40]⟩++atB ts 0)++⟨#[32,126,32,47]⟩)++s)++⟨#[47,44,32]⟩)++atB ts 1)++⟨#[41]⟩
def txF:Nat→E→ByteArray
 | 0,_=>ByteArray.empty
 | f+1,e=>match e with
  | .agg [.int _ k,.int _ n,.str s,.lst _ _ _ _ l]=>qO k n s (l.map (txF f))
  | _=>ByteArray.empty
def txE (e:E):ByteArray:=txF (e.sz+1) e
theorem wQ:∀(n f:Nat) (e:E),e.sz<n→e.sz<f→txF f e=txE e
 | 0,_,_,h,_=>absurd h (Nat.not_lt_zero _)
 | n+1,0,_,_,h=>absurd h (Nat.not_lt_zero _)
 | n+1,f+1,e,h1,h2=>by
  have key:∀x∈dv e,txF f x=txF e.sz x:=fun x hx=>by
   have hs:=ei e x hx
   rw [wQ n f x omq omq,wQ n e.sz x omq hs]
  unfold txE
  unfold txF
  split
  ·rename_i k n' s T A c m l
   congr 1
   exact List.map_congr_left key
  ·rfl
theorem nX (i j:IntKind)(k n:Int)(s:ByteArray)(w:Nat)(T:TypeId)(A:Option Addr)(c:Nat)(l:List E):txE (.agg [.int i k,.int j n,.str s,.lst w T A c l])=qO k n s (l.map txE):=by
 show qO k n s (l.map (txF (E.sz (.agg [.int i k,.int j n,.str s,.lst w T A c l]))))=_
 congr 1
 refine List.map_congr_left fun x hx=>?_
 exact wQ (x.sz+1) _ x omq (ei _ x hx)
def smB:List ByteArray→Nat
 | []=>0
 | t :: r=>t.size+2+smB r
theorem wR (x:ByteArray):joC [x]=x:=by
 unfold joC jA
 simp only [List.map_cons,List.map_nil,mf]
 rw [Lib.join_one,rZ]
theorem pm (x y:ByteArray)(r:List ByteArray):joC (x :: y :: r)=(x++⟨#[44,32]⟩)++joC (y :: r):=by
 unfold joC jA
 simp only [List.map_cons,mf]
 have hj:∀(sep u:List UInt8) (v:List (List UInt8)),Lib.joinTail sep (u :: v)=sep++(u++Lib.joinTail sep v):=fun sep u v=>by simp [Lib.joinTail]
 rw [Lib.join_cons,hj,Lib.join_cons,ic,ic,rZ,ByteArray.append_assoc]
theorem nY:∀ts:List ByteArray,(joC ts).size≤smB ts
 | []=>Nat.zero_le _
 | [x]=>by rw [wR];simp only [smB];omega
 | x :: y :: r=>by
  rw [pm,ByteArray.size_append',ByteArray.size_append']
  have h:=nY (y :: r)
  have h2:(⟨#[44,32]⟩:ByteArray).size=2:=rfl
  simp only [smB] at h ⊢
  omega
theorem sr:∀(ts:List ByteArray) (k:Nat),(atB ts k).size≤smB ts
 | [],_=>Nat.zero_le _
 | x :: r,0=>by simp only [smB];show x.size≤_;omega
 | x :: r,k+1=>by
  have:=sr r k
  simp only [smB]
  show (atB r k).size≤_;omega
theorem zm7:∀ts:List ByteArray,(atB ts 0).size+(atB ts 1).size≤smB ts
 | []=>Nat.zero_le _
 | x :: r=>by
  have:=sr r 0
  simp only [smB]
  show x.size+(atB r 0).size≤_;omega
theorem zB {c:Prop}[Decidable c]{a b:ByteArray}{n:Nat}(ha:a.size≤n)(hb:b.size≤n):(if c then a else b).size≤n:=by split<;>assumption
theorem tF {k n:Int}(hn : -9223372036854775808≤n∧n≤9223372036854775807)(s:ByteArray)(ts:List ByteArray):(qO k n s ts).size≤30+s.size+smB ts:=by
 have h1:=nY ts
 have h2:=zm7 ts
 have h3:=zq3 hn.1 hn.2
 have hm:∀a:Array UInt8,(ByteArray.mk a).size=a.size:=fun _=>rfl
 unfold qO
 repeat' refine zB ?_ ?_
 all_goals
  try simp only [ByteArray.size_append',ByteArray.size_mk',List.size_toArray,List.length_cons,List.length_nil]
  omega
theorem nZ:∀(n:Nat) (e:E),e.Ty prog 26→e.sz<n→(txE e).size+2≤40*(1+e.sz)
 | 0,_,_,h=>absurd h (Nat.not_lt_zero _)
 | n+1,e,he,h=>by
  obtain⟨k,m,s,xA,xc,l,rfl,-,gm,-,⟨hl,hk⟩,-⟩:=aO he
  have h1:=tF (k:=k) (sK gm) s (l.map txE)
  rw [nX]
  simp only [E.sz,E.szL] at h ⊢
  have key:∀r:List E,(∀x∈r,x.Ty prog 26)→E.szL r≤E.szL l→(∀x∈r,x∈l)→smB (r.map txE)≤40*(r.length+E.szL r):=fun r=>by
   induction r with
   | nil=>intros;exact Nat.zero_le _
   | cons x r ih =>
    intro a b c
    simp only [E.szL] at b
    have i1:=ih (fun y hy=>a y (List.mem_cons_of_mem _ hy)) omq (fun y hy=>c y (List.mem_cons_of_mem _ hy))
    have hxm:=c x (List.mem_cons_self ..)
    have h0:0<l.length:=List.length_pos_of_mem hxm
    have i2:=nZ n x (a x (List.mem_cons_self ..)) omq
    simp only [List.map_cons,smB,List.length_cons,E.szL]
    omega
  have h2:=key l hl (Nat.le_refl _) (fun _ h=>h)
  omega
theorem ss {e:E}(he:e.Ty prog 26):(txE e).size≤40*(1+e.sz):=by have:=nZ (e.sz+1) e he omq;omega
theorem zv1:∀{l:List E},(∀x∈l,x.Ty prog 26)→smB (l.map txE)≤40*(l.length+E.szL l)
 | [],_=>Nat.zero_le _
 | x :: r,h=>by
  have h1:=zv1 (l:=r) fun y hy=>h y (List.mem_cons_of_mem _ hy)
  have h2:=nZ (x.sz+1) x (h x (List.mem_cons_self ..)) omq
  simp only [List.map_cons,smB,List.length_cons,E.szL]
  omega
theorem su {ns:List ByteArray}(h:∀s∈ns,s.size≤9223372036854775807):∀e∈tE ns,e.Ty prog 9:=fun e he=>by
 obtain⟨s,hs,rfl⟩:=List.mem_map.1 he
 have:=h s hs
 simp only [E.Ty];exact⟨underlying9,by unfold maxLen;omega⟩
theorem pn {ns:List ByteArray}:∀e∈tE ns,e.enc.length=1:=fun e he=>by obtain⟨x,-,rfl⟩:=List.mem_map.1 he;rfl
theorem zw1:∀e∈kwL,e.Ty prog 9:=su (by decide)
theorem wS:∀e∈mV,e.Ty prog 9:=su (by decide)
theorem wT {l:List E}(hl:∀e∈l,e.Ty prog 9)(hlen:l.length≤1048576)(s:ByteArray):Ctr prog 75 [.c (.ro l.length 1 (acL l)),.c (.v (.string s))] [] (.c (.v (.bool (lL l s)))) []:=by
 have hk:∀e∈l,e.enc.length=1:=fun e he=>by obtain⟨x,rfl,-⟩:=(hl e he).str_ underlying9;rfl
 refine ay func75 rfl rfl ?_
 repeat' (first|(apply av;refine ai ?_)|refine aj ?_|refine ab ?_|refine aa fun C=>?_|refine ac ?_|refine ah ?_)
 refine aZ (fun k:Nat=>⟨e8 [(0,.c (.ro l.length 1 (acL l))),(1,.c (.v (.string s))),(5,.c (.v (.int .i64 (k:Int))))],eT [],0,[],18⟩)
  (fun N k=>k+N=l.length∧∀j y,j<k→l[j]? = some y→(s.toList==(mf y).toList)=false) l.length 0 ⟨omq,fun j y hj=>absurd hj (Nat.not_lt_zero j)⟩ ?_ ?_
 ·(refine aN _ _ rfl rfl ?_ ?_<;>exact tdy0)
 rintro N k ⟨hN,hr⟩
 try dsimp only
 repeat' (first|(apply av;first|refine ak ?_|refine bN ?_|refine aE ?_)|refine aj ?_|refine ab ?_|refine aa fun C=>?_|refine ac ?_)
 refine ae (by rfl) (fun h1=>?_) fun h1=>?_
 ·have hk':k<l.length:=by simpa using h1
  obtain⟨x,hx⟩:∃x,l[k]? = some x:=⟨_,List.getElem?_eq_getElem hk'⟩
  obtain⟨z,rfl,-⟩:=(hl x (List.mem_of_getElem? hx)).str_ underlying9
  repeat' (first|(apply av;first|refine ak ?_|refine dy ?_|refine iZ ?_|refine aC ?_)|refine aj ?_|refine ab ?_|refine aa fun C=>?_|refine ac ?_|refine ah ?_|refine al ?_)
  refine ae (by rfl) (fun hC=>?_) fun hC=>?_
  ·have e:lL l s=true:=List.any_eq_true.2 ⟨_,List.mem_of_getElem? hx,by rw [beq_iff_eq] at hC ⊢;exact hC.symm⟩
   rw [e]
   repeat' (first|(apply av;refine ai ?_)|refine aj ?_|refine ab ?_|refine aa fun C=>?_|refine ac ?_)
   exact eo
  ·repeat' (first|(apply av;first|refine ak ?_|refine ai ?_|refine aw ?_)|refine aj ?_|refine ab ?_|refine aa fun C=>?_|refine al ?_)
   refine⟨N-1,k+1,omq,⟨omq,fun j y hj hy=>?_⟩,?_⟩
   ·by_cases e:j=k
    ·rw [e,hx] at hy;injection hy with hy;subst hy
     cases hb:(s.toList==(mf (E.str z)).toList) with
     | false=>rfl
     | true=>rw [beq_iff_eq] at hb;rw [←hC];exact (beq_iff_eq.2 hb.symm).symm
    ·exact hr j y omq hy
   ·(refine aN _ _ rfl rfl ?_ ?_<;>exact tdy0)
 ·have hk':¬k<l.length:=by simpa using h1
  have e:lL l s=false:=by
   cases hb:lL l s with
   | false=>rfl
   | true =>
    obtain⟨x,hx,hp⟩:=List.any_eq_true.1 hb
    obtain⟨j,hj⟩:=List.getElem?_of_mem hx
    have:=(List.getElem?_eq_some_iff.1 hj).1
    rw [hr j x omq hj] at hp;cases hp
  rw [e]
  repeat' (first|(apply av;refine ai ?_)|refine aj ?_|refine ab ?_|refine aa fun C=>?_|refine ac ?_|refine aB ?_)
  exact eo
theorem wU:Ctr prog 107 [] [] (.c (.ow 9 kwL.length 1 (acL kwL))) []:=by
 refine ay func107 rfl rfl ?_
 repeat' (first|(apply av;first|refine ai ?_|refine ec ?_)|refine aj ?_|refine ab ?_|refine aa fun C=>?_|refine ac ?_)
 refine am ?_
 refine bv rfl (iC (bB rfl rfl rfl (by rfl) aV)) ⟨?_,rfl⟩
 rfl
theorem zu4:Ctr prog 58 [] [] (.c (.ow 9 mV.length 1 (acL mV))) []:=by
 refine ay func58 rfl rfl ?_
 repeat' (first|(apply av;first|refine ai ?_|refine ec ?_)|refine aj ?_|refine ab ?_|refine aa fun C=>?_|refine ac ?_)
 refine am ?_
 refine bv rfl (iC (bB rfl rfl rfl (by rfl) aV)) ⟨?_,rfl⟩
 rfl
theorem zC:Ctr prog 81 [] [] (.c (.ow 9 mV.length 1 (acL mV))) []:=by
 refine ay func81 rfl rfl ?_
 repeat' (first|(apply av;first|refine ai ?_|refine ec ?_)|refine aj ?_|refine ab ?_|refine aa fun C=>?_|refine ac ?_)
 refine am ?_
 refine bv rfl (iC (bB rfl rfl rfl (by rfl) aV)) ⟨?_,rfl⟩
 rfl
theorem fR {s:ByteArray}(hs:s.size≤1048576):Ctr prog 79 [.c (.v (.string s))] [] (.c (.v (.bool (dT s)))) []:=by
 have c1:=yP hs
 have c2:Ctr prog 80 [.c (.ro kwL.length 1 (acL kwL)),.c (.v (.string s))] [] (.c (.v (.bool (lL kwL s)))) []:=lK zw1 pn (by decide) s
 unfold dT
 generalize dD s=b1 at c1 ⊢
 generalize lL kwL s=b2 at c2 ⊢
 cases b1
 all_goals
  refine ay func79 rfl rfl ?_
  repeat' (first|(apply av;first|refine bC ?_|(refine aK ?_ ?_<;>intro hG<;>(try cases hG))|refine ak ?_|refine ai ?_|refine aG c1 ?_|refine aG c2 ?_|refine bM ?_|refine aA ?_|refine ec ?_)|refine aj ?_|refine ab ?_|refine aa fun C=>?_|refine ac ?_)
  exact eo
theorem eQ {s:ByteArray}(hs:s.size≤1048576):Ctr prog 74 [.c (.v (.string s))] [] (.c (.v (.bool (dT s)))) []:=by
 have c1:=rN hs
 have c2:=wT zw1 (by decide) s
 have c3:=wU
 unfold dT
 generalize dD s=b1 at c1 ⊢
 generalize lL kwL s=b2 at c2 ⊢
 cases b1
 all_goals
  refine ay func74 rfl rfl ?_
  repeat' (first|(apply av;first|refine bC ?_|(refine aK ?_ ?_<;>intro hG<;>(try cases hG))|refine ak ?_|refine ai ?_|refine aG c1 ?_|refine aG c2 ?_|refine dp c3 ?_|refine bM ?_|refine aA ?_)|refine aj ?_|refine ab ?_|refine aa fun C=>?_|refine ac ?_)
  exact eo
end Go.Proofs.YtomolhbkdhjofaaGreatDoor
