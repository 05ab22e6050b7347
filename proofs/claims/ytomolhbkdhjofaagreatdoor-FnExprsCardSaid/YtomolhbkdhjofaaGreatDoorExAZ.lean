/- T -/
import Derived.Test.YtomolhbkdhjofaaGreatDoorExAY
set_option maxHeartbeats 0
set_option maxRecDepth 100000
namespace Go.Proofs.YtomolhbkdhjofaaGreatDoor
open Go.RowKit Go.Proofs.Tryz
theorem rh {l:List E}{k:Nat}{x:E}(h:l[k]? = some x):l.drop k=x :: l.drop (k+1):=by
 obtain⟨h1,h2⟩:=List.getElem?_eq_some_iff.1 h
 rw [List.drop_eq_getElem_cons h1,h2]
theorem yu (f:Nat)(e:E):gA f e≤101:=zl1 f e omq
theorem yv (f:Nat)(e:E)(h:f≤10):iR f e≤1101:=by
 have:=vg (b:=100) (kd:=dh) f e omq
 unfold iR
 omega
theorem kV:∀(f:Nat),f≤10→∀(e:E),e.Ty prog 26→e.sz≤1048576→Ctr prog 25 [.ag (acE e),.c (.v (.int .i64 (11-(f:Int))))] [] (.c (.v (.int .i64 (gA f e:Nat)))) []
 | 0,_,e,he,hsz=>by
  obtain⟨k,n,s,xA,xc,l,rfl,-⟩:=aU he
  rw [show (11-((0:Nat):Int))=11 from rfl]
  refine av func25 rfl rfl ?_
  repeat' (first|(apply ay;first|refine bX ?_|(refine aR ?_ ?_<;>intro hG<;>(try cases hG))|refine al ?_|refine ai ?_|refine a7 ?_|refine aB ?_|refine cA ?_)|refine ak ?_|refine ab ?_|refine aa fun C=>?_|refine ac ?_|refine aq rfl ?_)
  exact fJ
 | f+1,hf,e,he,hsz=>by
  obtain⟨k0,n0,s0,xA,xc,l,rfl,-,-,-,⟨hl,hk⟩,-⟩:=aU he
  simp only [E.sz,E.szL] at hsz
  have ch:=sH (k:=k0) (n:=n0) (s:=s0) omq (l:=l) omq
  have hd:mY (.agg [.int .i64 k0,.int .i64 n0,.str s0,.lst 4 26 xA xc l])=eu k0 n0 s0 l.length:=rfl
  cases hb:eu k0 n0 s0 l.length with
  | false =>
   rw [hb] at ch
   rw [show gA (f+1) (.agg [.int .i64 k0,.int .i64 n0,.str s0,.lst 4 26 xA xc l])=101 by unfold gA qR;rw [hd,hb];rfl]
   refine av func25 rfl rfl ?_
   repeat' (first|(apply ay;first|refine bX ?_|(refine aR ?_ ?_<;>intro hG<;>(try cases hG))|refine al ?_|refine ai ?_|refine bN ?_|refine aF ch ?_|refine a7 ?_|refine b7 ?_|refine aB ?_|refine cA ?_)|refine ak ?_|refine ab ?_|refine aa fun C=>?_|refine ac ?_|(refine ae (by rfl) ?_ ?_<;>intro hC<;>(try cases hC)))
   all_goals (refine am ?_;refine bv rfl aH ⟨?_,rfl⟩;rfl)
  | true =>
   rw [hb] at ch
   rw [show gA (f+1) (.agg [.int .i64 k0,.int .i64 n0,.str s0,.lst 4 26 xA xc l])=gpI 100 (gA f) l 1 by
    show qR 100 mY dh (f+1) _=_
    unfold qR;rw [hd,hb];rfl]
   refine av func25 rfl rfl ?_
   have hgg:¬(11-((f+1:Nat):Int) > 10):=by omega
   repeat' (first|(apply ay;first|refine bX ?_|(refine aR ?_ ?_<;>intro hG<;>(try cases hG))|refine al ?_|refine ai ?_|refine bj ?_|refine aI ?_|refine bN ?_|refine aF ch ?_|refine bE ?_|refine a7 ?_|refine b7 ?_|refine aB ?_|refine cA ?_)|refine ak ?_|refine ab ?_|refine aa fun C=>?_|refine ac ?_|refine ah ?_|refine aj ?_|refine aq rfl ?_|refine au rfl ?_)
   all_goals try (exfalso;simp only [decide_eq_true_iff] at hG;omega)
   refine a8 (fun d:Nat×Nat=>⟨eX [(1,.c (.v (.int .i64 (11-((f+1:Nat):Int))))),(5,.c (.v (.int .i64 (d.2:Int)))),(16,.c (.ro l.length 4 (acL l))),(17,.c (.v (.int .i64 l.length))),(18,.c (.v (.int .i64 (d.1:Int))))],eJ [],0,[],32⟩)
    (fun N d=>d.1+N=l.length∧d.2≤100∧gpI 100 (gA f) l 1=gpI 100 (gA f) (l.drop d.1) d.2) l.length (0,1) ⟨by simp,by simp,rfl⟩ ?_ ?_
   ·(refine aM _ _ rfl rfl ?_ ?_<;>exact tdy0)
   rintro N ⟨k,m⟩ ⟨hN,hm,hr⟩
   dsimp only at hN hm hr ⊢
   repeat' (first|(apply ay;refine aD ?_)|refine ak ?_|refine ab ?_|refine aa fun C=>?_|refine ac ?_)
   refine ae (by rfl) (fun h1=>?_) fun h1=>?_
   ·have hk':k<l.length:=by simpa using h1
    obtain⟨x,hx⟩:∃x,l[k]? = some x:=⟨_,List.getElem?_eq_getElem hk'⟩
    have hxz:=E.szL_mem (List.mem_of_getElem? hx)
    have hxt:=hl x (List.mem_of_getElem? hx)
    have cx:=kV f omq x hxt omq
    have cle:=yu f x
    rw [rh hx] at hr
    rw [show (11-(f:Int))=11-((f+1:Nat):Int)+1 by omega] at cx
    have hr2:gpI 100 (gA f) (x :: l.drop (k+1)) m=if 100<m+gA f x then 101 else gpI 100 (gA f) (l.drop (k+1)) (m+gA f x):=rfl
    rw [hr2] at hr
    generalize gA f x=c at cx cle hr
    obtain⟨y0,y1,y2,yA,yc,yl,rfl,-⟩:=aU hxt
    repeat' (first|(apply ay;first|refine al ?_|refine ai ?_|refine dp ?_|refine bN ?_|refine aF cx ?_|refine bC ?_|refine iv ?_|refine dP ?_|refine aw ?_|refine bZ ?_)|refine ak ?_|refine ab ?_|refine aa fun C=>?_|refine ac ?_|refine ah ?_|refine aj ?_)
    refine ae (by rfl) (fun h2=>?_) fun h2=>?_
    ·have h3:100<m+c:=by simp at h2;omega
     rw [hr,if_pos h3]
     repeat' (first|(apply ay;refine ai ?_)|refine ak ?_|refine ab ?_|refine aa fun C=>?_|refine ac ?_)
     exact fJ
    ·have h3:¬100<m+c:=by simp at h2;omega
     rw [if_neg h3] at hr
     repeat' (first|(apply ay;first|refine al ?_|refine aw ?_)|refine ak ?_|refine ab ?_|refine aa fun C=>?_|refine aj ?_)
     refine⟨N-1,(k+1,m+c),omq,⟨by show k+1+(N-1)=l.length;omega,by show m+c≤100;omega,hr⟩,?_⟩
     (refine aM _ _ rfl rfl ?_ ?_<;>exact tdy0)
   ·have hk':¬k<l.length:=by simpa using h1
    rw [hr,List.drop_eq_nil_of_le omq]
    repeat' (first|(apply ay;first|refine al ?_|refine ai ?_)|refine ak ?_|refine ab ?_|refine aa fun C=>?_|refine ac ?_|refine aA ?_)
    exact fJ
theorem oB:∀(f:Nat),f≤10→∀(e:E),e.Ty prog 26→e.sz≤1048576→Ctr prog 23 [.ag (acE e),.c (.v (.int .i64 (11-(f:Int))))] [] (.c (.v (.int .i64 (iR f e:Nat)))) []
 | 0,_,e,he,hsz=>by
  obtain⟨k,n,s,xA,xc,l,rfl,-⟩:=aU he
  rw [show (11-((0:Nat):Int))=11 from rfl]
  refine av func23 rfl rfl ?_
  repeat' (first|(apply ay;first|refine al ?_|refine ai ?_|refine a7 ?_|refine cA ?_)|refine ak ?_|refine ab ?_|refine aa fun C=>?_|refine ac ?_|refine aq rfl ?_)
  exact fJ
 | f+1,hf,e,he,hsz=>by
  obtain⟨k0,n0,s0,xA,xc,l,rfl,-,-,-,⟨hl,hk⟩,-⟩:=aU he
  simp only [E.sz,E.szL] at hsz
  rw [show iR (f+1) (.agg [.int .i64 k0,.int .i64 n0,.str s0,.lst 4 26 xA xc l])=gpS 100 (iR f) l 1 from rfl]
  refine av func23 rfl rfl ?_
  repeat' (first|(apply ay;first|refine al ?_|refine ai ?_|refine a7 ?_|refine cA ?_)|refine ak ?_|refine ab ?_|refine aa fun C=>?_|refine ac ?_)
  refine ae (by rfl) (fun h1=>by exfalso;simp only [decide_eq_true_iff] at h1;omega) fun h1=>?_
  repeat' (first|(apply ay;refine ai ?_)|refine ak ?_|refine ab ?_|refine aa fun C=>?_|refine ac ?_|refine ah ?_|refine aj ?_)
  refine a8 (fun d:Nat×Nat=>⟨eX [(1,.c (.v (.int .i64 (11-((f+1:Nat):Int))))),(2,.c (.pt 2 0)),(5,.c (.v (.int .i64 (d.2:Int)))),(6,.c (.v (.int .i64 (d.1:Int))))],eJ [(2,2,⟨26,0,0,true,[.v (.int .i64 k0),.v (.int .i64 n0),.v (.string s0),.ro l.length 4 (acL l)]⟩)],0,[2],31⟩)
   (fun N d=>d.1+N=l.length∧d.2≤2000∧gpS 100 (iR f) l 1=gpS 100 (iR f) (l.drop d.1) d.2) l.length (0,1) ⟨by simp,by simp,rfl⟩ ?_ ?_
  ·(refine aM _ _ rfl rfl ?_ ?_<;>exact tdy0)
  rintro N ⟨k,m⟩ ⟨hN,hm,hr⟩
  dsimp only at hN hm hr ⊢
  by_cases hk':k<l.length
  ·obtain⟨x,hx⟩:∃x,l[k]? = some x:=⟨_,List.getElem?_eq_getElem hk'⟩
   rw [rh hx] at hr
   by_cases hm2:m≤100
   ·have hr2:gpS 100 (iR f) (x :: l.drop (k+1)) m=gpS 100 (iR f) (l.drop (k+1)) (m+iR f x):=if_pos hm2
    rw [hr2] at hr
    have hxz:=E.szL_mem (List.mem_of_getElem? hx)
    have hxt:=hl x (List.mem_of_getElem? hx)
    have cx:=oB f omq x hxt omq
    have cle:=yv f x omq
    rw [show (11-(f:Int))=11-((f+1:Nat):Int)+1 by omega] at cx
    generalize iR f x=c at cx cle hr
    obtain⟨y0,y1,y2,yA,yc,yl,rfl,-⟩:=aU hxt
    repeat' (first|(apply ay;first|refine bX ?_|(refine aR ?_ ?_<;>intro hG<;>(try cases hG))|refine al ?_|refine ai ?_|refine bj ?_|refine aI ?_|refine dp ?_|refine aF cx ?_|refine bE ?_|refine iv ?_|refine aD ?_|refine bG ?_|refine aw ?_|refine aB ?_)|refine ak ?_|refine ab ?_|refine aa fun C=>?_|refine ac ?_|refine ah ?_|refine aj ?_|refine aA ?_|(refine ae (by rfl) ?_ ?_<;>intro hC<;>(try cases hC)))
    all_goals first
     | (exfalso;simp only [decide_eq_true_iff,decide_eq_false_iff_not] at *;omega)
     | (refine⟨N-1,(k+1,m+c),omq,⟨by show k+1+(N-1)=l.length;omega,by show m+c≤2000;omega,hr⟩,?_⟩
        (refine aM _ _ rfl rfl ?_ ?_<;>(repeat' (first|exact TmOk.nil|exact RwOk.nil|refine TmOk.cons ?_ ?_|refine RwOk.cons ?_ ?_|rfl|(refine rnV_id' rfl ?_;exact byc)|(refine cV ?_;first|rfl|omega|(rw [bM omq omq];omega))|(refine bq rfl ?_;exact byc)|exact d5 rfl rfl|(refine rw_mid (by rfl) (by rfl) ?_ ?_<;>exact byc)|(refine rw_rn' rfl rfl ?_;simp;done)))))
   ·have hr2:gpS 100 (iR f) (x :: l.drop (k+1)) m=m:=if_neg hm2
    rw [hr,hr2]
    repeat' (first|(apply ay;first|refine bX ?_|(refine aR ?_ ?_<;>intro hG<;>(try cases hG))|refine al ?_|refine ai ?_|refine bj ?_|refine aI ?_|refine bE ?_|refine iv ?_|refine aD ?_|refine bG ?_|refine aB ?_)|refine ak ?_|refine ab ?_|refine aa fun C=>?_|refine ac ?_|refine ah ?_|refine aj ?_|refine aA ?_|(refine ae (by rfl) ?_ ?_<;>intro hC<;>(try cases hC)))
    all_goals first
     | (exfalso;simp only [decide_eq_true_iff,decide_eq_false_iff_not] at *;omega)
     | (refine am ?_;refine bv rfl aH ⟨?_,rfl⟩;rfl)
  ·rw [hr,List.drop_eq_nil_of_le omq]
   repeat' (first|(apply ay;first|refine bX ?_|(refine aR ?_ ?_<;>intro hG<;>(try cases hG))|refine al ?_|refine ai ?_|refine bj ?_|refine aI ?_|refine bE ?_|refine aD ?_|refine bG ?_|refine aB ?_)|refine ak ?_|refine ab ?_|refine aa fun C=>?_|refine ac ?_|refine ah ?_|refine aj ?_|refine aA ?_|(refine ae (by rfl) ?_ ?_<;>intro hC<;>(try cases hC)))
   all_goals first
    | (exfalso;simp only [decide_eq_true_iff,decide_eq_false_iff_not] at *;omega)
    | (refine am ?_;refine bv rfl aH ⟨?_,rfl⟩;rfl)
theorem zG:∀(n:Nat) (e:E),e.Ty prog 26→e.sz<n→n≤1048577→Ctr prog 24 [.ag (acE e)] [] (.c (.v (.bool (okX e)))) []
 | 0,_,_,h,_=>absurd h (Nat.not_lt_zero _)
 | n+1,e,he,hsz,hn=>by
  obtain⟨k0,n0,s0,xA,xc,l,rfl,-,-,-,⟨hl,hk⟩,-⟩:=aU he
  simp only [E.sz,E.szL] at hsz
  have ch:=yt (k:=k0) (n:=n0) (s:=s0) omq (l:=l) omq
  have ek:okX (.agg [.int .i64 k0,.int .i64 n0,.str s0,.lst 4 26 xA xc l])=(l.all okX&&eu k0 n0 s0 l.length):=j4 dR _
  rw [ek]
  refine av func24 rfl rfl ?_
  repeat' (first|(apply ay;first|refine ai ?_|refine cA ?_)|refine ak ?_|refine ab ?_|refine aa fun C=>?_|refine ac ?_|refine ah ?_)
  refine a8 (fun k:Nat=>⟨eX [(1,.c (.pt 1 0)),(3,.c (.v (.int .i64 (k:Int))))],eJ [(1,1,⟨26,0,0,true,[.v (.int .i64 k0),.v (.int .i64 n0),.v (.string s0),.ro l.length 4 (acL l)]⟩)],0,[1],20⟩)
   (fun N k=>k+N=l.length∧∀j y,j<k→l[j]? = some y→okX y=true) l.length 0 ⟨omq,fun j y hj=>absurd hj (Nat.not_lt_zero j)⟩ ?_ ?_
  ·(refine aM _ _ rfl rfl ?_ ?_<;>exact tdy0)
  rintro N k ⟨hN,hr⟩
  try dsimp only
  repeat' (first|(apply ay;first|refine al ?_|refine bj ?_|refine aI ?_|refine bE ?_|refine aD ?_)|refine ak ?_|refine ab ?_|refine aa fun C=>?_|refine ac ?_)
  refine ae (by rfl) (fun h1=>?_) fun h1=>?_
  ·have hk':k<l.length:=by simpa using h1
   obtain⟨x,hx⟩:∃x,l[k]? = some x:=⟨_,List.getElem?_eq_getElem hk'⟩
   have hxz:=E.szL_mem (List.mem_of_getElem? hx)
   have hxt:=hl x (List.mem_of_getElem? hx)
   have cx:=zG n x hxt omq omq
   cases hb:okX x with
   | false =>
    have e0:l.all okX=false:=by
     cases ha:l.all okX with
     | false=>rfl
     | true=>rw [List.all_eq_true.1 ha x (List.mem_of_getElem? hx)] at hb;cases hb
    rw [hb] at cx
    rw [e0]
    obtain⟨y0,y1,y2,yA,yc,yl,rfl,-⟩:=aU hxt
    repeat' (first|(apply ay;first|refine al ?_|refine ai ?_|refine bj ?_|refine aI ?_|refine dp ?_|refine aF cx ?_|refine iv ?_|refine b7 ?_)|refine ak ?_|refine ab ?_|refine aa fun C=>?_|refine ac ?_|refine ah ?_|refine aj ?_|refine aq rfl ?_)
    exact fJ
   | true =>
    have hb':=hb
    rw [hb] at cx
    obtain⟨y0,y1,y2,yA,yc,yl,rfl,-⟩:=aU hxt
    repeat' (first|(apply ay;first|refine al ?_|refine ai ?_|refine bj ?_|refine aI ?_|refine dp ?_|refine aF cx ?_|refine iv ?_|refine aw ?_|refine b7 ?_)|refine ak ?_|refine ab ?_|refine aa fun C=>?_|refine ac ?_|refine ah ?_|refine aj ?_|refine au rfl ?_)
    refine⟨N-1,k+1,omq,⟨omq,fun j y hj hy=>?_⟩,?_⟩
    ·by_cases e:j=k
     ·rw [e,hx] at hy;injection hy with hy;subst hy;exact hb'
     ·exact hr j y omq hy
    ·(refine aM _ _ rfl rfl ?_ ?_<;>exact tdy0)
  ·have hk':¬k<l.length:=by simpa using h1
   have e0:l.all okX=true:=List.all_eq_true.2 fun y hy=>by
    obtain⟨j,hj⟩:=List.getElem?_of_mem hy
    have:=(List.getElem?_eq_some_iff.1 hj).1
    exact hr j y omq hj
   rw [e0]
   repeat' (first|(apply ay;first|refine ai ?_|refine bN ?_|refine aF ch ?_)|refine ak ?_|refine ab ?_|refine aa fun C=>?_|refine ac ?_|refine aA ?_)
   exact fJ
theorem ff {e:E}(he:e.Ty prog 26)(hsz:e.sz≤1048576):Ctr prog 10 [.ag (acE e)] [] (.c (.v (.bool (fq e)))) []:=by
 have c1:=kV 10 omq e he hsz
 rw [zx1,show (11-((10:Nat):Int))=1 from rfl] at *
 rw [show decide (gA 10 e≤100)=decide ((gA 10 e:Int)≤100) from decide_eq_decide.2 omq]
 generalize gA 10 e=c at c1 ⊢
 obtain⟨k0,n0,s0,xA,xc,l,rfl,-⟩:=aU he
 refine av func10 rfl rfl ?_
 repeat' (first|(apply ay;first|refine ai ?_|refine bN ?_|refine aF c1 ?_|refine bG ?_|refine cA ?_)|refine ak ?_|refine ab ?_|refine aa fun C=>?_|refine ac ?_)
 exact fJ
theorem oC {e:E}(he:e.Ty prog 26)(hsz:e.sz≤1048576):Ctr prog 9 [.ag (acE e)] [] (.c (.v (.bool (fq e)))) []:=by
 have c1:=oB 10 omq e he hsz
 have c2:=zG (e.sz+1) e he omq omq
 rw [show (11-((10:Nat):Int))=1 from rfl] at c1
 unfold fq
 generalize iR 10 e=c at c1 ⊢
 generalize okX e=b at c2 ⊢
 obtain⟨k0,n0,s0,xA,xc,l,rfl,-⟩:=aU he
 by_cases hc:c≤100
 ·rw [show decide (c≤100)=true from decide_eq_true hc,Bool.true_and]
  refine av func9 rfl rfl ?_
  repeat' (first|(apply ay;first|refine bX ?_|(refine aR ?_ ?_<;>intro hG<;>(try cases hG))|refine ai ?_|refine bN ?_|refine aF c1 ?_|refine aF c2 ?_|refine bG ?_|refine aB ?_|refine cA ?_)|refine ak ?_|refine ab ?_|refine aa fun C=>?_|refine ac ?_)
  all_goals first
   | (exfalso;simp only [decide_eq_true_iff,decide_eq_false_iff_not] at *;omega)
   | (refine am ?_;refine bv rfl aH ⟨?_,rfl⟩;rfl)
 ·rw [show decide (c≤100)=false from decide_eq_false hc,Bool.false_and]
  refine av func9 rfl rfl ?_
  repeat' (first|(apply ay;first|refine bX ?_|(refine aR ?_ ?_<;>intro hG<;>(try cases hG))|refine ai ?_|refine bN ?_|refine aF c1 ?_|refine aF c2 ?_|refine bG ?_|refine aB ?_|refine cA ?_)|refine ak ?_|refine ab ?_|refine aa fun C=>?_|refine ac ?_)
  all_goals first
   | (exfalso;simp only [decide_eq_true_iff,decide_eq_false_iff_not] at *;omega)
   | (refine am ?_;refine bv rfl aH ⟨?_,rfl⟩;rfl)
def zH (x:E):E:=.str (txE x)
theorem v8 (l:List E):joC (l.map txE)=jb (l.map zH) ⟨#[44,32]⟩:=by
 unfold joC
 rw [List.map_map]
 rfl
theorem zI {l:List E}(hl:∀x∈l,x.Ty prog 26):(joC (l.map txE)).size≤40*(l.length+E.szL l):=Nat.le_trans (m0 _) (zD hl)
theorem ri:∀(l:List E) (k:Nat),E.szL (l.take k)≤E.szL l
 | [],k=>by simp [E.szL]
 | x :: r,0=>Nat.zero_le _
 | x :: r,k+1=>by
  have:=ri r k
  simp only [List.take_succ_cons,E.szL];omega
theorem yw {l:List E}(hl:∀x∈l,x.Ty prog 26)(k:Nat):(jb ((l.map zH).take k) ⟨#[44,32]⟩).size≤40*(l.length+E.szL l):=by
 rw [←List.map_take,←v8]
 have h1:=zI (l:=l.take k) fun x hx=>hl x (List.mem_of_mem_take hx)
 have h2:=ri l k
 have h3:(l.take k).length≤l.length:=by rw [List.length_take];omega
 omega
theorem yx {l:List E}(hl:∀e∈l,e.Ty prog 26)(hk:∀e∈l,e.enc.length=4)(hlen:l.length+E.szL l≤1048576)(hc:∀x∈l,Ctr prog 22 [.ag (acE x)] [] (.c (.v (.string (txE x)))) []):Ctr prog 45 [.c (.ro l.length 4 (acL l))] [] (.c (.v (.string (joC (l.map txE))))) []:=by
 rw [v8]
 have hj:=yw hl l.length
 have hll:(l.map zH).length=l.length:=List.length_map ..
 rw [List.take_of_length_le omq] at hj
 have cj:=zlQ (l:=l.map zH) (fun e he=>by obtain⟨t,-,rfl⟩:=List.mem_map.1 he;exact⟨_,rfl⟩) ⟨#[44,32]⟩ omq omq
 rw [hll] at cj
 refine av func45 rfl rfl ?_
 repeat' (first|(apply ay;first|refine al ?_|refine ai ?_|refine bE ?_)|refine ak ?_|refine ab ?_|refine aa fun C=>?_|refine ac ?_|refine ah ?_)
 refine a8 (fun k:Nat=>⟨eX [(3,.c (.sl 9 k)),(6,.c (.ro l.length 4 (acL l))),(7,.c (.v (.int .i64 l.length))),(8,.c (.v (.int .i64 k)))],eJ [(9,9,⟨9,1,k,false,owL ((l.take k).map zH)⟩)],0,[9],20⟩)
  (fun N k=>k+N=l.length) l.length 0 omq ?_ ?_
 ·refine (jt 9 (t:=3) 9 1 rfl rfl).trans ?_
  (refine aM _ _ rfl rfl ?_ ?_<;>exact tdy0)
 rintro N k hN
 try dsimp only
 repeat' (first|(apply ay;refine aD ?_)|refine ak ?_|refine ab ?_|refine aa fun C=>?_|refine ac ?_)
 refine ae (by rfl) (fun hk1=>?_) fun hk1=>?_
 ·have hk':k<l.length:=by simpa using hk1
  obtain⟨x,hx⟩:∃x,l[k]? = some x:=⟨_,List.getElem?_eq_getElem hk'⟩
  have hxm:=List.mem_of_getElem? hx
  have hxt:=hl x hxm
  have c3:=hc x hxm
  have hxz:=E.szL_mem hxm
  have hts:=oz hxt
  have e:(l.take (k+1)).map zH=(l.take k).map zH++[.str (txE x)]:=by rw [List.take_add_one,hx,Option.toList_some,List.map_append];rfl
  generalize txE x=T at c3 hts e
  obtain⟨y0,y1,y2,yA,yc,yl,rfl,-⟩:=aU hxt
  repeat' (first|(apply ay;first|refine al ?_|refine ai ?_|refine dp ?_|refine bN ?_|refine aF c3 ?_|refine fj ?_|refine bC ?_|refine iv ?_|refine aw ?_|refine bZ ?_|refine dX ?_)|refine ak ?_|refine ab ?_|refine aa fun C=>?_|refine ac ?_|refine ah ?_|refine aj ?_)
  refine⟨N-1,k+1,omq,omq,?_⟩
  rw [e]
  (refine ei (fun j=>if j=9 then 16 else j) _ _ rfl rfl ?_ ?_<;>(repeat' (first|exact TmOk.nil|exact RwOk.nil|refine TmOk.cons ?_ ?_|refine RwOk.cons ?_ ?_|rfl|(refine rnV_id' rfl ?_;exact byc)|(refine cV ?_;first|rfl|omega|(rw [bM omq omq];omega))|(refine bq rfl ?_;exact byc)|exact d5 rfl rfl|(refine rw_mid (by rfl) (by rfl) ?_ ?_<;>exact byc)|(refine rw_rn' rfl rfl ?_;simp;done))))
  exact gf (r:=⟨9,1,k+1,false,owL ((l.take k).map zH)++[.v (.string T)]⟩) rfl (by rw [eM];rfl) (by first|rfl|(simp [nR,bi,clo,bc,aG,bf,aV,aW];done))
 ·have hk':¬k<l.length:=by simpa using hk1
  obtain rfl:k=l.length:=by omega
  rw [List.take_length]
  repeat' (first|(apply ay;first|refine al ?_|refine ai ?_|refine aF cj ?_)|refine ak ?_|refine ab ?_|refine aa fun C=>?_|refine ac ?_|refine aA ?_)
  all_goals
   exact fJ
theorem len_eq {l:List E}{m:Nat}(h:((l.length:Int)==(m:Int))=true):l.length=m:=by
 rw [beq_iff_eq] at h;omega
theorem mb {l:List E}(h:((l.length:Int)==2)=true):∃x y,l=[x,y]:=by
 have:=len_eq (m:=2) h
 match l,this with
 | [x,y],_=>exact⟨x,y,rfl⟩
theorem iS {l:List E}(h:((l.length:Int)==1)=true):∃x,l=[x]:=by
 have:=len_eq (m:=1) h
 match l,this with
 | [x],_=>exact⟨x,rfl⟩
theorem gB {l:List E}(h:((l.length:Int)==0)=true):l=[]:=by
 have:=len_eq (m:=0) h
 exact List.length_eq_zero_iff.1 this
theorem oD {k n:Int}{s:ByteArray}{l:List E}(h:eu k n s l.length=true):(k=1∧0≤n∧n≤2147483647)∨k=2∨k=3∨((k=4∨k=9)∧∃x,l=[x])∨((k=5∨k=7∨k=8∨k=12∨k=17)∧∃x,l=[x])∨(k=6∧∃x y,l=[x,y])∨(k=10∧∃x,l=[x])∨(k=18∧∃x y,l=[x,y])∨k=11∨k=13∨k=14∨k=15∨k=16:=by
 unfold eu at h
 by_cases k1:k=1
 ·rw [if_pos k1] at h
  simp only [inR,Bool.and_eq_true,decide_eq_true_iff] at h
  left;exact⟨k1,omq,omq⟩
 rw [if_neg k1,Bool.and_eq_true] at h
 replace h:=h.2
 right
 by_cases k2:k=2
 ·exact .inl k2
 by_cases k3:k=3
 ·exact .inr (.inl k3)
 rw [if_neg k2,if_neg k3] at h
 by_cases k4:k=4∨k=9
 ·rw [if_pos k4,Bool.and_eq_true] at h
  exact .inr (.inr (.inl ⟨k4,iS h.2⟩))
 rw [if_neg k4] at h
 by_cases k5:k=5∨k=7∨k=8∨k=12∨k=17
 ·rw [if_pos k5,Bool.and_eq_true] at h
  exact .inr (.inr (.inr (.inl ⟨k5,iS h.2⟩)))
 rw [if_neg k5] at h
 by_cases k6:k=6
 ·rw [if_pos k6,Bool.and_eq_true] at h
  exact .inr (.inr (.inr (.inr (.inl ⟨k6,mb h.2⟩))))
 rw [if_neg k6] at h
 by_cases k10:k=10
 ·rw [if_pos k10,Bool.and_eq_true] at h
  exact .inr (.inr (.inr (.inr (.inr (.inl ⟨k10,iS h.1⟩)))))
 rw [if_neg k10] at h
 by_cases k18:k=18
 ·rw [if_pos k18,Bool.and_eq_true] at h
  exact .inr (.inr (.inr (.inr (.inr (.inr (.inl ⟨k18,mb h.1⟩))))))
 rw [if_neg k18] at h
 by_cases k11:k=11
 ·omega
 by_cases k13:k=13
 ·omega
 rw [if_neg k11,if_neg k13] at h
 by_cases k14:k=14∨k=15
 ·omega
 rw [if_neg k14] at h
 by_cases k16:k=16
 ·omega
 rw [if_neg k16] at h
 cases h
theorem mc:∀(n:Nat) (e:E),e.Ty prog 26→e.sz<n→n≤1048577→okX e=true→Ctr prog 22 [.ag (acE e)] [] (.c (.v (.string (txE e)))) []
 | 0,_,_,h,_,_=>absurd h (Nat.not_lt_zero _)
 | n+1,e,he,hsz,hn,hok=>by
  obtain⟨k0,n0,s0,xA,xc,l,rfl,-,-,-,⟨hl,hk⟩,-⟩:=aU he
  simp only [E.sz,E.szL] at hsz
  have ek:okX (.agg [.int .i64 k0,.int .i64 n0,.str s0,.lst 4 26 xA xc l])=(l.all okX&&eu k0 n0 s0 l.length):=j4 dR _
  rw [ek,Bool.and_eq_true,List.all_eq_true] at hok
  obtain⟨hall,hh⟩:=hok
  have hkid:∀x∈l,Ctr prog 22 [.ag (acE x)] [] (.c (.v (.string (txE x)))) []:=fun x hx=>by
   have:=E.szL_mem hx
   have h0:0<l.length:=List.length_pos_of_mem hx
   exact mc n x (hl x hx) omq omq (hall x hx)
  have cl:=yx hl hk omq hkid
  have hj:=zI hl
  rw [mZ]
  have key:∀x y,l=[x,y]→(k0=6∨k0=18)→Ctr prog 22 [.ag (acE (.agg [.int .i64 k0,.int .i64 n0,.str s0,.lst 4 26 xA xc l]))] [] (.c (.v (.string (pS k0 n0 s0 (l.map txE))))) []:=fun x y hxy hk0=>by
   subst hxy
   have cx:=hkid x (by simp)
   have cy:=hkid y (by simp)
   have tx:=hl x (by simp)
   have ty:=hl y (by simp)
   have zx:=oz tx
   have zy:=oz ty
   have hx0:[x,y][0]? = some x:=rfl
   have hy0:[x,y][1]? = some y:=rfl
   have e2:[x,y].map txE=[txE x,txE y]:=rfl
   simp only [E.szL,List.length_cons,List.length_nil] at hsz
   rw [e2]
   clear cl hj hkid hall hh
   generalize txE x=X at cx zx ⊢
   generalize txE y=Y at cy zy ⊢
   obtain⟨x0,x1,x2,xA',xc',xl,rfl,-⟩:=aU tx
   obtain⟨y0,y1,y2,yA,yc,yl,rfl,-⟩:=aU ty
   rcases hk0 with rfl|rfl
   ·refine av func22 rfl rfl ?_
    repeat' (first|(apply ay;first|refine ai ?_|refine bj ?_|refine aI ?_|refine ao ?_|refine cA ?_)|refine ak ?_|refine ab ?_|(apply dC;first|(apply mG;refine aN ?_)|refine fA ?_|refine cY ?_|refine fY ?_|refine ex cx ?_|refine ex cy ?_|refine rZ ?_|refine mC ?_)|refine ak ?_|refine ab ?_|refine aa fun C=>?_|refine ar (by kernel_rfl) (by kernel_rfl) fun C=>?_|refine ac ?_|refine ah ?_|refine aq rfl ?_|refine au rfl ?_)
    exact fJ
   ·refine av func22 rfl rfl ?_
    repeat' (first|(apply ay;first|refine ai ?_|refine bj ?_|refine aI ?_|refine ao ?_|refine cA ?_)|refine ak ?_|refine ab ?_|(apply dC;first|(apply mG;refine aN ?_)|refine fA ?_|refine cY ?_|refine fY ?_|refine ex cx ?_|refine ex cy ?_|refine rZ ?_|refine mC ?_)|refine ak ?_|refine ab ?_|refine aa fun C=>?_|refine ar (by kernel_rfl) (by kernel_rfl) fun C=>?_|refine ac ?_|refine ah ?_|refine aj ?_|refine au rfl ?_)
    exact fJ
  rcases oD hh with ⟨rfl,h0,h1⟩|rfl|rfl|⟨rfl|rfl,-⟩|⟨rfl|rfl|rfl|rfl|rfl,-⟩|⟨rfl,x,y,hxy⟩|⟨rfl,-⟩|⟨rfl,x,y,hxy⟩|rfl|rfl|rfl|rfl|rfl
  all_goals first
   | (exact key x y hxy (.inl rfl))
   | (exact key x y hxy (.inr rfl))
   | skip
  ·have cd:=xx (n:=n0) omq omq
   refine av func22 rfl rfl ?_
   repeat' (first|(apply ay;first|refine ai ?_|refine bj ?_|refine aI ?_|refine aF cd ?_|refine ao ?_|refine cA ?_)|refine ak ?_|refine ab ?_|refine aa fun C=>?_|refine ac ?_|refine ah ?_|refine aq rfl ?_)
   exact fJ
  all_goals
   clear key hkid hall hh
   refine av func22 rfl rfl ?_
   repeat' (first|(apply ay;first|refine ai ?_|refine bj ?_|refine aI ?_|refine aF cl ?_|refine ao ?_|refine er ?_|refine cA ?_)|refine ak ?_|refine ab ?_|(apply dC;first|(apply mG;refine aN ?_)|refine fA ?_|refine cY ?_|refine ex cl ?_|refine mC ?_)|refine ak ?_|refine ab ?_|refine aa fun C=>?_|refine ar (by kernel_rfl) (by kernel_rfl) fun C=>?_|refine ac ?_|refine ah ?_|refine aq rfl ?_|refine au rfl ?_)
   exact fJ
def Cq (b:ByteArray):Prop:=∀j,j<b.size→plB 47 (bAt b j)=true
theorem Cq.app {a b:ByteArray}(ha:Cq a)(hb:Cq b):Cq (a++b):=fun j hj=>by
 rw [ByteArray.size_append'] at hj
 by_cases h:j<a.size
 ·rw [eH h];exact ha j h
 ·rw [iH omq];exact hb _ omq
theorem Cq.nil:Cq ByteArray.empty:=fun j hj=>absurd hj (Nat.not_lt_zero j)
theorem Cq.one {c:UInt8}(h:plB 47 c.toNat=true):Cq ⟨#[c]⟩:=fun j hj=>by
 have:(⟨#[c]⟩:ByteArray).size=1:=rfl
 obtain rfl:j=0:=by omega
 exact h
theorem zJ {c:Nat}(h:kC c=true):plB 47 c=true:=by
 simp only [kC,Bool.or_eq_true,Bool.and_eq_true,decide_eq_true_iff,beq_iff_eq] at h
 simp only [plB,Bool.and_eq_true,decide_eq_true_iff]
 omega
theorem brk_q {g:E→ByteArray}{x:E}(h:Cq (g x)):Cq (brk g x):=by
 unfold brk
 split
 ·exact ((Cq.one (by decide)).app h).app (Cq.one (by decide))
 ·exact h
theorem one_q {g:E→ByteArray}{x:E}(h:Cq (g x)):Cq (ia g x):=by
 unfold ia
 split
 ·exact ((Cq.one (by decide)).app h).app (Cq.one (by decide))
 ·exact h
theorem zK {g:E→ByteArray}{b:ByteArray}(hb:Cq b):∀{l:List E},(∀x∈l,Cq (g x))→Cq (cO g b l)
 | [],_=>Cq.nil
 | y :: r,h=>hb.app ((brk_q (h y (List.mem_cons_self ..))).app (zK hb fun x hx=>h x (List.mem_cons_of_mem _ hx)))
theorem zo4 {g:E→ByteArray}{b:ByteArray}(hb:Cq b):∀{l:List E},(∀x∈l,Cq (g x))→Cq (dN g b l)
 | [],_=>Cq.nil
 | y :: r,h=>(brk_q (h y (List.mem_cons_self ..))).app (zK hb fun x hx=>h x (List.mem_cons_of_mem _ hx))
theorem zj2 {g:E→ByteArray}{x:E}(h:1≤(g x).size):1≤(brk g x).size:=by
 unfold brk
 split
 ·rw [ByteArray.size_append']
  show 1≤_+1;omega
 ·exact h
theorem zk2 (f:Nat):∀e,bF f e≤60→Cq (aO f e)∧1≤(aO f e).size:=by
 induction f with
 | zero=>intro e h;simp [bF] at h
 | succ f ih =>
  intro e h
  unfold bF at h
  split at h
  ·rename_i hh
   have hd:=(pG hh).1
   have hk:=(im h).2
   unfold aO
   rcases cZ hd with ⟨k,q1,q2,q3⟩|⟨k,q1,q3⟩|⟨k,q1,q3⟩|⟨k,q1,q2,q3⟩|⟨k,q1,x,q2,q3⟩
   ·rw [if_pos k]
    exact⟨fun j hj=>by obtain rfl:j=0:=by omega
                       exact zJ q2,omq⟩
   ·rw [k]
    have hq:Cq e.rs:=fun j hj=>by
     unfold ga at q1
     simp only [Bool.and_eq_true] at q1
     have:=q1.1
     rw [List.all_eq_true] at this
     have:=this j (List.mem_range.2 hj)
     unfold dY at this
     rw [Bool.and_eq_true] at this
     exact zJ this.1
    refine⟨((Cq.one (by decide)).app hq).app (Cq.one (by decide)),?_⟩
    show 1≤(ByteArray.mk #[91]++e.rs++ByteArray.mk #[93]).size
    rw [ByteArray.size_append']
    show 1≤_+1;omega
   ·rcases k with k|k|k|k<;>rw [k]
    ·exact⟨Cq.one (by decide),Nat.le_refl 1⟩
    ·refine⟨?_,by show 1≤2;omega⟩
     have:Cq (⟨#[40]⟩++⟨#[41]⟩):=(Cq.one (by decide)).app (Cq.one (by decide))
     rwa [show (⟨#[40]⟩++⟨#[41]⟩:ByteArray)=⟨#[40,41]⟩ from ByteArray.mk_append_mk [40] [41]] at this
    ·exact⟨Cq.one (by decide),Nat.le_refl 1⟩
    ·exact⟨Cq.one (by decide),Nat.le_refl 1⟩
   ·have key:∀b:ByteArray,Cq b→Cq (dN (aO f) b e.rl)∧1≤(dN (aO f) b e.rl).size:=fun b hb=>by
     refine⟨zo4 hb fun x hx=>(ih x (hk x hx)).1,?_⟩
     match hl:e.rl,q2 with
     | x :: r,_ =>
      show 1≤(brk (aO f) x++cO (aO f) b r).size
      have:=zj2 (g:=aO f) (ih x (hk x (by rw [hl];exact List.mem_cons_self))).2
      rw [ByteArray.size_append'];omega
    rcases k with k|k<;>rw [k]
    ·exact key _ Cq.nil
    ·exact key _ (Cq.one (by decide))
   ·have h3:=ih x (hk x (by rw [q2];exact List.mem_cons_self))
    rw [q2]
    rcases k with k|k|k<;>rw [k]
    ·exact⟨(one_q h3.1).app (Cq.one (by decide)),by show 1≤(ia (aO f) x++ByteArray.mk #[42]).size;rw [ByteArray.size_append'];show 1≤_+1;omega⟩
    ·exact⟨(one_q h3.1).app (Cq.one (by decide)),by show 1≤(ia (aO f) x++ByteArray.mk #[43]).size;rw [ByteArray.size_append'];show 1≤_+1;omega⟩
    ·exact⟨(one_q h3.1).app (Cq.one (by decide)),by show 1≤(ia (aO f) x++ByteArray.mk #[63]).size;rw [ByteArray.size_append'];show 1≤_+1;omega⟩
  ·omega
theorem m6 {s:ByteArray}(h:oY s=true):cq 4 0 s=true:=by
 unfold oY qZ at h
 simp only [Bool.and_eq_true,decide_eq_true_iff] at h
 obtain⟨⟨⟨-,h1⟩,h2⟩,h3⟩:=h
 have h2':=h2
 rw [beq_iff_eq] at h2'
 have h4:=toList_inj h2'
 unfold jS at h4
 rw [if_pos h1] at h4
 have h5:=zk2 6 (fo s).1 (by simpa [dQ] using h1)
 rw [h4] at h5
 have h6:df 47 s=true:=by
  simp only [df,Bool.and_eq_true,decide_eq_true_iff,lF]
  exact⟨h3,h5.1⟩
 simp [cq,h6,h5.2]
end Go.Proofs.YtomolhbkdhjofaaGreatDoor
