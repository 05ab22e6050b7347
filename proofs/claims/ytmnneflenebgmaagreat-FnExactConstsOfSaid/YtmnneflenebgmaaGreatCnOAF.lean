/- T -/
import Derived.Test.YtmnneflenebgmaaGreatCnOAE
set_option maxHeartbeats 0
set_option maxRecDepth 100000
namespace Go.Proofs.YtmnneflenebgmaaGreat
open Go.RowKit Go.Proofs.Tryz
theorem gK {l:List E}{k:Nat}{x:E}(h:l[k]? = some x):l.drop k=x :: l.drop (k+1):=by
 obtain⟨h1,h2⟩:=List.getElem?_eq_some_iff.1 h
 rw [List.drop_eq_getElem_cons h1,h2]
theorem yq (f:Nat)(e:E):gx f e≤101:=uJ f e omq
theorem yr (f:Nat)(e:E)(h:f≤10):iJ f e≤1101:=by
 have:=pi (b:=100) (kd:=iI) f e omq
 unfold iJ
 omega
theorem kQ:∀(f:Nat),f≤10→∀(e:E),e.Ty prog 70→e.sz≤1048576→Ctr prog 192 [.ag (acE e),.c (.v (.int .i64 (11-(f:Int))))] [] (.c (.v (.int .i64 (gx f e:Nat)))) []
 | 0,_,e,he,hsz=>by
  obtain⟨k,n,s,xA,xc,l,rfl,-⟩:=aB he
  rw [show (11-((0:Nat):Int))=11 from rfl]
  refine av func192 rfl rfl ?_
  repeat' (first|(apply ay;first|refine bO ?_|(refine aU ?_ ?_<;>intro hG<;>(try cases hG))|refine ao ?_|refine ak ?_|refine a8 ?_|refine aF ?_|refine bL ?_)|refine al ?_|refine ab ?_|refine aa fun C=>?_|refine ae ?_|refine az rfl ?_)
  exact d9
 | f+1,hf,e,he,hsz=>by
  obtain⟨k0,n0,s0,xA,xc,l,rfl,-,-,-,⟨hl,hk⟩,-⟩:=aB he
  simp only [E.sz,E.szL] at hsz
  have ch:=sw (k:=k0) (n:=n0) (s:=s0) omq (l:=l) omq
  have hd:jF (.agg [.int .i64 k0,.int .i64 n0,.str s0,.lst 4 70 xA xc l])=fY k0 n0 s0 l.length:=rfl
  cases hb:fY k0 n0 s0 l.length with
  | false =>
   rw [hb] at ch
   rw [show gx (f+1) (.agg [.int .i64 k0,.int .i64 n0,.str s0,.lst 4 70 xA xc l])=101 by unfold gx ni;rw [hd,hb];rfl]
   refine av func192 rfl rfl ?_
   repeat' (first|(apply ay;first|refine bO ?_|(refine aU ?_ ?_<;>intro hG<;>(try cases hG))|refine ao ?_|refine ak ?_|refine bu ?_|refine aI ch ?_|refine a8 ?_|refine bF ?_|refine aF ?_|refine bL ?_)|refine al ?_|refine ab ?_|refine aa fun C=>?_|refine ae ?_|(refine aj (by rfl) ?_ ?_<;>intro hC<;>(try cases hC)))
   all_goals (refine am ?_;refine bi rfl aN ⟨?_,rfl⟩;rfl)
  | true =>
   rw [hb] at ch
   rw [show gx (f+1) (.agg [.int .i64 k0,.int .i64 n0,.str s0,.lst 4 70 xA xc l])=gpI 100 (gx f) l 1 by
    show ni 100 jF iI (f+1) _=_
    unfold ni;rw [hd,hb];rfl]
   refine av func192 rfl rfl ?_
   have hgg:¬(11-((f+1:Nat):Int) > 10):=by omega
   repeat' (first|(apply ay;first|refine bO ?_|(refine aU ?_ ?_<;>intro hG<;>(try cases hG))|refine ao ?_|refine ak ?_|refine bd ?_|refine bu ?_|refine aI ch ?_|refine aY ?_|refine a8 ?_|refine bF ?_|refine aF ?_|refine bL ?_|refine aS ?_)|refine al ?_|refine ab ?_|refine aa fun C=>?_|refine ae ?_|refine ah ?_|refine ai ?_|refine az rfl ?_|refine aE rfl ?_)
   all_goals try (exfalso;simp only [decide_eq_true_iff] at hG;omega)
   refine aP (fun d:Nat×Nat=>⟨dA [(1,.c (.v (.int .i64 (11-((f+1:Nat):Int))))),(5,.c (.v (.int .i64 (d.2:Int)))),(16,.c (.ro l.length 4 (acL l))),(17,.c (.v (.int .i64 l.length))),(18,.c (.v (.int .i64 (d.1:Int))))],dq [],0,[],32⟩)
    (fun N d=>d.1+N=l.length∧d.2≤100∧gpI 100 (gx f) l 1=gpI 100 (gx f) (l.drop d.1) d.2) l.length (0,1) ⟨by simp,by simp,rfl⟩ ?_ ?_
   ·(refine aC _ _ rfl rfl ?_ ?_<;>exact tdy0)
   rintro N ⟨k,m⟩ ⟨hN,hm,hr⟩
   dsimp only at hN hm hr ⊢
   repeat' (first|(apply ay;refine aO ?_)|refine al ?_|refine ab ?_|refine aa fun C=>?_|refine ae ?_)
   refine aj (by rfl) (fun h1=>?_) fun h1=>?_
   ·have hk':k<l.length:=by simpa using h1
    obtain⟨x,hx⟩:∃x,l[k]? = some x:=⟨_,List.getElem?_eq_getElem hk'⟩
    have hxz:=E.szL_mem (List.mem_of_getElem? hx)
    have hxt:=hl x (List.mem_of_getElem? hx)
    have cx:=kQ f omq x hxt omq
    have cle:=yq f x
    rw [gK hx] at hr
    rw [show (11-(f:Int))=11-((f+1:Nat):Int)+1 by omega] at cx
    have hr2:gpI 100 (gx f) (x :: l.drop (k+1)) m=if 100<m+gx f x then 101 else gpI 100 (gx f) (l.drop (k+1)) (m+gx f x):=rfl
    rw [hr2] at hr
    generalize gx f x=c at cx cle hr
    obtain⟨y0,y1,y2,yA,yc,yl,rfl,-⟩:=aB hxt
    repeat' (first|(apply ay;first|refine ao ?_|refine ak ?_|refine bI ?_|refine bu ?_|refine aI cx ?_|refine cG ?_|refine dE ?_|refine gq ?_|refine aD ?_|refine dn ?_)|refine al ?_|refine ab ?_|refine aa fun C=>?_|refine ae ?_|refine ah ?_|refine ai ?_)
    refine aj (by rfl) (fun h2=>?_) fun h2=>?_
    ·have h3:100<m+c:=by simp at h2;omega
     rw [hr,if_pos h3]
     repeat' (first|(apply ay;refine ak ?_)|refine al ?_|refine ab ?_|refine aa fun C=>?_|refine ae ?_)
     exact d9
    ·have h3:¬100<m+c:=by simp at h2;omega
     rw [if_neg h3] at hr
     repeat' (first|(apply ay;first|refine ao ?_|refine aD ?_)|refine al ?_|refine ab ?_|refine aa fun C=>?_|refine ai ?_)
     refine⟨N-1,(k+1,m+c),omq,⟨by show k+1+(N-1)=l.length;omega,by show m+c≤100;omega,hr⟩,?_⟩
     (refine aC _ _ rfl rfl ?_ ?_<;>exact tdy0)
   ·have hk':¬k<l.length:=by simpa using h1
    rw [hr,List.drop_eq_nil_of_le omq]
    repeat' (first|(apply ay;first|refine ao ?_|refine ak ?_)|refine al ?_|refine ab ?_|refine aa fun C=>?_|refine ae ?_|refine au ?_)
    exact d9
theorem oq:∀(f:Nat),f≤10→∀(e:E),e.Ty prog 70→e.sz≤1048576→Ctr prog 168 [.ag (acE e),.c (.v (.int .i64 (11-(f:Int))))] [] (.c (.v (.int .i64 (iJ f e:Nat)))) []
 | 0,_,e,he,hsz=>by
  obtain⟨k,n,s,xA,xc,l,rfl,-⟩:=aB he
  rw [show (11-((0:Nat):Int))=11 from rfl]
  refine av func168 rfl rfl ?_
  repeat' (first|(apply ay;first|refine ao ?_|refine ak ?_|refine a8 ?_|refine bL ?_)|refine al ?_|refine ab ?_|refine aa fun C=>?_|refine ae ?_|refine az rfl ?_)
  exact d9
 | f+1,hf,e,he,hsz=>by
  obtain⟨k0,n0,s0,xA,xc,l,rfl,-,-,-,⟨hl,hk⟩,-⟩:=aB he
  simp only [E.sz,E.szL] at hsz
  rw [show iJ (f+1) (.agg [.int .i64 k0,.int .i64 n0,.str s0,.lst 4 70 xA xc l])=gpS 100 (iJ f) l 1 from rfl]
  refine av func168 rfl rfl ?_
  repeat' (first|(apply ay;first|refine ao ?_|refine ak ?_|refine a8 ?_|refine bL ?_)|refine al ?_|refine ab ?_|refine aa fun C=>?_|refine ae ?_)
  refine aj (by rfl) (fun h1=>by exfalso;simp only [decide_eq_true_iff] at h1;omega) fun h1=>?_
  repeat' (first|(apply ay;refine ak ?_)|refine al ?_|refine ab ?_|refine aa fun C=>?_|refine ae ?_|refine ah ?_|refine ai ?_)
  refine aP (fun d:Nat×Nat=>⟨dA [(1,.c (.v (.int .i64 (11-((f+1:Nat):Int))))),(2,.c (.pt 2 0)),(5,.c (.v (.int .i64 (d.2:Int)))),(6,.c (.v (.int .i64 (d.1:Int))))],dq [(2,2,⟨70,0,0,true,[.v (.int .i64 k0),.v (.int .i64 n0),.v (.string s0),.ro l.length 4 (acL l)]⟩)],0,[2],31⟩)
   (fun N d=>d.1+N=l.length∧d.2≤2000∧gpS 100 (iJ f) l 1=gpS 100 (iJ f) (l.drop d.1) d.2) l.length (0,1) ⟨by simp,by simp,rfl⟩ ?_ ?_
  ·(refine aC _ _ rfl rfl ?_ ?_<;>exact tdy0)
  rintro N ⟨k,m⟩ ⟨hN,hm,hr⟩
  dsimp only at hN hm hr ⊢
  by_cases hk':k<l.length
  ·obtain⟨x,hx⟩:∃x,l[k]? = some x:=⟨_,List.getElem?_eq_getElem hk'⟩
   rw [gK hx] at hr
   by_cases hm2:m≤100
   ·have hr2:gpS 100 (iJ f) (x :: l.drop (k+1)) m=gpS 100 (iJ f) (l.drop (k+1)) (m+iJ f x):=if_pos hm2
    rw [hr2] at hr
    have hxz:=E.szL_mem (List.mem_of_getElem? hx)
    have hxt:=hl x (List.mem_of_getElem? hx)
    have cx:=oq f omq x hxt omq
    have cle:=yr f x omq
    rw [show (11-(f:Int))=11-((f+1:Nat):Int)+1 by omega] at cx
    generalize iJ f x=c at cx cle hr
    obtain⟨y0,y1,y2,yA,yc,yl,rfl,-⟩:=aB hxt
    repeat' (first|(apply ay;first|refine bO ?_|(refine aU ?_ ?_<;>intro hG<;>(try cases hG))|refine ao ?_|refine ak ?_|refine bd ?_|refine bI ?_|refine aI cx ?_|refine aY ?_|refine dE ?_|refine aO ?_|refine bz ?_|refine aD ?_|refine aF ?_|refine aS ?_)|refine al ?_|refine ab ?_|refine aa fun C=>?_|refine ae ?_|refine ah ?_|refine ai ?_|refine au ?_|(refine aj (by rfl) ?_ ?_<;>intro hC<;>(try cases hC)))
    all_goals first
     | (exfalso;simp only [decide_eq_true_iff,decide_eq_false_iff_not] at *;omega)
     | (refine⟨N-1,(k+1,m+c),omq,⟨by show k+1+(N-1)=l.length;omega,by show m+c≤2000;omega,hr⟩,?_⟩
        (refine aC _ _ rfl rfl ?_ ?_<;>(repeat' (first|exact TmOk.nil|exact RwOk.nil|refine TmOk.cons ?_ ?_|refine RwOk.cons ?_ ?_|rfl|(refine rnV_id' rfl ?_;exact byc)|(refine bv ?_;first|rfl|omega|(rw [aW omq omq];omega))|(refine aK rfl ?_;exact byc)|exact cb rfl rfl|(refine rw_mid (by rfl) (by rfl) ?_ ?_<;>exact byc)|(refine rw_rn' rfl rfl ?_;simp;done)))))
   ·have hr2:gpS 100 (iJ f) (x :: l.drop (k+1)) m=m:=if_neg hm2
    rw [hr,hr2]
    repeat' (first|(apply ay;first|refine bO ?_|(refine aU ?_ ?_<;>intro hG<;>(try cases hG))|refine ao ?_|refine ak ?_|refine bd ?_|refine aY ?_|refine dE ?_|refine aO ?_|refine bz ?_|refine aF ?_|refine aS ?_)|refine al ?_|refine ab ?_|refine aa fun C=>?_|refine ae ?_|refine ah ?_|refine ai ?_|refine au ?_|(refine aj (by rfl) ?_ ?_<;>intro hC<;>(try cases hC)))
    all_goals first
     | (exfalso;simp only [decide_eq_true_iff,decide_eq_false_iff_not] at *;omega)
     | (refine am ?_;refine bi rfl aN ⟨?_,rfl⟩;rfl)
  ·rw [hr,List.drop_eq_nil_of_le omq]
   repeat' (first|(apply ay;first|refine bO ?_|(refine aU ?_ ?_<;>intro hG<;>(try cases hG))|refine ao ?_|refine ak ?_|refine bd ?_|refine aY ?_|refine aO ?_|refine bz ?_|refine aF ?_|refine aS ?_)|refine al ?_|refine ab ?_|refine aa fun C=>?_|refine ae ?_|refine ah ?_|refine ai ?_|refine au ?_|(refine aj (by rfl) ?_ ?_<;>intro hC<;>(try cases hC)))
   all_goals first
    | (exfalso;simp only [decide_eq_true_iff,decide_eq_false_iff_not] at *;omega)
    | (refine am ?_;refine bi rfl aN ⟨?_,rfl⟩;rfl)
theorem zvQ:∀(n:Nat) (e:E),e.Ty prog 70→e.sz<n→n≤1048577→Ctr prog 169 [.ag (acE e)] [] (.c (.v (.bool (okX e)))) []
 | 0,_,_,h,_=>absurd h (Nat.not_lt_zero _)
 | n+1,e,he,hsz,hn=>by
  obtain⟨k0,n0,s0,xA,xc,l,rfl,-,-,-,⟨hl,hk⟩,-⟩:=aB he
  simp only [E.sz,E.szL] at hsz
  have ch:=yj (k:=k0) (n:=n0) (s:=s0) omq (l:=l) omq
  have ek:okX (.agg [.int .i64 k0,.int .i64 n0,.str s0,.lst 4 70 xA xc l])=(l.all okX&&fY k0 n0 s0 l.length):=jN fU _
  rw [ek]
  refine av func169 rfl rfl ?_
  repeat' (first|(apply ay;first|refine ak ?_|refine bL ?_)|refine al ?_|refine ab ?_|refine aa fun C=>?_|refine ae ?_|refine ah ?_)
  refine aP (fun k:Nat=>⟨dA [(1,.c (.pt 1 0)),(3,.c (.v (.int .i64 (k:Int))))],dq [(1,1,⟨70,0,0,true,[.v (.int .i64 k0),.v (.int .i64 n0),.v (.string s0),.ro l.length 4 (acL l)]⟩)],0,[1],20⟩)
   (fun N k=>k+N=l.length∧∀j y,j<k→l[j]? = some y→okX y=true) l.length 0 ⟨omq,fun j y hj=>absurd hj (Nat.not_lt_zero j)⟩ ?_ ?_
  ·(refine aC _ _ rfl rfl ?_ ?_<;>exact tdy0)
  rintro N k ⟨hN,hr⟩
  try dsimp only
  repeat' (first|(apply ay;first|refine ao ?_|refine bd ?_|refine aY ?_|refine aO ?_|refine aS ?_)|refine al ?_|refine ab ?_|refine aa fun C=>?_|refine ae ?_)
  refine aj (by rfl) (fun h1=>?_) fun h1=>?_
  ·have hk':k<l.length:=by simpa using h1
   obtain⟨x,hx⟩:∃x,l[k]? = some x:=⟨_,List.getElem?_eq_getElem hk'⟩
   have hxz:=E.szL_mem (List.mem_of_getElem? hx)
   have hxt:=hl x (List.mem_of_getElem? hx)
   have cx:=zvQ n x hxt omq omq
   cases hb:okX x with
   | false =>
    have e0:l.all okX=false:=by
     cases ha:l.all okX with
     | false=>rfl
     | true=>rw [List.all_eq_true.1 ha x (List.mem_of_getElem? hx)] at hb;cases hb
    rw [hb] at cx
    rw [e0]
    obtain⟨y0,y1,y2,yA,yc,yl,rfl,-⟩:=aB hxt
    repeat' (first|(apply ay;first|refine ao ?_|refine ak ?_|refine bd ?_|refine bI ?_|refine aI cx ?_|refine dE ?_|refine bF ?_|refine aS ?_)|refine al ?_|refine ab ?_|refine aa fun C=>?_|refine ae ?_|refine ah ?_|refine ai ?_|refine az rfl ?_)
    exact d9
   | true =>
    have hb':=hb
    rw [hb] at cx
    obtain⟨y0,y1,y2,yA,yc,yl,rfl,-⟩:=aB hxt
    repeat' (first|(apply ay;first|refine ao ?_|refine ak ?_|refine bd ?_|refine bI ?_|refine aI cx ?_|refine dE ?_|refine aD ?_|refine bF ?_|refine aS ?_)|refine al ?_|refine ab ?_|refine aa fun C=>?_|refine ae ?_|refine ah ?_|refine ai ?_|refine aE rfl ?_)
    refine⟨N-1,k+1,omq,⟨omq,fun j y hj hy=>?_⟩,?_⟩
    ·by_cases e:j=k
     ·rw [e,hx] at hy;injection hy with hy;subst hy;exact hb'
     ·exact hr j y omq hy
    ·(refine aC _ _ rfl rfl ?_ ?_<;>exact tdy0)
  ·have hk':¬k<l.length:=by simpa using h1
   have e0:l.all okX=true:=List.all_eq_true.2 fun y hy=>by
    obtain⟨j,hj⟩:=List.getElem?_of_mem hy
    have:=(List.getElem?_eq_some_iff.1 hj).1
    exact hr j y omq hj
   rw [e0]
   repeat' (first|(apply ay;first|refine ak ?_|refine bu ?_|refine aI ch ?_)|refine al ?_|refine ab ?_|refine aa fun C=>?_|refine ae ?_|refine au ?_)
   exact d9
theorem jv {e:E}(he:e.Ty prog 70)(hsz:e.sz≤1048576):Ctr prog 140 [.ag (acE e)] [] (.c (.v (.bool (fZ e)))) []:=by
 have c1:=kQ 10 omq e he hsz
 rw [zc1,show (11-((10:Nat):Int))=1 from rfl] at *
 rw [show decide (gx 10 e≤100)=decide ((gx 10 e:Int)≤100) from decide_eq_decide.2 omq]
 generalize gx 10 e=c at c1 ⊢
 obtain⟨k0,n0,s0,xA,xc,l,rfl,-⟩:=aB he
 refine av func140 rfl rfl ?_
 repeat' (first|(apply ay;first|refine ak ?_|refine bu ?_|refine aI c1 ?_|refine bz ?_|refine bL ?_)|refine al ?_|refine ab ?_|refine aa fun C=>?_|refine ae ?_)
 exact d9
theorem jw {e:E}(he:e.Ty prog 70)(hsz:e.sz≤1048576):Ctr prog 115 [.ag (acE e)] [] (.c (.v (.bool (fZ e)))) []:=by
 have c1:=oq 10 omq e he hsz
 have c2:=zvQ (e.sz+1) e he omq omq
 rw [show (11-((10:Nat):Int))=1 from rfl] at c1
 unfold fZ
 generalize iJ 10 e=c at c1 ⊢
 generalize okX e=b at c2 ⊢
 obtain⟨k0,n0,s0,xA,xc,l,rfl,-⟩:=aB he
 by_cases hc:c≤100
 ·rw [show decide (c≤100)=true from decide_eq_true hc,Bool.true_and]
  refine av func115 rfl rfl ?_
  repeat' (first|(apply ay;first|refine bO ?_|(refine aU ?_ ?_<;>intro hG<;>(try cases hG))|refine ak ?_|refine bu ?_|refine aI c1 ?_|refine aI c2 ?_|refine bz ?_|refine aF ?_|refine bL ?_)|refine al ?_|refine ab ?_|refine aa fun C=>?_|refine ae ?_)
  all_goals first
   | (exfalso;simp only [decide_eq_true_iff,decide_eq_false_iff_not] at *;omega)
   | (refine am ?_;refine bi rfl aN ⟨?_,rfl⟩;rfl)
 ·rw [show decide (c≤100)=false from decide_eq_false hc,Bool.false_and]
  refine av func115 rfl rfl ?_
  repeat' (first|(apply ay;first|refine bO ?_|(refine aU ?_ ?_<;>intro hG<;>(try cases hG))|refine ak ?_|refine bu ?_|refine aI c1 ?_|refine aI c2 ?_|refine bz ?_|refine aF ?_|refine bL ?_)|refine al ?_|refine ab ?_|refine aa fun C=>?_|refine ae ?_)
  all_goals first
   | (exfalso;simp only [decide_eq_true_iff,decide_eq_false_iff_not] at *;omega)
   | (refine am ?_;refine bi rfl aN ⟨?_,rfl⟩;rfl)
theorem tdy1 {p:Prop}(h:p:=by repeat' (first|exact TmOk.nil|exact RwOk.nil|refine TmOk.cons ?_ ?_|refine RwOk.cons ?_ ?_|rfl|exact aK rfl (by assumption)|(refine rnV_id' rfl ?_;exact byc)|(refine bv ?_;first|rfl|omega|(rw [aW omq omq];omega))|(refine aK rfl ?_;exact byc)|exact cb rfl rfl|(refine rw_mid (by rfl) (by rfl) ?_ ?_<;>exact byc)|(refine rw_rn' rfl rfl ?_;simp;done))):p:=h
theorem qY (f:Nat)(e:E)(h:f≤5):ez f e≤400:=by
 have:=pi (b:=60) (kd:=nj) f e omq
 unfold ez
 omega
theorem mU {b:Nat}{c:E→Nat}{m:Nat}(h:¬m≤b):∀l:List E,gpS b c l m=m
 | []=>rfl
 | _ :: _=>if_neg h
theorem kR:∀(f:Nat),f≤5→∀(e:E),e.Ty prog 106→e.sz≤1048576→Ctr prog 173 [.ag (acE e),.c (.v (.int .i64 (6-(f:Int))))] [] (.c (.v (.int .i64 (ez f e:Nat)))) []
 | 0,_,e,he,hsz=>by
  obtain⟨k0,s0,t0,xA,xc,xs,aA,ac,la,bA,bc,lb,rfl,-,gs,gt,⟨hx,kx⟩,⟨ha,ka⟩,⟨hb,kb⟩,-⟩:=aQ he
  rw [show (6-((0:Nat):Int))=6 from rfl]
  refine av func173 rfl rfl ?_
  repeat' (first|(apply ay;first|refine ao ?_|refine ak ?_|refine a8 ?_|refine bL ?_)|refine al ?_|refine ab ?_|refine aa fun C=>?_|refine ae ?_|refine az rfl ?_)
  exact d9
 | f+1,hf,e,he,hsz=>by
  obtain⟨k0,s0,t0,xA,xc,xs,aA,ac,la,bA,bc,lb,rfl,-,gs,gt,⟨hx,kx⟩,⟨ha,ka⟩,⟨hb,kb⟩,-⟩:=aQ he
  simp only [E.sz,E.szL] at hsz
  rw [show ez (f+1) (.agg [.int .i64 k0,.str s0,.str t0,.lst 4 70 xA xc xs,.lst 6 106 aA ac la,.lst 6 106 bA bc lb])=gpS 60 (ez f) (la++lb) 1 from rfl]
  refine av func173 rfl rfl ?_
  repeat' (first|(apply ay;first|refine ao ?_|refine ak ?_|refine a8 ?_|refine bL ?_)|refine al ?_|refine ab ?_|refine aa fun C=>?_|refine ae ?_)
  refine aj (by rfl) (fun h1=>by exfalso;simp only [decide_eq_true_iff] at h1;omega) fun h1=>?_
  repeat' (first|(apply ay;refine ak ?_)|refine al ?_|refine ab ?_|refine aa fun C=>?_|refine ae ?_|refine ah ?_|refine ai ?_)
  have hcl:bf [.v (.int .i64 k0),.v (.string s0),.v (.string t0),.ro xs.length 4 (acL xs),.ro la.length 6 (acL la),.ro lb.length 6 (acL lb)]=true:=by simp [bf,clo,aH]
  refine aP (fun d:Nat×Nat=>⟨dA [(1,.c (.v (.int .i64 (6-((f+1:Nat):Int))))),(2,.c (.pt 2 0)),(5,.c (.v (.int .i64 (d.2:Int)))),(6,.c (.v (.int .i64 (d.1:Int))))],dq [(2,2,⟨106,0,0,true,[.v (.int .i64 k0),.v (.string s0),.v (.string t0),.ro xs.length 4 (acL xs),.ro la.length 6 (acL la),.ro lb.length 6 (acL lb)]⟩)],0,[2],53⟩)
   (fun N d=>d.1+N=la.length∧d.2≤2000∧gpS 60 (ez f) (la++lb) 1=gpS 60 (ez f) (la.drop d.1++lb) d.2) la.length (0,1) ⟨by simp,by simp,rfl⟩ ?_ ?_
  ·(refine aC _ _ rfl rfl ?_ ?_<;>exact tdy1)
  rintro N ⟨i,m⟩ ⟨hN,hm,hr⟩
  dsimp only at hN hm hr ⊢
  have fin:(¬i<la.length∨¬m≤60)→gpS 60 (ez f) (la++lb) 1=gpS 60 (ez f) (lb) m:=fun h=>by
   rw [hr]
   by_cases hm2:m≤60
   ·rw [List.drop_eq_nil_of_le omq,List.nil_append]
   ·rw [mU hm2,mU hm2]
  by_cases hgo:i<la.length∧m≤60
  ·obtain⟨hk',hm2⟩:=hgo
   clear fin
   obtain⟨x,hx'⟩:∃x,la[i]? = some x:=⟨_,List.getElem?_eq_getElem hk'⟩
   rw [gK hx',List.cons_append] at hr
   have hr2:gpS 60 (ez f) (x :: (la.drop (i+1)++lb)) m=gpS 60 (ez f) (la.drop (i+1)++lb) (m+ez f x):=if_pos hm2
   rw [hr2] at hr
   have hxz:=E.szL_mem (List.mem_of_getElem? hx')
   have hxt:=ha x (List.mem_of_getElem? hx')
   have cx:=kR f omq x hxt omq
   have cle:=qY f x omq
   rw [show (6-(f:Int))=6-((f+1:Nat):Int)+1 by omega] at cx
   generalize ez f x=c at cx cle hr
   obtain⟨z0,z1,z2,zA,zc,zx,yA,yc,ya,wA,wc,yb,rfl,-⟩:=aQ hxt
   repeat' (first|(apply ay;first|refine bO ?_|(refine aU ?_ ?_<;>intro hG<;>(try cases hG))|refine ao ?_|refine ak ?_|refine bd ?_|refine bI ?_|refine aI cx ?_|refine aY ?_|refine dE ?_|refine aO ?_|refine bz ?_|refine aD ?_|refine aF ?_|refine aS ?_)|refine al ?_|refine ab ?_|refine aa fun C=>?_|refine ae ?_|refine ah ?_|refine ai ?_|refine au ?_|(refine aj (by rfl) ?_ ?_<;>intro hC<;>(try cases hC)))
   all_goals first
    | (exfalso;simp only [decide_eq_true_iff,decide_eq_false_iff_not] at *;omega)
    | (refine⟨N-1,(i+1,m+c),omq,⟨by show i+1+(N-1)=la.length;omega,by show m+c≤2000;omega,hr⟩,?_⟩
       (refine aC _ _ rfl rfl ?_ ?_<;>(repeat' (first|exact TmOk.nil|exact RwOk.nil|refine TmOk.cons ?_ ?_|refine RwOk.cons ?_ ?_|rfl|exact aK rfl (by assumption)|(refine rnV_id' rfl ?_;exact byc)|(refine bv ?_;first|rfl|omega|(rw [aW omq omq];omega))|(refine aK rfl ?_;exact byc)|exact cb rfl rfl|(refine rw_mid (by rfl) (by rfl) ?_ ?_<;>exact byc)|(refine rw_rn' rfl rfl ?_;simp;done)))))
  have hr2:=fin omq
  have hr2:gpS 60 (ez f) (la++lb) 1=gpS 60 (ez f) (lb.drop 0++([]:List E)) m:=by rw [hr2];simp
  clear fin hr
  repeat' (first|(apply ay;first|refine bO ?_|(refine aU ?_ ?_<;>intro hG<;>(try cases hG))|refine ao ?_|refine bd ?_|refine aY ?_|refine aO ?_|refine bz ?_|refine aF ?_|refine aS ?_)|refine al ?_|refine ab ?_|refine aa fun C=>?_|refine ae ?_)
  all_goals first
   | (refine aj (by rfl) (fun h2=>by exfalso;simp only [decide_eq_true_iff,decide_eq_false_iff_not] at *;omega) fun h2=>?_)
   | (refine aE rfl ?_)
  all_goals repeat' (first|(apply ay;refine ak ?_)|refine al ?_|refine ab ?_|refine aa fun C=>?_|refine ae ?_|refine ah ?_|refine au ?_)
  all_goals clear hgo hN
  all_goals
   refine aP (fun d:Nat×Nat=>⟨dA [(1,.c (.v (.int .i64 (6-((f+1:Nat):Int))))),(2,.c (.pt 2 0)),(5,.c (.v (.int .i64 (d.2:Int)))),(7,.c (.v (.int .i64 (d.1:Int))))],dq [(2,2,⟨106,0,0,true,[.v (.int .i64 k0),.v (.string s0),.v (.string t0),.ro xs.length 4 (acL xs),.ro la.length 6 (acL la),.ro lb.length 6 (acL lb)]⟩)],0,[2],53⟩)
    (fun N d=>d.1+N=lb.length∧d.2≤2000∧gpS 60 (ez f) (la++lb) 1=gpS 60 (ez f) (lb.drop d.1++([]:List E)) d.2) lb.length (0,m) ⟨by simp,hm,hr2⟩ ?_ ?_
   ·(refine aC _ _ rfl rfl ?_ ?_<;>exact tdy1)
   rintro N ⟨i,m⟩ ⟨hN,hm,hr⟩
   dsimp only at hN hm hr ⊢
   have fin:(¬i<lb.length∨¬m≤60)→gpS 60 (ez f) (la++lb) 1=gpS 60 (ez f) (([]:List E)) m:=fun h=>by
    rw [hr]
    by_cases hm2:m≤60
    ·rw [List.drop_eq_nil_of_le omq,List.nil_append]
    ·rw [mU hm2,mU hm2]
   by_cases hgo:i<lb.length∧m≤60
   ·obtain⟨hk',hm2⟩:=hgo
    clear fin
    obtain⟨x,hx'⟩:∃x,lb[i]? = some x:=⟨_,List.getElem?_eq_getElem hk'⟩
    rw [gK hx',List.cons_append] at hr
    have hr2:gpS 60 (ez f) (x :: (lb.drop (i+1)++([]:List E))) m=gpS 60 (ez f) (lb.drop (i+1)++([]:List E)) (m+ez f x):=if_pos hm2
    rw [hr2] at hr
    have hxz:=E.szL_mem (List.mem_of_getElem? hx')
    have hxt:=hb x (List.mem_of_getElem? hx')
    have cx:=kR f omq x hxt omq
    have cle:=qY f x omq
    rw [show (6-(f:Int))=6-((f+1:Nat):Int)+1 by omega] at cx
    generalize ez f x=c at cx cle hr
    obtain⟨z0,z1,z2,zA,zc,zx,yA,yc,ya,wA,wc,yb,rfl,-⟩:=aQ hxt
    repeat' (first|(apply ay;first|refine bO ?_|(refine aU ?_ ?_<;>intro hG<;>(try cases hG))|refine ao ?_|refine ak ?_|refine bd ?_|refine bI ?_|refine aI cx ?_|refine aY ?_|refine dE ?_|refine aO ?_|refine bz ?_|refine aD ?_|refine aF ?_|refine aS ?_)|refine al ?_|refine ab ?_|refine aa fun C=>?_|refine ae ?_|refine ah ?_|refine ai ?_|refine au ?_|(refine aj (by rfl) ?_ ?_<;>intro hC<;>(try cases hC)))
    all_goals first
     | (exfalso;simp only [decide_eq_true_iff,decide_eq_false_iff_not] at *;omega)
     | (refine⟨N-1,(i+1,m+c),omq,⟨by show i+1+(N-1)=lb.length;omega,by show m+c≤2000;omega,hr⟩,?_⟩
        (refine aC _ _ rfl rfl ?_ ?_<;>(repeat' (first|exact TmOk.nil|exact RwOk.nil|refine TmOk.cons ?_ ?_|refine RwOk.cons ?_ ?_|rfl|exact aK rfl (by assumption)|(refine rnV_id' rfl ?_;exact byc)|(refine bv ?_;first|rfl|omega|(rw [aW omq omq];omega))|(refine aK rfl ?_;exact byc)|exact cb rfl rfl|(refine rw_mid (by rfl) (by rfl) ?_ ?_<;>exact byc)|(refine rw_rn' rfl rfl ?_;simp;done)))))
   have hr3:=fin omq
   rw [hr3]
   repeat' (first|(apply ay;first|refine bO ?_|(refine aU ?_ ?_<;>intro hG<;>(try cases hG))|refine ao ?_|refine ak ?_|refine bd ?_|refine aY ?_|refine aO ?_|refine bz ?_|refine aF ?_|refine aS ?_)|refine al ?_|refine ab ?_|refine aa fun C=>?_|refine ae ?_|refine ah ?_|refine ai ?_|refine au ?_|(refine aj (by rfl) ?_ ?_<;>intro hC<;>(try cases hC)))
   all_goals first
    | (refine am ?_;refine bi rfl aN ⟨?_,rfl⟩;rfl)
    | (exfalso;simp only [decide_eq_true_iff,decide_eq_false_iff_not] at *;omega)
theorem ot {l:List E}(hl:∀e∈l,e.Ty prog 106)(hk:∀e∈l,e.enc.length=6)(hlen:l.length≤1048576)(hc:∀x∈l,Ctr prog 174 [.ag (acE x)] [] (.c (.v (.bool (okY x)))) []):Ctr prog 210 [.c (.ro l.length 6 (acL l))] [] (.c (.v (.bool (l.all okY)))) []:=by
 refine av func210 rfl rfl ?_
 repeat' (first|(apply ay;refine ak ?_)|refine al ?_|refine ab ?_|refine aa fun C=>?_|refine ae ?_|refine ah ?_)
 refine aP (fun k:Nat=>⟨dA [(0,.c (.ro l.length 6 (acL l))),(3,.c (.v (.int .i64 (k:Int))))],dq [],0,[],16⟩)
  (fun N k=>k+N=l.length∧∀j y,j<k→l[j]? = some y→okY y=true) l.length 0 ⟨omq,fun j y hj=>absurd hj (Nat.not_lt_zero j)⟩ ?_ ?_
 ·(refine aC _ _ rfl rfl ?_ ?_<;>exact tdy0)
 rintro N k ⟨hN,hr⟩
 try dsimp only
 repeat' (first|(apply ay;first|refine ao ?_|refine aY ?_|refine aO ?_)|refine al ?_|refine ab ?_|refine aa fun C=>?_|refine ae ?_)
 refine aj (by rfl) (fun h1=>?_) fun h1=>?_
 ·have hk':k<l.length:=by simpa using h1
  obtain⟨x,hx'⟩:∃x,l[k]? = some x:=⟨_,List.getElem?_eq_getElem hk'⟩
  have hxt:=hl x (List.mem_of_getElem? hx')
  have cx:=hc x (List.mem_of_getElem? hx')
  cases hb2:okY x with
  | false =>
   have e0:l.all okY=false:=by
    cases ha2:l.all okY with
    | false=>rfl
    | true=>rw [List.all_eq_true.1 ha2 x (List.mem_of_getElem? hx')] at hb2;cases hb2
   rw [hb2] at cx
   rw [e0]
   obtain⟨z0,z1,z2,zA,zc,zx,yA,yc,ya,wA,wc,yb,rfl,-⟩:=aQ hxt
   repeat' (first|(apply ay;first|refine ao ?_|refine ak ?_|refine bI ?_|refine aI cx ?_|refine dE ?_|refine bF ?_)|refine al ?_|refine ab ?_|refine aa fun C=>?_|refine ae ?_|refine ah ?_|refine ai ?_|refine az rfl ?_)
   exact d9
  | true =>
   have hb3:=hb2
   rw [hb2] at cx
   obtain⟨z0,z1,z2,zA,zc,zx,yA,yc,ya,wA,wc,yb,rfl,-⟩:=aQ hxt
   repeat' (first|(apply ay;first|refine ao ?_|refine ak ?_|refine bI ?_|refine aI cx ?_|refine dE ?_|refine aD ?_|refine bF ?_)|refine al ?_|refine ab ?_|refine aa fun C=>?_|refine ae ?_|refine ah ?_|refine ai ?_|refine aE rfl ?_)
   refine⟨N-1,k+1,omq,⟨omq,fun j y hj hy=>?_⟩,?_⟩
   ·by_cases e:j=k
    ·rw [e,hx'] at hy;injection hy with hy;subst hy;exact hb3
    ·exact hr j y omq hy
   ·(refine aC _ _ rfl rfl ?_ ?_<;>exact tdy0)
 ·have hk':¬k<l.length:=by simpa using h1
  rw [show l.all okY=true from List.all_eq_true.2 fun y hy=>by
   obtain⟨j,hj⟩:=List.getElem?_of_mem hy
   have:=(List.getElem?_eq_some_iff.1 hj).1
   exact hr j y omq hj]
  repeat' (first|(apply ay;refine ak ?_)|refine al ?_|refine ab ?_|refine aa fun C=>?_|refine ae ?_|refine au ?_)
  exact d9
theorem vH:∀(n:Nat) (e:E),e.Ty prog 106→e.sz<n→n≤1048577→Ctr prog 174 [.ag (acE e)] [] (.c (.v (.bool (okY e)))) []
 | 0,_,_,h,_=>absurd h (Nat.not_lt_zero _)
 | n+1,e,he,hsz,hn=>by
  obtain⟨k0,s0,t0,xA,xc,xs,aA,ac,la,bA,bc,lb,rfl,-,gs,gt,⟨hx,kx⟩,⟨ha,ka⟩,⟨hb,kb⟩,-⟩:=aQ he
  simp only [E.sz,E.szL] at hsz
  have ch:=yp (k:=k0) (s:=s0) (t:=t0) omq omq (xs:=xs) (la:=la) (lb:=lb) omq omq omq hx kx
  have cA:=ot ha ka omq fun x hx=>vH n x (ha x hx) (by have:=E.szL_mem hx;have:=List.length_pos_of_mem hx;omega) omq
  have cB:=ot hb kb omq fun x hx=>vH n x (hb x hx) (by have:=E.szL_mem hx;have:=List.length_pos_of_mem hx;omega) omq
  have ek:okY (.agg [.int .i64 k0,.str s0,.str t0,.lst 4 70 xA xc xs,.lst 6 106 aA ac la,.lst 6 106 bA bc lb])=((la++lb).all okY&&fd k0 s0 t0 xs la.length lb.length):=jN hO _
  rw [ek,List.all_append]
  refine av func174 rfl rfl ?_
  repeat' (first|(apply ay;first|refine ak ?_|refine bL ?_)|refine al ?_|refine ab ?_|refine aa fun C=>?_|refine ae ?_|refine ah ?_)
  refine aP (fun k:Nat=>⟨dA [(1,.c (.pt 1 0)),(3,.c (.v (.int .i64 (k:Int))))],dq [(1,1,⟨106,0,0,true,[.v (.int .i64 k0),.v (.string s0),.v (.string t0),.ro xs.length 4 (acL xs),.ro la.length 6 (acL la),.ro lb.length 6 (acL lb)]⟩)],0,[1],30⟩)
   (fun N k=>k+N=xs.length∧∀j y,j<k→xs[j]? = some y→fZ y=true) xs.length 0 ⟨omq,fun j y hj=>absurd hj (Nat.not_lt_zero j)⟩ ?_ ?_
  ·(refine aC _ _ rfl rfl ?_ ?_<;>exact tdy0)
  rintro N k ⟨hN,hr⟩
  try dsimp only
  repeat' (first|(apply ay;first|refine ao ?_|refine bd ?_|refine aY ?_|refine aO ?_|refine aS ?_)|refine al ?_|refine ab ?_|refine aa fun C=>?_|refine ae ?_)
  refine aj (by rfl) (fun h1=>?_) fun h1=>?_
  ·have hk':k<xs.length:=by simpa using h1
   obtain⟨x,hx'⟩:∃x,xs[k]? = some x:=⟨_,List.getElem?_eq_getElem hk'⟩
   have hxz:=E.szL_mem (List.mem_of_getElem? hx')
   have hxt:=hx x (List.mem_of_getElem? hx')
   have cx:=jw hxt omq
   cases hb2:fZ x with
   | false =>
    have e0:fd k0 s0 t0 xs la.length lb.length=false:=by
     unfold fd
     cases ha2:xs.all fZ with
     | false=>rfl
     | true=>rw [List.all_eq_true.1 ha2 x (List.mem_of_getElem? hx')] at hb2;cases hb2
    rw [hb2] at cx
    rw [e0,Bool.and_false]
    obtain⟨y0,y1,y2,yA,yc,yl,rfl,-⟩:=aB hxt
    repeat' (first|(apply ay;first|refine ao ?_|refine ak ?_|refine bd ?_|refine bI ?_|refine aI cx ?_|refine dE ?_|refine bF ?_|refine aS ?_)|refine al ?_|refine ab ?_|refine aa fun C=>?_|refine ae ?_|refine ah ?_|refine ai ?_|refine az rfl ?_)
    exact d9
   | true =>
    have hb3:=hb2
    rw [hb2] at cx
    obtain⟨y0,y1,y2,yA,yc,yl,rfl,-⟩:=aB hxt
    repeat' (first|(apply ay;first|refine ao ?_|refine ak ?_|refine bd ?_|refine bI ?_|refine aI cx ?_|refine dE ?_|refine aD ?_|refine bF ?_|refine aS ?_)|refine al ?_|refine ab ?_|refine aa fun C=>?_|refine ae ?_|refine ah ?_|refine ai ?_|refine aE rfl ?_)
    refine⟨N-1,k+1,omq,⟨omq,fun j y hj hy=>?_⟩,?_⟩
    ·by_cases e:j=k
     ·rw [e,hx'] at hy;injection hy with hy;subst hy;exact hb3
     ·exact hr j y omq hy
    ·(refine aC _ _ rfl rfl ?_ ?_<;>exact tdy0)
  ·have hk':¬k<xs.length:=by simpa using h1
   have e0:xs.all fZ=true:=List.all_eq_true.2 fun y hy=>by
    obtain⟨j,hj⟩:=List.getElem?_of_mem hy
    have:=(List.getElem?_eq_some_iff.1 hj).1
    exact hr j y omq hj
   rw [show fd k0 s0 t0 xs la.length lb.length=dF k0 s0 t0 xs.length la.length lb.length (eW xs) by unfold fd;rw [e0,Bool.true_and]]
   generalize dF k0 s0 t0 xs.length la.length lb.length (eW xs)=b1 at ch ⊢
   generalize la.all okY=b2 at cA ⊢
   generalize lb.all okY=b3 at cB ⊢
   cases b1<;>cases b2
   all_goals
    repeat' (first|(apply ay;first|refine bO ?_|(refine aU ?_ ?_<;>intro hG<;>(try cases hG))|refine ak ?_|refine bd ?_|refine bu ?_|refine aI ch ?_|refine aI cA ?_|refine aI cB ?_|refine aF ?_|refine aS ?_)|refine al ?_|refine ab ?_|refine aa fun C=>?_|refine ae ?_|refine au ?_)
    refine am ?_;refine bi rfl aN ⟨?_,rfl⟩
    cases b3<;>rfl
theorem ou {e:E}(he:e.Ty prog 106)(hsz:e.sz≤1048576):Ctr prog 119 [.ag (acE e)] [] (.c (.v (.bool (ja e)))) []:=by
 have c1:=kR 5 omq e he hsz
 have c2:=vH (e.sz+1) e he omq omq
 rw [show (6-((5:Nat):Int))=1 from rfl] at c1
 unfold ja
 generalize ez 5 e=c at c1 ⊢
 generalize okY e=b at c2 ⊢
 obtain⟨k0,s0,t0,xA,xc,xs,aA,ac,la,bA,bc,lb,rfl,-,gs,gt,⟨hx,kx⟩,⟨ha,ka⟩,⟨hb,kb⟩,-⟩:=aQ he
 by_cases hc:c≤60
 ·rw [show decide (c≤60)=true from decide_eq_true hc,Bool.true_and]
  refine av func119 rfl rfl ?_
  repeat' (first|(apply ay;first|refine bO ?_|(refine aU ?_ ?_<;>intro hG<;>(try cases hG))|refine ak ?_|refine bu ?_|refine aI c1 ?_|refine aI c2 ?_|refine bz ?_|refine aF ?_|refine bL ?_)|refine al ?_|refine ab ?_|refine aa fun C=>?_|refine ae ?_)
  all_goals first
   | (exfalso;simp only [decide_eq_true_iff,decide_eq_false_iff_not] at *;omega)
   | (refine am ?_;refine bi rfl aN ⟨?_,rfl⟩;rfl)
 ·rw [show decide (c≤60)=false from decide_eq_false hc,Bool.false_and]
  refine av func119 rfl rfl ?_
  repeat' (first|(apply ay;first|refine bO ?_|(refine aU ?_ ?_<;>intro hG<;>(try cases hG))|refine ak ?_|refine bu ?_|refine aI c1 ?_|refine aI c2 ?_|refine bz ?_|refine aF ?_|refine bL ?_)|refine al ?_|refine ab ?_|refine aa fun C=>?_|refine ae ?_)
  all_goals first
   | (exfalso;simp only [decide_eq_true_iff,decide_eq_false_iff_not] at *;omega)
   | (refine am ?_;refine bi rfl aN ⟨?_,rfl⟩;rfl)
end Go.Proofs.YtmnneflenebgmaaGreat
