/- T -/
import Derived.Test.YtmnneflenebgmaaGreatCnOS
set_option maxHeartbeats 0
set_option maxRecDepth 100000
namespace Go.Proofs.YtmnneflenebgmaaGreat
open Go.RowKit Go.Proofs.Tryz
theorem mO {c:Nat}(hc:c<256):Ctr prog 271 [.c (.v (.int .u8 (c:Int)))] [] (.c (.v (.bool (lm c)))) []:=by
 have h2:=nR hc
 refine av func271 rfl rfl ?_
 repeat' (first|(apply ay;first|refine bO ?_|(refine aU ?_ ?_<;>intro hG<;>(try cases hG))|refine ao ?_|refine ak ?_|refine aI ((ir _ _ _)) ?_|refine aI h2 ?_|refine bQ ?_|refine aF ?_|refine iq ?_)|refine al ?_|refine ab ?_|refine aa fun C=>?_|refine ae ?_)
 all_goals
  (first|refine am ?_|skip);refine bi rfl aN ⟨?_,rfl⟩;refine congrArg (fun s=>AV.c (AC.v (Value.bool s))) ?_
  clear h2
  unfold lm
  simp only [inR,xp,Bool.or_eq_true,Bool.and_eq_true,decide_eq_true_iff,beq_iff_eq,Bool.and_eq_false_iff,decide_eq_false_iff_not] at *
  (rw [Bool.eq_iff_iff];(try simp only [Bool.and_eq_true,Bool.or_eq_true,Bool.not_eq_true',decide_eq_true_iff,decide_eq_false_iff_not,beq_iff_eq,Bool.and_eq_false_iff,Bool.or_eq_false_iff,bne_iff_ne,ne_eq,Bool.true_eq_false,Bool.false_eq_true,true_iff,false_iff,iff_true,iff_false] at *);first|omega|(simp at *;omega))
theorem kG (k:Int):Ctr prog 270 [.c (.v (.int .i64 k))] [] (.c (.v (.bool (fy k)))) []:=by
 refine av func270 rfl rfl ?_
 repeat' (first|(apply ay;first|refine bO ?_|(refine aU ?_ ?_<;>intro hG<;>(try cases hG))|refine ao ?_|refine ak ?_|refine aq ?_|refine aF ?_)|refine al ?_|refine ab ?_|refine aa fun C=>?_|refine ae ?_)
 all_goals
  (first|refine am ?_|skip);refine bi rfl aN ⟨?_,rfl⟩;refine congrArg (fun s=>AV.c (AC.v (Value.bool s))) ?_
  unfold fy
  (rw [Bool.eq_iff_iff];(try simp only [Bool.and_eq_true,Bool.or_eq_true,Bool.not_eq_true',decide_eq_true_iff,decide_eq_false_iff_not,beq_iff_eq,Bool.and_eq_false_iff,Bool.or_eq_false_iff,bne_iff_ne,ne_eq,Bool.true_eq_false,Bool.false_eq_true,true_iff,false_iff,iff_true,iff_false] at *);first|omega|(simp at *;omega))
theorem zt {s:ByteArray}(hs:s.size≤1073741824):Ctr prog 272 [.c (.v (.string s))] [] (.c (.v (.bool (gu s)))) []:=by
 refine av func272 rfl rfl ?_
 repeat' (first|(apply ay;refine ak ?_)|refine al ?_|refine ab ?_|refine aa fun C=>?_|refine ae ?_|refine ah ?_)
 refine aP (fun k:Nat=>⟨dA [(0,.c (.v (.string s))),(3,.c (.v (.int .i64 k)))],dq [],0,[],32⟩) (fun N k=>k+N=s.size∧∀j,j<k→et s j=true) s.size 0 ⟨omq,fun j hj=>by omega⟩ ?_ ?_
 ·(refine aC _ _ rfl rfl ?_ ?_<;>exact tdy0)
 rintro N k ⟨hN,hall⟩
 repeat' (first|(apply ay;first|refine ao ?_|refine dk ?_|refine aO ?_)|refine al ?_|refine ab ?_|refine aa fun C=>?_|refine ae ?_)
 refine aj (by rfl) (fun h1=>?_) fun h1=>?_
 ·have hk:k<s.size:=by simpa using h1
  have hl:=mO (fu s k)
  cases k with
  | zero =>
   repeat' (first|(apply ay;first|refine ao ?_|refine ak ?_|refine aD ?_)|refine al ?_|refine ab ?_|(apply fH;first|refine nh ?_|(refine lK ?_ ?_<;>intro hG<;>(try cases hG))|(apply gg;refine bg ?_)|refine fO hl ?_|(apply lL;refine bg ?_)|refine iS ?_|refine bg ?_)|refine al ?_|refine ab ?_|refine aa fun C=>?_|refine ar (by kernel_rfl) (by kernel_rfl) fun C=>?_|refine ae ?_|refine ah ?_|refine ai ?_|(refine aj (by rfl) ?_ ?_<;>intro hC<;>(try cases hC)))
   all_goals first
    | (exfalso;revert hG;simp;done)
    | (refine am ?_
       refine bi (x:=.c (.v (.bool false))) rfl aN ⟨?_,rfl⟩
       rw [jQ hk (by unfold et;simp_all)])
    | (refine⟨N-1,1,omq,⟨omq,fun j hj=>?_⟩,?_⟩
       ·obtain rfl:j=0:=by omega
        unfold et;simp_all
       ·(refine aC _ _ rfl rfl ?_ ?_<;>(repeat' (first|exact TmOk.nil|exact RwOk.nil|refine TmOk.cons ?_ ?_|refine RwOk.cons ?_ ?_|rfl|(refine rnV_id' rfl ?_;exact byc)|(refine bv ?_;first|rfl|omega|(rw [aW omq omq];omega))|(refine aK rfl ?_;exact byc)|exact cb rfl rfl|(refine rw_mid (by rfl) (by rfl) ?_ ?_<;>exact byc)|(refine rw_rn' rfl rfl ?_;simp;done)))))
  | succ m =>
   have hm:((m+1:Nat):Int)-1=(m:Int):=by omega
   repeat' (first|(apply ay;first|refine ao ?_|refine ak ?_|refine aD ?_)|refine al ?_|refine ab ?_|(apply fH;first|refine nh ?_|(refine lK ?_ ?_<;>intro hG<;>(try cases hG))|(apply gg;refine bg ?_)|refine fO hl ?_|(apply lL;first|refine nO ?_|refine bg ?_)|refine iS ?_|refine bg ?_)|refine al ?_|refine ab ?_|refine aa fun C=>?_|refine ar (by kernel_rfl) (by kernel_rfl) fun C=>?_|refine ae ?_|refine ah ?_|refine ai ?_|(refine aj (by rfl) ?_ ?_<;>intro hC<;>(try cases hC)))
   all_goals first
    | (refine am ?_
       refine bi (x:=.c (.v (.bool false))) rfl aN ⟨?_,rfl⟩
       rw [jQ hk (by unfold et;simp_all;try omega)])
    | (refine⟨N-1,m+2,omq,⟨omq,fun j hj=>?_⟩,?_⟩
       ·rcases Nat.lt_or_ge j (m+1) with h|h
        ·exact hall j h
        ·obtain rfl:j=m+1:=by omega
         unfold et;simp_all;try omega
       ·(refine aC _ _ rfl rfl ?_ ?_<;>(repeat' (first|exact TmOk.nil|exact RwOk.nil|refine TmOk.cons ?_ ?_|refine RwOk.cons ?_ ?_|rfl|(refine rnV_id' rfl ?_;exact byc)|(refine bv ?_;first|rfl|omega|(rw [aW omq omq];omega))|(refine aK rfl ?_;exact byc)|exact cb rfl rfl|(refine rw_mid (by rfl) (by rfl) ?_ ?_<;>exact byc)|(refine rw_rn' rfl rfl ?_;simp;done)))))
    | skip
 ·repeat' (first|(apply ay;first|refine ao ?_|refine ak ?_|refine aI ((ir _ _ _)) ?_|refine dk ?_)|refine al ?_|refine ab ?_|refine aa fun C=>?_|refine ae ?_|refine au ?_)
  refine am ?_
  refine bi rfl aN ⟨?_,rfl⟩
  rw [n4 fun j hj=>hall j (by simp at h1;omega)]
  refine congrArg (fun s=>AV.c (AC.v (Value.bool s))) ?_
  unfold inR
  (rw [Bool.eq_iff_iff];(try simp only [Bool.and_eq_true,Bool.or_eq_true,Bool.not_eq_true',decide_eq_true_iff,decide_eq_false_iff_not,beq_iff_eq,Bool.and_eq_false_iff,Bool.or_eq_false_iff,bne_iff_ne,ne_eq,Bool.true_eq_false,Bool.false_eq_true,true_iff,false_iff,iff_true,iff_false] at *);first|omega|(simp at *;omega))
theorem vf {g:E→Nat}{B:Nat}:∀(l:List E) (n:Nat),(∀x∈l,g x≤B)→lP g l n≤max n (60+B)
 | [],n,_=>by unfold lP;omega
 | x :: r,n,h=>by
  unfold lP
  split
  ·have h1:=h x List.mem_cons_self
   have:=vf r (n+g x) fun y hy=>h y (List.mem_cons_of_mem _ hy)
   omega
  ·omega
theorem n9:∀(f:Nat) (e:E),c9 f e≤61+60*f
 | 0,_=>by unfold c9;omega
 | f+1,e=>by
  have:=vf e.rl 1 fun x _=>n9 f x
  unfold c9;omega
theorem vg {g:E→Nat}:∀(l:List E) {n:Nat},60<n→lP g l n=n
 | [],_,_=>rfl
 | x :: r,n,h=>by unfold lP;rw [if_neg omq]
theorem vh (f:Nat):∀(e:E) (deep:Nat),f≤6→e.Ty prog 39→e.sz≤4194304→deep+f=7→Ctr prog 265 [.ag (acE e),.c (.v (.int .i64 (deep:Int)))] [] (.c (.v (.int .i64 ((c9 f e:Nat):Int)))) []:=by
 induction f with
 | zero =>
  intro e deep hf he hsz hd
  obtain⟨x0,x1,x2A,x2c,l,rfl,gx0,gx1,gx2,-⟩:=aR he
  obtain rfl:deep=7:=by omega
  refine av func265 rfl rfl ?_
  repeat' (first|(apply ay;first|refine ao ?_|refine ak ?_|refine a8 ?_|refine bL ?_)|refine al ?_|refine ab ?_|refine aa fun C=>?_|refine ae ?_|refine az rfl ?_)
  refine am ?_
  exact bi (x:=.c (.v (.int .i64 61))) rfl aN ⟨rfl,rfl⟩
 | succ f ih =>
  intro e deep hf he hsz hd
  obtain⟨x0,x1,x2A,x2c,l,rfl,gx0,gx1,gx2,-⟩:=aR he
  simp only [E.sz,E.szL] at hsz
  have hl:l.length≤4194304:=by omega
  refine av func265 rfl rfl ?_
  have hres:c9 (f+1) (E.agg [.int .i64 x0,.str x1,.lst 3 39 x2A x2c l])=lP (c9 f) l 1:=rfl
  rw [hres]
  clear hres
  generalize hT:lP (c9 f) l 1=tot
  repeat' (first|(apply ay;first|refine ao ?_|refine ak ?_|refine a8 ?_|refine bL ?_)|refine al ?_|refine ab ?_|refine aa fun C=>?_|refine ae ?_)
  refine aj (by rfl) (fun h=>by exfalso;simp at h;omega) fun _=>?_
  repeat' (first|(apply ay;refine ak ?_)|refine al ?_|refine ab ?_|refine aa fun C=>?_|refine ae ?_|refine ah ?_|refine ai ?_)
  refine aP (fun d:Nat×Nat=>⟨dA [(1,.c (.v (.int .i64 (deep:Int)))),(2,.c (.pt 2 0)),(5,.c (.v (.int .i64 (d.2:Int)))),(6,.c (.v (.int .i64 (d.1:Int))))],dq [(2,2,⟨39,0,0,true,[.v (.int .i64 x0),.v (.string x1),.ro l.length 3 (acL l)]⟩)],0,[2],31⟩) (fun N d=>d.1+N=l.length∧d.2≤600∧lP (c9 f) (l.drop d.1) d.2=tot) l.length (0,1) ⟨by simp,by simp,hT⟩ ?_ ?_
  ·(refine aC _ _ rfl rfl ?_ ?_<;>exact tdy0)
  rintro N ⟨k,n⟩ ⟨hN,hn,hs⟩
  dsimp only at hN hn hs ⊢
  repeat' (first|(apply ay;first|refine bO ?_|(refine aU ?_ ?_<;>intro hG<;>(try cases hG))|refine ao ?_|refine bd ?_|refine aY ?_|refine aO ?_|refine bz ?_|refine aF ?_|refine aS ?_)|refine al ?_|refine ab ?_|refine aa fun C=>?_|refine ae ?_)
  ·have hk:k<l.length:=by simpa using hG
   obtain⟨x,hx⟩:∃x,l[k]? = some x:=⟨_,List.getElem?_eq_getElem hk⟩
   have hd1:l.drop k=x :: l.drop (k+1):=by rw [List.drop_eq_getElem_cons hk];congr 1;rw [List.getElem?_eq_getElem hk] at hx;exact Option.some.inj hx
   refine aj (by rfl) (fun h2=>?_) fun h2=>?_
   ·have hn2:n≤60:=by simp only [decide_eq_true_iff] at h2;omega
    have hxt:=gx2.1 x (List.mem_of_getElem? hx)
    have hxs:=E.szL_mem (List.mem_of_getElem? hx)
    have hc:=ih x (deep+1) omq hxt omq omq
    have hb:=n9 f x
    rw [hd1] at hs
    unfold lP at hs
    rw [if_pos hn2] at hs
    have hgk:=gx2.2
    obtain⟨y0,y1,y2A,y2c,y2l,rfl,gy0,gy1,gy2,-⟩:=aR hxt
    repeat' (first|(apply ay;first|refine ao ?_|refine ak ?_|refine bd ?_|refine bI ?_|refine aI hc ?_|refine dE ?_|refine aD ?_|refine aS ?_)|refine al ?_|refine ab ?_|refine aa fun C=>?_|refine ae ?_|refine ah ?_|refine ai ?_)
    refine⟨N-1,(k+1,n+c9 f (E.agg [.int .i64 y0,.str y1,.lst 3 39 y2A y2c y2l])),omq,⟨by dsimp only;omega,by dsimp only;omega,hs⟩,?_⟩
    (refine aC _ _ rfl rfl ?_ ?_<;>exact tdy0)
   ·have hn2:60<n:=by simp only [decide_eq_false_iff_not] at h2;omega
    rw [vg _ hn2] at hs
    repeat' (first|(apply ay;first|refine ao ?_|refine ak ?_)|refine al ?_|refine ab ?_|refine aa fun C=>?_|refine ae ?_|refine au ?_)
    refine am ?_
    refine bi (x:=.c (.v (.int .i64 (n:Int)))) rfl aN ⟨?_,rfl⟩
    rw [hs]
  ·have hk:k=l.length:=by simp at hG;omega
   repeat' (first|(apply ay;first|refine ao ?_|refine ak ?_)|refine al ?_|refine ab ?_|refine aa fun C=>?_|refine ae ?_|refine au ?_|refine aE rfl ?_)
   refine am ?_
   refine bi (x:=.c (.v (.int .i64 (n:Int)))) rfl aN ⟨?_,rfl⟩
   rw [hk,List.drop_length] at hs
   rw [←hs];rfl
theorem vi {f:Nat}{e:E}(h:c9 (f+1) e≤60):∀x∈e.rl,c9 f x≤60:=by unfold c9 at h;exact (kq h).2
def xO (f:Nat)(k:Int)(x:E):Bool:=okS f x&&!(x.rk==k&&!fy k)
theorem zu {f:Nat}{x0:Int}{x1:ByteArray}{A:Option Addr}{c:Nat}{l:List E}:okS (f+1) (E.agg [.int .i64 x0,.str x1,.lst 3 39 A c l])=(l.all (xO f x0)&&eO x0 x1 l):=rfl
theorem zz3 {p:E→Bool}{l:List E}{k:Nat}{x:E}(hx:l[k]? = some x)(h:p x=false):l.all p=false:=List.all_eq_false.2 ⟨x,List.mem_of_getElem? hx,by simp [h]⟩
theorem zv {p:E→Bool}{l:List E}(h:∀j y,j<l.length→l[j]? = some y→p y=true):l.all p=true:=List.all_eq_true.2 fun y hy=>by
 obtain⟨j,hj,rfl⟩:=List.getElem_of_mem hy
 exact h j _ hj (List.getElem?_eq_getElem hj)
theorem za4 (f:Nat):∀(e:E),e.Ty prog 39→e.sz≤4194304→c9 f e≤60→Ctr prog 266 [.ag (acE e)] [] (.c (.v (.bool (okS f e)))) []:=by
 induction f with
 | zero=>intro e _ _ h;exact absurd h (by unfold c9;omega)
 | succ f ih =>
  intro e he hsz hp
  have hkid:=vi hp
  obtain⟨x0,x1,x2A,x2c,l,rfl,gx0,gx1,gx2,-⟩:=aR he
  have hkid:∀x∈l,c9 f x≤60:=hkid
  simp only [E.sz,E.szL] at hsz
  have hl:l.length≤4194304:=by omega
  rw [zu]
  refine av func266 rfl rfl ?_
  repeat' (first|(apply ay;first|refine ak ?_|refine bL ?_)|refine al ?_|refine ab ?_|refine aa fun C=>?_|refine ae ?_|refine ah ?_)
  refine aP (fun k:Nat=>⟨dA [(1,.c (.pt 1 0)),(3,.c (.v (.int .i64 (k:Int))))],dq [(1,1,⟨39,0,0,true,[.v (.int .i64 x0),.v (.string x1),.ro l.length 3 (acL l)]⟩)],0,[1],114⟩) (fun N k=>k+N=l.length∧∀j y,j<k→l[j]? = some y→xO f x0 y=true) l.length 0 ⟨omq,omq⟩ ?_ ?_
  ·(refine aC _ _ rfl rfl ?_ ?_<;>exact tdy0)
  rintro N k ⟨hN,hno⟩
  repeat' (first|(apply ay;first|refine ao ?_|refine bd ?_|refine aL ?_|refine aY ?_|refine aO ?_)|refine al ?_|refine ab ?_|refine aa fun C=>?_|refine ae ?_)
  refine aj (by rfl) (fun h1=>?_) fun h1=>?_
  ·have hk':k<l.length:=by simpa using h1
   obtain⟨x,hx⟩:∃x,l[k]? = some x:=⟨_,List.getElem?_eq_getElem hk'⟩
   have hxm:=List.mem_of_getElem? hx
   have hxt:=gx2.1 x hxm
   have hxz:=E.szL_mem hxm
   have hgk:=gx2.2
   have hc:=ih x hxt omq (hkid x hxm)
   have hrk:∀y0 y1 A c l',x=E.agg [.int .i64 y0,.str y1,.lst 3 39 A c l']→xO f x0 x=(okS f x&&!(y0==x0&&!fy x0)):=fun y0 y1 A c l' e=>by subst e;rfl
   obtain⟨y0,y1,y2A,y2c,y2l,rfl,gy0,gy1,gy2,-⟩:=aR hxt
   have hrk:=hrk _ _ _ _ _ rfl
   generalize hok:okS f (E.agg [E.int IntKind.i64 y0,E.str y1,E.lst 3 39 y2A y2c y2l])=ok at hc hrk
   repeat' (first|(apply ay;first|refine ao ?_|refine ak ?_|refine aD ?_)|refine al ?_|refine ab ?_|(apply fH;first|refine nh ?_|(refine lK ?_ ?_<;>intro hG<;>(try cases hG))|(apply gg;refine bg ?_)|refine gX ?_|refine o_far ?_|refine dJ ?_|refine qH ?_|refine qI ?_|refine fO hc ?_|refine fO ((kG _)) ?_|refine o_ix ?_|(apply lL;refine bg ?_)|refine bg ?_)|refine al ?_|refine ab ?_|refine aa fun C=>?_|refine ar (by kernel_rfl) (by kernel_rfl) fun C=>?_|refine ae ?_|refine ah ?_|refine ai ?_|(refine aj (by rfl) ?_ ?_<;>intro hC<;>(try cases hC)))
   all_goals first
    | (refine am ?_
       refine bi (x:=.c (.v (.bool false))) rfl aN ⟨?_,rfl⟩
       rw [zz3 hx (by rw [hrk];clear hc ih;simp_all),Bool.false_and])
    | (refine⟨N-1,k+1,omq,⟨omq,fun j z hj hz=>?_⟩,?_⟩
       ·by_cases e:j=k
        ·rw [e,hx] at hz;injection hz with hz;subst hz;rw [hrk];clear hc ih;simp_all
        ·exact hno j z omq hz
       ·(refine aC _ _ rfl rfl ?_ ?_<;>(repeat' (first|exact TmOk.nil|exact RwOk.nil|refine TmOk.cons ?_ ?_|refine RwOk.cons ?_ ?_|rfl|(refine rnV_id' rfl ?_;exact byc)|(refine bv ?_;first|rfl|omega|(rw [aW omq omq];omega))|(refine aK rfl ?_;exact byc)|exact cb rfl rfl|(refine rw_mid (by rfl) (by rfl) ?_ ?_<;>exact byc)|(refine rw_rn' rfl rfl ?_;simp;done)))))
  ·have hk':¬k<l.length:=by simpa using h1
   rw [zv (p:=xO f x0) fun j y hj hy=>hno j y omq hy,Bool.true_and]
   clear hno h1 ih hN hp
   have c1:=zt (s:=x1) omq
   have c2:=mO (fu x1 0)
   by_cases hin:x0=1∨x0=2∨x0=3∨x0=4∨x0=5∨x0=9∨x0=10∨x0=11
   ·rcases hin with rfl|rfl|rfl|rfl|rfl|rfl|rfl|rfl
    all_goals
     repeat' (first|(apply ay;first|refine bO ?_|(refine aU ?_ ?_<;>intro hG<;>(try cases hG))|refine ak ?_|refine bd ?_|refine aL ?_|refine aI c1 ?_|refine aI c2 ?_|refine aI ((ir _ _ _)) ?_|refine aY ?_|refine dk ?_|refine aq ?_|refine bG ?_|refine aF ?_|refine gN ?_)|refine al ?_|refine ab ?_|refine aa fun C=>?_|refine ae ?_|refine ah ?_|refine ai ?_|refine au ?_|(refine aj (by rfl) ?_ ?_<;>intro hC<;>(try cases hC)))
    all_goals
     (first|refine am ?_|skip);refine bi rfl aN ⟨?_,rfl⟩;refine congrArg (fun s=>AV.c (AC.v (Value.bool s))) ?_
     clear c1 c2 gx0 gx1 gx2 he hsz hkid
     unfold eO
     (try simp only [mL,ib0,ib1,xI] at *)
     first
      | (simp_all;done)
      | (simp_all;intros;omega)
   by_cases hlp:x0=6∨x0=7∨x0=8
   ·by_cases hl1:l.length=1
    ·obtain⟨y,hy⟩:∃y,l[0]? = some y:=⟨_,List.getElem?_eq_getElem omq⟩
     have hl2:l=[y]:=qR hl1 hy
     have hyt:=gx2.1 y (List.mem_of_getElem? hy)
     have hgk:=gx2.2
     obtain⟨y0,y1,y2A,y2c,y2l,rfl,gy0,gy1,gy2,-⟩:=aR hyt
     have hr:eO x0 x1 l=(x1.size==0&&!(fy y0)):=by
      rw [hl2];unfold eO
      rcases hlp with rfl|rfl|rfl<;>simp [E.rk]
     rw [hr]
     clear hr
     rcases hlp with rfl|rfl|rfl
     all_goals
      repeat' (first|(apply ay;first|refine bO ?_|(refine aU ?_ ?_<;>intro hG<;>(try cases hG))|refine ak ?_|refine bd ?_|refine gO ?_|refine aL ?_|refine dC ?_|refine aI ((kG _)) ?_|refine aY ?_|refine dE ?_|refine aq ?_|refine bG ?_|refine bF ?_|refine aF ?_)|refine al ?_|refine ab ?_|refine aa fun C=>?_|refine ae ?_|refine ah ?_|refine ai ?_|refine au ?_|(refine aj (by rfl) ?_ ?_<;>intro hC<;>(try cases hC)))
     all_goals
      (first|refine am ?_|skip);refine bi rfl aN ⟨?_,rfl⟩;refine congrArg (fun s=>AV.c (AC.v (Value.bool s))) ?_
      clear c1 c2 gx0 gx1 gx2 he hsz hkid hgk hyt gy0 gy1 gy2
      (try simp only [mL,ib0,ib1,xI] at *)
      first
       | (simp_all;done)
       | (simp_all;intros;omega)
    ·have hr:eO x0 x1 l=false:=by
      unfold eO
      rcases hlp with rfl|rfl|rfl<;>simp [hl1]
     have hl1':((l.length:Int)==1)=false:=by rw [ib1];simpa using hl1
     rw [hr]
     clear hr
     rcases hlp with rfl|rfl|rfl
     all_goals
      repeat' (first|(apply ay;first|refine bO ?_|(refine aU ?_ ?_<;>intro hG<;>(try cases hG))|refine ak ?_|refine bd ?_|refine aL ?_|refine aY ?_|refine aq ?_|refine aF ?_)|refine al ?_|refine ab ?_|refine aa fun C=>?_|refine ae ?_|refine ah ?_|refine ai ?_|refine au ?_|(refine aj (by rfl) ?_ ?_<;>intro hC<;>(try cases hC)))
     all_goals first
      | (exfalso;rw [hl1'] at hG;cases hG;done)
      | ((first|refine am ?_|skip);refine bi rfl aN ⟨?_,rfl⟩;refine congrArg (fun s=>AV.c (AC.v (Value.bool s))) ?_;rfl)
   have hk0:∀k:Int,1≤k→k≤11→x0≠k:=fun k g1 g2 g3=>by omega
   rw [qS hk0]
   repeat' (first|(apply ay;first|refine ak ?_|refine bd ?_|refine aL ?_|refine aq ?_)|refine al ?_|refine ab ?_|refine aa fun C=>?_|refine ae ?_|refine ah ?_|refine au ?_)
   iterate 20
    (first
      | refine aE rfl ?_
      | refine aj (by rfl) (fun hC=>absurd (eq_of_beq hC) (hk0 _ omq omq)) fun hC=>?_
      | skip)<;>repeat' (first|(apply ay;first|refine ak ?_|refine aq ?_)|refine al ?_|refine ab ?_|refine aa fun C=>?_|refine ae ?_|refine ai ?_)
   (first|refine am ?_|skip);refine bi rfl aN ⟨?_,rfl⟩;refine congrArg (fun s=>AV.c (AC.v (Value.bool s))) ?_
   rfl
theorem pv {e:E}(he:e.Ty prog 39)(hsz:e.sz≤4194304):Ctr prog 262 [.ag (acE e)] [] (.c (.v (.bool (ko e)))) []:=by
 have c1:=vh 6 e 1 omq he hsz rfl
 by_cases hp:c9 6 e≤60
 ·have c2:=za4 6 e he hsz hp
  have hr:ko e=okS 6 e:=by unfold ko;rw [decide_eq_true hp,Bool.true_and]
  rw [hr]
  clear hr
  obtain⟨x0,x1,x2A,x2c,l,rfl,gx0,gx1,gx2,-⟩:=aR he
  refine av func262 rfl rfl ?_
  repeat' (first|(apply ay;first|refine bO ?_|(refine aU ?_ ?_<;>intro hG<;>(try cases hG))|refine ak ?_|refine bu ?_|refine aI c1 ?_|refine aI c2 ?_|refine bz ?_|refine aF ?_|refine bL ?_)|refine al ?_|refine ab ?_|refine aa fun C=>?_|refine ae ?_)
  ·(first|refine am ?_|skip);refine bi rfl aN ⟨?_,rfl⟩;refine congrArg (fun s=>AV.c (AC.v (Value.bool s))) ?_
   rfl
  ·exfalso;simp only [decide_eq_false_iff_not] at hG;omega
 ·have hr:ko e=false:=by unfold ko;rw [decide_eq_false hp,Bool.false_and]
  rw [hr]
  clear hr
  obtain⟨x0,x1,x2A,x2c,l,rfl,gx0,gx1,gx2,-⟩:=aR he
  refine av func262 rfl rfl ?_
  repeat' (first|(apply ay;first|refine bO ?_|(refine aU ?_ ?_<;>intro hG<;>(try cases hG))|refine ak ?_|refine bu ?_|refine aI c1 ?_|refine bz ?_|refine aF ?_|refine bL ?_)|refine al ?_|refine ab ?_|refine aa fun C=>?_|refine ae ?_)
  ·exfalso;simp only [decide_eq_true_iff] at hG;omega
  ·skip
   (first|refine am ?_|skip);refine bi rfl aN ⟨?_,rfl⟩;refine congrArg (fun s=>AV.c (AC.v (Value.bool s))) ?_
   rfl
theorem qV {g:E→ByteArray}{b:ByteArray}(hb:b.size≤1){l:List E}(hl:∀x∈l,x.Ty prog 39)(hk3:∀x∈l,x.enc.length=3)(hlen:l.length≤8)(hsz:∀x∈l,(g x).size≤960)
 (hg:∀x∈l,Ctr prog 263 [.ag (acE x)] [] (.c (.v (.string (g x)))) []) :
 Ctr prog 267 [.c (.ro l.length 3 (acL l)),.c (.v (.string b)),.c (.v (.int .i64 5))] [] (.c (.v (.string (eg g b l)))) []:=by
 refine av func267 rfl rfl ?_
 repeat' (first|(apply ay;refine ak ?_)|refine al ?_|refine ab ?_|refine aa fun C=>?_|refine ae ?_|refine ah ?_)
 refine aP (fun k:Nat=>⟨dA [(0,.c (.ro l.length 3 (acL l))),(1,.c (.v (.string b))),(2,.c (.v (.int .i64 5))),(7,.c (.v (.string (eg g b (l.take k))))),(8,.c (.v (.int .i64 k)))],dq [],0,[],44⟩)
  (fun N k=>k+N=l.length) l.length 0 omq ?_ ?_
 ·(refine aC _ _ rfl rfl ?_ ?_<;>exact tdy0)
 rintro N k hN
 repeat' (first|(apply ay;first|refine ao ?_|refine aY ?_|refine aO ?_)|refine al ?_|refine ab ?_|refine aa fun C=>?_|refine ae ?_)
 refine aj (by rfl) (fun hk1=>?_) fun hk1=>?_
 ·have hk':k<l.length:=by simpa using hk1
  obtain⟨x,hx⟩:∃x,l[k]? = some x:=⟨_,List.getElem?_eq_getElem hk'⟩
  have hxm:=List.mem_of_getElem? hx
  have hxt:=hl x hxm
  have hc:=hg x hxm
  have hz1:=gI (b:=b) hsz k omq
  have hz2:=hsz x hxm
  have hz3:k*(960+2+b.size)≤8*963:=Nat.mul_le_mul omq omq
  have e:=gH g b hx
  have o1:(ByteArray.mk #[40]).size=1:=rfl
  have o2:(ByteArray.mk #[41]).size=1:=rfl
  have hgk:=hk3
  have hkk:∀y0 y1 A c l',x=E.agg [.int .i64 y0,.str y1,.lst 3 39 A c l']→brk g x=if y0=5 then ⟨#[40]⟩++g x++⟨#[41]⟩ else g x:=fun y0 y1 A c l' h=>by subst h;rfl
  obtain⟨y0,y1,y2A,y2c,y2l,rfl,gy0,gy1,gy2,-⟩:=aR hxt
  have hkk:=hkk _ _ _ _ _ rfl
  rw [hkk] at e
  generalize hgx:g (E.agg [E.int IntKind.i64 y0,E.str y1,E.lst 3 39 y2A y2c y2l])=t at hc hz2 e
  generalize hJ:eg g b (l.take k)=J at hz1 e ⊢
  have s1:(J++b).size=J.size+b.size:=ByteArray.size_append' ..
  have s2:(J++b++⟨#[40]⟩).size=J.size+b.size+1:=by rw [ByteArray.size_append',s1];rfl
  have s3:(J++⟨#[40]⟩).size=J.size+1:=by rw [ByteArray.size_append'];rfl
  have s4:(J++b++⟨#[40]⟩++t).size=J.size+b.size+1+t.size:=by rw [ByteArray.size_append',s2]
  have s5:(J++⟨#[40]⟩++t).size=J.size+1+t.size:=by rw [ByteArray.size_append',s3]
  repeat' (first|(apply ay;first|refine ao ?_|refine a8 ?_)|refine al ?_|refine ab ?_|refine aa fun C=>?_|refine ae ?_|refine ah ?_|refine ai ?_)
  by_cases hk0:k=0
  ·subst hk0
   refine aE rfl ?_
   repeat' (first|(apply ay;first|refine ao ?_|refine gO ?_|refine dC ?_|refine dE ?_|refine aq ?_)|refine al ?_|refine ab ?_|refine aa fun C=>?_|refine ae ?_|refine ai ?_)
   obtain rfl:J=ByteArray.empty:=hJ.symm
   refine aj (by rfl) (fun h5=>?_) fun h5=>?_
   ·repeat' (first|(apply ay;first|refine ao ?_|refine ak ?_|refine bI ?_|refine aI hc ?_|refine dE ?_|refine aD ?_|refine fx ?_)|refine al ?_|refine ab ?_|refine aa fun C=>?_)
    refine⟨N-1,1,omq,omq,?_⟩
    rw [e,if_pos rfl,if_pos (eq_of_beq h5)]
    simp only [iZ,gv]
    (refine aC _ _ rfl rfl ?_ ?_<;>exact tdy0)
   ·repeat' (first|(apply ay;first|refine ao ?_|refine ak ?_|refine bI ?_|refine aI hc ?_|refine dE ?_|refine aD ?_|refine fx ?_)|refine al ?_|refine ab ?_|refine aa fun C=>?_)
    refine⟨N-1,1,omq,omq,?_⟩
    rw [e,if_pos rfl,if_neg (fun h=>by rw [h] at h5;cases h5)]
    (refine aC _ _ rfl rfl ?_ ?_<;>exact tdy0)
  ·refine aj (by rfl) (fun _=>?_) fun hC=>by exfalso;simp only [decide_eq_false_iff_not] at hC;omega
   repeat' (first|(apply ay;first|refine ao ?_|refine ak ?_|refine gO ?_|refine dC ?_|refine dE ?_|refine aq ?_|refine fx ?_)|refine al ?_|refine ab ?_|refine aa fun C=>?_|refine ae ?_)
   refine aj (by rfl) (fun h5=>?_) fun h5=>?_
   ·repeat' (first|(apply ay;first|refine ao ?_|refine ak ?_|refine bI ?_|refine aI hc ?_|refine dE ?_|refine aD ?_|refine fx ?_)|refine al ?_|refine ab ?_|refine aa fun C=>?_)
    refine⟨N-1,k+1,omq,omq,?_⟩
    rw [e,if_neg hk0,if_pos (eq_of_beq h5)]
    simp only [gv]
    (refine aC _ _ rfl rfl ?_ ?_<;>exact tdy0)
   ·repeat' (first|(apply ay;first|refine ao ?_|refine ak ?_|refine bI ?_|refine aI hc ?_|refine dE ?_|refine aD ?_|refine fx ?_)|refine al ?_|refine ab ?_|refine aa fun C=>?_)
    refine⟨N-1,k+1,omq,omq,?_⟩
    rw [e,if_neg hk0,if_neg (fun h=>by rw [h] at h5;cases h5)]
    (refine aC _ _ rfl rfl ?_ ?_<;>exact tdy0)
 ·have hk':¬k<l.length:=by simpa using hk1
  repeat' (first|(apply ay;first|refine ao ?_|refine ak ?_)|refine al ?_|refine ab ?_|refine aa fun C=>?_|refine ae ?_|refine au ?_)
  refine am ?_
  refine bi (x:=.c (.v (.string (eg g b (l.take k))))) rfl aN ⟨?_,rfl⟩
  rw [List.take_of_length_le omq]
theorem zw {g:E→ByteArray}{x:E}(hx:x.Ty prog 39)(hsz:(g x).size≤960)(hg:Ctr prog 263 [.ag (acE x)] [] (.c (.v (.string (g x)))) []) :
 Ctr prog 268 [.ag (acE x)] [] (.c (.v (.string (iM g x)))) []:=by
 have hkk:∀y0 y1 A c l',x=E.agg [.int .i64 y0,.str y1,.lst 3 39 A c l']→iM g x=if y0=4∨y0=5 then ⟨#[40]⟩++g x++⟨#[41]⟩ else g x:=fun y0 y1 A c l' h=>by subst h;rfl
 obtain⟨y0,y1,y2A,y2c,y2l,rfl,gy0,gy1,gy2,-⟩:=aR hx
 rw [hkk _ _ _ _ _ rfl]
 clear hkk
 generalize g (E.agg [E.int IntKind.i64 y0,E.str y1,E.lst 3 39 y2A y2c y2l])=t at *
 refine av func268 rfl rfl ?_
 have s3:(ByteArray.mk #[40]++t).size=1+t.size:=by rw [ByteArray.size_append'];rfl
 repeat' (first|(apply ay;first|refine bO ?_|(refine aU ?_ ?_<;>intro hG<;>(try cases hG))|refine ak ?_|refine bd ?_|refine aL ?_|refine bu ?_|refine aI hg ?_|refine aq ?_|refine fx ?_|refine aF ?_|refine bL ?_)|refine al ?_|refine ab ?_|refine aa fun C=>?_|refine ae ?_|refine ai ?_|(refine aj (by rfl) ?_ ?_<;>intro hC<;>(try cases hC)))
 all_goals
  refine am ?_
  refine bi rfl aN ⟨?_,rfl⟩
  clear hg
  first
   | (rw [if_pos (by simp only [beq_iff_eq] at *;omega)];done)
   | (rw [if_neg (by simp only [beq_eq_false_iff_ne,ne_eq] at *;omega)];done)
theorem xP (f:Nat):∀(e:E),e.Ty prog 39→e.sz≤4194304→bM f e≤60→Ctr prog 263 [.ag (acE e)] [] (.c (.v (.string (aV f e)))) []:=by
 induction f with
 | zero=>intro e _ _ h;exact absurd h (by unfold bM;omega)
 | succ f ih =>
  intro e he hsz hp
  obtain⟨hhd,hkid⟩:=n6 hp
  have hts:=jR hp
  obtain⟨x0,x1,x2A,x2c,l,rfl,gx0,gx1,gx2,-⟩:=aR he
  simp only [E.sz,E.szL] at hsz
  have hkid:∀x∈l,bM f x≤60:=hkid
  have hxs:∀x∈l,(aV f x).size≤960:=fun x hx=>jR (hkid x hx)
  have hcs:∀x∈l,Ctr prog 263 [.ag (acE x)] [] (.c (.v (.string (aV f x)))) []:=fun x hx=>ih x (gx2.1 x hx) (by have:=E.szL_mem hx;omega) (hkid x hx)
  have hh2:=hhd
  rw [mM] at hh2
  simp only [Bool.and_eq_true,Bool.not_eq_true'] at hh2
  obtain⟨hh,hno⟩:=hh2
  clear hhd ih hp
  refine av func263 rfl rfl ?_
  rcases du hh with ⟨rfl,h1,h2,h3⟩|⟨rfl,h1,h3⟩|⟨rfl|rfl|rfl|rfl,h1,h3⟩|⟨rfl|rfl,h1,h2,h3⟩|⟨rfl|rfl|rfl,h1,y,h3,h4⟩
  case inl =>
   repeat' (first|(apply ay;first|refine ak ?_|refine bd ?_|refine aL ?_|refine aq ?_|refine bL ?_)|refine al ?_|refine ab ?_|refine aa fun C=>?_|refine ae ?_|refine ah ?_|(refine aj (by rfl) ?_ ?_<;>intro hC<;>(try cases hC)))
   refine am ?_;refine bi rfl aN ⟨?_,rfl⟩
   rfl
  case inr.inl =>
   repeat' (first|(apply ay;first|refine ak ?_|refine bd ?_|refine aL ?_|refine aq ?_|refine fx ?_|refine bL ?_)|refine al ?_|refine ab ?_|refine aa fun C=>?_|refine ae ?_|refine ah ?_|(refine aj (by rfl) ?_ ?_<;>intro hC<;>(try cases hC)))
   refine am ?_;refine bi rfl aN ⟨?_,rfl⟩
   rfl
  case inr.inr.inl.inl =>
   repeat' (first|(apply ay;first|refine ak ?_|refine bd ?_|refine aL ?_|refine aq ?_|refine bL ?_)|refine al ?_|refine ab ?_|refine aa fun C=>?_|refine ae ?_|refine ah ?_|(refine aj (by rfl) ?_ ?_<;>intro hC<;>(try cases hC)))
   refine am ?_;refine bi rfl aN ⟨?_,rfl⟩
   rfl
  case inr.inr.inl.inr.inl =>
   repeat' (first|(apply ay;first|refine ak ?_|refine bd ?_|refine aL ?_|refine aq ?_|refine bL ?_)|refine al ?_|refine ab ?_|refine aa fun C=>?_|refine ae ?_|refine ah ?_|refine ai ?_|(refine aj (by rfl) ?_ ?_<;>intro hC<;>(try cases hC)))
   refine am ?_;refine bi rfl aN ⟨?_,rfl⟩
   rfl
  case inr.inr.inl.inr.inr.inl =>
   repeat' (first|(apply ay;first|refine ak ?_|refine bd ?_|refine aL ?_|refine aq ?_|refine bL ?_)|refine al ?_|refine ab ?_|refine aa fun C=>?_|refine ae ?_|refine ah ?_|(refine aj (by rfl) ?_ ?_<;>intro hC<;>(try cases hC)))
   refine am ?_;refine bi rfl aN ⟨?_,rfl⟩
   rfl
  case inr.inr.inl.inr.inr.inr =>
   repeat' (first|(apply ay;first|refine ak ?_|refine bd ?_|refine aL ?_|refine aq ?_|refine bL ?_)|refine al ?_|refine ab ?_|refine aa fun C=>?_|refine ae ?_|refine ah ?_|(refine aj (by rfl) ?_ ?_<;>intro hC<;>(try cases hC)))
   refine am ?_;refine bi rfl aN ⟨?_,rfl⟩
   rfl
  case inr.inr.inr.inl.inl =>
   have c2:=qV (b:=⟨#[]⟩) (by decide) gx2.1 gx2.2 h3 hxs hcs
   repeat' (first|(apply ay;first|refine ak ?_|refine bd ?_|refine aL ?_|refine aI c2 ?_|refine aq ?_|refine bL ?_)|refine al ?_|refine ab ?_|refine aa fun C=>?_|refine ae ?_|refine ah ?_|(refine aj (by rfl) ?_ ?_<;>intro hC<;>(try cases hC)))
   refine am ?_;refine bi rfl aN ⟨?_,rfl⟩
   rfl
  case inr.inr.inr.inl.inr =>
   have c2:=qV (b:=⟨#[124]⟩) (by decide) gx2.1 gx2.2 h3 hxs hcs
   repeat' (first|(apply ay;first|refine ak ?_|refine bd ?_|refine aL ?_|refine aI c2 ?_|refine aq ?_|refine bL ?_)|refine al ?_|refine ab ?_|refine aa fun C=>?_|refine ae ?_|refine ah ?_|(refine aj (by rfl) ?_ ?_<;>intro hC<;>(try cases hC)))
   refine am ?_;refine bi rfl aN ⟨?_,rfl⟩
   rfl
  all_goals
   subst h3
   have hym:y∈[y]:=List.mem_singleton.2 rfl
   have hyt:=gx2.1 y hym
   have c2:=zw hyt (hxs y hym) (hcs y hym)
   have hgk:=gx2.2
   have hz2:=iC (hxs y hym)
   have hy0:[y][0]? = some y:=rfl
   obtain⟨y0,y1,y2A,y2c,y2l,rfl,gy0,gy1,gy2,-⟩:=aR hyt
   repeat' (first|(apply ay;first|refine ak ?_|refine bd ?_|refine aL ?_|refine bI ?_|refine aI c2 ?_|refine dE ?_|refine aq ?_|refine fx ?_|refine bL ?_)|refine al ?_|refine ab ?_|refine aa fun C=>?_|refine ae ?_|refine ah ?_|(refine aj (by rfl) ?_ ?_<;>intro hC<;>(try cases hC)))
   refine am ?_;refine bi rfl aN ⟨?_,rfl⟩
   rfl
theorem mP {e:E}(he:e.Ty prog 39)(hsz:e.sz≤4194304):Ctr prog 259 [.ag (acE e)] [] (.c (.v (.string (jO e)))) []:=by
 have c1:=pv he hsz
 rw [←rP] at c1
 cases hr:d6 e with
 | false =>
  have hres:jO e=ByteArray.empty:=by unfold jO;rw [hr];rfl
  rw [hres]
  rw [hr] at c1
  clear hres hr
  obtain⟨x0,x1,x2A,x2c,l,rfl,gx0,gx1,gx2,-⟩:=aR he
  refine av func259 rfl rfl ?_
  repeat' (first|(apply ay;first|refine ak ?_|refine bu ?_|refine aI c1 ?_|refine bF ?_|refine bL ?_)|refine al ?_|refine ab ?_|refine aa fun C=>?_|refine ae ?_|refine az rfl ?_)
  refine am ?_;refine bi rfl aN ⟨?_,rfl⟩
  rfl
 | true =>
  have hres:jO e=aV 6 e:=by unfold jO;rw [hr];rfl
  rw [hres]
  have hp:bM 6 e≤60:=by unfold d6 at hr;simpa using hr
  have c2:=xP 6 e he hsz hp
  rw [hr] at c1
  clear hres hr hp
  obtain⟨x0,x1,x2A,x2c,l,rfl,gx0,gx1,gx2,-⟩:=aR he
  refine av func259 rfl rfl ?_
  repeat' (first|(apply ay;first|refine ak ?_|refine bu ?_|refine aI c1 ?_|refine aI c2 ?_|refine bF ?_|refine bL ?_)|refine al ?_|refine ab ?_|refine aa fun C=>?_|refine ae ?_|refine ai ?_|refine aE rfl ?_)
  refine am ?_;refine bi rfl aN ⟨?_,rfl⟩
  rfl
end Go.Proofs.YtmnneflenebgmaaGreat
