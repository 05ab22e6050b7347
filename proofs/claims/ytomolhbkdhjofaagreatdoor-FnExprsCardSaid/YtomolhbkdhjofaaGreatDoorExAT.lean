/- T -/
import Derived.Test.YtomolhbkdhjofaaGreatDoorExAS
set_option maxHeartbeats 0
set_option maxRecDepth 100000
namespace Go.Proofs.YtomolhbkdhjofaaGreatDoor
open Go.RowKit Go.Proofs.Tryz
theorem mW {c:Nat}(hc:c<256):Ctr prog 179 [.c (.v (.int .u8 (c:Int)))] [] (.c (.v (.bool (kC c)))) []:=by
 have h2:=nT hc
 refine av func179 rfl rfl ?_
 repeat' (first|(apply ay;first|refine bX ?_|(refine aR ?_ ?_<;>intro hG<;>(try cases hG))|refine al ?_|refine ai ?_|refine aF ((jv _ _ _)) ?_|refine aF h2 ?_|refine aY ?_|refine aB ?_|refine d9 ?_)|refine ak ?_|refine ab ?_|refine aa fun C=>?_|refine ac ?_)
 all_goals
  (first|refine am ?_|skip);refine bv rfl aH ⟨?_,rfl⟩;refine congrArg (fun s=>AV.c (AC.v (Value.bool s))) ?_
  clear h2
  unfold kC
  simp only [inR,cR,Bool.or_eq_true,Bool.and_eq_true,decide_eq_true_iff,beq_iff_eq,Bool.and_eq_false_iff,decide_eq_false_iff_not] at *
  (rw [Bool.eq_iff_iff];(try simp only [Bool.and_eq_true,Bool.or_eq_true,Bool.not_eq_true',decide_eq_true_iff,decide_eq_false_iff_not,beq_iff_eq,Bool.and_eq_false_iff,Bool.or_eq_false_iff,bne_iff_ne,ne_eq,Bool.true_eq_false,Bool.false_eq_true,true_iff,false_iff,iff_true,iff_false] at *);first|omega|(simp at *;omega))
theorem kO (k:Int):Ctr prog 178 [.c (.v (.int .i64 k))] [] (.c (.v (.bool (fE k)))) []:=by
 refine av func178 rfl rfl ?_
 repeat' (first|(apply ay;first|refine bX ?_|(refine aR ?_ ?_<;>intro hG<;>(try cases hG))|refine al ?_|refine ai ?_|refine ao ?_|refine aB ?_)|refine ak ?_|refine ab ?_|refine aa fun C=>?_|refine ac ?_)
 all_goals
  (first|refine am ?_|skip);refine bv rfl aH ⟨?_,rfl⟩;refine congrArg (fun s=>AV.c (AC.v (Value.bool s))) ?_
  unfold fE
  (rw [Bool.eq_iff_iff];(try simp only [Bool.and_eq_true,Bool.or_eq_true,Bool.not_eq_true',decide_eq_true_iff,decide_eq_false_iff_not,beq_iff_eq,Bool.and_eq_false_iff,Bool.or_eq_false_iff,bne_iff_ne,ne_eq,Bool.true_eq_false,Bool.false_eq_true,true_iff,false_iff,iff_true,iff_false] at *);first|omega|(simp at *;omega))
theorem zr1 {s:ByteArray}(hs:s.size≤1073741824):Ctr prog 180 [.c (.v (.string s))] [] (.c (.v (.bool (ga s)))) []:=by
 refine av func180 rfl rfl ?_
 repeat' (first|(apply ay;refine ai ?_)|refine ak ?_|refine ab ?_|refine aa fun C=>?_|refine ac ?_|refine ah ?_)
 refine a8 (fun k:Nat=>⟨eX [(0,.c (.v (.string s))),(3,.c (.v (.int .i64 k)))],eJ [],0,[],32⟩) (fun N k=>k+N=s.size∧∀j,j<k→dY s j=true) s.size 0 ⟨omq,fun j hj=>by omega⟩ ?_ ?_
 ·(refine aM _ _ rfl rfl ?_ ?_<;>exact tdy0)
 rintro N k ⟨hN,hall⟩
 repeat' (first|(apply ay;first|refine al ?_|refine bK ?_|refine aD ?_)|refine ak ?_|refine ab ?_|refine aa fun C=>?_|refine ac ?_)
 refine ae (by rfl) (fun h1=>?_) fun h1=>?_
 ·have hk:k<s.size:=by simpa using h1
  have hl:=mW (dm s k)
  cases k with
  | zero =>
   repeat' (first|(apply ay;first|refine al ?_|refine ai ?_|refine aw ?_)|refine ak ?_|refine ab ?_|(apply dC;first|refine iu ?_|(refine ik ?_ ?_<;>intro hG<;>(try cases hG))|(apply ep;refine aN ?_)|refine ex hl ?_|(apply ic;refine aN ?_)|refine fx ?_|refine aN ?_)|refine ak ?_|refine ab ?_|refine aa fun C=>?_|refine ar (by kernel_rfl) (by kernel_rfl) fun C=>?_|refine ac ?_|refine ah ?_|refine aj ?_|(refine ae (by rfl) ?_ ?_<;>intro hC<;>(try cases hC)))
   all_goals first
    | (exfalso;revert hG;simp;done)
    | (refine am ?_
       refine bv (x:=.c (.v (.bool false))) rfl aH ⟨?_,rfl⟩
       rw [j6 hk (by unfold dY;simp_all)])
    | (refine⟨N-1,1,omq,⟨omq,fun j hj=>?_⟩,?_⟩
       ·obtain rfl:j=0:=by omega
        unfold dY;simp_all
       ·(refine aM _ _ rfl rfl ?_ ?_<;>(repeat' (first|exact TmOk.nil|exact RwOk.nil|refine TmOk.cons ?_ ?_|refine RwOk.cons ?_ ?_|rfl|(refine rnV_id' rfl ?_;exact byc)|(refine cV ?_;first|rfl|omega|(rw [bM omq omq];omega))|(refine bq rfl ?_;exact byc)|exact d5 rfl rfl|(refine rw_mid (by rfl) (by rfl) ?_ ?_<;>exact byc)|(refine rw_rn' rfl rfl ?_;simp;done)))))
  | succ m =>
   have hm:((m+1:Nat):Int)-1=(m:Int):=by omega
   repeat' (first|(apply ay;first|refine al ?_|refine ai ?_|refine aw ?_)|refine ak ?_|refine ab ?_|(apply dC;first|refine iu ?_|(refine ik ?_ ?_<;>intro hG<;>(try cases hG))|(apply ep;refine aN ?_)|refine ex hl ?_|(apply ic;first|refine eo ?_|refine aN ?_)|refine fx ?_|refine aN ?_)|refine ak ?_|refine ab ?_|refine aa fun C=>?_|refine ar (by kernel_rfl) (by kernel_rfl) fun C=>?_|refine ac ?_|refine ah ?_|refine aj ?_|(refine ae (by rfl) ?_ ?_<;>intro hC<;>(try cases hC)))
   all_goals first
    | (refine am ?_
       refine bv (x:=.c (.v (.bool false))) rfl aH ⟨?_,rfl⟩
       rw [j6 hk (by unfold dY;simp_all;try omega)])
    | (refine⟨N-1,m+2,omq,⟨omq,fun j hj=>?_⟩,?_⟩
       ·rcases Nat.lt_or_ge j (m+1) with h|h
        ·exact hall j h
        ·obtain rfl:j=m+1:=by omega
         unfold dY;simp_all;try omega
       ·(refine aM _ _ rfl rfl ?_ ?_<;>(repeat' (first|exact TmOk.nil|exact RwOk.nil|refine TmOk.cons ?_ ?_|refine RwOk.cons ?_ ?_|rfl|(refine rnV_id' rfl ?_;exact byc)|(refine cV ?_;first|rfl|omega|(rw [bM omq omq];omega))|(refine bq rfl ?_;exact byc)|exact d5 rfl rfl|(refine rw_mid (by rfl) (by rfl) ?_ ?_<;>exact byc)|(refine rw_rn' rfl rfl ?_;simp;done)))))
    | skip
 ·repeat' (first|(apply ay;first|refine al ?_|refine ai ?_|refine aF ((jv _ _ _)) ?_|refine bK ?_)|refine ak ?_|refine ab ?_|refine aa fun C=>?_|refine ac ?_|refine aA ?_)
  refine am ?_
  refine bv rfl aH ⟨?_,rfl⟩
  rw [ol fun j hj=>hall j (by simp at h1;omega)]
  refine congrArg (fun s=>AV.c (AC.v (Value.bool s))) ?_
  unfold inR
  (rw [Bool.eq_iff_iff];(try simp only [Bool.and_eq_true,Bool.or_eq_true,Bool.not_eq_true',decide_eq_true_iff,decide_eq_false_iff_not,beq_iff_eq,Bool.and_eq_false_iff,Bool.or_eq_false_iff,bne_iff_ne,ne_eq,Bool.true_eq_false,Bool.false_eq_true,true_iff,false_iff,iff_true,iff_false] at *);first|omega|(simp at *;omega))
theorem vE {g:E→Nat}{B:Nat}:∀(l:List E) (n:Nat),(∀x∈l,g x≤B)→lX g l n≤max n (60+B)
 | [],n,_=>by unfold lX;omega
 | x :: r,n,h=>by
  unfold lX
  split
  ·have h1:=h x List.mem_cons_self
   have:=vE r (n+g x) fun y hy=>h y (List.mem_cons_of_mem _ hy)
   omega
  ·omega
theorem ou:∀(f:Nat) (e:E),cW f e≤61+60*f
 | 0,_=>by unfold cW;omega
 | f+1,e=>by
  have:=vE e.rl 1 fun x _=>ou f x
  unfold cW;omega
theorem vF {g:E→Nat}:∀(l:List E) {n:Nat},60<n→lX g l n=n
 | [],_,_=>rfl
 | x :: r,n,h=>by unfold lX;rw [if_neg omq]
theorem vG (f:Nat):∀(e:E) (deep:Nat),f≤6→e.Ty prog 112→e.sz≤4194304→deep+f=7→Ctr prog 164 [.ag (acE e),.c (.v (.int .i64 (deep:Int)))] [] (.c (.v (.int .i64 ((cW f e:Nat):Int)))) []:=by
 induction f with
 | zero =>
  intro e deep hf he hsz hd
  obtain⟨x0,x1,x2A,x2c,l,rfl,gx0,gx1,gx2,-⟩:=aP he
  obtain rfl:deep=7:=by omega
  refine av func164 rfl rfl ?_
  repeat' (first|(apply ay;first|refine al ?_|refine ai ?_|refine a7 ?_|refine cA ?_)|refine ak ?_|refine ab ?_|refine aa fun C=>?_|refine ac ?_|refine aq rfl ?_)
  refine am ?_
  exact bv (x:=.c (.v (.int .i64 61))) rfl aH ⟨rfl,rfl⟩
 | succ f ih =>
  intro e deep hf he hsz hd
  obtain⟨x0,x1,x2A,x2c,l,rfl,gx0,gx1,gx2,-⟩:=aP he
  simp only [E.sz,E.szL] at hsz
  have hl:l.length≤4194304:=by omega
  refine av func164 rfl rfl ?_
  have hres:cW (f+1) (E.agg [.int .i64 x0,.str x1,.lst 3 112 x2A x2c l])=lX (cW f) l 1:=rfl
  rw [hres]
  clear hres
  generalize hT:lX (cW f) l 1=tot
  repeat' (first|(apply ay;first|refine al ?_|refine ai ?_|refine a7 ?_|refine cA ?_)|refine ak ?_|refine ab ?_|refine aa fun C=>?_|refine ac ?_)
  refine ae (by rfl) (fun h=>by exfalso;simp at h;omega) fun _=>?_
  repeat' (first|(apply ay;refine ai ?_)|refine ak ?_|refine ab ?_|refine aa fun C=>?_|refine ac ?_|refine ah ?_|refine aj ?_)
  refine a8 (fun d:Nat×Nat=>⟨eX [(1,.c (.v (.int .i64 (deep:Int)))),(2,.c (.pt 2 0)),(5,.c (.v (.int .i64 (d.2:Int)))),(6,.c (.v (.int .i64 (d.1:Int))))],eJ [(2,2,⟨112,0,0,true,[.v (.int .i64 x0),.v (.string x1),.ro l.length 3 (acL l)]⟩)],0,[2],31⟩) (fun N d=>d.1+N=l.length∧d.2≤600∧lX (cW f) (l.drop d.1) d.2=tot) l.length (0,1) ⟨by simp,by simp,hT⟩ ?_ ?_
  ·(refine aM _ _ rfl rfl ?_ ?_<;>exact tdy0)
  rintro N ⟨k,n⟩ ⟨hN,hn,hs⟩
  dsimp only at hN hn hs ⊢
  repeat' (first|(apply ay;first|refine bX ?_|(refine aR ?_ ?_<;>intro hG<;>(try cases hG))|refine al ?_|refine bj ?_|refine aI ?_|refine bE ?_|refine aD ?_|refine bG ?_|refine aB ?_)|refine ak ?_|refine ab ?_|refine aa fun C=>?_|refine ac ?_)
  ·have hk:k<l.length:=by simpa using hG
   obtain⟨x,hx⟩:∃x,l[k]? = some x:=⟨_,List.getElem?_eq_getElem hk⟩
   have hd1:l.drop k=x :: l.drop (k+1):=by rw [List.drop_eq_getElem_cons hk];congr 1;rw [List.getElem?_eq_getElem hk] at hx;exact Option.some.inj hx
   refine ae (by rfl) (fun h2=>?_) fun h2=>?_
   ·have hn2:n≤60:=by simp only [decide_eq_true_iff] at h2;omega
    have hxt:=gx2.1 x (List.mem_of_getElem? hx)
    have hxs:=E.szL_mem (List.mem_of_getElem? hx)
    have hc:=ih x (deep+1) omq hxt omq omq
    have hb:=ou f x
    rw [hd1] at hs
    unfold lX at hs
    rw [if_pos hn2] at hs
    have hgk:=gx2.2
    obtain⟨y0,y1,y2A,y2c,y2l,rfl,gy0,gy1,gy2,-⟩:=aP hxt
    repeat' (first|(apply ay;first|refine al ?_|refine ai ?_|refine bj ?_|refine aI ?_|refine dp ?_|refine aF hc ?_|refine iv ?_|refine aw ?_)|refine ak ?_|refine ab ?_|refine aa fun C=>?_|refine ac ?_|refine ah ?_|refine aj ?_)
    refine⟨N-1,(k+1,n+cW f (E.agg [.int .i64 y0,.str y1,.lst 3 112 y2A y2c y2l])),omq,⟨by dsimp only;omega,by dsimp only;omega,hs⟩,?_⟩
    (refine aM _ _ rfl rfl ?_ ?_<;>exact tdy0)
   ·have hn2:60<n:=by simp only [decide_eq_false_iff_not] at h2;omega
    rw [vF _ hn2] at hs
    repeat' (first|(apply ay;first|refine al ?_|refine ai ?_)|refine ak ?_|refine ab ?_|refine aa fun C=>?_|refine ac ?_|refine aA ?_)
    refine am ?_
    refine bv (x:=.c (.v (.int .i64 (n:Int)))) rfl aH ⟨?_,rfl⟩
    rw [hs]
  ·have hk:k=l.length:=by simp at hG;omega
   repeat' (first|(apply ay;first|refine al ?_|refine ai ?_)|refine ak ?_|refine ab ?_|refine aa fun C=>?_|refine ac ?_|refine aA ?_|refine au rfl ?_)
   refine am ?_
   refine bv (x:=.c (.v (.int .i64 (n:Int)))) rfl aH ⟨?_,rfl⟩
   rw [hk,List.drop_length] at hs
   rw [←hs];rfl
theorem vH {f:Nat}{e:E}(h:cW (f+1) e≤60):∀x∈e.rl,cW f x≤60:=by unfold cW at h;exact (kE h).2
def x8 (f:Nat)(k:Int)(x:E):Bool:=okS f x&&!(x.rk==k&&!fE k)
theorem zs1 {f:Nat}{x0:Int}{x1:ByteArray}{A:Option Addr}{c:Nat}{l:List E}:okS (f+1) (E.agg [.int .i64 x0,.str x1,.lst 3 112 A c l])=(l.all (x8 f x0)&&eT x0 x1 l):=rfl
theorem zi4 {p:E→Bool}{l:List E}{k:Nat}{x:E}(hx:l[k]? = some x)(h:p x=false):l.all p=false:=List.all_eq_false.2 ⟨x,List.mem_of_getElem? hx,by simp [h]⟩
theorem zt1 {p:E→Bool}{l:List E}(h:∀j y,j<l.length→l[j]? = some y→p y=true):l.all p=true:=List.all_eq_true.2 fun y hy=>by
 obtain⟨j,hj,rfl⟩:=List.getElem_of_mem hy
 exact h j _ hj (List.getElem?_eq_getElem hj)
theorem zj4 (f:Nat):∀(e:E),e.Ty prog 112→e.sz≤4194304→cW f e≤60→Ctr prog 165 [.ag (acE e)] [] (.c (.v (.bool (okS f e)))) []:=by
 induction f with
 | zero=>intro e _ _ h;exact absurd h (by unfold cW;omega)
 | succ f ih =>
  intro e he hsz hp
  have hkid:=vH hp
  obtain⟨x0,x1,x2A,x2c,l,rfl,gx0,gx1,gx2,-⟩:=aP he
  have hkid:∀x∈l,cW f x≤60:=hkid
  simp only [E.sz,E.szL] at hsz
  have hl:l.length≤4194304:=by omega
  rw [zs1]
  refine av func165 rfl rfl ?_
  repeat' (first|(apply ay;first|refine ai ?_|refine cA ?_)|refine ak ?_|refine ab ?_|refine aa fun C=>?_|refine ac ?_|refine ah ?_)
  refine a8 (fun k:Nat=>⟨eX [(1,.c (.pt 1 0)),(3,.c (.v (.int .i64 (k:Int))))],eJ [(1,1,⟨112,0,0,true,[.v (.int .i64 x0),.v (.string x1),.ro l.length 3 (acL l)]⟩)],0,[1],114⟩) (fun N k=>k+N=l.length∧∀j y,j<k→l[j]? = some y→x8 f x0 y=true) l.length 0 ⟨omq,omq⟩ ?_ ?_
  ·(refine aM _ _ rfl rfl ?_ ?_<;>exact tdy0)
  rintro N k ⟨hN,hno⟩
  repeat' (first|(apply ay;first|refine al ?_|refine bj ?_|refine aI ?_|refine bE ?_|refine aD ?_)|refine ak ?_|refine ab ?_|refine aa fun C=>?_|refine ac ?_)
  refine ae (by rfl) (fun h1=>?_) fun h1=>?_
  ·have hk':k<l.length:=by simpa using h1
   obtain⟨x,hx⟩:∃x,l[k]? = some x:=⟨_,List.getElem?_eq_getElem hk'⟩
   have hxm:=List.mem_of_getElem? hx
   have hxt:=gx2.1 x hxm
   have hxz:=E.szL_mem hxm
   have hgk:=gx2.2
   have hc:=ih x hxt omq (hkid x hxm)
   have hrk:∀y0 y1 A c l',x=E.agg [.int .i64 y0,.str y1,.lst 3 112 A c l']→x8 f x0 x=(okS f x&&!(y0==x0&&!fE x0)):=fun y0 y1 A c l' e=>by subst e;rfl
   obtain⟨y0,y1,y2A,y2c,y2l,rfl,gy0,gy1,gy2,-⟩:=aP hxt
   have hrk:=hrk _ _ _ _ _ rfl
   generalize hok:okS f (E.agg [E.int IntKind.i64 y0,E.str y1,E.lst 3 112 y2A y2c y2l])=ok at hc hrk
   repeat' (first|(apply ay;first|refine al ?_|refine ai ?_|refine aw ?_)|refine ak ?_|refine ab ?_|(apply dC;first|refine iu ?_|(refine ik ?_ ?_<;>intro hG<;>(try cases hG))|(apply ep;refine aN ?_)|refine fA ?_|refine po ?_|refine cY ?_|refine ju ?_|refine fY ?_|refine ex hc ?_|refine ex ((kO _)) ?_|refine rZ ?_|(apply ic;refine aN ?_)|refine aN ?_)|refine ak ?_|refine ab ?_|refine aa fun C=>?_|refine ar (by kernel_rfl) (by kernel_rfl) fun C=>?_|refine ac ?_|refine ah ?_|refine aj ?_|(refine ae (by rfl) ?_ ?_<;>intro hC<;>(try cases hC)))
   all_goals first
    | (refine am ?_
       refine bv (x:=.c (.v (.bool false))) rfl aH ⟨?_,rfl⟩
       rw [zi4 hx (by rw [hrk];clear hc ih;simp_all),Bool.false_and])
    | (refine⟨N-1,k+1,omq,⟨omq,fun j z hj hz=>?_⟩,?_⟩
       ·by_cases e:j=k
        ·rw [e,hx] at hz;injection hz with hz;subst hz;rw [hrk];clear hc ih;simp_all
        ·exact hno j z omq hz
       ·(refine aM _ _ rfl rfl ?_ ?_<;>(repeat' (first|exact TmOk.nil|exact RwOk.nil|refine TmOk.cons ?_ ?_|refine RwOk.cons ?_ ?_|rfl|(refine rnV_id' rfl ?_;exact byc)|(refine cV ?_;first|rfl|omega|(rw [bM omq omq];omega))|(refine bq rfl ?_;exact byc)|exact d5 rfl rfl|(refine rw_mid (by rfl) (by rfl) ?_ ?_<;>exact byc)|(refine rw_rn' rfl rfl ?_;simp;done)))))
  ·have hk':¬k<l.length:=by simpa using h1
   rw [zt1 (p:=x8 f x0) fun j y hj hy=>hno j y omq hy,Bool.true_and]
   clear hno h1 ih hN hp
   have c1:=zr1 (s:=x1) omq
   have c2:=mW (dm x1 0)
   by_cases hin:x0=1∨x0=2∨x0=3∨x0=4∨x0=5∨x0=9∨x0=10∨x0=11
   ·rcases hin with rfl|rfl|rfl|rfl|rfl|rfl|rfl|rfl
    all_goals
     repeat' (first|(apply ay;first|refine bX ?_|(refine aR ?_ ?_<;>intro hG<;>(try cases hG))|refine ai ?_|refine bj ?_|refine aI ?_|refine aF c1 ?_|refine aF c2 ?_|refine aF ((jv _ _ _)) ?_|refine bE ?_|refine bK ?_|refine ao ?_|refine aQ ?_|refine aB ?_|refine cG ?_)|refine ak ?_|refine ab ?_|refine aa fun C=>?_|refine ac ?_|refine ah ?_|refine aj ?_|refine aA ?_|(refine ae (by rfl) ?_ ?_<;>intro hC<;>(try cases hC)))
    all_goals
     (first|refine am ?_|skip);refine bv rfl aH ⟨?_,rfl⟩;refine congrArg (fun s=>AV.c (AC.v (Value.bool s))) ?_
     clear c1 c2 gx0 gx1 gx2 he hsz hkid
     unfold eT
     (try simp only [mT,ib0,ib1,xV] at *)
     first
      | (simp_all;done)
      | (simp_all;intros;omega)
   by_cases hlp:x0=6∨x0=7∨x0=8
   ·by_cases hl1:l.length=1
    ·obtain⟨y,hy⟩:∃y,l[0]? = some y:=⟨_,List.getElem?_eq_getElem omq⟩
     have hl2:l=[y]:=q7 hl1 hy
     have hyt:=gx2.1 y (List.mem_of_getElem? hy)
     have hgk:=gx2.2
     obtain⟨y0,y1,y2A,y2c,y2l,rfl,gy0,gy1,gy2,-⟩:=aP hyt
     have hr:eT x0 x1 l=(x1.size==0&&!(fE y0)):=by
      rw [hl2];unfold eT
      rcases hlp with rfl|rfl|rfl<;>simp [E.rk]
     rw [hr]
     clear hr
     rcases hlp with rfl|rfl|rfl
     all_goals
      repeat' (first|(apply ay;first|refine bX ?_|(refine aR ?_ ?_<;>intro hG<;>(try cases hG))|refine ai ?_|refine bj ?_|refine nU ?_|refine aI ?_|refine dO ?_|refine aF ((kO _)) ?_|refine bE ?_|refine iv ?_|refine ao ?_|refine aQ ?_|refine b7 ?_|refine aB ?_)|refine ak ?_|refine ab ?_|refine aa fun C=>?_|refine ac ?_|refine ah ?_|refine aj ?_|refine aA ?_|(refine ae (by rfl) ?_ ?_<;>intro hC<;>(try cases hC)))
     all_goals
      (first|refine am ?_|skip);refine bv rfl aH ⟨?_,rfl⟩;refine congrArg (fun s=>AV.c (AC.v (Value.bool s))) ?_
      clear c1 c2 gx0 gx1 gx2 he hsz hkid hgk hyt gy0 gy1 gy2
      (try simp only [mT,ib0,ib1,xV] at *)
      first
       | (simp_all;done)
       | (simp_all;intros;omega)
    ·have hr:eT x0 x1 l=false:=by
      unfold eT
      rcases hlp with rfl|rfl|rfl<;>simp [hl1]
     have hl1':((l.length:Int)==1)=false:=by rw [ib1];simpa using hl1
     rw [hr]
     clear hr
     rcases hlp with rfl|rfl|rfl
     all_goals
      repeat' (first|(apply ay;first|refine bX ?_|(refine aR ?_ ?_<;>intro hG<;>(try cases hG))|refine ai ?_|refine bj ?_|refine aI ?_|refine bE ?_|refine ao ?_|refine aB ?_)|refine ak ?_|refine ab ?_|refine aa fun C=>?_|refine ac ?_|refine ah ?_|refine aj ?_|refine aA ?_|(refine ae (by rfl) ?_ ?_<;>intro hC<;>(try cases hC)))
     all_goals first
      | (exfalso;rw [hl1'] at hG;cases hG;done)
      | ((first|refine am ?_|skip);refine bv rfl aH ⟨?_,rfl⟩;refine congrArg (fun s=>AV.c (AC.v (Value.bool s))) ?_;rfl)
   have hk0:∀k:Int,1≤k→k≤11→x0≠k:=fun k g1 g2 g3=>by omega
   rw [q8 hk0]
   repeat' (first|(apply ay;first|refine ai ?_|refine bj ?_|refine aI ?_|refine ao ?_)|refine ak ?_|refine ab ?_|refine aa fun C=>?_|refine ac ?_|refine ah ?_|refine aA ?_)
   iterate 20
    (first
      | refine au rfl ?_
      | refine ae (by rfl) (fun hC=>absurd (eq_of_beq hC) (hk0 _ omq omq)) fun hC=>?_
      | skip)<;>repeat' (first|(apply ay;first|refine ai ?_|refine ao ?_)|refine ak ?_|refine ab ?_|refine aa fun C=>?_|refine ac ?_|refine aj ?_)
   (first|refine am ?_|skip);refine bv rfl aH ⟨?_,rfl⟩;refine congrArg (fun s=>AV.c (AC.v (Value.bool s))) ?_
   rfl
theorem pM {e:E}(he:e.Ty prog 112)(hsz:e.sz≤4194304):Ctr prog 150 [.ag (acE e)] [] (.c (.v (.bool (kD e)))) []:=by
 have c1:=vG 6 e 1 omq he hsz rfl
 by_cases hp:cW 6 e≤60
 ·have c2:=zj4 6 e he hsz hp
  have hr:kD e=okS 6 e:=by unfold kD;rw [decide_eq_true hp,Bool.true_and]
  rw [hr]
  clear hr
  obtain⟨x0,x1,x2A,x2c,l,rfl,gx0,gx1,gx2,-⟩:=aP he
  refine av func150 rfl rfl ?_
  repeat' (first|(apply ay;first|refine bX ?_|(refine aR ?_ ?_<;>intro hG<;>(try cases hG))|refine ai ?_|refine bN ?_|refine aF c1 ?_|refine aF c2 ?_|refine bG ?_|refine aB ?_|refine cA ?_)|refine ak ?_|refine ab ?_|refine aa fun C=>?_|refine ac ?_)
  ·(first|refine am ?_|skip);refine bv rfl aH ⟨?_,rfl⟩;refine congrArg (fun s=>AV.c (AC.v (Value.bool s))) ?_
   rfl
  ·exfalso;simp only [decide_eq_false_iff_not] at hG;omega
 ·have hr:kD e=false:=by unfold kD;rw [decide_eq_false hp,Bool.false_and]
  rw [hr]
  clear hr
  obtain⟨x0,x1,x2A,x2c,l,rfl,gx0,gx1,gx2,-⟩:=aP he
  refine av func150 rfl rfl ?_
  repeat' (first|(apply ay;first|refine bX ?_|(refine aR ?_ ?_<;>intro hG<;>(try cases hG))|refine ai ?_|refine bN ?_|refine aF c1 ?_|refine bG ?_|refine aB ?_|refine cA ?_)|refine ak ?_|refine ab ?_|refine aa fun C=>?_|refine ac ?_)
  ·exfalso;simp only [decide_eq_true_iff] at hG;omega
  ·skip
   (first|refine am ?_|skip);refine bv rfl aH ⟨?_,rfl⟩;refine congrArg (fun s=>AV.c (AC.v (Value.bool s))) ?_
   rfl
theorem re {g:E→ByteArray}{b:ByteArray}(hb:b.size≤1){l:List E}(hl:∀x∈l,x.Ty prog 112)(hk3:∀x∈l,x.enc.length=3)(hlen:l.length≤8)(hsz:∀x∈l,(g x).size≤960)
 (hg:∀x∈l,Ctr prog 151 [.ag (acE x)] [] (.c (.v (.string (g x)))) []) :
 Ctr prog 166 [.c (.ro l.length 3 (acL l)),.c (.v (.string b)),.c (.v (.int .i64 5))] [] (.c (.v (.string (dN g b l)))) []:=by
 refine av func166 rfl rfl ?_
 repeat' (first|(apply ay;refine ai ?_)|refine ak ?_|refine ab ?_|refine aa fun C=>?_|refine ac ?_|refine ah ?_)
 refine a8 (fun k:Nat=>⟨eX [(0,.c (.ro l.length 3 (acL l))),(1,.c (.v (.string b))),(2,.c (.v (.int .i64 5))),(7,.c (.v (.string (dN g b (l.take k))))),(8,.c (.v (.int .i64 k)))],eJ [],0,[],44⟩)
  (fun N k=>k+N=l.length) l.length 0 omq ?_ ?_
 ·(refine aM _ _ rfl rfl ?_ ?_<;>exact tdy0)
 rintro N k hN
 repeat' (first|(apply ay;first|refine al ?_|refine bE ?_|refine aD ?_)|refine ak ?_|refine ab ?_|refine aa fun C=>?_|refine ac ?_)
 refine ae (by rfl) (fun hk1=>?_) fun hk1=>?_
 ·have hk':k<l.length:=by simpa using hk1
  obtain⟨x,hx⟩:∃x,l[k]? = some x:=⟨_,List.getElem?_eq_getElem hk'⟩
  have hxm:=List.mem_of_getElem? hx
  have hxt:=hl x hxm
  have hc:=hg x hxm
  have hz1:=gY (b:=b) hsz k omq
  have hz2:=hsz x hxm
  have hz3:k*(960+2+b.size)≤8*963:=Nat.mul_le_mul omq omq
  have e:=gX g b hx
  have o1:(ByteArray.mk #[40]).size=1:=rfl
  have o2:(ByteArray.mk #[41]).size=1:=rfl
  have hgk:=hk3
  have hkk:∀y0 y1 A c l',x=E.agg [.int .i64 y0,.str y1,.lst 3 112 A c l']→brk g x=if y0=5 then ⟨#[40]⟩++g x++⟨#[41]⟩ else g x:=fun y0 y1 A c l' h=>by subst h;rfl
  obtain⟨y0,y1,y2A,y2c,y2l,rfl,gy0,gy1,gy2,-⟩:=aP hxt
  have hkk:=hkk _ _ _ _ _ rfl
  rw [hkk] at e
  generalize hgx:g (E.agg [E.int IntKind.i64 y0,E.str y1,E.lst 3 112 y2A y2c y2l])=t at hc hz2 e
  generalize hJ:dN g b (l.take k)=J at hz1 e ⊢
  have s1:(J++b).size=J.size+b.size:=ByteArray.size_append' ..
  have s2:(J++b++⟨#[40]⟩).size=J.size+b.size+1:=by rw [ByteArray.size_append',s1];rfl
  have s3:(J++⟨#[40]⟩).size=J.size+1:=by rw [ByteArray.size_append'];rfl
  have s4:(J++b++⟨#[40]⟩++t).size=J.size+b.size+1+t.size:=by rw [ByteArray.size_append',s2]
  have s5:(J++⟨#[40]⟩++t).size=J.size+1+t.size:=by rw [ByteArray.size_append',s3]
  repeat' (first|(apply ay;first|refine al ?_|refine a7 ?_)|refine ak ?_|refine ab ?_|refine aa fun C=>?_|refine ac ?_|refine ah ?_|refine aj ?_)
  by_cases hk0:k=0
  ·subst hk0
   refine au rfl ?_
   repeat' (first|(apply ay;first|refine al ?_|refine nU ?_|refine dO ?_|refine iv ?_|refine ao ?_)|refine ak ?_|refine ab ?_|refine aa fun C=>?_|refine ac ?_|refine aj ?_)
   obtain rfl:J=ByteArray.empty:=hJ.symm
   refine ae (by rfl) (fun h5=>?_) fun h5=>?_
   ·repeat' (first|(apply ay;first|refine al ?_|refine ai ?_|refine dp ?_|refine aF hc ?_|refine iv ?_|refine aw ?_|refine er ?_)|refine ak ?_|refine ab ?_|refine aa fun C=>?_)
    refine⟨N-1,1,omq,omq,?_⟩
    rw [e,if_pos rfl,if_pos (eq_of_beq h5)]
    simp only [jh,gz]
    (refine aM _ _ rfl rfl ?_ ?_<;>exact tdy0)
   ·repeat' (first|(apply ay;first|refine al ?_|refine ai ?_|refine dp ?_|refine aF hc ?_|refine iv ?_|refine aw ?_|refine er ?_)|refine ak ?_|refine ab ?_|refine aa fun C=>?_)
    refine⟨N-1,1,omq,omq,?_⟩
    rw [e,if_pos rfl,if_neg (fun h=>by rw [h] at h5;cases h5)]
    (refine aM _ _ rfl rfl ?_ ?_<;>exact tdy0)
  ·refine ae (by rfl) (fun _=>?_) fun hC=>by exfalso;simp only [decide_eq_false_iff_not] at hC;omega
   repeat' (first|(apply ay;first|refine al ?_|refine ai ?_|refine nU ?_|refine dO ?_|refine iv ?_|refine ao ?_|refine er ?_)|refine ak ?_|refine ab ?_|refine aa fun C=>?_|refine ac ?_)
   refine ae (by rfl) (fun h5=>?_) fun h5=>?_
   ·repeat' (first|(apply ay;first|refine al ?_|refine ai ?_|refine dp ?_|refine aF hc ?_|refine iv ?_|refine aw ?_|refine er ?_)|refine ak ?_|refine ab ?_|refine aa fun C=>?_)
    refine⟨N-1,k+1,omq,omq,?_⟩
    rw [e,if_neg hk0,if_pos (eq_of_beq h5)]
    simp only [gz]
    (refine aM _ _ rfl rfl ?_ ?_<;>exact tdy0)
   ·repeat' (first|(apply ay;first|refine al ?_|refine ai ?_|refine dp ?_|refine aF hc ?_|refine iv ?_|refine aw ?_|refine er ?_)|refine ak ?_|refine ab ?_|refine aa fun C=>?_)
    refine⟨N-1,k+1,omq,omq,?_⟩
    rw [e,if_neg hk0,if_neg (fun h=>by rw [h] at h5;cases h5)]
    (refine aM _ _ rfl rfl ?_ ?_<;>exact tdy0)
 ·have hk':¬k<l.length:=by simpa using hk1
  repeat' (first|(apply ay;first|refine al ?_|refine ai ?_)|refine ak ?_|refine ab ?_|refine aa fun C=>?_|refine ac ?_|refine aA ?_)
  refine am ?_
  refine bv (x:=.c (.v (.string (dN g b (l.take k))))) rfl aH ⟨?_,rfl⟩
  rw [List.take_of_length_le omq]
theorem zu1 {g:E→ByteArray}{x:E}(hx:x.Ty prog 112)(hsz:(g x).size≤960)(hg:Ctr prog 151 [.ag (acE x)] [] (.c (.v (.string (g x)))) []) :
 Ctr prog 167 [.ag (acE x)] [] (.c (.v (.string (ia g x)))) []:=by
 have hkk:∀y0 y1 A c l',x=E.agg [.int .i64 y0,.str y1,.lst 3 112 A c l']→ia g x=if y0=4∨y0=5 then ⟨#[40]⟩++g x++⟨#[41]⟩ else g x:=fun y0 y1 A c l' h=>by subst h;rfl
 obtain⟨y0,y1,y2A,y2c,y2l,rfl,gy0,gy1,gy2,-⟩:=aP hx
 rw [hkk _ _ _ _ _ rfl]
 clear hkk
 generalize g (E.agg [E.int IntKind.i64 y0,E.str y1,E.lst 3 112 y2A y2c y2l])=t at *
 refine av func167 rfl rfl ?_
 have s3:(ByteArray.mk #[40]++t).size=1+t.size:=by rw [ByteArray.size_append'];rfl
 repeat' (first|(apply ay;first|refine bX ?_|(refine aR ?_ ?_<;>intro hG<;>(try cases hG))|refine ai ?_|refine bj ?_|refine aI ?_|refine bN ?_|refine aF hg ?_|refine ao ?_|refine er ?_|refine aB ?_|refine cA ?_)|refine ak ?_|refine ab ?_|refine aa fun C=>?_|refine ac ?_|refine aj ?_|(refine ae (by rfl) ?_ ?_<;>intro hC<;>(try cases hC)))
 all_goals
  refine am ?_
  refine bv rfl aH ⟨?_,rfl⟩
  clear hg
  first
   | (rw [if_pos (by simp only [beq_iff_eq] at *;omega)];done)
   | (rw [if_neg (by simp only [beq_eq_false_iff_ne,ne_eq] at *;omega)];done)
theorem x9 (f:Nat):∀(e:E),e.Ty prog 112→e.sz≤4194304→bF f e≤60→Ctr prog 151 [.ag (acE e)] [] (.c (.v (.string (aO f e)))) []:=by
 induction f with
 | zero=>intro e _ _ h;exact absurd h (by unfold bF;omega)
 | succ f ih =>
  intro e he hsz hp
  obtain⟨hhd,hkid⟩:=oo hp
  have hts:=j7 hp
  obtain⟨x0,x1,x2A,x2c,l,rfl,gx0,gx1,gx2,-⟩:=aP he
  simp only [E.sz,E.szL] at hsz
  have hkid:∀x∈l,bF f x≤60:=hkid
  have hxs:∀x∈l,(aO f x).size≤960:=fun x hx=>j7 (hkid x hx)
  have hcs:∀x∈l,Ctr prog 151 [.ag (acE x)] [] (.c (.v (.string (aO f x)))) []:=fun x hx=>ih x (gx2.1 x hx) (by have:=E.szL_mem hx;omega) (hkid x hx)
  have hh2:=hhd
  rw [mU] at hh2
  simp only [Bool.and_eq_true,Bool.not_eq_true'] at hh2
  obtain⟨hh,hno⟩:=hh2
  clear hhd ih hp
  refine av func151 rfl rfl ?_
  rcases cZ hh with ⟨rfl,h1,h2,h3⟩|⟨rfl,h1,h3⟩|⟨rfl|rfl|rfl|rfl,h1,h3⟩|⟨rfl|rfl,h1,h2,h3⟩|⟨rfl|rfl|rfl,h1,y,h3,h4⟩
  case inl =>
   repeat' (first|(apply ay;first|refine ai ?_|refine bj ?_|refine aI ?_|refine ao ?_|refine cA ?_)|refine ak ?_|refine ab ?_|refine aa fun C=>?_|refine ac ?_|refine ah ?_|(refine ae (by rfl) ?_ ?_<;>intro hC<;>(try cases hC)))
   refine am ?_;refine bv rfl aH ⟨?_,rfl⟩
   rfl
  case inr.inl =>
   repeat' (first|(apply ay;first|refine ai ?_|refine bj ?_|refine aI ?_|refine ao ?_|refine er ?_|refine cA ?_)|refine ak ?_|refine ab ?_|refine aa fun C=>?_|refine ac ?_|refine ah ?_|(refine ae (by rfl) ?_ ?_<;>intro hC<;>(try cases hC)))
   refine am ?_;refine bv rfl aH ⟨?_,rfl⟩
   rfl
  case inr.inr.inl.inl =>
   repeat' (first|(apply ay;first|refine ai ?_|refine bj ?_|refine aI ?_|refine ao ?_|refine cA ?_)|refine ak ?_|refine ab ?_|refine aa fun C=>?_|refine ac ?_|refine ah ?_|(refine ae (by rfl) ?_ ?_<;>intro hC<;>(try cases hC)))
   refine am ?_;refine bv rfl aH ⟨?_,rfl⟩
   rfl
  case inr.inr.inl.inr.inl =>
   repeat' (first|(apply ay;first|refine ai ?_|refine bj ?_|refine aI ?_|refine ao ?_|refine cA ?_)|refine ak ?_|refine ab ?_|refine aa fun C=>?_|refine ac ?_|refine ah ?_|refine aj ?_|(refine ae (by rfl) ?_ ?_<;>intro hC<;>(try cases hC)))
   refine am ?_;refine bv rfl aH ⟨?_,rfl⟩
   rfl
  case inr.inr.inl.inr.inr.inl =>
   repeat' (first|(apply ay;first|refine ai ?_|refine bj ?_|refine aI ?_|refine ao ?_|refine cA ?_)|refine ak ?_|refine ab ?_|refine aa fun C=>?_|refine ac ?_|refine ah ?_|(refine ae (by rfl) ?_ ?_<;>intro hC<;>(try cases hC)))
   refine am ?_;refine bv rfl aH ⟨?_,rfl⟩
   rfl
  case inr.inr.inl.inr.inr.inr =>
   repeat' (first|(apply ay;first|refine ai ?_|refine bj ?_|refine aI ?_|refine ao ?_|refine cA ?_)|refine ak ?_|refine ab ?_|refine aa fun C=>?_|refine ac ?_|refine ah ?_|(refine ae (by rfl) ?_ ?_<;>intro hC<;>(try cases hC)))
   refine am ?_;refine bv rfl aH ⟨?_,rfl⟩
   rfl
  case inr.inr.inr.inl.inl =>
   have c2:=re (b:=⟨#[]⟩) (by decide) gx2.1 gx2.2 h3 hxs hcs
   repeat' (first|(apply ay;first|refine ai ?_|refine bj ?_|refine aI ?_|refine aF c2 ?_|refine ao ?_|refine cA ?_)|refine ak ?_|refine ab ?_|refine aa fun C=>?_|refine ac ?_|refine ah ?_|(refine ae (by rfl) ?_ ?_<;>intro hC<;>(try cases hC)))
   refine am ?_;refine bv rfl aH ⟨?_,rfl⟩
   rfl
  case inr.inr.inr.inl.inr =>
   have c2:=re (b:=⟨#[124]⟩) (by decide) gx2.1 gx2.2 h3 hxs hcs
   repeat' (first|(apply ay;first|refine ai ?_|refine bj ?_|refine aI ?_|refine aF c2 ?_|refine ao ?_|refine cA ?_)|refine ak ?_|refine ab ?_|refine aa fun C=>?_|refine ac ?_|refine ah ?_|(refine ae (by rfl) ?_ ?_<;>intro hC<;>(try cases hC)))
   refine am ?_;refine bv rfl aH ⟨?_,rfl⟩
   rfl
  all_goals
   subst h3
   have hym:y∈[y]:=List.mem_singleton.2 rfl
   have hyt:=gx2.1 y hym
   have c2:=zu1 hyt (hxs y hym) (hcs y hym)
   have hgk:=gx2.2
   have hz2:=iN (hxs y hym)
   have hy0:[y][0]? = some y:=rfl
   obtain⟨y0,y1,y2A,y2c,y2l,rfl,gy0,gy1,gy2,-⟩:=aP hyt
   repeat' (first|(apply ay;first|refine ai ?_|refine bj ?_|refine aI ?_|refine dp ?_|refine aF c2 ?_|refine iv ?_|refine ao ?_|refine er ?_|refine cA ?_)|refine ak ?_|refine ab ?_|refine aa fun C=>?_|refine ac ?_|refine ah ?_|(refine ae (by rfl) ?_ ?_<;>intro hC<;>(try cases hC)))
   refine am ?_;refine bv rfl aH ⟨?_,rfl⟩
   rfl
theorem mX {e:E}(he:e.Ty prog 112)(hsz:e.sz≤4194304):Ctr prog 135 [.ag (acE e)] [] (.c (.v (.string (jS e)))) []:=by
 have c1:=pM he hsz
 rw [←sg] at c1
 cases hr:dQ e with
 | false =>
  have hres:jS e=ByteArray.empty:=by unfold jS;rw [hr];rfl
  rw [hres]
  rw [hr] at c1
  clear hres hr
  obtain⟨x0,x1,x2A,x2c,l,rfl,gx0,gx1,gx2,-⟩:=aP he
  refine av func135 rfl rfl ?_
  repeat' (first|(apply ay;first|refine ai ?_|refine bN ?_|refine aF c1 ?_|refine b7 ?_|refine cA ?_)|refine ak ?_|refine ab ?_|refine aa fun C=>?_|refine ac ?_|refine aq rfl ?_)
  refine am ?_;refine bv rfl aH ⟨?_,rfl⟩
  rfl
 | true =>
  have hres:jS e=aO 6 e:=by unfold jS;rw [hr];rfl
  rw [hres]
  have hp:bF 6 e≤60:=by unfold dQ at hr;simpa using hr
  have c2:=x9 6 e he hsz hp
  rw [hr] at c1
  clear hres hr hp
  obtain⟨x0,x1,x2A,x2c,l,rfl,gx0,gx1,gx2,-⟩:=aP he
  refine av func135 rfl rfl ?_
  repeat' (first|(apply ay;first|refine ai ?_|refine bN ?_|refine aF c1 ?_|refine aF c2 ?_|refine b7 ?_|refine cA ?_)|refine ak ?_|refine ab ?_|refine aa fun C=>?_|refine ac ?_|refine aj ?_|refine au rfl ?_)
  refine am ?_;refine bv rfl aH ⟨?_,rfl⟩
  rfl
end Go.Proofs.YtomolhbkdhjofaaGreatDoor
