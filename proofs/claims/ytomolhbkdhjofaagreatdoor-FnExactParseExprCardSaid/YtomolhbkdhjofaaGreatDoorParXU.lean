/- T -/
import Derived.Test.YtomolhbkdhjofaaGreatDoorParXT
set_option maxHeartbeats 0
set_option maxRecDepth 100000
namespace Go.Proofs.YtomolhbkdhjofaaGreatDoor
open Go.RowKit Go.Proofs.Tryz
theorem sj {l:List E}{y:E}(h1:l.length=1)(h2:l[0]? = some y):l=[y]:=by
 match l,h1,h2 with
 | [z],_,h2=>simpa using h2
theorem sk {x0:Int}{x1:ByteArray}{l:List E}(h:∀k:Int,1≤k→k≤11→x0≠k):fu x0 x1 l=false:=by
 unfold fu
 have h1:=h 1 omq omq;have h2:=h 2 omq omq;have h3:=h 3 omq omq;have h4:=h 4 omq omq;have h5:=h 5 omq omq;have h6:=h 6 omq omq
 have h7:=h 7 omq omq;have h8:=h 8 omq omq;have h9:=h 9 omq omq;have h10:=h 10 omq omq;have h11:=h 11 omq omq
 simp [h1,h2,h3,h4,h5,h6,h7,h8,h9,h10,h11]
theorem tA {f:Nat}(ih:∀(e:E) (deep:Nat),e.Ty prog 112→e.sz≤4194304→deep+f=7→Ctr prog 154 [.ag (acE e),.c (.v (.int .i64 (deep:Int)))] [] (.c (.v (.int .i64 ((bJ f e:Nat):Int)))) [])(e:E)(deep:Nat)(he:e.Ty prog 112)(hsz:e.sz≤4194304)(hd:deep+(f+1)=7):Ctr prog 154 [.ag (acE e),.c (.v (.int .i64 (deep:Int)))] [] (.c (.v (.int .i64 ((bJ (f+1) e:Nat):Int)))) []:=by
 obtain⟨x0,x1,x2A,x2c,l,rfl,gx0,gx1,gx2,-⟩:=aR he
 simp only [E.sz,E.szL] at hsz
 have hl:l.length≤4194304:=by omega
 refine ay func154 rfl rfl ?_
 repeat' (first|(apply av;first|refine ai ?_|refine cB ?_)|refine aj ?_|refine ab ?_|refine aa fun C=>?_|refine nx ?_)
 refine ac ?_
 repeat' (first|(apply av;first|refine ak ?_|refine bu ?_)|refine aj ?_|refine ab ?_|refine aa fun C=>?_|refine nx ?_)
 refine dG (by rfl) (fun h=>by simp at h;omega) fun h=>?_
 refine al ?_
 repeat' (first|(apply av;refine ai ?_)|refine aj ?_|refine ab ?_|refine aa fun C=>?_|refine nx ?_)
 refine yI ⟨e8 [(1,.c (.v (.int .i64 (deep:Int)))),(2,.c (.pt 2 0)),(5,.c (.v (.bool (mq (E.agg [.int .i64 x0,.str x1,.lst 3 112 x2A x2c l])))))],eT [(2,2,⟨112,0,0,true,[.v (.int .i64 x0),.v (.string x1),.ro l.length 3 (acL l)]⟩)],0,[2],115⟩ ?_ ?_
 ·have c1:=zk4 (s:=x1) omq
  have c2:=lD (cI x1 0)
  have c3:=wE gx2.1 gx2.2 omq (b:=[.v (.int .i64 x0),.v (.string x1),.ro l.length 3 (acL l)]) (by simp [bl,clo,aL]) (fun x=>x.rk==x0) 172 (fun x hx=>zkQ (gx2.1 x hx) x0 rfl (by simp [clo,aL]))
  rw [nS]
  clear ih he
  by_cases hin:x0=1∨x0=2∨x0=3∨x0=4∨x0=5∨x0=9∨x0=10∨x0=11
  ·rcases hin with rfl|rfl|rfl|rfl|rfl|rfl|rfl|rfl
   all_goals
    repeat' (first|(apply av;first|refine bC ?_|(refine aK ?_ ?_<;>intro hG<;>(try cases hG))|refine ai ?_|refine ba ?_|refine aI ?_|refine aG c1 ?_|refine aG c2 ?_|refine aG ((hX _ _ _)) ?_|refine aF 2 (c3) ?_|refine bN ?_|refine be ?_|refine ao ?_|refine aC ?_|refine bM ?_|refine aA ?_|refine cb ?_|refine az ?_)|refine aj ?_|refine ab ?_|refine aa fun C=>?_|refine ac ?_|refine ah ?_|refine al ?_|(refine ae (by rfl) ?_ ?_<;>intro hC<;>(try cases hC)))
   all_goals
    (show Gh _ _
     refine aN _ _ rfl rfl (TmOk.cons rfl (TmOk.cons rfl (TmOk.cons (ny rfl (Lib.hid ?_)) TmOk.nil))) (RwOk.cons (bf rfl ?_) RwOk.nil)
     ·unfold fu
      clear c1 c2 c3 gx0 gx1 gx2 hsz hl hd h
      (try simp only [nR,ib0,ib1,zlQ] at *)
      first
       | (simp_all;done)
       | (simp_all;intros;omega)
     ·simp [bl,clo,aL])
  ·by_cases hlp:x0=6∨x0=7∨x0=8
   ·by_cases hl1:l.length=1
    ·obtain⟨y,hy⟩:∃y,l[0]? = some y:=⟨_,List.getElem?_eq_getElem omq⟩
     have hgk:=gx2.2
     have hyt:=gx2.1 y (List.mem_of_getElem? hy)
     have c4:=zj hyt
     have hl2:=sj hl1 hy
     obtain⟨y0,y1,y2A,y2c,y2l,rfl,gy0,gy1,gy2,-⟩:=aR hyt
     have hh:fu x0 x1 l=(x1.size==0&&!(gc y0)):=by
      rw [hl2]
      unfold fu
      rcases hlp with rfl|rfl|rfl<;>simp [E.rk]
     have hh2:(fu x0 x1 l&&!((x0==4||x0==5)&&l.any fun x=>x.rk==x0))=(x1.size==0&&!(gc y0)):=by
      rw [hh]
      rcases hlp with rfl|rfl|rfl<;>simp
     rw [hh2]
     clear hh hh2 c1 c2 c3
     rcases hlp with rfl|rfl|rfl
     all_goals
      repeat' (first|(apply av;first|refine bC ?_|(refine aK ?_ ?_<;>intro hG<;>(try cases hG))|refine ai ?_|refine ba ?_|refine aI ?_|refine cS ?_|refine aG c4 ?_|refine bN ?_|refine iZ ?_|refine ao ?_|refine aC ?_|refine bM ?_|refine aA ?_)|refine aj ?_|refine ab ?_|refine aa fun C=>?_|refine ac ?_|refine ah ?_|refine al ?_|(refine ae (by rfl) ?_ ?_<;>intro hC<;>(try cases hC)))
     all_goals first
      | (exfalso;simp [hl1] at hG;done)
      | (show Gh _ _
         refine aN _ _ rfl rfl (TmOk.cons rfl (TmOk.cons rfl (TmOk.cons (ny rfl (Lib.hid ?_)) TmOk.nil))) (RwOk.cons (bf rfl ?_) RwOk.nil)
         ·clear c4 gx0 gx1 gx2 gy0 gy1 gy2 hsz hl hd h hgk hyt
          (try simp only [E.rk,nR,ib0,ib1,zlQ] at *)
          first
           | (simp_all;done)
           | (simp_all;intros;omega)
         ·simp [bl,clo,aL])
    ·have hh:(fu x0 x1 l&&!((x0==4||x0==5)&&l.any fun x=>x.rk==x0))=false:=by
      unfold fu
      rcases hlp with rfl|rfl|rfl<;>simp [hl1]
     have hl1':((l.length:Int)==1)=false:=by rw [ib1];simpa using hl1
     rw [hh]
     clear hh c1 c2 c3
     rcases hlp with rfl|rfl|rfl
     all_goals
      repeat' (first|(apply av;first|refine bC ?_|(refine aK ?_ ?_<;>intro hG<;>(try cases hG))|refine ai ?_|refine ba ?_|refine aI ?_|refine bN ?_|refine ao ?_|refine aC ?_|refine aA ?_)|refine aj ?_|refine ab ?_|refine aa fun C=>?_|refine ac ?_|refine ah ?_|refine al ?_|(refine ae (by rfl) ?_ ?_<;>intro hC<;>(try cases hC)))
     all_goals first
      | (exfalso;rw [hl1'] at hG;cases hG;done)
      | (show Gh _ _
         refine aN _ _ rfl rfl (TmOk.cons rfl (TmOk.cons rfl (TmOk.cons (ny rfl (Lib.hid ?_)) TmOk.nil))) (RwOk.cons (bf rfl ?_) RwOk.nil)
         ·first
           | rfl
           | simp_all
         ·simp [bl,clo,aL])
   ·have hk:∀k:Int,1≤k→k≤11→x0≠k:=fun k g1 g2 g3=>by omega
    rw [sk hk,Bool.false_and]
    clear c1 c2 c3
    repeat' (first|(apply av;first|refine ai ?_|refine ba ?_|refine aI ?_|refine ao ?_)|refine aj ?_|refine ab ?_|refine aa fun C=>?_|refine ac ?_|refine ah ?_)
    iterate 15
     (first
       | refine ar rfl ?_
       | refine ae (by rfl) (fun hC=>absurd (eq_of_beq hC) (hk _ omq omq)) fun hC=>?_
       | skip)<;>repeat' (first|(apply av;first|refine ai ?_|refine ao ?_)|refine aj ?_|refine ab ?_|refine aa fun C=>?_|refine ac ?_|refine al ?_)
    (show Gh _ _
     refine aN _ _ rfl rfl (TmOk.cons rfl (TmOk.cons rfl (TmOk.cons (ny rfl (Lib.hid ?_)) TmOk.nil))) (RwOk.cons (bf rfl ?_) RwOk.nil)
     ·rfl
     ·simp [bl,clo,aL])
 ·cases hh:mq (E.agg [.int .i64 x0,.str x1,.lst 3 112 x2A x2c l]) with
  | false =>
   repeat' (first|(apply av;first|refine ak ?_|refine ai ?_|refine bM ?_)|refine aj ?_|refine ab ?_|refine aa fun C=>?_|refine ac ?_|refine aq rfl ?_)
   refine am ?_
   refine bv (x:=.c (.v (.int .i64 61))) rfl aJ ⟨?_,rfl⟩
   unfold bJ;rw [hh];rfl
  | true =>
   have hres:bJ (f+1) (E.agg [.int .i64 x0,.str x1,.lst 3 112 x2A x2c l])=jZ (bJ f) l 1:=by unfold bJ;rw [hh];rfl
   rw [hres]
   clear hres
   generalize hT:jZ (bJ f) l 1=tot
   repeat' (first|(apply av;first|refine ak ?_|refine ai ?_|refine ba ?_|refine aI ?_|refine bN ?_|refine bM ?_)|refine aj ?_|refine ab ?_|refine aa fun C=>?_|refine ac ?_|refine ah ?_|refine al ?_|refine ar rfl ?_)
   refine aZ (fun d:Nat×Nat=>⟨e8 [(1,.c (.v (.int .i64 (deep:Int)))),(6,.c (.v (.int .i64 (d.2:Int)))),(99,.c (.ro l.length 3 (acL l))),(100,.c (.v (.int .i64 l.length))),(101,.c (.v (.int .i64 (d.1:Int))))],eT [],0,[],115⟩) (fun N d=>d.1+N=l.length∧d.2≤60∧jZ (bJ f) (l.drop d.1) d.2=tot) l.length (0,1) ⟨by simp,by simp,hT⟩ ?_ ?_
   ·(refine aN _ _ rfl rfl ?_ ?_<;>exact tdy0)
   rintro N ⟨k,n⟩ ⟨hN,hn,hs⟩
   dsimp only at hN hn hs ⊢
   repeat' (first|(apply av;refine aE ?_)|refine aj ?_|refine ab ?_|refine aa fun C=>?_|refine ac ?_)
   refine ae (by rfl) (fun h1=>?_) fun h1=>?_
   ·have hk:k<l.length:=by simpa using h1
    obtain⟨x,hx⟩:∃x,l[k]? = some x:=⟨_,List.getElem?_eq_getElem hk⟩
    have hxt:=gx2.1 x (List.mem_of_getElem? hx)
    have hxs:=E.szL_mem (List.mem_of_getElem? hx)
    have hc:=ih x (deep+1) hxt omq omq
    have hb:=wk f x
    have hd1:l.drop k=x :: l.drop (k+1):=by rw [List.drop_eq_getElem_cons hk];congr 1;rw [List.getElem?_eq_getElem hk] at hx;exact Option.some.inj hx
    rw [hd1] at hs
    unfold jZ at hs
    have hgk:=gx2.2
    obtain⟨y0,y1,y2A,y2c,y2l,rfl,gy0,gy1,gy2,-⟩:=aR hxt
    repeat' (first|(apply av;first|refine ak ?_|refine ai ?_|refine cS ?_|refine bL ?_|refine aG hc ?_|refine bg ?_|refine iZ ?_|refine dR ?_|refine aw ?_|refine bI ?_)|refine aj ?_|refine ab ?_|refine aa fun C=>?_|refine ac ?_|refine ah ?_|refine al ?_)
    refine ae (by rfl) (fun h2=>?_) fun h2=>?_
    ·have h3:61≤n+bJ f (E.agg [.int .i64 y0,.str y1,.lst 3 112 y2A y2c y2l]):=by simp at h2;omega
     repeat' (first|(apply av;refine ai ?_)|refine aj ?_|refine ab ?_|refine aa fun C=>?_|refine ac ?_)
     refine am ?_
     refine bv (x:=.c (.v (.int .i64 61))) rfl aJ ⟨?_,rfl⟩
     rw [if_pos h3] at hs
     rw [←hs];rfl
    ·have h3:¬61≤n+bJ f (E.agg [.int .i64 y0,.str y1,.lst 3 112 y2A y2c y2l]):=by simp at h2;omega
     rw [if_neg h3] at hs
     repeat' (first|(apply av;first|refine ak ?_|refine aw ?_)|refine aj ?_|refine ab ?_|refine aa fun C=>?_|refine al ?_)
     refine⟨N-1,(k+1,n+bJ f (E.agg [.int .i64 y0,.str y1,.lst 3 112 y2A y2c y2l])),omq,⟨by dsimp only;omega,by dsimp only;omega,hs⟩,?_⟩
     (refine aN _ _ rfl rfl ?_ ?_<;>exact tdy0)
   ·have hk:k=l.length:=by simp at h1;omega
    repeat' (first|(apply av;first|refine ak ?_|refine ai ?_)|refine aj ?_|refine ab ?_|refine aa fun C=>?_|refine ac ?_|refine aB ?_)
    refine am ?_
    refine bv (x:=.c (.v (.int .i64 (n:Int)))) rfl aJ ⟨?_,rfl⟩
    rw [hk,List.drop_length] at hs
    rw [←hs];rfl
theorem tB (f:Nat):∀(e:E) (deep:Nat),e.Ty prog 112→e.sz≤4194304→deep+f=7→Ctr prog 154 [.ag (acE e),.c (.v (.int .i64 (deep:Int)))] [] (.c (.v (.int .i64 ((bJ f e:Nat):Int)))) []:=by
 induction f with
 | zero =>
  intro e deep he hsz hd
  obtain⟨x0,x1,x2A,x2c,l,rfl,gx0,gx1,gx2,-⟩:=aR he
  refine ay func154 rfl rfl ?_
  obtain rfl:deep=7:=by omega
  repeat' (first|(apply av;first|refine ak ?_|refine ai ?_|refine bu ?_|refine cB ?_)|refine aj ?_|refine ab ?_|refine aa fun C=>?_|refine ac ?_|refine aq rfl ?_)
  refine am ?_
  exact bv (x:=.c (.v (.int .i64 61))) rfl aJ ⟨rfl,rfl⟩
 | succ f ih=>exact tA ih
def intE:E→Int
 | .int _ z=>z
 | _=>0
theorem zmQ {l:List E}(hl:∀e∈l,e.Ty prog 3)(hk:∀e∈l,e.enc.length=1)(hlen:l.length≤1073741824)(v:Int):Ctr prog 183 [.c (.ro l.length 1 (acL l)),.c (.v (.int .i64 v))] [] (.c (.v (.int .i64 (pP (fun e=>v==intE e) l)))) []:=by
 refine ay func183 rfl rfl ?_
 repeat (first|refine ac ?_|refine ah ?_|refine al ?_|refine aB ?_|refine am ?_|refine aa fun C=>?_|refine au (by kernel_rfl) (by kernel_rfl) fun C=>?_|refine ab ?_|refine cN ?_|refine jS ?_|refine jv ?_|refine jT ?_|refine x_mv ?_|refine im ?_|refine x_sk0 ?_|refine jU ?_|refine eM ?_|refine x_sto ?_|refine eN ?_|refine x_app0 ?_|refine jV ?_)
 refine aZ (fun k:Nat=>⟨e8 [(0,.c (.ro l.length 1 (acL l))),(1,.c (.v (.int .i64 v))),(7,.c (.v (.int .i64 l.length))),(8,.c (.v (.int .i64 k)))],eT [],0,[],19⟩)
  (fun N k=>k+N=l.length∧∀j y,j<k→l[j]? = some y→(fun e=>v==intE e) y=false) l.length 0 ⟨omq,omq⟩ ?_ ?_
 ·(refine aN _ _ rfl rfl ?_ ?_<;>exact tdy0)
 rintro N k ⟨hN,hno⟩
 repeat (first|refine ac ?_|refine ah ?_|refine al ?_|refine aB ?_|refine am ?_|refine aa fun C=>?_|refine au (by kernel_rfl) (by kernel_rfl) fun C=>?_|refine ab ?_|refine cN ?_|refine jS ?_|refine jv ?_|refine jT ?_|refine x_mv ?_|refine im ?_|refine x_sk0 ?_|refine jU ?_|refine eM ?_|refine x_sto ?_|refine eN ?_|refine x_app0 ?_|refine jV ?_)
 refine dG (by rfl) (fun h1=>?_) fun h1=>?_
 ·have hk':k<l.length:=by simpa using h1
  obtain⟨x,hx⟩:∃x,l[k]? = some x:=⟨_,List.getElem?_eq_getElem hk'⟩
  have hxt:=hl x (List.mem_of_getElem? hx)
  obtain⟨y0,rfl,-⟩:=hxt.int_ underlying3
  repeat (first|refine ac ?_|refine ah ?_|refine al ?_|refine aB ?_|refine am ?_|refine aa fun C=>?_|refine au (by kernel_rfl) (by kernel_rfl) fun C=>?_|refine ab ?_|refine cN ?_|refine jS ?_|refine jv ?_|refine jT ?_|refine x_mv ?_|refine im ?_|refine x_sk0 ?_|refine jU ?_|refine eM ?_|refine x_sto ?_|refine eN ?_|refine x_app0 ?_|refine jV ?_)
  refine dG (by rfl) (fun h2=>?_) fun h2=>?_
  ·repeat (first|refine ac ?_|refine ah ?_|refine al ?_|refine aB ?_|refine am ?_|refine aa fun C=>?_|refine au (by kernel_rfl) (by kernel_rfl) fun C=>?_|refine ab ?_|refine cN ?_|refine jS ?_|refine jv ?_|refine jT ?_|refine x_mv ?_|refine im ?_|refine x_sk0 ?_|refine jU ?_|refine eM ?_|refine x_sto ?_|refine eN ?_|refine x_app0 ?_|refine jV ?_)
   refine bv (x:=.c (.v (.int .i64 k))) rfl aJ ⟨?_,rfl⟩
   rw [qg hno hx (by simpa [intE,mf] using h2)]
  ·repeat (first|refine ac ?_|refine ah ?_|refine al ?_|refine aB ?_|refine am ?_|refine aa fun C=>?_|refine au (by kernel_rfl) (by kernel_rfl) fun C=>?_|refine ab ?_|refine cN ?_|refine jS ?_|refine jv ?_|refine jT ?_|refine x_mv ?_|refine im ?_|refine x_sk0 ?_|refine jU ?_|refine eM ?_|refine x_sto ?_|refine eN ?_|refine x_app0 ?_|refine jV ?_)
   refine⟨N-1,k+1,omq,⟨omq,fun j z hj hz=>?_⟩,?_⟩
   ·by_cases e:j=k
    ·rw [e,hx] at hz;injection hz with hz;subst hz;simpa [intE,mf] using h2
    ·exact hno j z omq hz
   ·(refine aN _ _ rfl rfl ?_ ?_<;>exact tdy0)
 ·have hk':¬k<l.length:=by simpa using h1
  repeat (first|refine ac ?_|refine ah ?_|refine al ?_|refine aB ?_|refine am ?_|refine aa fun C=>?_|refine au (by kernel_rfl) (by kernel_rfl) fun C=>?_|refine ab ?_|refine cN ?_|refine jS ?_|refine jv ?_|refine jT ?_|refine x_mv ?_|refine im ?_|refine x_sk0 ?_|refine jU ?_|refine eM ?_|refine x_sto ?_|refine eN ?_|refine x_app0 ?_|refine jV ?_)
  refine bv (x:=.c (.v (.int .i64 (-1)))) rfl aJ ⟨?_,rfl⟩
  rw [iX fun j y hj hy=>hno j y omq hy]
theorem znQ {l:List E}(hl:∀e∈l,e.Ty prog 3)(hk:∀e∈l,e.enc.length=1)(hlen:l.length≤1073741824)(v:Int):Ctr prog 174 [.c (.ro l.length 1 (acL l)),.c (.v (.int .i64 v))] [] (.c (.v (.bool (l.any (fun e=>v==intE e))))) []:=by
 refine ay func174 rfl rfl ?_
 have hcc:=zmQ hl hk hlen v
 repeat (first|refine ac ?_|refine ah ?_|refine al ?_|refine aB ?_|refine am ?_|refine aa fun C=>?_|refine au (by kernel_rfl) (by kernel_rfl) fun C=>?_|refine ab ?_|refine cN ?_|refine jS ?_|refine jv ?_|refine jT ?_|refine x_mv ?_|refine im ?_|refine x_sk0 ?_|refine jU ?_|refine eM ?_|refine x_sto ?_|refine eN ?_|refine x_app0 ?_|refine jV ?_)
 refine mn hcc ?_
 repeat (first|refine ac ?_|refine ah ?_|refine al ?_|refine aB ?_|refine am ?_|refine aa fun C=>?_|refine au (by kernel_rfl) (by kernel_rfl) fun C=>?_|refine ab ?_|refine cN ?_|refine jS ?_|refine jv ?_|refine jT ?_|refine x_mv ?_|refine im ?_|refine x_sk0 ?_|refine jU ?_|refine eM ?_|refine x_sto ?_|refine eN ?_|refine x_app0 ?_|refine jV ?_)
 refine bv (x:=.c (.v (.bool (decide (pP (fun e=>v==intE e) l ≥ 0))))) rfl aJ ⟨?_,rfl⟩
 rw [nD]
theorem lE {e:E}(he:e.Ty prog 112)(hsz:e.sz≤4194304):Ctr prog 137 [.ag (acE e)] [] (.c (.v (.bool (eh e)))) []:=by
 have hc:=tB 6 e 1 he hsz rfl
 obtain⟨x0,x1,x2A,x2c,l,rfl,gx0,gx1,gx2,-⟩:=aR he
 refine ay func137 rfl rfl ?_
 repeat' (first|(apply av;first|refine ai ?_|refine bL ?_|refine aG hc ?_|refine cJ ?_|refine cB ?_)|refine aj ?_|refine ab ?_|refine aa fun C=>?_|refine ac ?_)
 (first|refine am ?_|skip);refine bv rfl aJ ⟨?_,rfl⟩;refine congrArg (fun s=>AV.c (AC.v (Value.bool s))) ?_
 unfold eh
 (rw [Bool.eq_iff_iff];(try simp only [Bool.and_eq_true,Bool.or_eq_true,Bool.not_eq_true',decide_eq_true_iff,decide_eq_false_iff_not,beq_iff_eq,Bool.and_eq_false_iff,Bool.or_eq_false_iff,bne_iff_ne,ne_eq,Bool.true_eq_false,Bool.false_eq_true,true_iff,false_iff,iff_true,iff_false] at *);first|omega|(simp at *;omega))
def gH (ks:List Int)(k:Int)(t:ByteArray):ByteArray:=if ks.any (fun x=>k==x) then ⟨#[40]⟩++t++⟨#[41]⟩ else t
end Go.Proofs.YtomolhbkdhjofaaGreatDoor
