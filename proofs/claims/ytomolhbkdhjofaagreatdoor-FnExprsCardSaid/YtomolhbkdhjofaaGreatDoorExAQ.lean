/- T -/
import Derived.Test.YtomolhbkdhjofaaGreatDoorExAP
set_option maxHeartbeats 0
set_option maxRecDepth 100000
namespace Go.Proofs.YtomolhbkdhjofaaGreatDoor
open Go.RowKit Go.Proofs.Tryz
theorem q7 {l:List E}{y:E}(h1:l.length=1)(h2:l[0]? = some y):l=[y]:=by
 match l,h1,h2 with
 | [z],_,h2=>simpa using h2
theorem q8 {x0:Int}{x1:ByteArray}{l:List E}(h:∀k:Int,1≤k→k≤11→x0≠k):eT x0 x1 l=false:=by
 unfold eT
 have h1:=h 1 omq omq;have h2:=h 2 omq omq;have h3:=h 3 omq omq;have h4:=h 4 omq omq;have h5:=h 5 omq omq;have h6:=h 6 omq omq
 have h7:=h 7 omq omq;have h8:=h 8 omq omq;have h9:=h 9 omq omq;have h10:=h 10 omq omq;have h11:=h 11 omq omq
 simp [h1,h2,h3,h4,h5,h6,h7,h8,h9,h10,h11]
theorem sn {f:Nat}(ih:∀(e:E) (deep:Nat),e.Ty prog 112→e.sz≤4194304→deep+f=7→Ctr prog 154 [.ag (acE e),.c (.v (.int .i64 (deep:Int)))] [] (.c (.v (.int .i64 ((bF f e:Nat):Int)))) [])(e:E)(deep:Nat)(he:e.Ty prog 112)(hsz:e.sz≤4194304)(hd:deep+(f+1)=7):Ctr prog 154 [.ag (acE e),.c (.v (.int .i64 (deep:Int)))] [] (.c (.v (.int .i64 ((bF (f+1) e:Nat):Int)))) []:=by
 obtain⟨x0,x1,x2A,x2c,l,rfl,gx0,gx1,gx2,-⟩:=aP he
 simp only [E.sz,E.szL] at hsz
 have hl:l.length≤4194304:=by omega
 refine av func154 rfl rfl ?_
 repeat' (first|(apply ay;first|refine ai ?_|refine cA ?_)|refine ak ?_|refine ab ?_|refine aa fun C=>?_|refine gQ ?_)
 refine ac ?_
 repeat' (first|(apply ay;first|refine al ?_|refine a7 ?_)|refine ak ?_|refine ab ?_|refine aa fun C=>?_|refine gQ ?_)
 refine cS (by rfl) (fun h=>by simp at h;omega) fun h=>?_
 refine aj ?_
 repeat' (first|(apply ay;refine ai ?_)|refine ak ?_|refine ab ?_|refine aa fun C=>?_|refine gQ ?_)
 refine qC ⟨eX [(1,.c (.v (.int .i64 (deep:Int)))),(2,.c (.pt 2 0)),(5,.c (.v (.bool (lG (E.agg [.int .i64 x0,.str x1,.lst 3 112 x2A x2c l])))))],eJ [(2,2,⟨112,0,0,true,[.v (.int .i64 x0),.v (.string x1),.ro l.length 3 (acL l)]⟩)],0,[2],115⟩ ?_ ?_
 ·have c1:=zo1 (s:=x1) omq
  have c2:=kL (dm x1 0)
  have c3:=vz gx2.1 gx2.2 omq (b:=[.v (.int .i64 x0),.v (.string x1),.ro l.length 3 (acL l)]) (by simp [bi,clo,aG]) (fun x=>x.rk==x0) 172 (fun x hx=>xU (gx2.1 x hx) x0 rfl (by simp [clo,aG]))
  rw [mU]
  clear ih he
  by_cases hin:x0=1∨x0=2∨x0=3∨x0=4∨x0=5∨x0=9∨x0=10∨x0=11
  ·rcases hin with rfl|rfl|rfl|rfl|rfl|rfl|rfl|rfl
   all_goals
    repeat' (first|(apply ay;first|refine bX ?_|(refine aR ?_ ?_<;>intro hG<;>(try cases hG))|refine ai ?_|refine bj ?_|refine aI ?_|refine aF c1 ?_|refine aF c2 ?_|refine aF ((gR _ _ _)) ?_|refine aK 2 (c3) ?_|refine bE ?_|refine bK ?_|refine ao ?_|refine aQ ?_|refine b7 ?_|refine aB ?_|refine cG ?_|refine az ?_)|refine ak ?_|refine ab ?_|refine aa fun C=>?_|refine ac ?_|refine ah ?_|refine aj ?_|(refine ae (by rfl) ?_ ?_<;>intro hC<;>(try cases hC)))
   all_goals
    (show Gh _ _
     refine aM _ _ rfl rfl (TmOk.cons rfl (TmOk.cons rfl (TmOk.cons (mA rfl (Lib.hid ?_)) TmOk.nil))) (RwOk.cons (bq rfl ?_) RwOk.nil)
     ·unfold eT
      clear c1 c2 c3 gx0 gx1 gx2 hsz hl hd h
      (try simp only [mT,ib0,ib1,xV] at *)
      first
       | (simp_all;done)
       | (simp_all;intros;omega)
     ·simp [bi,clo,aG])
  ·by_cases hlp:x0=6∨x0=7∨x0=8
   ·by_cases hl1:l.length=1
    ·obtain⟨y,hy⟩:∃y,l[0]? = some y:=⟨_,List.getElem?_eq_getElem omq⟩
     have hgk:=gx2.2
     have hyt:=gx2.1 y (List.mem_of_getElem? hy)
     have c4:=xT hyt
     have hl2:=q7 hl1 hy
     obtain⟨y0,y1,y2A,y2c,y2l,rfl,gy0,gy1,gy2,-⟩:=aP hyt
     have hh:eT x0 x1 l=(x1.size==0&&!(fE y0)):=by
      rw [hl2]
      unfold eT
      rcases hlp with rfl|rfl|rfl<;>simp [E.rk]
     have hh2:(eT x0 x1 l&&!((x0==4||x0==5)&&l.any fun x=>x.rk==x0))=(x1.size==0&&!(fE y0)):=by
      rw [hh]
      rcases hlp with rfl|rfl|rfl<;>simp
     rw [hh2]
     clear hh hh2 c1 c2 c3
     rcases hlp with rfl|rfl|rfl
     all_goals
      repeat' (first|(apply ay;first|refine bX ?_|(refine aR ?_ ?_<;>intro hG<;>(try cases hG))|refine ai ?_|refine bj ?_|refine aI ?_|refine dp ?_|refine aF c4 ?_|refine bE ?_|refine iv ?_|refine ao ?_|refine aQ ?_|refine b7 ?_|refine aB ?_)|refine ak ?_|refine ab ?_|refine aa fun C=>?_|refine ac ?_|refine ah ?_|refine aj ?_|(refine ae (by rfl) ?_ ?_<;>intro hC<;>(try cases hC)))
     all_goals first
      | (exfalso;simp [hl1] at hG;done)
      | (show Gh _ _
         refine aM _ _ rfl rfl (TmOk.cons rfl (TmOk.cons rfl (TmOk.cons (mA rfl (Lib.hid ?_)) TmOk.nil))) (RwOk.cons (bq rfl ?_) RwOk.nil)
         ·clear c4 gx0 gx1 gx2 gy0 gy1 gy2 hsz hl hd h hgk hyt
          (try simp only [E.rk,mT,ib0,ib1,xV] at *)
          first
           | (simp_all;done)
           | (simp_all;intros;omega)
         ·simp [bi,clo,aG])
    ·have hh:(eT x0 x1 l&&!((x0==4||x0==5)&&l.any fun x=>x.rk==x0))=false:=by
      unfold eT
      rcases hlp with rfl|rfl|rfl<;>simp [hl1]
     have hl1':((l.length:Int)==1)=false:=by rw [ib1];simpa using hl1
     rw [hh]
     clear hh c1 c2 c3
     rcases hlp with rfl|rfl|rfl
     all_goals
      repeat' (first|(apply ay;first|refine bX ?_|(refine aR ?_ ?_<;>intro hG<;>(try cases hG))|refine ai ?_|refine bj ?_|refine aI ?_|refine bE ?_|refine ao ?_|refine aQ ?_|refine aB ?_)|refine ak ?_|refine ab ?_|refine aa fun C=>?_|refine ac ?_|refine ah ?_|refine aj ?_|(refine ae (by rfl) ?_ ?_<;>intro hC<;>(try cases hC)))
     all_goals first
      | (exfalso;rw [hl1'] at hG;cases hG;done)
      | (show Gh _ _
         refine aM _ _ rfl rfl (TmOk.cons rfl (TmOk.cons rfl (TmOk.cons (mA rfl (Lib.hid ?_)) TmOk.nil))) (RwOk.cons (bq rfl ?_) RwOk.nil)
         ·first
           | rfl
           | simp_all
         ·simp [bi,clo,aG])
   ·have hk:∀k:Int,1≤k→k≤11→x0≠k:=fun k g1 g2 g3=>by omega
    rw [q8 hk,Bool.false_and]
    clear c1 c2 c3
    repeat' (first|(apply ay;first|refine ai ?_|refine bj ?_|refine aI ?_|refine ao ?_)|refine ak ?_|refine ab ?_|refine aa fun C=>?_|refine ac ?_|refine ah ?_)
    iterate 15
     (first
       | refine au rfl ?_
       | refine ae (by rfl) (fun hC=>absurd (eq_of_beq hC) (hk _ omq omq)) fun hC=>?_
       | skip)<;>repeat' (first|(apply ay;first|refine ai ?_|refine ao ?_)|refine ak ?_|refine ab ?_|refine aa fun C=>?_|refine ac ?_|refine aj ?_)
    (show Gh _ _
     refine aM _ _ rfl rfl (TmOk.cons rfl (TmOk.cons rfl (TmOk.cons (mA rfl (Lib.hid ?_)) TmOk.nil))) (RwOk.cons (bq rfl ?_) RwOk.nil)
     ·rfl
     ·simp [bi,clo,aG])
 ·cases hh:lG (E.agg [.int .i64 x0,.str x1,.lst 3 112 x2A x2c l]) with
  | false =>
   repeat' (first|(apply ay;first|refine al ?_|refine ai ?_|refine b7 ?_)|refine ak ?_|refine ab ?_|refine aa fun C=>?_|refine ac ?_|refine aq rfl ?_)
   refine am ?_
   refine bv (x:=.c (.v (.int .i64 61))) rfl aH ⟨?_,rfl⟩
   unfold bF;rw [hh];rfl
  | true =>
   have hres:bF (f+1) (E.agg [.int .i64 x0,.str x1,.lst 3 112 x2A x2c l])=jx (bF f) l 1:=by unfold bF;rw [hh];rfl
   rw [hres]
   clear hres
   generalize hT:jx (bF f) l 1=tot
   repeat' (first|(apply ay;first|refine al ?_|refine ai ?_|refine bj ?_|refine aI ?_|refine bE ?_|refine b7 ?_)|refine ak ?_|refine ab ?_|refine aa fun C=>?_|refine ac ?_|refine ah ?_|refine aj ?_|refine au rfl ?_)
   refine a8 (fun d:Nat×Nat=>⟨eX [(1,.c (.v (.int .i64 (deep:Int)))),(6,.c (.v (.int .i64 (d.2:Int)))),(99,.c (.ro l.length 3 (acL l))),(100,.c (.v (.int .i64 l.length))),(101,.c (.v (.int .i64 (d.1:Int))))],eJ [],0,[],115⟩) (fun N d=>d.1+N=l.length∧d.2≤60∧jx (bF f) (l.drop d.1) d.2=tot) l.length (0,1) ⟨by simp,by simp,hT⟩ ?_ ?_
   ·(refine aM _ _ rfl rfl ?_ ?_<;>exact tdy0)
   rintro N ⟨k,n⟩ ⟨hN,hn,hs⟩
   dsimp only at hN hn hs ⊢
   repeat' (first|(apply ay;refine aD ?_)|refine ak ?_|refine ab ?_|refine aa fun C=>?_|refine ac ?_)
   refine ae (by rfl) (fun h1=>?_) fun h1=>?_
   ·have hk:k<l.length:=by simpa using h1
    obtain⟨x,hx⟩:∃x,l[k]? = some x:=⟨_,List.getElem?_eq_getElem hk⟩
    have hxt:=gx2.1 x (List.mem_of_getElem? hx)
    have hxs:=E.szL_mem (List.mem_of_getElem? hx)
    have hc:=ih x (deep+1) hxt omq omq
    have hb:=vi f x
    have hd1:l.drop k=x :: l.drop (k+1):=by rw [List.drop_eq_getElem_cons hk];congr 1;rw [List.getElem?_eq_getElem hk] at hx;exact Option.some.inj hx
    rw [hd1] at hs
    unfold jx at hs
    have hgk:=gx2.2
    obtain⟨y0,y1,y2A,y2c,y2l,rfl,gy0,gy1,gy2,-⟩:=aP hxt
    repeat' (first|(apply ay;first|refine al ?_|refine ai ?_|refine dp ?_|refine bN ?_|refine aF hc ?_|refine bC ?_|refine iv ?_|refine dP ?_|refine aw ?_|refine bZ ?_)|refine ak ?_|refine ab ?_|refine aa fun C=>?_|refine ac ?_|refine ah ?_|refine aj ?_)
    refine ae (by rfl) (fun h2=>?_) fun h2=>?_
    ·have h3:61≤n+bF f (E.agg [.int .i64 y0,.str y1,.lst 3 112 y2A y2c y2l]):=by simp at h2;omega
     repeat' (first|(apply ay;refine ai ?_)|refine ak ?_|refine ab ?_|refine aa fun C=>?_|refine ac ?_)
     refine am ?_
     refine bv (x:=.c (.v (.int .i64 61))) rfl aH ⟨?_,rfl⟩
     rw [if_pos h3] at hs
     rw [←hs];rfl
    ·have h3:¬61≤n+bF f (E.agg [.int .i64 y0,.str y1,.lst 3 112 y2A y2c y2l]):=by simp at h2;omega
     rw [if_neg h3] at hs
     repeat' (first|(apply ay;first|refine al ?_|refine aw ?_)|refine ak ?_|refine ab ?_|refine aa fun C=>?_|refine aj ?_)
     refine⟨N-1,(k+1,n+bF f (E.agg [.int .i64 y0,.str y1,.lst 3 112 y2A y2c y2l])),omq,⟨by dsimp only;omega,by dsimp only;omega,hs⟩,?_⟩
     (refine aM _ _ rfl rfl ?_ ?_<;>exact tdy0)
   ·have hk:k=l.length:=by simp at h1;omega
    repeat' (first|(apply ay;first|refine al ?_|refine ai ?_)|refine ak ?_|refine ab ?_|refine aa fun C=>?_|refine ac ?_|refine aA ?_)
    refine am ?_
    refine bv (x:=.c (.v (.int .i64 (n:Int)))) rfl aH ⟨?_,rfl⟩
    rw [hk,List.drop_length] at hs
    rw [←hs];rfl
theorem sq (f:Nat):∀(e:E) (deep:Nat),e.Ty prog 112→e.sz≤4194304→deep+f=7→Ctr prog 154 [.ag (acE e),.c (.v (.int .i64 (deep:Int)))] [] (.c (.v (.int .i64 ((bF f e:Nat):Int)))) []:=by
 induction f with
 | zero =>
  intro e deep he hsz hd
  obtain⟨x0,x1,x2A,x2c,l,rfl,gx0,gx1,gx2,-⟩:=aP he
  refine av func154 rfl rfl ?_
  obtain rfl:deep=7:=by omega
  repeat' (first|(apply ay;first|refine al ?_|refine ai ?_|refine a7 ?_|refine cA ?_)|refine ak ?_|refine ab ?_|refine aa fun C=>?_|refine ac ?_|refine aq rfl ?_)
  refine am ?_
  exact bv (x:=.c (.v (.int .i64 61))) rfl aH ⟨rfl,rfl⟩
 | succ f ih=>exact sn ih
def intE:E→Int
 | .int _ z=>z
 | _=>0
theorem xW {l:List E}(hl:∀e∈l,e.Ty prog 3)(hk:∀e∈l,e.enc.length=1)(hlen:l.length≤1073741824)(v:Int):Ctr prog 183 [.c (.ro l.length 1 (acL l)),.c (.v (.int .i64 v))] [] (.c (.v (.int .i64 (oW (fun e=>v==intE e) l)))) []:=by
 refine av func183 rfl rfl ?_
 repeat (first|refine ac ?_|refine ah ?_|refine aj ?_|refine aA ?_|refine am ?_|refine aa fun C=>?_|refine ar (by kernel_rfl) (by kernel_rfl) fun C=>?_|refine ab ?_|refine b9 ?_|refine gt ?_|refine gg ?_|refine gu ?_|refine x_mv ?_|refine fh ?_|refine x_sk0 ?_|refine gv ?_|refine dj ?_|refine x_sto ?_|refine dk ?_|refine x_app0 ?_|refine gx ?_)
 refine a8 (fun k:Nat=>⟨eX [(0,.c (.ro l.length 1 (acL l))),(1,.c (.v (.int .i64 v))),(7,.c (.v (.int .i64 l.length))),(8,.c (.v (.int .i64 k)))],eJ [],0,[],19⟩)
  (fun N k=>k+N=l.length∧∀j y,j<k→l[j]? = some y→(fun e=>v==intE e) y=false) l.length 0 ⟨omq,omq⟩ ?_ ?_
 ·(refine aM _ _ rfl rfl ?_ ?_<;>exact tdy0)
 rintro N k ⟨hN,hno⟩
 repeat (first|refine ac ?_|refine ah ?_|refine aj ?_|refine aA ?_|refine am ?_|refine aa fun C=>?_|refine ar (by kernel_rfl) (by kernel_rfl) fun C=>?_|refine ab ?_|refine b9 ?_|refine gt ?_|refine gg ?_|refine gu ?_|refine x_mv ?_|refine fh ?_|refine x_sk0 ?_|refine gv ?_|refine dj ?_|refine x_sto ?_|refine dk ?_|refine x_app0 ?_|refine gx ?_)
 refine cS (by rfl) (fun h1=>?_) fun h1=>?_
 ·have hk':k<l.length:=by simpa using h1
  obtain⟨x,hx⟩:∃x,l[k]? = some x:=⟨_,List.getElem?_eq_getElem hk'⟩
  have hxt:=hl x (List.mem_of_getElem? hx)
  obtain⟨y0,rfl,-⟩:=hxt.int_ underlying3
  repeat (first|refine ac ?_|refine ah ?_|refine aj ?_|refine aA ?_|refine am ?_|refine aa fun C=>?_|refine ar (by kernel_rfl) (by kernel_rfl) fun C=>?_|refine ab ?_|refine b9 ?_|refine gt ?_|refine gg ?_|refine gu ?_|refine x_mv ?_|refine fh ?_|refine x_sk0 ?_|refine gv ?_|refine dj ?_|refine x_sto ?_|refine dk ?_|refine x_app0 ?_|refine gx ?_)
  refine cS (by rfl) (fun h2=>?_) fun h2=>?_
  ·repeat (first|refine ac ?_|refine ah ?_|refine aj ?_|refine aA ?_|refine am ?_|refine aa fun C=>?_|refine ar (by kernel_rfl) (by kernel_rfl) fun C=>?_|refine ab ?_|refine b9 ?_|refine gt ?_|refine gg ?_|refine gu ?_|refine x_mv ?_|refine fh ?_|refine x_sk0 ?_|refine gv ?_|refine dj ?_|refine x_sto ?_|refine dk ?_|refine x_app0 ?_|refine gx ?_)
   refine bv (x:=.c (.v (.int .i64 k))) rfl aH ⟨?_,rfl⟩
   rw [pk hno hx (by simpa [intE,lx] using h2)]
  ·repeat (first|refine ac ?_|refine ah ?_|refine aj ?_|refine aA ?_|refine am ?_|refine aa fun C=>?_|refine ar (by kernel_rfl) (by kernel_rfl) fun C=>?_|refine ab ?_|refine b9 ?_|refine gt ?_|refine gg ?_|refine gu ?_|refine x_mv ?_|refine fh ?_|refine x_sk0 ?_|refine gv ?_|refine dj ?_|refine x_sto ?_|refine dk ?_|refine x_app0 ?_|refine gx ?_)
   refine⟨N-1,k+1,omq,⟨omq,fun j z hj hz=>?_⟩,?_⟩
   ·by_cases e:j=k
    ·rw [e,hx] at hz;injection hz with hz;subst hz;simpa [intE,lx] using h2
    ·exact hno j z omq hz
   ·(refine aM _ _ rfl rfl ?_ ?_<;>exact tdy0)
 ·have hk':¬k<l.length:=by simpa using h1
  repeat (first|refine ac ?_|refine ah ?_|refine aj ?_|refine aA ?_|refine am ?_|refine aa fun C=>?_|refine ar (by kernel_rfl) (by kernel_rfl) fun C=>?_|refine ab ?_|refine b9 ?_|refine gt ?_|refine gg ?_|refine gu ?_|refine x_mv ?_|refine fh ?_|refine x_sk0 ?_|refine gv ?_|refine dj ?_|refine x_sto ?_|refine dk ?_|refine x_app0 ?_|refine gx ?_)
  refine bv (x:=.c (.v (.int .i64 (-1)))) rfl aH ⟨?_,rfl⟩
  rw [iD fun j y hj hy=>hno j y omq hy]
theorem xX {l:List E}(hl:∀e∈l,e.Ty prog 3)(hk:∀e∈l,e.enc.length=1)(hlen:l.length≤1073741824)(v:Int):Ctr prog 174 [.c (.ro l.length 1 (acL l)),.c (.v (.int .i64 v))] [] (.c (.v (.bool (l.any (fun e=>v==intE e))))) []:=by
 refine av func174 rfl rfl ?_
 have hcc:=xW hl hk hlen v
 repeat (first|refine ac ?_|refine ah ?_|refine aj ?_|refine aA ?_|refine am ?_|refine aa fun C=>?_|refine ar (by kernel_rfl) (by kernel_rfl) fun C=>?_|refine ab ?_|refine b9 ?_|refine gt ?_|refine gg ?_|refine gu ?_|refine x_mv ?_|refine fh ?_|refine x_sk0 ?_|refine gv ?_|refine dj ?_|refine x_sto ?_|refine dk ?_|refine x_app0 ?_|refine gx ?_)
 refine lD hcc ?_
 repeat (first|refine ac ?_|refine ah ?_|refine aj ?_|refine aA ?_|refine am ?_|refine aa fun C=>?_|refine ar (by kernel_rfl) (by kernel_rfl) fun C=>?_|refine ab ?_|refine b9 ?_|refine gt ?_|refine gg ?_|refine gu ?_|refine x_mv ?_|refine fh ?_|refine x_sk0 ?_|refine gv ?_|refine dj ?_|refine x_sto ?_|refine dk ?_|refine x_app0 ?_|refine gx ?_)
 refine bv (x:=.c (.v (.bool (decide (oW (fun e=>v==intE e) l ≥ 0))))) rfl aH ⟨?_,rfl⟩
 rw [mH]
theorem kM {e:E}(he:e.Ty prog 112)(hsz:e.sz≤4194304):Ctr prog 137 [.ag (acE e)] [] (.c (.v (.bool (dQ e)))) []:=by
 have hc:=sq 6 e 1 he hsz rfl
 obtain⟨x0,x1,x2A,x2c,l,rfl,gx0,gx1,gx2,-⟩:=aP he
 refine av func137 rfl rfl ?_
 repeat' (first|(apply ay;first|refine ai ?_|refine bN ?_|refine aF hc ?_|refine bG ?_|refine cA ?_)|refine ak ?_|refine ab ?_|refine aa fun C=>?_|refine ac ?_)
 (first|refine am ?_|skip);refine bv rfl aH ⟨?_,rfl⟩;refine congrArg (fun s=>AV.c (AC.v (Value.bool s))) ?_
 unfold dQ
 (rw [Bool.eq_iff_iff];(try simp only [Bool.and_eq_true,Bool.or_eq_true,Bool.not_eq_true',decide_eq_true_iff,decide_eq_false_iff_not,beq_iff_eq,Bool.and_eq_false_iff,Bool.or_eq_false_iff,bne_iff_ne,ne_eq,Bool.true_eq_false,Bool.false_eq_true,true_iff,false_iff,iff_true,iff_false] at *);first|omega|(simp at *;omega))
def gi (ks:List Int)(k:Int)(t:ByteArray):ByteArray:=if ks.any (fun x=>k==x) then ⟨#[40]⟩++t++⟨#[41]⟩ else t
end Go.Proofs.YtomolhbkdhjofaaGreatDoor
