/- T -/
import Derived.Test.YtmnneflenebgmaaGreatCnOP
set_option maxHeartbeats 0
set_option maxRecDepth 100000
namespace Go.Proofs.YtmnneflenebgmaaGreat
open Go.RowKit Go.Proofs.Tryz
theorem qR {l:List E}{y:E}(h1:l.length=1)(h2:l[0]? = some y):l=[y]:=by
 match l,h1,h2 with
 | [z],_,h2=>simpa using h2
theorem qS {x0:Int}{x1:ByteArray}{l:List E}(h:∀k:Int,1≤k→k≤11→x0≠k):eO x0 x1 l=false:=by
 unfold eO
 have h1:=h 1 omq omq;have h2:=h 2 omq omq;have h3:=h 3 omq omq;have h4:=h 4 omq omq;have h5:=h 5 omq omq;have h6:=h 6 omq omq
 have h7:=h 7 omq omq;have h8:=h 8 omq omq;have h9:=h 9 omq omq;have h10:=h 10 omq omq;have h11:=h 11 omq omq
 simp [h1,h2,h3,h4,h5,h6,h7,h8,h9,h10,h11]
theorem rX {f:Nat}(ih:∀(e:E) (deep:Nat),e.Ty prog 39→e.sz≤4194304→deep+f=7→Ctr prog 112 [.ag (acE e),.c (.v (.int .i64 (deep:Int)))] [] (.c (.v (.int .i64 ((bM f e:Nat):Int)))) [])(e:E)(deep:Nat)(he:e.Ty prog 39)(hsz:e.sz≤4194304)(hd:deep+(f+1)=7):Ctr prog 112 [.ag (acE e),.c (.v (.int .i64 (deep:Int)))] [] (.c (.v (.int .i64 ((bM (f+1) e:Nat):Int)))) []:=by
 obtain⟨x0,x1,x2A,x2c,l,rfl,gx0,gx1,gx2,-⟩:=aR he
 simp only [E.sz,E.szL] at hsz
 have hl:l.length≤4194304:=by omega
 refine av func112 rfl rfl ?_
 repeat' (first|(apply ay;first|refine ak ?_|refine bL ?_)|refine al ?_|refine ab ?_|refine aa fun C=>?_|refine jL ?_)
 refine ae ?_
 repeat' (first|(apply ay;first|refine ao ?_|refine a8 ?_)|refine al ?_|refine ab ?_|refine aa fun C=>?_|refine jL ?_)
 refine cy (by rfl) (fun h=>by simp at h;omega) fun h=>?_
 refine ai ?_
 repeat' (first|(apply ay;refine ak ?_)|refine al ?_|refine ab ?_|refine aa fun C=>?_|refine jL ?_)
 refine qD ⟨dA [(1,.c (.v (.int .i64 (deep:Int)))),(2,.c (.pt 2 0)),(5,.c (.v (.bool (ls (E.agg [.int .i64 x0,.str x1,.lst 3 39 x2A x2c l])))))],dq [(2,2,⟨39,0,0,true,[.v (.int .i64 x0),.v (.string x1),.ro l.length 3 (acL l)]⟩)],0,[2],115⟩ ?_ ?_
 ·have c1:=zo (s:=x1) omq
  have c2:=kD (fu x1 0)
  have c3:=va gx2.1 gx2.2 omq (b:=[.v (.int .i64 x0),.v (.string x1),.ro l.length 3 (acL l)]) (by simp [bf,clo,aH]) (fun x=>x.rk==x0) 164 (fun x hx=>xH (gx2.1 x hx) x0 rfl (by simp [clo,aH]))
  rw [mM]
  clear ih he
  by_cases hin:x0=1∨x0=2∨x0=3∨x0=4∨x0=5∨x0=9∨x0=10∨x0=11
  ·rcases hin with rfl|rfl|rfl|rfl|rfl|rfl|rfl|rfl
   all_goals
    repeat' (first|(apply ay;first|refine bO ?_|(refine aU ?_ ?_<;>intro hG<;>(try cases hG))|refine ak ?_|refine bd ?_|refine aL ?_|refine aI c1 ?_|refine aI c2 ?_|refine aI ((fQ _ _ _)) ?_|refine be 2 (c3) ?_|refine aY ?_|refine dk ?_|refine aq ?_|refine bG ?_|refine bF ?_|refine aF ?_|refine gN ?_|refine aS ?_)|refine al ?_|refine ab ?_|refine aa fun C=>?_|refine ae ?_|refine ah ?_|refine ai ?_|(refine aj (by rfl) ?_ ?_<;>intro hC<;>(try cases hC)))
   all_goals
    (show Gh _ _
     refine aC _ _ rfl rfl (TmOk.cons rfl (TmOk.cons rfl (TmOk.cons (mw rfl (Lib.hid ?_)) TmOk.nil))) (RwOk.cons (aK rfl ?_) RwOk.nil)
     ·unfold eO
      clear c1 c2 c3 gx0 gx1 gx2 hsz hl hd h
      (try simp only [mL,ib0,ib1,xI] at *)
      first
       | (simp_all;done)
       | (simp_all;intros;omega)
     ·simp [bf,clo,aH])
  ·by_cases hlp:x0=6∨x0=7∨x0=8
   ·by_cases hl1:l.length=1
    ·obtain⟨y,hy⟩:∃y,l[0]? = some y:=⟨_,List.getElem?_eq_getElem omq⟩
     have hgk:=gx2.2
     have hyt:=gx2.1 y (List.mem_of_getElem? hy)
     have c4:=xG hyt
     have hl2:=qR hl1 hy
     obtain⟨y0,y1,y2A,y2c,y2l,rfl,gy0,gy1,gy2,-⟩:=aR hyt
     have hh:eO x0 x1 l=(x1.size==0&&!(fy y0)):=by
      rw [hl2]
      unfold eO
      rcases hlp with rfl|rfl|rfl<;>simp [E.rk]
     have hh2:(eO x0 x1 l&&!((x0==4||x0==5)&&l.any fun x=>x.rk==x0))=(x1.size==0&&!(fy y0)):=by
      rw [hh]
      rcases hlp with rfl|rfl|rfl<;>simp
     rw [hh2]
     clear hh hh2 c1 c2 c3
     rcases hlp with rfl|rfl|rfl
     all_goals
      repeat' (first|(apply ay;first|refine bO ?_|(refine aU ?_ ?_<;>intro hG<;>(try cases hG))|refine ak ?_|refine bd ?_|refine aL ?_|refine bI ?_|refine aI c4 ?_|refine aY ?_|refine dE ?_|refine aq ?_|refine bG ?_|refine bF ?_|refine aF ?_)|refine al ?_|refine ab ?_|refine aa fun C=>?_|refine ae ?_|refine ah ?_|refine ai ?_|(refine aj (by rfl) ?_ ?_<;>intro hC<;>(try cases hC)))
     all_goals first
      | (exfalso;simp [hl1] at hG;done)
      | (show Gh _ _
         refine aC _ _ rfl rfl (TmOk.cons rfl (TmOk.cons rfl (TmOk.cons (mw rfl (Lib.hid ?_)) TmOk.nil))) (RwOk.cons (aK rfl ?_) RwOk.nil)
         ·clear c4 gx0 gx1 gx2 gy0 gy1 gy2 hsz hl hd h hgk hyt
          (try simp only [E.rk,mL,ib0,ib1,xI] at *)
          first
           | (simp_all;done)
           | (simp_all;intros;omega)
         ·simp [bf,clo,aH])
    ·have hh:(eO x0 x1 l&&!((x0==4||x0==5)&&l.any fun x=>x.rk==x0))=false:=by
      unfold eO
      rcases hlp with rfl|rfl|rfl<;>simp [hl1]
     have hl1':((l.length:Int)==1)=false:=by rw [ib1];simpa using hl1
     rw [hh]
     clear hh c1 c2 c3
     rcases hlp with rfl|rfl|rfl
     all_goals
      repeat' (first|(apply ay;first|refine bO ?_|(refine aU ?_ ?_<;>intro hG<;>(try cases hG))|refine ak ?_|refine bd ?_|refine aL ?_|refine aY ?_|refine aq ?_|refine bG ?_|refine aF ?_)|refine al ?_|refine ab ?_|refine aa fun C=>?_|refine ae ?_|refine ah ?_|refine ai ?_|(refine aj (by rfl) ?_ ?_<;>intro hC<;>(try cases hC)))
     all_goals first
      | (exfalso;rw [hl1'] at hG;cases hG;done)
      | (show Gh _ _
         refine aC _ _ rfl rfl (TmOk.cons rfl (TmOk.cons rfl (TmOk.cons (mw rfl (Lib.hid ?_)) TmOk.nil))) (RwOk.cons (aK rfl ?_) RwOk.nil)
         ·first
           | rfl
           | simp_all
         ·simp [bf,clo,aH])
   ·have hk:∀k:Int,1≤k→k≤11→x0≠k:=fun k g1 g2 g3=>by omega
    rw [qS hk,Bool.false_and]
    clear c1 c2 c3
    repeat' (first|(apply ay;first|refine ak ?_|refine bd ?_|refine aL ?_|refine aq ?_)|refine al ?_|refine ab ?_|refine aa fun C=>?_|refine ae ?_|refine ah ?_)
    iterate 15
     (first
       | refine aE rfl ?_
       | refine aj (by rfl) (fun hC=>absurd (eq_of_beq hC) (hk _ omq omq)) fun hC=>?_
       | skip)<;>repeat' (first|(apply ay;first|refine ak ?_|refine aq ?_)|refine al ?_|refine ab ?_|refine aa fun C=>?_|refine ae ?_|refine ai ?_)
    (show Gh _ _
     refine aC _ _ rfl rfl (TmOk.cons rfl (TmOk.cons rfl (TmOk.cons (mw rfl (Lib.hid ?_)) TmOk.nil))) (RwOk.cons (aK rfl ?_) RwOk.nil)
     ·rfl
     ·simp [bf,clo,aH])
 ·cases hh:ls (E.agg [.int .i64 x0,.str x1,.lst 3 39 x2A x2c l]) with
  | false =>
   repeat' (first|(apply ay;first|refine ao ?_|refine ak ?_|refine bF ?_)|refine al ?_|refine ab ?_|refine aa fun C=>?_|refine ae ?_|refine az rfl ?_)
   refine am ?_
   refine bi (x:=.c (.v (.int .i64 61))) rfl aN ⟨?_,rfl⟩
   unfold bM;rw [hh];rfl
  | true =>
   have hres:bM (f+1) (E.agg [.int .i64 x0,.str x1,.lst 3 39 x2A x2c l])=jk (bM f) l 1:=by unfold bM;rw [hh];rfl
   rw [hres]
   clear hres
   generalize hT:jk (bM f) l 1=tot
   repeat' (first|(apply ay;first|refine ao ?_|refine ak ?_|refine bd ?_|refine aL ?_|refine aY ?_|refine bF ?_)|refine al ?_|refine ab ?_|refine aa fun C=>?_|refine ae ?_|refine ah ?_|refine ai ?_|refine aE rfl ?_)
   refine aP (fun d:Nat×Nat=>⟨dA [(1,.c (.v (.int .i64 (deep:Int)))),(6,.c (.v (.int .i64 (d.2:Int)))),(99,.c (.ro l.length 3 (acL l))),(100,.c (.v (.int .i64 l.length))),(101,.c (.v (.int .i64 (d.1:Int))))],dq [],0,[],115⟩) (fun N d=>d.1+N=l.length∧d.2≤60∧jk (bM f) (l.drop d.1) d.2=tot) l.length (0,1) ⟨by simp,by simp,hT⟩ ?_ ?_
   ·(refine aC _ _ rfl rfl ?_ ?_<;>exact tdy0)
   rintro N ⟨k,n⟩ ⟨hN,hn,hs⟩
   dsimp only at hN hn hs ⊢
   repeat' (first|(apply ay;refine aO ?_)|refine al ?_|refine ab ?_|refine aa fun C=>?_|refine ae ?_)
   refine aj (by rfl) (fun h1=>?_) fun h1=>?_
   ·have hk:k<l.length:=by simpa using h1
    obtain⟨x,hx⟩:∃x,l[k]? = some x:=⟨_,List.getElem?_eq_getElem hk⟩
    have hxt:=gx2.1 x (List.mem_of_getElem? hx)
    have hxs:=E.szL_mem (List.mem_of_getElem? hx)
    have hc:=ih x (deep+1) hxt omq omq
    have hb:=uL f x
    have hd1:l.drop k=x :: l.drop (k+1):=by rw [List.drop_eq_getElem_cons hk];congr 1;rw [List.getElem?_eq_getElem hk] at hx;exact Option.some.inj hx
    rw [hd1] at hs
    unfold jk at hs
    have hgk:=gx2.2
    obtain⟨y0,y1,y2A,y2c,y2l,rfl,gy0,gy1,gy2,-⟩:=aR hxt
    repeat' (first|(apply ay;first|refine ao ?_|refine ak ?_|refine bI ?_|refine bu ?_|refine aI hc ?_|refine cG ?_|refine dE ?_|refine gq ?_|refine aD ?_|refine dn ?_)|refine al ?_|refine ab ?_|refine aa fun C=>?_|refine ae ?_|refine ah ?_|refine ai ?_)
    refine aj (by rfl) (fun h2=>?_) fun h2=>?_
    ·have h3:61≤n+bM f (E.agg [.int .i64 y0,.str y1,.lst 3 39 y2A y2c y2l]):=by simp at h2;omega
     repeat' (first|(apply ay;refine ak ?_)|refine al ?_|refine ab ?_|refine aa fun C=>?_|refine ae ?_)
     refine am ?_
     refine bi (x:=.c (.v (.int .i64 61))) rfl aN ⟨?_,rfl⟩
     rw [if_pos h3] at hs
     rw [←hs];rfl
    ·have h3:¬61≤n+bM f (E.agg [.int .i64 y0,.str y1,.lst 3 39 y2A y2c y2l]):=by simp at h2;omega
     rw [if_neg h3] at hs
     repeat' (first|(apply ay;first|refine ao ?_|refine aD ?_)|refine al ?_|refine ab ?_|refine aa fun C=>?_|refine ai ?_)
     refine⟨N-1,(k+1,n+bM f (E.agg [.int .i64 y0,.str y1,.lst 3 39 y2A y2c y2l])),omq,⟨by dsimp only;omega,by dsimp only;omega,hs⟩,?_⟩
     (refine aC _ _ rfl rfl ?_ ?_<;>exact tdy0)
   ·have hk:k=l.length:=by simp at h1;omega
    repeat' (first|(apply ay;first|refine ao ?_|refine ak ?_)|refine al ?_|refine ab ?_|refine aa fun C=>?_|refine ae ?_|refine au ?_)
    refine am ?_
    refine bi (x:=.c (.v (.int .i64 (n:Int)))) rfl aN ⟨?_,rfl⟩
    rw [hk,List.drop_length] at hs
    rw [←hs];rfl
theorem rY (f:Nat):∀(e:E) (deep:Nat),e.Ty prog 39→e.sz≤4194304→deep+f=7→Ctr prog 112 [.ag (acE e),.c (.v (.int .i64 (deep:Int)))] [] (.c (.v (.int .i64 ((bM f e:Nat):Int)))) []:=by
 induction f with
 | zero =>
  intro e deep he hsz hd
  obtain⟨x0,x1,x2A,x2c,l,rfl,gx0,gx1,gx2,-⟩:=aR he
  refine av func112 rfl rfl ?_
  obtain rfl:deep=7:=by omega
  repeat' (first|(apply ay;first|refine ao ?_|refine ak ?_|refine a8 ?_|refine bL ?_)|refine al ?_|refine ab ?_|refine aa fun C=>?_|refine ae ?_|refine az rfl ?_)
  refine am ?_
  exact bi (x:=.c (.v (.int .i64 61))) rfl aN ⟨rfl,rfl⟩
 | succ f ih=>exact rX ih
def intE:E→Int
 | .int _ z=>z
 | _=>0
theorem xJ {l:List E}(hl:∀e∈l,e.Ty prog 3)(hk:∀e∈l,e.enc.length=1)(hlen:l.length≤1073741824)(v:Int):Ctr prog 207 [.c (.ro l.length 1 (acL l)),.c (.v (.int .i64 v))] [] (.c (.v (.int .i64 (gf (fun e=>v==intE e) l)))) []:=by
 refine av func207 rfl rfl ?_
 repeat (first|refine ae ?_|refine ah ?_|refine ai ?_|refine au ?_|refine am ?_|refine aa fun C=>?_|refine ar (by kernel_rfl) (by kernel_rfl) fun C=>?_|refine ab ?_|refine bD ?_|refine dP ?_|refine dM ?_|refine dQ ?_|refine x_mv ?_|refine dB ?_|refine x_sk0 ?_|refine dR ?_|refine ce ?_|refine x_sto ?_|refine cf ?_|refine x_app0 ?_|refine x_ld ?_)
 refine aP (fun k:Nat=>⟨dA [(0,.c (.ro l.length 1 (acL l))),(1,.c (.v (.int .i64 v))),(7,.c (.v (.int .i64 l.length))),(8,.c (.v (.int .i64 k)))],dq [],0,[],19⟩)
  (fun N k=>k+N=l.length∧∀j y,j<k→l[j]? = some y→(fun e=>v==intE e) y=false) l.length 0 ⟨omq,omq⟩ ?_ ?_
 ·(refine aC _ _ rfl rfl ?_ ?_<;>exact tdy0)
 rintro N k ⟨hN,hno⟩
 repeat (first|refine ae ?_|refine ah ?_|refine ai ?_|refine au ?_|refine am ?_|refine aa fun C=>?_|refine ar (by kernel_rfl) (by kernel_rfl) fun C=>?_|refine ab ?_|refine bD ?_|refine dP ?_|refine dM ?_|refine dQ ?_|refine x_mv ?_|refine dB ?_|refine x_sk0 ?_|refine dR ?_|refine ce ?_|refine x_sto ?_|refine cf ?_|refine x_app0 ?_|refine x_ld ?_)
 refine cy (by rfl) (fun h1=>?_) fun h1=>?_
 ·have hk':k<l.length:=by simpa using h1
  obtain⟨x,hx⟩:∃x,l[k]? = some x:=⟨_,List.getElem?_eq_getElem hk'⟩
  have hxt:=hl x (List.mem_of_getElem? hx)
  obtain⟨y0,rfl,-⟩:=hxt.int_ underlying3
  repeat (first|refine ae ?_|refine ah ?_|refine ai ?_|refine au ?_|refine am ?_|refine aa fun C=>?_|refine ar (by kernel_rfl) (by kernel_rfl) fun C=>?_|refine ab ?_|refine bD ?_|refine dP ?_|refine dM ?_|refine dQ ?_|refine x_mv ?_|refine dB ?_|refine x_sk0 ?_|refine dR ?_|refine ce ?_|refine x_sto ?_|refine cf ?_|refine x_app0 ?_|refine x_ld ?_)
  refine cy (by rfl) (fun h2=>?_) fun h2=>?_
  ·repeat (first|refine ae ?_|refine ah ?_|refine ai ?_|refine au ?_|refine am ?_|refine aa fun C=>?_|refine ar (by kernel_rfl) (by kernel_rfl) fun C=>?_|refine ab ?_|refine bD ?_|refine dP ?_|refine dM ?_|refine dQ ?_|refine x_mv ?_|refine dB ?_|refine x_sk0 ?_|refine dR ?_|refine ce ?_|refine x_sto ?_|refine cf ?_|refine x_app0 ?_|refine x_ld ?_)
   refine bi (x:=.c (.v (.int .i64 k))) rfl aN ⟨?_,rfl⟩
   rw [fg hno hx (by simpa [intE,jt] using h2)]
  ·repeat (first|refine ae ?_|refine ah ?_|refine ai ?_|refine au ?_|refine am ?_|refine aa fun C=>?_|refine ar (by kernel_rfl) (by kernel_rfl) fun C=>?_|refine ab ?_|refine bD ?_|refine dP ?_|refine dM ?_|refine dQ ?_|refine x_mv ?_|refine dB ?_|refine x_sk0 ?_|refine dR ?_|refine ce ?_|refine x_sto ?_|refine cf ?_|refine x_app0 ?_|refine x_ld ?_)
   refine⟨N-1,k+1,omq,⟨omq,fun j z hj hz=>?_⟩,?_⟩
   ·by_cases e:j=k
    ·rw [e,hx] at hz;injection hz with hz;subst hz;simpa [intE,jt] using h2
    ·exact hno j z omq hz
   ·(refine aC _ _ rfl rfl ?_ ?_<;>exact tdy0)
 ·have hk':¬k<l.length:=by simpa using h1
  repeat (first|refine ae ?_|refine ah ?_|refine ai ?_|refine au ?_|refine am ?_|refine aa fun C=>?_|refine ar (by kernel_rfl) (by kernel_rfl) fun C=>?_|refine ab ?_|refine bD ?_|refine dP ?_|refine dM ?_|refine dQ ?_|refine x_mv ?_|refine dB ?_|refine x_sk0 ?_|refine dR ?_|refine ce ?_|refine x_sto ?_|refine cf ?_|refine x_app0 ?_|refine x_ld ?_)
  refine bi (x:=.c (.v (.int .i64 (-1)))) rfl aN ⟨?_,rfl⟩
  rw [dt fun j y hj hy=>hno j y omq hy]
theorem xK {l:List E}(hl:∀e∈l,e.Ty prog 3)(hk:∀e∈l,e.enc.length=1)(hlen:l.length≤1073741824)(v:Int):Ctr prog 167 [.c (.ro l.length 1 (acL l)),.c (.v (.int .i64 v))] [] (.c (.v (.bool (l.any (fun e=>v==intE e))))) []:=by
 refine av func167 rfl rfl ?_
 have hcc:=xJ hl hk hlen v
 repeat (first|refine ae ?_|refine ah ?_|refine ai ?_|refine au ?_|refine am ?_|refine aa fun C=>?_|refine ar (by kernel_rfl) (by kernel_rfl) fun C=>?_|refine ab ?_|refine bD ?_|refine dP ?_|refine dM ?_|refine dQ ?_|refine x_mv ?_|refine dB ?_|refine x_sk0 ?_|refine dR ?_|refine ce ?_|refine x_sto ?_|refine cf ?_|refine x_app0 ?_|refine x_ld ?_)
 refine il hcc ?_
 repeat (first|refine ae ?_|refine ah ?_|refine ai ?_|refine au ?_|refine am ?_|refine aa fun C=>?_|refine ar (by kernel_rfl) (by kernel_rfl) fun C=>?_|refine ab ?_|refine bD ?_|refine dP ?_|refine dM ?_|refine dQ ?_|refine x_mv ?_|refine dB ?_|refine x_sk0 ?_|refine dR ?_|refine ce ?_|refine x_sto ?_|refine cf ?_|refine x_app0 ?_|refine x_ld ?_)
 refine bi (x:=.c (.v (.bool (decide (gf (fun e=>v==intE e) l ≥ 0))))) rfl aN ⟨?_,rfl⟩
 rw [fa]
theorem kE {e:E}(he:e.Ty prog 39)(hsz:e.sz≤4194304):Ctr prog 56 [.ag (acE e)] [] (.c (.v (.bool (d6 e)))) []:=by
 have hc:=rY 6 e 1 he hsz rfl
 obtain⟨x0,x1,x2A,x2c,l,rfl,gx0,gx1,gx2,-⟩:=aR he
 refine av func56 rfl rfl ?_
 repeat' (first|(apply ay;first|refine ak ?_|refine bu ?_|refine aI hc ?_|refine bz ?_|refine bL ?_)|refine al ?_|refine ab ?_|refine aa fun C=>?_|refine ae ?_)
 (first|refine am ?_|skip);refine bi rfl aN ⟨?_,rfl⟩;refine congrArg (fun s=>AV.c (AC.v (Value.bool s))) ?_
 unfold d6
 (rw [Bool.eq_iff_iff];(try simp only [Bool.and_eq_true,Bool.or_eq_true,Bool.not_eq_true',decide_eq_true_iff,decide_eq_false_iff_not,beq_iff_eq,Bool.and_eq_false_iff,Bool.or_eq_false_iff,bne_iff_ne,ne_eq,Bool.true_eq_false,Bool.false_eq_true,true_iff,false_iff,iff_true,iff_false] at *);first|omega|(simp at *;omega))
def fX (ks:List Int)(k:Int)(t:ByteArray):ByteArray:=if ks.any (fun x=>k==x) then ⟨#[40]⟩++t++⟨#[41]⟩ else t
theorem vb (a:List (List UInt8))(x sep:List UInt8):Lib.join (a++[x]) sep=(if a=[] then [] else Lib.join a sep++sep)++x:=by
 cases a with
 | nil=>simp [Lib.join_one]
 | cons y r =>
  rw [List.cons_append,Lib.join_cons,Lib.join_cons,if_neg (by simp)]
  simp [Lib.joinTail,List.append_assoc]
theorem lV (a b:List UInt8):(ByteArray.mk (a++b).toArray)=⟨a.toArray⟩++⟨b.toArray⟩:=by rw [ByteArray.mk_append_mk]
theorem znQ (s:ByteArray):(ByteArray.mk s.data.toList.toArray)=s:=by cases s;rfl
theorem rZ {a:List E}(x:E)(sep:ByteArray):nZ (a++[x]) sep=(if a=[] then ByteArray.empty else nZ a sep++sep)++jt x:=by
 unfold nZ
 rw [List.map_append,List.map_cons,List.map_nil,vb,lV,znQ]
 congr 1
 by_cases h:a=[]
 ·subst h;rfl
 ·rw [if_neg h,if_neg (by simpa using h),lV,znQ]
end Go.Proofs.YtmnneflenebgmaaGreat
