/- T -/
import Derived.Test.YtmnneflenebgmaaGreatCnOAK
set_option maxHeartbeats 0
set_option maxRecDepth 100000
namespace Go.Proofs.YtmnneflenebgmaaGreat
open Go.RowKit Go.Proofs.Tryz
theorem sI {l:List E}(hl:∀e∈l,e.Ty prog 106)(hk:∀e∈l,e.enc.length=6)(hlen:l.length≤1073741824)(p:E→Bool)(f:FuncId)(hc:∀x∈l,Ctr prog f (.ag (acE x) :: []) [] (.c (.v (.bool (p x)))) []):Ctr prog 228 [.c (.ro l.length 6 (acL l)),.c (.fn f [])] [] (.c (.v (.int .i64 (gf p l)))) []:=by
 refine av func228 rfl rfl ?_
 repeat (first|refine ae ?_|refine ah ?_|refine ai ?_|refine au ?_|refine am ?_|refine aa fun C=>?_|refine ar (by kernel_rfl) (by kernel_rfl) fun C=>?_|refine ab ?_|refine bD ?_|refine dP ?_|refine dM ?_|refine dQ ?_|refine x_mv ?_|refine dB ?_|refine x_sk0 ?_|refine dR ?_|refine ce ?_|refine x_sto ?_|refine cf ?_|refine x_app0 ?_|refine x_ld ?_)
 refine aP (fun k:Nat=>⟨dA [(0,.c (.ro l.length 6 (acL l))),(1,.c (.fn f [])),(7,.c (.v (.int .i64 l.length))),(8,.c (.v (.int .i64 k)))],dq [],0,[],19⟩)
  (fun N k=>k+N=l.length∧∀j y,j<k→l[j]? = some y→p y=false) l.length 0 ⟨omq,omq⟩ ?_ ?_
 ·(refine aC _ _ rfl rfl ?_ ?_<;>exact tdy0)
 rintro N k ⟨hN,hno⟩
 repeat (first|refine ae ?_|refine ah ?_|refine ai ?_|refine au ?_|refine am ?_|refine aa fun C=>?_|refine ar (by kernel_rfl) (by kernel_rfl) fun C=>?_|refine ab ?_|refine bD ?_|refine dP ?_|refine dM ?_|refine dQ ?_|refine x_mv ?_|refine dB ?_|refine x_sk0 ?_|refine dR ?_|refine ce ?_|refine x_sto ?_|refine cf ?_|refine x_app0 ?_|refine x_ld ?_)
 refine cy (by rfl) (fun h1=>?_) fun h1=>?_
 ·have hk':k<l.length:=by simpa using h1
  obtain⟨x,hx⟩:∃x,l[k]? = some x:=⟨_,List.getElem?_eq_getElem hk'⟩
  have hxt:=hl x (List.mem_of_getElem? hx)
  have hcc:=hc x (List.mem_of_getElem? hx)
  obtain⟨y0,y1,y2,y3A,y3c,y3l,y4A,y4c,y4l,y5A,y5c,y5l,rfl,gy0,gy1,gy2,gy3,gy4,gy5,-⟩:=aQ hxt
  repeat (first|refine ae ?_|refine ah ?_|refine ai ?_|refine au ?_|refine am ?_|refine aa fun C=>?_|refine ar (by kernel_rfl) (by kernel_rfl) fun C=>?_|refine ab ?_|refine bD ?_|refine dP ?_|refine dM ?_|refine dQ ?_|refine x_mv ?_|refine dB ?_|refine x_sk0 ?_|refine dR ?_|refine ce ?_|refine x_sto ?_|refine cf ?_|refine x_app0 ?_|refine x_ld ?_)
  refine il hcc ?_
  repeat (first|refine ae ?_|refine ah ?_|refine ai ?_|refine au ?_|refine am ?_|refine aa fun C=>?_|refine ar (by kernel_rfl) (by kernel_rfl) fun C=>?_|refine ab ?_|refine bD ?_|refine dP ?_|refine dM ?_|refine dQ ?_|refine x_mv ?_|refine dB ?_|refine x_sk0 ?_|refine dR ?_|refine ce ?_|refine x_sto ?_|refine cf ?_|refine x_app0 ?_|refine x_ld ?_)
  refine cy (by rfl) (fun h2=>?_) fun h2=>?_
  ·repeat (first|refine ae ?_|refine ah ?_|refine ai ?_|refine au ?_|refine am ?_|refine aa fun C=>?_|refine ar (by kernel_rfl) (by kernel_rfl) fun C=>?_|refine ab ?_|refine bD ?_|refine dP ?_|refine dM ?_|refine dQ ?_|refine x_mv ?_|refine dB ?_|refine x_sk0 ?_|refine dR ?_|refine ce ?_|refine x_sto ?_|refine cf ?_|refine x_app0 ?_|refine x_ld ?_)
   refine bi (x:=.c (.v (.int .i64 k))) rfl aN ⟨?_,rfl⟩
   rw [fg hno hx h2]
  ·repeat (first|refine ae ?_|refine ah ?_|refine ai ?_|refine au ?_|refine am ?_|refine aa fun C=>?_|refine ar (by kernel_rfl) (by kernel_rfl) fun C=>?_|refine ab ?_|refine bD ?_|refine dP ?_|refine dM ?_|refine dQ ?_|refine x_mv ?_|refine dB ?_|refine x_sk0 ?_|refine dR ?_|refine ce ?_|refine x_sto ?_|refine cf ?_|refine x_app0 ?_|refine x_ld ?_)
   refine⟨N-1,k+1,omq,⟨omq,fun j z hj hz=>?_⟩,?_⟩
   ·by_cases e:j=k
    ·rw [e,hx] at hz;injection hz with hz;subst hz;exact h2
    ·exact hno j z omq hz
   ·(refine aC _ _ rfl rfl ?_ ?_<;>exact tdy0)
 ·have hk':¬k<l.length:=by simpa using h1
  repeat (first|refine ae ?_|refine ah ?_|refine ai ?_|refine au ?_|refine am ?_|refine aa fun C=>?_|refine ar (by kernel_rfl) (by kernel_rfl) fun C=>?_|refine ab ?_|refine bD ?_|refine dP ?_|refine dM ?_|refine dQ ?_|refine x_mv ?_|refine dB ?_|refine x_sk0 ?_|refine dR ?_|refine ce ?_|refine x_sto ?_|refine cf ?_|refine x_app0 ?_|refine x_ld ?_)
  refine bi (x:=.c (.v (.int .i64 (-1)))) rfl aN ⟨?_,rfl⟩
  rw [dt fun j y hj hy=>hno j y omq hy]
theorem sJ {l:List E}(hl:∀e∈l,e.Ty prog 106)(hk:∀e∈l,e.enc.length=6)(hlen:l.length≤1073741824)(p:E→Bool)(f:FuncId)(hc:∀x∈l,Ctr prog f (.ag (acE x) :: []) [] (.c (.v (.bool (p x)))) []):Ctr prog 189 [.c (.ro l.length 6 (acL l)),.c (.fn f [])] [] (.c (.v (.bool (l.any p)))) []:=by
 refine av func189 rfl rfl ?_
 have hcc:=sI hl hk hlen p f hc
 repeat (first|refine ae ?_|refine ah ?_|refine ai ?_|refine au ?_|refine am ?_|refine aa fun C=>?_|refine ar (by kernel_rfl) (by kernel_rfl) fun C=>?_|refine ab ?_|refine bD ?_|refine dP ?_|refine dM ?_|refine dQ ?_|refine x_mv ?_|refine dB ?_|refine x_sk0 ?_|refine dR ?_|refine ce ?_|refine x_sto ?_|refine cf ?_|refine x_app0 ?_|refine x_ld ?_)
 refine il hcc ?_
 repeat (first|refine ae ?_|refine ah ?_|refine ai ?_|refine au ?_|refine am ?_|refine aa fun C=>?_|refine ar (by kernel_rfl) (by kernel_rfl) fun C=>?_|refine ab ?_|refine bD ?_|refine dP ?_|refine dM ?_|refine dQ ?_|refine x_mv ?_|refine dB ?_|refine x_sk0 ?_|refine dR ?_|refine ce ?_|refine x_sto ?_|refine cf ?_|refine x_app0 ?_|refine x_ld ?_)
 refine bi (x:=.c (.v (.bool (decide (gf p l ≥ 0))))) rfl aN ⟨?_,rfl⟩
 rw [fa]
theorem sK {l:List E}(hl:∀e∈l,e.Ty prog 87)(hk:∀e∈l,e.enc.length=6)(hlen:l.length≤1073741824)(p:E→Bool)(f:FuncId)(hc:∀x∈l,Ctr prog f (.ag (acE x) :: []) [] (.c (.v (.bool (p x)))) []):Ctr prog 137 [.c (.ro l.length 6 (acL l)),.c (.fn f [])] [] (.c (.v (.int .i64 (gf p l)))) []:=by
 refine av func137 rfl rfl ?_
 repeat (first|refine ae ?_|refine ah ?_|refine ai ?_|refine au ?_|refine am ?_|refine aa fun C=>?_|refine ar (by kernel_rfl) (by kernel_rfl) fun C=>?_|refine ab ?_|refine bD ?_|refine dP ?_|refine dM ?_|refine dQ ?_|refine x_mv ?_|refine dB ?_|refine x_sk0 ?_|refine dR ?_|refine ce ?_|refine x_sto ?_|refine cf ?_|refine x_app0 ?_|refine x_ld ?_)
 refine aP (fun k:Nat=>⟨dA [(0,.c (.ro l.length 6 (acL l))),(1,.c (.fn f [])),(7,.c (.v (.int .i64 l.length))),(8,.c (.v (.int .i64 k)))],dq [],0,[],19⟩)
  (fun N k=>k+N=l.length∧∀j y,j<k→l[j]? = some y→p y=false) l.length 0 ⟨omq,omq⟩ ?_ ?_
 ·(refine aC _ _ rfl rfl ?_ ?_<;>exact tdy0)
 rintro N k ⟨hN,hno⟩
 repeat (first|refine ae ?_|refine ah ?_|refine ai ?_|refine au ?_|refine am ?_|refine aa fun C=>?_|refine ar (by kernel_rfl) (by kernel_rfl) fun C=>?_|refine ab ?_|refine bD ?_|refine dP ?_|refine dM ?_|refine dQ ?_|refine x_mv ?_|refine dB ?_|refine x_sk0 ?_|refine dR ?_|refine ce ?_|refine x_sto ?_|refine cf ?_|refine x_app0 ?_|refine x_ld ?_)
 refine cy (by rfl) (fun h1=>?_) fun h1=>?_
 ·have hk':k<l.length:=by simpa using h1
  obtain⟨x,hx⟩:∃x,l[k]? = some x:=⟨_,List.getElem?_eq_getElem hk'⟩
  have hxt:=hl x (List.mem_of_getElem? hx)
  have hcc:=hc x (List.mem_of_getElem? hx)
  obtain⟨y0,y1,y2,y3,y4A,y4c,y4l,y5A,y5c,y5l,rfl,gy0,gy1,gy2,gy3,gy4,gy5,-⟩:=bJ hxt
  repeat (first|refine ae ?_|refine ah ?_|refine ai ?_|refine au ?_|refine am ?_|refine aa fun C=>?_|refine ar (by kernel_rfl) (by kernel_rfl) fun C=>?_|refine ab ?_|refine bD ?_|refine dP ?_|refine dM ?_|refine dQ ?_|refine x_mv ?_|refine dB ?_|refine x_sk0 ?_|refine dR ?_|refine ce ?_|refine x_sto ?_|refine cf ?_|refine x_app0 ?_|refine x_ld ?_)
  refine il hcc ?_
  repeat (first|refine ae ?_|refine ah ?_|refine ai ?_|refine au ?_|refine am ?_|refine aa fun C=>?_|refine ar (by kernel_rfl) (by kernel_rfl) fun C=>?_|refine ab ?_|refine bD ?_|refine dP ?_|refine dM ?_|refine dQ ?_|refine x_mv ?_|refine dB ?_|refine x_sk0 ?_|refine dR ?_|refine ce ?_|refine x_sto ?_|refine cf ?_|refine x_app0 ?_|refine x_ld ?_)
  refine cy (by rfl) (fun h2=>?_) fun h2=>?_
  ·repeat (first|refine ae ?_|refine ah ?_|refine ai ?_|refine au ?_|refine am ?_|refine aa fun C=>?_|refine ar (by kernel_rfl) (by kernel_rfl) fun C=>?_|refine ab ?_|refine bD ?_|refine dP ?_|refine dM ?_|refine dQ ?_|refine x_mv ?_|refine dB ?_|refine x_sk0 ?_|refine dR ?_|refine ce ?_|refine x_sto ?_|refine cf ?_|refine x_app0 ?_|refine x_ld ?_)
   refine bi (x:=.c (.v (.int .i64 k))) rfl aN ⟨?_,rfl⟩
   rw [fg hno hx h2]
  ·repeat (first|refine ae ?_|refine ah ?_|refine ai ?_|refine au ?_|refine am ?_|refine aa fun C=>?_|refine ar (by kernel_rfl) (by kernel_rfl) fun C=>?_|refine ab ?_|refine bD ?_|refine dP ?_|refine dM ?_|refine dQ ?_|refine x_mv ?_|refine dB ?_|refine x_sk0 ?_|refine dR ?_|refine ce ?_|refine x_sto ?_|refine cf ?_|refine x_app0 ?_|refine x_ld ?_)
   refine⟨N-1,k+1,omq,⟨omq,fun j z hj hz=>?_⟩,?_⟩
   ·by_cases e:j=k
    ·rw [e,hx] at hz;injection hz with hz;subst hz;exact h2
    ·exact hno j z omq hz
   ·(refine aC _ _ rfl rfl ?_ ?_<;>exact tdy0)
 ·have hk':¬k<l.length:=by simpa using h1
  repeat (first|refine ae ?_|refine ah ?_|refine ai ?_|refine au ?_|refine am ?_|refine aa fun C=>?_|refine ar (by kernel_rfl) (by kernel_rfl) fun C=>?_|refine ab ?_|refine bD ?_|refine dP ?_|refine dM ?_|refine dQ ?_|refine x_mv ?_|refine dB ?_|refine x_sk0 ?_|refine dR ?_|refine ce ?_|refine x_sto ?_|refine cf ?_|refine x_app0 ?_|refine x_ld ?_)
  refine bi (x:=.c (.v (.int .i64 (-1)))) rfl aN ⟨?_,rfl⟩
  rw [dt fun j y hj hy=>hno j y omq hy]
theorem sL {l:List E}(hl:∀e∈l,e.Ty prog 87)(hk:∀e∈l,e.enc.length=6)(hlen:l.length≤1073741824)(p:E→Bool)(f:FuncId)(hc:∀x∈l,Ctr prog f (.ag (acE x) :: []) [] (.c (.v (.bool (p x)))) []):Ctr prog 91 [.c (.ro l.length 6 (acL l)),.c (.fn f [])] [] (.c (.v (.bool (l.any p)))) []:=by
 refine av func91 rfl rfl ?_
 have hcc:=sK hl hk hlen p f hc
 repeat (first|refine ae ?_|refine ah ?_|refine ai ?_|refine au ?_|refine am ?_|refine aa fun C=>?_|refine ar (by kernel_rfl) (by kernel_rfl) fun C=>?_|refine ab ?_|refine bD ?_|refine dP ?_|refine dM ?_|refine dQ ?_|refine x_mv ?_|refine dB ?_|refine x_sk0 ?_|refine dR ?_|refine ce ?_|refine x_sto ?_|refine cf ?_|refine x_app0 ?_|refine x_ld ?_)
 refine il hcc ?_
 repeat (first|refine ae ?_|refine ah ?_|refine ai ?_|refine au ?_|refine am ?_|refine aa fun C=>?_|refine ar (by kernel_rfl) (by kernel_rfl) fun C=>?_|refine ab ?_|refine bD ?_|refine dP ?_|refine dM ?_|refine dQ ?_|refine x_mv ?_|refine dB ?_|refine x_sk0 ?_|refine dR ?_|refine ce ?_|refine x_sto ?_|refine cf ?_|refine x_app0 ?_|refine x_ld ?_)
 refine bi (x:=.c (.v (.bool (decide (gf p l ≥ 0))))) rfl aN ⟨?_,rfl⟩
 rw [fa]
theorem yC {l:List E}(hl:∀e∈l,e.Ty prog 89)(hk:∀e∈l,e.enc.length=3)(hlen:l.length≤1073741824){b:List AC}(hb:bf b=true)(p:E→Bool)(f:FuncId)(hc:∀x∈l,Ctr prog f (.ag (acE x) :: [.c (.pt 0 0)]) [b] (.c (.v (.bool (p x)))) [b]):Ctr prog 143 [.c (.ro l.length 3 (acL l)),.c (.fn f [.pt 0 0])] [b] (.c (.v (.int .i64 (gf p l)))) [b]:=by
 refine av func143 rfl rfl ?_
 repeat (first|refine ae ?_|refine ah ?_|refine ai ?_|refine au ?_|refine am ?_|refine aa fun C=>?_|refine ar (by kernel_rfl) (by kernel_rfl) fun C=>?_|refine ab ?_|refine bD ?_|refine dP ?_|refine dM ?_|refine dQ ?_|refine x_mv ?_|refine dB ?_|refine x_sk0 ?_|refine dR ?_|refine ce ?_|refine x_sto ?_|refine cf ?_|refine x_app0 ?_|refine x_ld ?_)
 refine aP (fun k:Nat=>⟨dA [(0,.c (.ro l.length 3 (acL l))),(1,.c (.fn f [.pt 0 0])),(7,.c (.v (.int .i64 l.length))),(8,.c (.v (.int .i64 k)))],dq [(0,0,⟨0,0,0,true,b⟩)],1,[0],19⟩)
  (fun N k=>k+N=l.length∧∀j y,j<k→l[j]? = some y→p y=false) l.length 0 ⟨omq,omq⟩ ?_ ?_
 ·refine aC _ _ rfl rfl ?_ ?_;(repeat' (first|exact TmOk.nil|exact RwOk.nil|refine TmOk.cons ?_ ?_|refine RwOk.cons ?_ ?_|rfl|(refine rnV_id' rfl ?_;exact byc)|(refine bv ?_;first|rfl|omega|(rw [aW omq omq];omega))|(refine aK rfl ?_;exact byc)|exact cb rfl rfl|(refine rw_mid (by rfl) (by rfl) ?_ ?_<;>exact byc)|(refine rw_rn' rfl rfl ?_;simp;done)));refine aK rfl hb
 rintro N k ⟨hN,hno⟩
 repeat (first|refine ae ?_|refine ah ?_|refine ai ?_|refine au ?_|refine am ?_|refine aa fun C=>?_|refine ar (by kernel_rfl) (by kernel_rfl) fun C=>?_|refine ab ?_|refine bD ?_|refine dP ?_|refine dM ?_|refine dQ ?_|refine x_mv ?_|refine dB ?_|refine x_sk0 ?_|refine dR ?_|refine ce ?_|refine x_sto ?_|refine cf ?_|refine x_app0 ?_|refine x_ld ?_)
 refine cy (by rfl) (fun h1=>?_) fun h1=>?_
 ·have hk':k<l.length:=by simpa using h1
  obtain⟨x,hx⟩:∃x,l[k]? = some x:=⟨_,List.getElem?_eq_getElem hk'⟩
  have hxt:=hl x (List.mem_of_getElem? hx)
  have hcc:=hc x (List.mem_of_getElem? hx)
  obtain⟨y0,y1A,y1c,y1l,y2A,y2c,y2l,rfl,gy0,gy1,gy2,-⟩:=bN hxt
  repeat (first|refine ae ?_|refine ah ?_|refine ai ?_|refine au ?_|refine am ?_|refine aa fun C=>?_|refine ar (by kernel_rfl) (by kernel_rfl) fun C=>?_|refine ab ?_|refine bD ?_|refine dP ?_|refine dM ?_|refine dQ ?_|refine x_mv ?_|refine dB ?_|refine x_sk0 ?_|refine dR ?_|refine ce ?_|refine x_sto ?_|refine cf ?_|refine x_app0 ?_|refine x_ld ?_)
  refine xi 0 hcc ?_ (hl:=cW (by rfl) hb)
  repeat (first|refine ae ?_|refine ah ?_|refine ai ?_|refine au ?_|refine am ?_|refine aa fun C=>?_|refine ar (by kernel_rfl) (by kernel_rfl) fun C=>?_|refine ab ?_|refine bD ?_|refine dP ?_|refine dM ?_|refine dQ ?_|refine x_mv ?_|refine dB ?_|refine x_sk0 ?_|refine dR ?_|refine ce ?_|refine x_sto ?_|refine cf ?_|refine x_app0 ?_|refine x_ld ?_)
  refine cy (by rfl) (fun h2=>?_) fun h2=>?_
  ·repeat (first|refine ae ?_|refine ah ?_|refine ai ?_|refine au ?_|refine am ?_|refine aa fun C=>?_|refine ar (by kernel_rfl) (by kernel_rfl) fun C=>?_|refine ab ?_|refine bD ?_|refine dP ?_|refine dM ?_|refine dQ ?_|refine x_mv ?_|refine dB ?_|refine x_sk0 ?_|refine dR ?_|refine ce ?_|refine x_sto ?_|refine cf ?_|refine x_app0 ?_|refine x_ld ?_)
   refine eo (x:=.c (.v (.int .i64 k))) (rw:=⟨0,0,0,true,b⟩) rfl rfl rfl hb rfl ⟨?_,rfl⟩
   rw [fg hno hx h2]
  ·repeat (first|refine ae ?_|refine ah ?_|refine ai ?_|refine au ?_|refine am ?_|refine aa fun C=>?_|refine ar (by kernel_rfl) (by kernel_rfl) fun C=>?_|refine ab ?_|refine bD ?_|refine dP ?_|refine dM ?_|refine dQ ?_|refine x_mv ?_|refine dB ?_|refine x_sk0 ?_|refine dR ?_|refine ce ?_|refine x_sto ?_|refine cf ?_|refine x_app0 ?_|refine x_ld ?_)
   refine⟨N-1,k+1,omq,⟨omq,fun j z hj hz=>?_⟩,?_⟩
   ·by_cases e:j=k
    ·rw [e,hx] at hz;injection hz with hz;subst hz;exact h2
    ·exact hno j z omq hz
   ·refine aC _ _ rfl rfl ?_ ?_;(repeat' (first|exact TmOk.nil|exact RwOk.nil|refine TmOk.cons ?_ ?_|refine RwOk.cons ?_ ?_|rfl|(refine rnV_id' rfl ?_;exact byc)|(refine bv ?_;first|rfl|omega|(rw [aW omq omq];omega))|(refine aK rfl ?_;exact byc)|exact cb rfl rfl|(refine rw_mid (by rfl) (by rfl) ?_ ?_<;>exact byc)|(refine rw_rn' rfl rfl ?_;simp;done)));refine aK rfl hb
 ·have hk':¬k<l.length:=by simpa using h1
  repeat (first|refine ae ?_|refine ah ?_|refine ai ?_|refine au ?_|refine am ?_|refine aa fun C=>?_|refine ar (by kernel_rfl) (by kernel_rfl) fun C=>?_|refine ab ?_|refine bD ?_|refine dP ?_|refine dM ?_|refine dQ ?_|refine x_mv ?_|refine dB ?_|refine x_sk0 ?_|refine dR ?_|refine ce ?_|refine x_sto ?_|refine cf ?_|refine x_app0 ?_|refine x_ld ?_)
  refine eo (x:=.c (.v (.int .i64 (-1)))) (rw:=⟨0,0,0,true,b⟩) rfl rfl rfl hb rfl ⟨?_,rfl⟩
  rw [dt fun j y hj hy=>hno j y omq hy]
theorem wg {l:List E}{p:E→Bool}:(l.any fun e=>!p e)=!l.all p:=by
 induction l with
 | nil=>rfl
 | cons x r ih=>rw [List.any_cons,List.all_cons,ih];cases p x<;>rfl
theorem sM {e:E}(he:e.Ty prog 106)(hsz:e.sz≤1048576):Ctr prog 190 [.ag (acE e)] [] (.c (.v (.bool (!ja e)))) []:=by
 have c1:=oG he hsz
 generalize ja e=b at c1 ⊢
 obtain⟨z0,z1,z2,zA,zc,zx,yA,yc,ya,wA,wc,yb,rfl,-⟩:=aQ he
 refine av func190 rfl rfl ?_
 repeat' (first|(apply ay;first|refine ak ?_|refine bu ?_|refine aI c1 ?_|refine bF ?_|refine bL ?_)|refine al ?_|refine ab ?_|refine aa fun C=>?_|refine ae ?_)
 exact d9
theorem oI {l:List E}(hl:∀e∈l,e.Ty prog 106)(hk:∀e∈l,e.enc.length=6)(hlen:l.length+E.szL l≤1048576):Ctr prog 139 [.c (.ro l.length 6 (acL l))] [] (.c (.v (.bool (fh l)))) []:=by
 have c1:=sJ hl hk omq (fun e=>!ja e) 190 fun x hx=>sM (hl x hx) (by have:=E.szL_mem hx;omega)
 rw [wg] at c1
 unfold fh
 generalize l.all ja=b at c1 ⊢
 by_cases h:l.length≤20
 ·rw [show decide (l.length≤20)=true from decide_eq_true h,Bool.true_and]
  refine av func139 rfl rfl ?_
  repeat' (first|(apply ay;first|refine bO ?_|(refine aU ?_ ?_<;>intro hG<;>(try cases hG))|refine ao ?_|refine ak ?_|refine aI c1 ?_|refine aY ?_|refine bz ?_|refine bF ?_|refine aF ?_)|refine al ?_|refine ab ?_|refine aa fun C=>?_|refine ae ?_)
  all_goals first
   | (exfalso;simp only [decide_eq_true_iff,decide_eq_false_iff_not] at *;omega)
   | (refine am ?_;refine bi rfl aN ⟨?_,rfl⟩;cases b<;>rfl)
 ·rw [show decide (l.length≤20)=false from decide_eq_false h,Bool.false_and]
  refine av func139 rfl rfl ?_
  repeat' (first|(apply ay;first|refine bO ?_|(refine aU ?_ ?_<;>intro hG<;>(try cases hG))|refine ao ?_|refine ak ?_|refine aI c1 ?_|refine aY ?_|refine bz ?_|refine bF ?_|refine aF ?_)|refine al ?_|refine ab ?_|refine aa fun C=>?_|refine ae ?_)
  all_goals first
   | (exfalso;simp only [decide_eq_true_iff,decide_eq_false_iff_not] at *;omega)
   | (refine am ?_;refine bi rfl aN ⟨?_,rfl⟩;rfl)
def zX:E:=.agg [.int .i64 0,.int .i64 0,.str ByteArray.empty,.lst 4 70 none 0 []]
theorem zX_Ty:zX.Ty prog 70:=E.Ty.mk_agg underlying70 (E.TyF.mk_cons (gL (by decide)) (E.TyF.mk_cons (gL (by decide)) (E.TyF.mk_cons (by simp only [E.Ty];exact⟨underlying9,by decide⟩) (E.TyF.mk_cons (E.Ty.mk_lst underlying68 (by kernel_rfl) (by simp) (by simp)) E.TyF.mk_nil))))
theorem zk2 (l:List E):sV l []=decide (l.length=0):=by
 cases l with
 | nil=>exact jU
 | cons x r=>rw [rj (by simp)];rfl
theorem zj4 {e:E}(he:e.Ty prog 70):eqD e zX=pU e:=by
 obtain⟨k0,n0,s0,xA,xc,l,rfl,-⟩:=aB he
 unfold zX
 rw [wd,fE,fE,fE,fE,jU,qf,qf,wb,we,zk2,Bool.and_true]
 show ((k0==0)&&((n0==0)&&(emB s0&&decide (l.length=0))))=(decide (k0=0)&&(decide (n0=0)&&(emB s0&&decide (l.length=0))))
 rfl
theorem zl2 {e:E}(he:e.Ty prog 70)(hsz:e.sz≤1048576):Ctr prog 141 [.ag (acE e),.ag [.v (.int .i64 0),.v (.int .i64 0),.v (.string ByteArray.empty),.v (.slice none 0 0)]] [] (.c (.v (.bool (pU e)))) []:=by
 rw [←zj4 he]
 refine pp (lA he zX_Ty hsz (by decide)) fun w St φ K us h=>?_
 simp only [VRL] at h ⊢
 obtain⟨u,us1,rfl,h1,v,us2,rfl,h2,rfl⟩:=h
 refine⟨u,[v],rfl,h1,v,[],rfl,?_,rfl⟩
 simp only [VR] at h2 ⊢
 obtain⟨vs,rfl,h3⟩:=h2
 refine⟨vs,rfl,?_⟩
 simp only [zX,acE,acL,CRL,CR,List.append_nil,List.cons_append,List.nil_append,List.length_nil] at h3 ⊢
 obtain⟨u1,r1,f1,g1,rfl,e1,⟨rfl,s1,rfl⟩,u2,r2,f2,g2,rfl,e2,⟨rfl,s2,rfl⟩,u3,r3,f3,g3,rfl,e3,⟨rfl,s3,rfl⟩,u4,r4,f4,g4,rfl,e4,⟨rfl,s4,rfl⟩,rfl,rfl⟩:=h3
 refine⟨_,_,[],[],rfl,rfl,⟨rfl,rfl,rfl⟩,_,_,[],[],rfl,rfl,⟨rfl,rfl,rfl⟩,_,_,[],[],rfl,rfl,⟨rfl,rfl,rfl⟩,_,_,[],[],rfl,rfl,⟨rfl,none,0,rfl,⟨Nat.le_refl _,by unfold maxLen;omega,fun _=>rfl⟩,by simp,fun h=>absurd h (Nat.lt_irrefl 0)⟩,rfl,rfl⟩
theorem yD {k:Int}{p:E}{l:List E}(hp:p.Ty prog 70)(hpz:p.sz≤1048576)(hl:∀e∈l,e.Ty prog 106)(hk:∀e∈l,e.enc.length=6)(hlen:l.length+E.szL l≤1048576):Ctr prog 93 [.ag (.v (.int .i64 k) :: (acE p++[.ro l.length 6 (acL l)]))] [] (.c (.v (.bool (mV k p l)))) []:=by
 have c1:=oI hl hk hlen
 have c2:=zl2 hp hpz
 have c3:=jv hp hpz
 have cw:=fQ k 1 4
 obtain⟨k0,n0,s0,xA,xc,pl,rfl,-⟩:=aB hp
 unfold mV
 generalize fh l=b1 at c1 ⊢
 generalize pU _=b2 at c2 ⊢
 generalize fZ _=b3 at c3 ⊢
 by_cases h4:k=4
 ·subst h4
  rw [if_pos rfl,show inR 4 1 4=true from rfl] at *
  cases b1
  all_goals
   refine av func93 rfl rfl ?_
   repeat' (first|(apply ay;first|(refine aU ?_ ?_<;>intro hG<;>(try cases hG))|refine ak ?_|refine bd ?_|refine aL ?_|refine aI cw ?_|refine aI c1 ?_|refine aI c3 ?_|refine aq ?_|refine bF ?_|refine aF ?_|refine bL ?_|refine aS ?_)|refine al ?_|refine ab ?_|refine aa fun C=>?_|refine ae ?_|refine ai ?_|refine az rfl ?_|refine aE rfl ?_)
   exact d9
 ·rw [if_neg h4]
  generalize inR k 1 4=bw at cw ⊢
  cases bw<;>cases b1
  case true.true =>
   refine av func93 rfl rfl ?_
   repeat' (first|(apply ay;first|(refine aU ?_ ?_<;>intro hG<;>(try cases hG))|refine ak ?_|refine bd ?_|refine aL ?_|refine aI cw ?_|refine aI c1 ?_|refine aq ?_|refine bF ?_|refine aF ?_|refine bL ?_)|refine al ?_|refine ab ?_|refine aa fun C=>?_|refine ae ?_|refine ai ?_|refine aE rfl ?_)
   refine aj (by rfl) (fun hC=>absurd (eq_of_beq hC) h4) fun hC=>?_
   repeat' (first|(apply ay;first|refine ak ?_|refine bd ?_|refine aI c2 ?_|refine aS ?_)|refine al ?_|refine ab ?_|refine aa fun C=>?_|refine ae ?_|refine ai ?_)
   exact d9
  all_goals
   refine av func93 rfl rfl ?_
   repeat' (first|(apply ay;first|refine bO ?_|(refine aU ?_ ?_<;>intro hG<;>(try cases hG))|refine ak ?_|refine bd ?_|refine aL ?_|refine aI cw ?_|refine aI c1 ?_|refine bF ?_|refine aF ?_|refine bL ?_)|refine al ?_|refine ab ?_|refine aa fun C=>?_|refine ae ?_|refine az rfl ?_)
   exact d9
theorem zk4 {s:ByteArray}{ps l:List E}(hs:s.size≤1048576)(hp:∀e∈ps,e.Ty prog 9)(kp:∀e∈ps,e.enc.length=1)(zp:ps.length+E.szL ps≤1048576)(hl:∀e∈l,e.Ty prog 106)(hk:∀e∈l,e.enc.length=6)(hlen:l.length+E.szL l≤1048576):Ctr prog 94 [.ag [.v (.string s),.ro ps.length 1 (acL ps),.ro l.length 6 (acL l)]] [] (.c (.v (.bool (bW s&&(decide (ps.length≤4)&&(fh l&&sx ps)))))) []:=by
 have c1:=dc hs
 have c2:=oI hl hk hlen
 generalize bW s=b1 at c1 ⊢
 generalize fh l=b2 at c2 ⊢
 by_cases h:b1=true∧ps.length≤4∧b2=true
 ·obtain⟨rfl,h4,rfl⟩:=h
  rw [show decide (ps.length≤4)=true from decide_eq_true h4,Bool.true_and,Bool.true_and,Bool.true_and]
  refine av func94 rfl rfl ?_
  repeat' (first|(apply ay;first|refine bO ?_|(refine aU ?_ ?_<;>intro hG<;>(try cases hG))|refine ao ?_|refine ak ?_|refine bd ?_|refine aL ?_|refine aI c1 ?_|refine aI c2 ?_|refine aY ?_|refine a8 ?_|refine bF ?_|refine aF ?_|refine bL ?_)|refine al ?_|refine ab ?_|refine aa fun C=>?_|refine ae ?_|refine ah ?_|refine ai ?_|refine az rfl ?_|refine aE rfl ?_)
  all_goals try (exfalso;simp only [decide_eq_true_iff] at hG;omega)
  refine aP (fun k:Nat=>⟨dA [(1,.c (.pt 1 0)),(22,.c (.ro ps.length 1 (acL ps))),(23,.c (.v (.int .i64 ps.length))),(24,.c (.v (.int .i64 (k:Int))))],dq [(1,1,⟨89,0,0,true,[.v (.string s),.ro ps.length 1 (acL ps),.ro l.length 6 (acL l)]⟩)],0,[1],41⟩)
   (fun N k=>k+N=ps.length∧∀j,j<k→pW ps j=true) ps.length 0 ⟨omq,fun j hj=>absurd hj (Nat.not_lt_zero j)⟩ ?_ ?_
  ·(refine aC _ _ rfl rfl ?_ ?_<;>exact tdy0)
  rintro N k ⟨hN,hr⟩
  try dsimp only
  repeat' (first|(apply ay;refine aO ?_)|refine al ?_|refine ab ?_|refine aa fun C=>?_|refine ae ?_)
  refine aj (by rfl) (fun h1=>?_) fun h1=>?_
  ·have hk':k<ps.length:=by simpa using h1
   obtain⟨x,hx'⟩:∃x,ps[k]? = some x:=⟨_,List.getElem?_eq_getElem hk'⟩
   have hxz:=E.szL_mem (List.mem_of_getElem? hx')
   obtain⟨z,rfl,-⟩:=(hp x (List.mem_of_getElem? hx')).str_ underlying9
   simp only [E.sz] at hxz
   have d1:=dc (s:=z) omq
   have hll:(ps.take k).length≤1073741824:=by rw [List.length_take];omega
   have d2:Ctr prog 53 [.c (.ro (ps.take k).length 1 (acL (ps.take k))),.c (.v (.string z))] [] (.c (.v (.bool (jE (ps.take k) z)))) []:=hH (fun e he=>hp e (List.mem_of_mem_take he)) (fun e he=>kp e (List.mem_of_mem_take he)) hll z
   have ep:pW ps k=(bW z&&!jE (ps.take k) z):=by unfold pW;rw [hx'];rfl
   generalize bW z=e1 at d1 ep
   generalize jE (ps.take k) z=e2 at d2 ep
   cases e1<;>cases e2
   case true.false =>
    repeat' (first|(apply ay;refine n_hd k kp omq rfl ?_)|(apply ay;first|(refine aU ?_ ?_<;>intro hG<;>(try cases hG))|refine ao ?_|refine ak ?_|refine bd ?_|refine aL ?_|refine dC ?_|refine aI d1 ?_|refine aI d2 ?_|refine dE ?_|refine aD ?_|refine bF ?_|refine aF ?_)|refine al ?_|refine ab ?_|refine aa fun C=>?_|refine ae ?_|refine ah ?_|refine ai ?_|refine aE rfl ?_)
    refine⟨N-1,k+1,omq,⟨omq,fun j hj=>?_⟩,?_⟩
    ·by_cases e:j=k
     ·subst e;exact ep
     ·exact hr j omq
    ·(refine aC _ _ rfl rfl ?_ ?_<;>exact tdy0)
   all_goals
    rw [show sx ps=false from jb hk' ep]
    repeat' (first|(apply ay;refine n_hd k kp omq rfl ?_)|(apply ay;first|refine bO ?_|(refine aU ?_ ?_<;>intro hG<;>(try cases hG))|refine ao ?_|refine ak ?_|refine bd ?_|refine aL ?_|refine dC ?_|refine aI d1 ?_|refine aI d2 ?_|refine dE ?_|refine bF ?_|refine aF ?_)|refine al ?_|refine ab ?_|refine aa fun C=>?_|refine ae ?_|refine ah ?_|refine ai ?_|refine az rfl ?_)
    exact d9
  ·have hk':¬k<ps.length:=by simpa using h1
   rw [show sx ps=true from jS fun j hj=>hr j omq]
   repeat' (first|(apply ay;refine ak ?_)|refine al ?_|refine ab ?_|refine aa fun C=>?_|refine ae ?_|refine au ?_)
   exact d9
 ·rw [show (b1&&(decide (ps.length≤4)&&(b2&&sx ps)))=false by
   cases b1<;>cases b2<;>simp_all
   intro h9
   omega]
  cases b1<;>cases b2
  all_goals
   refine av func94 rfl rfl ?_
   repeat' (first|(apply ay;first|refine bO ?_|(refine aU ?_ ?_<;>intro hG<;>(try cases hG))|refine ao ?_|refine ak ?_|refine bd ?_|refine aL ?_|refine aI c1 ?_|refine aI c2 ?_|refine aY ?_|refine a8 ?_|refine bF ?_|refine aF ?_|refine bL ?_)|refine al ?_|refine ab ?_|refine aa fun C=>?_|refine ae ?_|refine ah ?_|refine ai ?_|(refine aj (by rfl) ?_ ?_<;>intro hC<;>(try cases hC)))
  all_goals first
   | (refine am ?_;refine bi rfl aN ⟨?_,rfl⟩;rfl)
   | (exfalso;simp_all;done)
   | (exfalso;simp_all;omega)
theorem zm2 {x:E}(hx:x.Ty prog 89)(s:ByteArray):Ctr prog 144 [.ag (acE x),.c (.pt 0 0)] [[.v (.string s)]] (.c (.v (.bool (q7 s x)))) [[.v (.string s)]]:=by
 obtain⟨n0,pA,pc,ps,bA,bc,bl,rfl,-⟩:=bN hx
 refine av func144 rfl rfl ?_
 repeat' (first|(apply ay;first|refine ak ?_|refine bd ?_|refine aL ?_|refine bG ?_|refine bL ?_)|refine al ?_|refine ab ?_|refine aa fun C=>?_|refine ae ?_)
 refine am ?_
 refine eo rfl aN rfl (by rfl) rfl ⟨?_,?_⟩
 all_goals rfl
theorem zl4 {rs fs:List E}(hl:∀e∈fs,e.Ty prog 89)(hk:∀e∈fs,e.enc.length=3)(hlen:fs.length≤1048576)(s:ByteArray):Ctr prog 95 [.ag [.ro rs.length 6 (acL rs),.ro fs.length 3 (acL fs)],.c (.v (.string s))] [] (.c (.v (.int .i64 (gf (q7 s) fs)))) []:=by
 have c1:=yC hl hk omq (b:=[.v (.string s)]) rfl (q7 s) 144 fun x hx=>zm2 (hl x hx) s
 refine av func95 rfl rfl ?_
 repeat' (first|(apply ay;first|refine ak ?_|refine bd ?_|refine be 3 (c1) ?_|refine bL ?_|refine aS ?_)|refine al ?_|refine ab ?_|refine aa fun C=>?_|refine ae ?_)
 exact d9
theorem zn2 {x:E}(hx:x.Ty prog 87)(hsz:x.sz≤1048576):Ctr prog 92 [.ag (acE x)] [] (.c (.v (.bool (!kT x)))) []:=by
 obtain⟨k0,p0,p1,p2,pA,pc,pl,bA,bc,bl,rfl,-,g1,g2,g3,⟨g4,g4'⟩,⟨g5,g5'⟩,-⟩:=bJ hx
 simp only [E.sz,E.szL] at hsz
 have cx:=yD (k:=k0) (p:=.agg [.int .i64 p0,.int .i64 p1,.str p2,.lst 4 70 pA pc pl]) (E.Ty.mk_agg underlying70 (E.TyF.mk_cons (gL g1) (E.TyF.mk_cons (gL g2) (E.TyF.mk_cons (by simp only [E.Ty];exact⟨underlying9,by unfold maxLen;omega⟩) (E.TyF.mk_cons (E.Ty.mk_lst underlying68 (by kernel_rfl) g4 g4') E.TyF.mk_nil))))) (by simp only [E.sz,E.szL];omega) g5 g5' omq
 rw [show kT (.agg [.int .i64 k0,.agg [.int .i64 p0,.int .i64 p1,.str p2,.lst 4 70 pA pc pl],.lst 6 106 bA bc bl])=mV k0 (.agg [.int .i64 p0,.int .i64 p1,.str p2,.lst 4 70 pA pc pl]) bl from rfl]
 generalize mV k0 _ bl=b at cx ⊢
 refine av func92 rfl rfl ?_
 repeat' (first|(apply ay;first|refine ak ?_|refine bu ?_|refine aI cx ?_|refine bF ?_|refine bL ?_)|refine al ?_|refine ab ?_|refine aa fun C=>?_|refine ae ?_)
 exact d9
theorem oJ {e:E}(he:e.Ty prog 27)(hsz:e.sz≤1048576):Ctr prog 39 [.ag (acE e)] [] (.c (.v (.bool (progE e)))) []:=by
 obtain⟨rA,rc,rs,fA,fc,fs,rfl,⟨hr,kr⟩,⟨hf,kf⟩,-⟩:=b8 he
 simp only [E.sz,E.szL] at hsz
 show Ctr _ _ _ _ (.c (.v (.bool (eX rs fs)))) _
 have cR:=sL hr kr omq (fun e=>!kT e) 92 fun x hx=>zn2 (hr x hx) (by have:=E.szL_mem hx;omega)
 rw [wg] at cR
 unfold eX
 generalize rs.all kT=bR at cR ⊢
 by_cases h:rs.length≤10∧fs.length≤6∧bR=true
 ·obtain⟨h1,h2,rfl⟩:=h
  rw [show decide (rs.length≤10)=true from decide_eq_true h1,show decide (fs.length≤6)=true from decide_eq_true h2,Bool.true_and,Bool.true_and]
  refine av func39 rfl rfl ?_
  repeat' (first|(apply ay;first|refine bO ?_|(refine aU ?_ ?_<;>intro hG<;>(try cases hG))|refine ao ?_|refine ak ?_|refine bd ?_|refine aL ?_|refine aI cR ?_|refine aY ?_|refine a8 ?_|refine aF ?_|refine bL ?_)|refine al ?_|refine ab ?_|refine aa fun C=>?_|refine ae ?_|refine ah ?_|refine ai ?_|refine az rfl ?_|refine aE rfl ?_)
  all_goals try (exfalso;simp only [decide_eq_true_iff] at *;omega)
  refine aP (fun k:Nat=>⟨dA [(1,.c (.pt 1 0)),(21,.c (.ro fs.length 3 (acL fs))),(22,.c (.v (.int .i64 fs.length))),(23,.c (.v (.int .i64 (k:Int))))],dq [(1,1,⟨27,0,0,true,[.ro rs.length 6 (acL rs),.ro fs.length 3 (acL fs)]⟩)],0,[1],40⟩)
   (fun N k=>k+N=fs.length∧∀j,j<k→gy fs j=true) fs.length 0 ⟨omq,fun j hj=>absurd hj (Nat.not_lt_zero j)⟩ ?_ ?_
  ·(refine aC _ _ rfl rfl ?_ ?_<;>exact tdy0)
  rintro N i ⟨hN,hno⟩
  try dsimp only
  repeat' (first|(apply ay;refine aO ?_)|refine al ?_|refine ab ?_|refine aa fun C=>?_|refine ae ?_)
  refine aj (by rfl) (fun h1=>?_) fun h1=>?_
  ·have hi':i<fs.length:=by simpa using h1
   obtain⟨x,hx'⟩:∃x,fs[i]? = some x:=⟨_,List.getElem?_eq_getElem hi'⟩
   have hxz:=E.szL_mem (List.mem_of_getElem? hx')
   obtain⟨n0,pA,pc,ps,bA,bc,bl,rfl,g0,⟨g1,g1'⟩,⟨g2,g2'⟩,-⟩:=bN (hf x (List.mem_of_getElem? hx'))
   simp only [E.sz,E.szL] at hxz
   have c1:=zk4 (s:=n0) omq g1 g1' omq g2 g2' omq
   have c2:=zl4 (rs:=rs) hf kf omq n0
   have ef:gy fs i=((bW n0&&(decide (ps.length≤4)&&(fh bl&&sx ps)))&&(gf (q7 n0) fs==(i:Int))):=by unfold gy;rw [hx'];rfl
   generalize (bW n0&&(decide (ps.length≤4)&&(fh bl&&sx ps)))=b1 at c1 ef
   by_cases hi2:gf (q7 n0) fs=(i:Int)
   ·rw [hi2] at c2 ef
    rw [beq_self_eq_true,Bool.and_true] at ef
    cases b1
    ·rw [show qZ fs.length (gy fs)=false from jb hi' ef]
     repeat' (first|(apply ay;first|refine bO ?_|(refine aU ?_ ?_<;>intro hG<;>(try cases hG))|refine ao ?_|refine ak ?_|refine bI ?_|refine bu ?_|refine aI c1 ?_|refine cG ?_|refine dE ?_|refine bF ?_|refine aF ?_|refine dn ?_)|refine al ?_|refine ab ?_|refine aa fun C=>?_|refine ae ?_|refine ah ?_|refine ai ?_|refine az rfl ?_)
     exact d9
    ·repeat' (first|(apply ay;first|(refine aU ?_ ?_<;>intro hG<;>(try cases hG))|refine ao ?_|refine ak ?_|refine bd ?_|refine aL ?_|refine bI ?_|refine bu ?_|refine aI c1 ?_|refine aI c2 ?_|refine cG ?_|refine dE ?_|refine aG ?_|refine bF ?_|refine aF ?_|refine dn ?_)|refine al ?_|refine ab ?_|refine aa fun C=>?_|refine ae ?_|refine ah ?_|refine ai ?_)
     refine aj (by rfl) (fun hC=>by exfalso;simp at hC) fun hC=>?_
     repeat' (first|(apply ay;first|refine ao ?_|refine aD ?_)|refine al ?_|refine ab ?_|refine aa fun C=>?_|refine ai ?_)
     refine⟨N-1,i+1,omq,⟨omq,fun j hj=>?_⟩,?_⟩
     ·by_cases e:j=i
      ·subst e;exact ef
      ·exact hno j omq
     ·(refine aC _ _ rfl rfl ?_ ?_<;>exact tdy0)
   ·rw [show (gf (q7 n0) fs==(i:Int))=false from beq_eq_false_iff_ne.2 hi2,Bool.and_false] at ef
    rw [show qZ fs.length (gy fs)=false from jb hi' ef]
    cases b1
    ·repeat' (first|(apply ay;first|refine bO ?_|(refine aU ?_ ?_<;>intro hG<;>(try cases hG))|refine ao ?_|refine ak ?_|refine bI ?_|refine bu ?_|refine aI c1 ?_|refine cG ?_|refine dE ?_|refine bF ?_|refine aF ?_|refine dn ?_)|refine al ?_|refine ab ?_|refine aa fun C=>?_|refine ae ?_|refine ah ?_|refine ai ?_|refine az rfl ?_)
     exact d9
    ·repeat' (first|(apply ay;first|(refine aU ?_ ?_<;>intro hG<;>(try cases hG))|refine ao ?_|refine ak ?_|refine bd ?_|refine aL ?_|refine bI ?_|refine bu ?_|refine aI c1 ?_|refine aI c2 ?_|refine cG ?_|refine dE ?_|refine aG ?_|refine bF ?_|refine aF ?_|refine dn ?_)|refine al ?_|refine ab ?_|refine aa fun C=>?_|refine ae ?_|refine ah ?_|refine ai ?_)
     refine aj (by rfl) (fun hC=>?_) fun hC=>by exfalso;simp at hC;exact hi2 hC
     repeat' (first|(apply ay;refine ak ?_)|refine al ?_|refine ab ?_|refine aa fun C=>?_|refine ae ?_)
     exact d9
  ·have hi':¬i<fs.length:=by simpa using h1
   rw [show qZ fs.length (gy fs)=true from jS fun j hj=>hno j omq]
   repeat' (first|(apply ay;refine ak ?_)|refine al ?_|refine ab ?_|refine aa fun C=>?_|refine ae ?_|refine au ?_)
   exact d9
 ·rw [show ((decide (rs.length≤10)&&decide (fs.length≤6))&&(bR&&qZ fs.length (gy fs)))=false by
   cases bR
   ·rw [Bool.false_and,Bool.and_false]
   ·by_cases a1:rs.length≤10
    ·have a2:¬fs.length≤6:=fun a2=>h ⟨a1,a2,rfl⟩
     rw [show decide (fs.length≤6)=false from decide_eq_false a2,Bool.and_false,Bool.false_and]
    ·rw [show decide (rs.length≤10)=false from decide_eq_false a1,Bool.false_and,Bool.false_and]]
  cases bR
  all_goals
   refine av func39 rfl rfl ?_
   repeat' (first|(apply ay;first|refine bO ?_|(refine aU ?_ ?_<;>intro hG<;>(try cases hG))|refine ak ?_|refine bd ?_|refine aL ?_|refine aI cR ?_|refine aY ?_|refine a8 ?_|refine aF ?_|refine bL ?_)|refine al ?_|refine ab ?_|refine aa fun C=>?_|refine ae ?_)
  all_goals first
   | (refine az rfl ?_
      repeat' (first|(apply ay;refine ak ?_)|refine al ?_|refine ab ?_|refine aa fun C=>?_|refine ae ?_)
      refine am ?_;refine bi rfl aN ⟨?_,rfl⟩;rfl)
   | (exfalso;simp only [decide_eq_true_iff,decide_eq_false_iff_not] at *;first|omega|(exact h ⟨omq,omq,trivial⟩)|(exact h ⟨omq,omq,rfl⟩))
   | (refine aj (by rfl) (fun hC=>?_) fun hC=>by exfalso;simp only [decide_eq_true_iff,decide_eq_false_iff_not] at *;first|omega|(exact h ⟨omq,omq,trivial⟩)|(exact h ⟨omq,omq,rfl⟩)
      skip
      refine am ?_;refine bi rfl aN ⟨?_,rfl⟩;rfl)
end Go.Proofs.YtmnneflenebgmaaGreat
