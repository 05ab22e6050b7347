/- T -/
import Derived.Test.YtmnneflenebgmaaGreatCnOAJ
set_option maxHeartbeats 0
set_option maxRecDepth 100000
namespace Go.Proofs.YtmnneflenebgmaaGreat
open Go.RowKit Go.Proofs.Tryz
theorem wa {k:Int}{s t:ByteArray}{xs:List E}{na nb:Nat}(h:xs.all fZ=true):fd k s t xs na nb=dF k s t xs.length na nb (eW xs):=by unfold fd;rw [h,Bool.true_and]
theorem sG {k:Int}{s t:ByteArray}(hs:s.size≤1048576)(ht:t.size≤1048576){xs la lb:List E}(hx:xs.length≤1048576)(ha:la.length≤1048576)(hb:lb.length≤1048576)(hxt:∀e∈xs,e.Ty prog 70)(hxk:∀e∈xs,e.enc.length=4)(hxz:∀e∈xs,e.sz≤1048576):Ctr prog 247 [.ag [.v (.int .i64 k),.v (.string s),.v (.string t),.ro xs.length 4 (acL xs),.ro la.length 6 (acL la),.ro lb.length 6 (acL lb)]] [] (.c (.v (.bool (fd k s t xs la.length lb.length)))) []:=by
 refine av func247 rfl rfl ?_
 repeat' (first|(apply ay;first|refine ao ?_|refine ak ?_|refine bd ?_|refine aL ?_|refine aY ?_|refine bL ?_)|refine al ?_|refine ab ?_|refine aa fun C=>?_|refine ae ?_|refine ah ?_)
 refine aP (fun d:Nat=>⟨dA [(1,.c (.pt 1 0)),(8,.c (.ro xs.length 4 (acL xs))),(9,.c (.v (.int .i64 xs.length))),(10,.c (.v (.int .i64 (d:Int))))],dq [(1,1,⟨106,0,0,true,[.v (.int .i64 k),.v (.string s),.v (.string t),.ro xs.length 4 (acL xs),.ro la.length 6 (acL la),.ro lb.length 6 (acL lb)]⟩)],0,[1],138⟩)
  (fun N d=>d+N=xs.length∧∀j y,j<d→xs[j]? = some y→fZ y=true) xs.length 0 ⟨omq,fun j y hj=>absurd hj (Nat.not_lt_zero j)⟩ ?_ ?_
 ·(refine aC _ _ rfl rfl ?_ ?_<;>exact tdy0)
 rintro N d ⟨hN,hr⟩
 try dsimp only
 repeat' (first|(apply ay;refine aO ?_)|refine al ?_|refine ab ?_|refine aa fun C=>?_|refine ae ?_)
 refine aj (by rfl) (fun h1=>?_) fun h1=>?_
 ·have hk':d<xs.length:=by simpa using h1
  obtain⟨x,hx'⟩:∃x,xs[d]? = some x:=⟨_,List.getElem?_eq_getElem hk'⟩
  have hxt':=hxt x (List.mem_of_getElem? hx')
  have cx:=jv hxt' (hxz x (List.mem_of_getElem? hx'))
  cases hb2:fZ x with
  | false =>
   have e0:fd k s t xs la.length lb.length=false:=by
    unfold fd
    cases ha2:xs.all fZ with
    | false=>rfl
    | true=>rw [List.all_eq_true.1 ha2 x (List.mem_of_getElem? hx')] at hb2;cases hb2
   rw [hb2] at cx
   rw [e0]
   obtain⟨y0,y1,y2,yA,yc,yl,rfl,-⟩:=aB hxt'
   repeat' (first|(apply ay;first|refine ak ?_|refine bI ?_|refine bu ?_|refine aI cx ?_|refine cG ?_|refine dE ?_|refine bF ?_|refine dn ?_)|refine al ?_|refine ab ?_|refine aa fun C=>?_|refine ae ?_|refine ah ?_|refine ai ?_|refine az rfl ?_)
   exact d9
  | true =>
   have hb3:=hb2
   rw [hb2] at cx
   obtain⟨y0,y1,y2,yA,yc,yl,rfl,-⟩:=aB hxt'
   repeat' (first|(apply ay;first|refine ao ?_|refine bI ?_|refine bu ?_|refine aI cx ?_|refine cG ?_|refine dE ?_|refine aD ?_|refine bF ?_|refine dn ?_)|refine al ?_|refine ab ?_|refine aa fun C=>?_|refine ae ?_|refine ah ?_|refine ai ?_|refine aE rfl ?_)
   refine⟨N-1,d+1,omq,⟨omq,fun j y hj hy=>?_⟩,?_⟩
   ·by_cases e:j=d
    ·rw [e,hx'] at hy;injection hy with hy;subst hy;exact hb3
    ·exact hr j y omq hy
   ·(refine aC _ _ rfl rfl ?_ ?_<;>exact tdy0)
 have hk':¬d<xs.length:=by simpa using h1
 rw [wa (List.all_eq_true.2 fun y hy=>by
  obtain⟨j,hj⟩:=List.getElem?_of_mem hy
  have:=(List.getElem?_eq_some_iff.1 hj).1
  exact hr j y omq hj)]
 clear hr h1 hN
 have cn:=dc hs
 have cm:=dc ht
 have cw:=fQ (xs.length:Int) 1 5
 refine au ?_
 by_cases h1:k=1
 ·subst h1
  rw [show dF 1 s t xs.length la.length lb.length (eW xs)=(emB t&&(inR xs.length 1 5&&(emB s&&(((la.length:Int)==0)&&((lb.length:Int)==0))))) from rfl]
  generalize inR (xs.length:Int) 1 5=bw at cw ⊢
  cases bw
  all_goals
   repeat' (first|(apply ay;first|refine bO ?_|(refine aU ?_ ?_<;>intro hG<;>(try cases hG))|refine ao ?_|refine ak ?_|refine bd ?_|refine aL ?_|refine aI cw ?_|refine aY ?_|refine aq ?_|refine aG ?_|refine cu ?_|refine dT ?_|refine a8 ?_|refine aF ?_)|refine al ?_|refine ab ?_|refine aa fun C=>?_|refine ae ?_|refine ah ?_|refine ai ?_|(refine aj (by rfl) ?_ ?_<;>intro hC<;>(try cases hC)))
  all_goals first
   | (refine am ?_;refine bi rfl aN ⟨?_,rfl⟩;first|rfl|(simp_all [emB,bne,shp,List.length_pos_iff];done))
   | (exfalso;simp_all [emB,bne,List.length_pos_iff];done)
 by_cases h2:k=2
 ·subst h2
  rw [show dF 2 s t xs.length la.length lb.length (eW xs)=(emB t&&(bW s&&shp xs.length la.length lb.length 1 false false)) from rfl]
  have hne:emB s=true→bW s=false:=mT
  generalize bW s=bn at cn hne ⊢
  cases bn
  all_goals
   repeat' (first|(apply ay;first|refine bO ?_|(refine aU ?_ ?_<;>intro hG<;>(try cases hG))|refine ao ?_|refine ak ?_|refine bd ?_|refine aL ?_|refine aI cn ?_|refine aY ?_|refine aq ?_|refine aG ?_|refine cu ?_|refine dT ?_|refine a8 ?_|refine bF ?_|refine aF ?_)|refine al ?_|refine ab ?_|refine aa fun C=>?_|refine ae ?_|refine ah ?_|refine ai ?_|(refine aj (by rfl) ?_ ?_<;>intro hC<;>(try cases hC)))
  all_goals first
   | (refine am ?_;refine bi rfl aN ⟨?_,rfl⟩;first|rfl|(simp_all [emB,bne,shp,List.length_pos_iff];done))
   | (exfalso;simp_all [emB,bne,List.length_pos_iff];done)
 by_cases h3:k=3
 ·subst h3
  rw [show dF 3 s t xs.length la.length lb.length (eW xs)=(emB t&&(bW s&&shp xs.length la.length lb.length 2 false false)) from rfl]
  have hne:emB s=true→bW s=false:=mT
  generalize bW s=bn at cn hne ⊢
  cases bn
  all_goals
   repeat' (first|(apply ay;first|refine bO ?_|(refine aU ?_ ?_<;>intro hG<;>(try cases hG))|refine ao ?_|refine ak ?_|refine bd ?_|refine aL ?_|refine aI cn ?_|refine aY ?_|refine aq ?_|refine aG ?_|refine cu ?_|refine dT ?_|refine a8 ?_|refine bF ?_|refine aF ?_)|refine al ?_|refine ab ?_|refine aa fun C=>?_|refine ae ?_|refine ah ?_|refine ai ?_|(refine aj (by rfl) ?_ ?_<;>intro hC<;>(try cases hC)))
  all_goals first
   | (refine am ?_;refine bi rfl aN ⟨?_,rfl⟩;first|rfl|(simp_all [emB,bne,shp,List.length_pos_iff];done))
   | (exfalso;simp_all [emB,bne,List.length_pos_iff];done)
 by_cases h4:k=4
 ·subst h4
  rw [show dF 4 s t xs.length la.length lb.length (eW xs)=(emB t&&(emB s&&shp xs.length la.length lb.length 2 false false)) from rfl]
  repeat' (first|(apply ay;first|refine bO ?_|(refine aU ?_ ?_<;>intro hG<;>(try cases hG))|refine ao ?_|refine ak ?_|refine bd ?_|refine aL ?_|refine aY ?_|refine aq ?_|refine aG ?_|refine cu ?_|refine dT ?_|refine a8 ?_|refine aF ?_)|refine al ?_|refine ab ?_|refine aa fun C=>?_|refine ae ?_|refine ah ?_|refine ai ?_|(refine aj (by rfl) ?_ ?_<;>intro hC<;>(try cases hC)))
  all_goals first
   | (refine am ?_;refine bi rfl aN ⟨?_,rfl⟩;first|rfl|(simp_all [emB,bne,shp,List.length_pos_iff];done))
   | (exfalso;simp_all [emB,bne,List.length_pos_iff];done)
 by_cases h5:k=5
 ·subst h5
  rw [show dF 5 s t xs.length la.length lb.length (eW xs)=(emB t&&(emB s&&shp xs.length la.length lb.length 1 true true)) from rfl]
  repeat' (first|(apply ay;first|refine bO ?_|(refine aU ?_ ?_<;>intro hG<;>(try cases hG))|refine ao ?_|refine ak ?_|refine bd ?_|refine aL ?_|refine aY ?_|refine aq ?_|refine aG ?_|refine cu ?_|refine dT ?_|refine aF ?_)|refine al ?_|refine ab ?_|refine aa fun C=>?_|refine ae ?_|refine ah ?_|refine ai ?_|(refine aj (by rfl) ?_ ?_<;>intro hC<;>(try cases hC)))
  all_goals first
   | (refine am ?_;refine bi rfl aN ⟨?_,rfl⟩;first|rfl|(simp_all [emB,bne,shp,List.length_pos_iff];done))
   | (exfalso;simp_all [emB,bne,List.length_pos_iff];done)
 by_cases h6:k=6
 ·subst h6
  rw [show dF 6 s t xs.length la.length lb.length (eW xs)=(emB t&&(emB s&&shp xs.length la.length lb.length 1 true false)) from rfl]
  repeat' (first|(apply ay;first|refine bO ?_|(refine aU ?_ ?_<;>intro hG<;>(try cases hG))|refine ao ?_|refine ak ?_|refine bd ?_|refine aL ?_|refine aY ?_|refine aq ?_|refine aG ?_|refine cu ?_|refine dT ?_|refine a8 ?_|refine aF ?_)|refine al ?_|refine ab ?_|refine aa fun C=>?_|refine ae ?_|refine ah ?_|refine ai ?_|(refine aj (by rfl) ?_ ?_<;>intro hC<;>(try cases hC)))
  all_goals first
   | (refine am ?_;refine bi rfl aN ⟨?_,rfl⟩;first|rfl|(simp_all [emB,bne,shp,List.length_pos_iff];done))
   | (exfalso;simp_all [emB,bne,List.length_pos_iff];done)
 by_cases h7:k=7
 ·subst h7
  rw [show dF 7 s t xs.length la.length lb.length (eW xs)=(bW s&&(bW t&&shp xs.length la.length lb.length 0 true false)) from rfl]
  have hne:emB s=true→bW s=false:=mT
  generalize bW s=bn at cn hne ⊢
  generalize bW t=bm at cm ⊢
  cases bn<;>cases bm
  all_goals
   repeat' (first|(apply ay;first|refine bO ?_|(refine aU ?_ ?_<;>intro hG<;>(try cases hG))|refine ao ?_|refine ak ?_|refine bd ?_|refine aL ?_|refine aI cn ?_|refine aI cm ?_|refine aY ?_|refine aq ?_|refine aG ?_|refine cu ?_|refine dT ?_|refine a8 ?_|refine bF ?_|refine aF ?_)|refine al ?_|refine ab ?_|refine aa fun C=>?_|refine ae ?_|refine ah ?_|refine ai ?_|(refine aj (by rfl) ?_ ?_<;>intro hC<;>(try cases hC)))
  all_goals first
   | (refine am ?_;refine bi rfl aN ⟨?_,rfl⟩;first|rfl|(simp_all [emB,bne,shp,List.length_pos_iff];done))
   | (exfalso;simp_all [emB,bne,List.length_pos_iff];done)
 by_cases h8:k=8
 ·subst h8
  rw [show dF 8 s t xs.length la.length lb.length (eW xs)=(emB t&&(emB s&&shp xs.length la.length lb.length 0 false false)) from rfl]
  repeat' (first|(apply ay;first|refine bO ?_|(refine aU ?_ ?_<;>intro hG<;>(try cases hG))|refine ao ?_|refine ak ?_|refine bd ?_|refine aL ?_|refine aY ?_|refine aq ?_|refine aG ?_|refine cu ?_|refine dT ?_|refine a8 ?_|refine aF ?_)|refine al ?_|refine ab ?_|refine aa fun C=>?_|refine ae ?_|refine ah ?_|refine ai ?_|(refine aj (by rfl) ?_ ?_<;>intro hC<;>(try cases hC)))
  all_goals first
   | (refine am ?_;refine bi rfl aN ⟨?_,rfl⟩;first|rfl|(simp_all [emB,bne,shp,List.length_pos_iff];done))
   | (exfalso;simp_all [emB,bne,List.length_pos_iff];done)
 by_cases h9:k=9
 ·subst h9
  rw [show dF 9 s t xs.length la.length lb.length (eW xs)=(emB t&&(emB s&&shp xs.length la.length lb.length 1 false false)) from rfl]
  repeat' (first|(apply ay;first|refine bO ?_|(refine aU ?_ ?_<;>intro hG<;>(try cases hG))|refine ao ?_|refine ak ?_|refine bd ?_|refine aL ?_|refine aY ?_|refine aq ?_|refine aG ?_|refine cu ?_|refine dT ?_|refine a8 ?_|refine aF ?_)|refine al ?_|refine ab ?_|refine aa fun C=>?_|refine ae ?_|refine ah ?_|refine ai ?_|(refine aj (by rfl) ?_ ?_<;>intro hC<;>(try cases hC)))
  all_goals first
   | (refine am ?_;refine bi rfl aN ⟨?_,rfl⟩;first|rfl|(simp_all [emB,bne,shp,List.length_pos_iff];done))
   | (exfalso;simp_all [emB,bne,List.length_pos_iff];done)
 by_cases h10:k=10
 ·subst h10
  rw [show dF 10 s t xs.length la.length lb.length (eW xs)=(emB t&&(emB s&&shp xs.length la.length lb.length 1 false false)) from rfl]
  repeat' (first|(apply ay;first|refine bO ?_|(refine aU ?_ ?_<;>intro hG<;>(try cases hG))|refine ao ?_|refine ak ?_|refine bd ?_|refine aL ?_|refine aY ?_|refine aq ?_|refine aG ?_|refine cu ?_|refine dT ?_|refine a8 ?_|refine aF ?_)|refine al ?_|refine ab ?_|refine aa fun C=>?_|refine ae ?_|refine ah ?_|refine ai ?_|(refine aj (by rfl) ?_ ?_<;>intro hC<;>(try cases hC)))
  all_goals first
   | (refine am ?_;refine bi rfl aN ⟨?_,rfl⟩;first|rfl|(simp_all [emB,bne,shp,List.length_pos_iff];done))
   | (exfalso;simp_all [emB,bne,List.length_pos_iff];done)
 by_cases h11:k=11
 ·subst h11
  rw [show dF 11 s t xs.length la.length lb.length (eW xs)=(emB t&&(bW s&&shp xs.length la.length lb.length 1 false false)) from rfl]
  have hne:emB s=true→bW s=false:=mT
  generalize bW s=bn at cn hne ⊢
  cases bn
  all_goals
   repeat' (first|(apply ay;first|refine bO ?_|(refine aU ?_ ?_<;>intro hG<;>(try cases hG))|refine ao ?_|refine ak ?_|refine bd ?_|refine aL ?_|refine aI cn ?_|refine aY ?_|refine aq ?_|refine aG ?_|refine cu ?_|refine dT ?_|refine a8 ?_|refine bF ?_|refine aF ?_)|refine al ?_|refine ab ?_|refine aa fun C=>?_|refine ae ?_|refine ah ?_|refine ai ?_|(refine aj (by rfl) ?_ ?_<;>intro hC<;>(try cases hC)))
  all_goals first
   | (refine am ?_;refine bi rfl aN ⟨?_,rfl⟩;first|rfl|(simp_all [emB,bne,shp,List.length_pos_iff];done))
   | (exfalso;simp_all [emB,bne,List.length_pos_iff];done)
 by_cases h12:k=12
 ·subst h12
  rw [show dF 12 s t xs.length la.length lb.length (eW xs)=(emB t&&(emB s&&(shp xs.length la.length lb.length 1 false false&&eW xs))) from rfl]
  by_cases hx1:xs.length=1
  ·obtain⟨x,hx0⟩:∃x,xs[0]? = some x:=⟨_,List.getElem?_eq_getElem omq⟩
   rw [qX hx0]
   obtain⟨y0,y1,y2,yA,yc,yl,rfl,-⟩:=aB (hxt x (List.mem_of_getElem? hx0))
   rw [show eQ (.agg [.int .i64 y0,.int .i64 y1,.str y2,.lst 4 70 yA yc yl])=y0 from rfl]
   repeat' (first|(apply ay;first|refine bO ?_|(refine aU ?_ ?_<;>intro hG<;>(try cases hG))|refine ao ?_|refine ak ?_|refine bd ?_|refine gO ?_|refine aL ?_|refine dC ?_|refine aY ?_|refine dE ?_|refine aq ?_|refine aG ?_|refine cu ?_|refine dT ?_|refine a8 ?_|refine aF ?_)|refine al ?_|refine ab ?_|refine aa fun C=>?_|refine ae ?_|refine ah ?_|refine ai ?_|(refine aj (by rfl) ?_ ?_<;>intro hC<;>(try cases hC)))
   all_goals first
   | (refine am ?_;refine bi rfl aN ⟨?_,rfl⟩;first|rfl|(simp_all [emB,bne,shp,List.length_pos_iff];done))
   | (exfalso;simp_all [emB,bne,List.length_pos_iff];done)
  ·have hx2:¬(xs.length:Int)=1:=by omega
   rw [zuQ hx2]
   repeat' (first|(apply ay;first|refine bO ?_|(refine aU ?_ ?_<;>intro hG<;>(try cases hG))|refine ao ?_|refine ak ?_|refine bd ?_|refine aL ?_|refine aY ?_|refine aq ?_|refine aG ?_|refine cu ?_|refine dT ?_|refine a8 ?_|refine aF ?_)|refine al ?_|refine ab ?_|refine aa fun C=>?_|refine ae ?_|refine ah ?_|refine ai ?_|(refine aj (by rfl) ?_ ?_<;>intro hC<;>(try cases hC)))
   all_goals first
   | (refine am ?_;refine bi rfl aN ⟨?_,rfl⟩;first|rfl|(simp_all [emB,bne,shp,List.length_pos_iff];done))
   | (exfalso;simp_all [emB,bne,List.length_pos_iff];done)
 rw [show dF k s t xs.length la.length lb.length (eW xs)=false by simp [dF, *]]
 repeat' (first|(apply ay;first|refine bO ?_|(refine aU ?_ ?_<;>intro hG<;>(try cases hG))|refine ao ?_|refine ak ?_|refine bd ?_|refine aL ?_|refine aY ?_|refine aq ?_|refine aG ?_|refine cu ?_|refine dT ?_|refine a8 ?_|refine aF ?_)|refine al ?_|refine ab ?_|refine aa fun C=>?_|refine ae ?_|refine ah ?_|refine ai ?_|(refine aj (by rfl) ?_ ?_<;>intro hC<;>(try cases hC)))
 all_goals first
  | (refine am ?_;refine bi rfl aN ⟨?_,rfl⟩;rfl)
  | (exfalso;simp_all;done)
theorem zi4:zY prog 258=some (85,1):=rfl
theorem rh (f:Nat)(e:E):dO f e≤61:=uJ f e omq
theorem hQ:∀(f:Nat),f≤5→∀(e:E),e.Ty prog 106→e.sz≤1048576→Ctr prog 229 [.ag (acE e),.c (.v (.int .i64 (6-(f:Int))))] [] (.c (.v (.int .i64 (dO f e:Nat)))) []
 | 0,_,e,he,hsz=>by
  obtain⟨k0,s0,t0,xA,xc,xs,aA,ac,la,bA,bc,lb,rfl,-,gs,gt,⟨hx,kx⟩,⟨ha,ka⟩,⟨hb,kb⟩,-⟩:=aQ he
  rw [show (6-((0:Nat):Int))=6 from rfl]
  refine av func229 rfl rfl ?_
  repeat' (first|(apply ay;first|refine bO ?_|(refine aU ?_ ?_<;>intro hG<;>(try cases hG))|refine ao ?_|refine ak ?_|refine a8 ?_|refine aF ?_|refine bL ?_)|refine al ?_|refine ab ?_|refine aa fun C=>?_|refine ae ?_|refine az rfl ?_)
  exact d9
 | f+1,hf,e,he,hsz=>by
  obtain⟨k0,s0,t0,xA,xc,xs,aA,ac,la,bA,bc,lb,rfl,-,gs,gt,⟨hx,kx⟩,⟨ha,ka⟩,⟨hb,kb⟩,-⟩:=aQ he
  simp only [E.sz,E.szL] at hsz
  have ch:=sG (k:=k0) (s:=s0) (t:=t0) omq omq (xs:=xs) (la:=la) (lb:=lb) omq omq omq hx kx (fun e he=>by have:=E.szL_mem he;omega)
  have hd:lZ (.agg [.int .i64 k0,.str s0,.str t0,.lst 4 70 xA xc xs,.lst 6 106 aA ac la,.lst 6 106 bA bc lb])=fd k0 s0 t0 xs la.length lb.length:=rfl
  cases hq:fd k0 s0 t0 xs la.length lb.length with
  | false =>
   rw [hq] at ch
   rw [show dO (f+1) (.agg [.int .i64 k0,.str s0,.str t0,.lst 4 70 xA xc xs,.lst 6 106 aA ac la,.lst 6 106 bA bc lb])=61 by unfold dO ni;rw [hd,hq];rfl]
   refine av func229 rfl rfl ?_
   repeat' (first|(apply ay;first|refine bO ?_|(refine aU ?_ ?_<;>intro hG<;>(try cases hG))|refine ao ?_|refine ak ?_|refine bu ?_|refine aI ch ?_|refine a8 ?_|refine bF ?_|refine aF ?_|refine bL ?_)|refine al ?_|refine ab ?_|refine aa fun C=>?_|refine ae ?_|(refine aj (by rfl) ?_ ?_<;>intro hC<;>(try cases hC)))
   all_goals (refine am ?_;refine bi rfl aN ⟨?_,rfl⟩;rfl)
  | true =>
   rw [hq] at ch
   rw [show dO (f+1) (.agg [.int .i64 k0,.str s0,.str t0,.lst 4 70 xA xc xs,.lst 6 106 aA ac la,.lst 6 106 bA bc lb])=gpI 60 (dO f) (la++lb) 1 by
    show ni 60 lZ nj (f+1) _=_
    unfold ni;rw [hd,hq];rfl]
   refine av func229 rfl rfl ?_
   have hgg:¬(6-((f+1:Nat):Int) > 5):=by omega
   repeat' (first|(apply ay;refine gh ?_ (hT:=zi4))|(apply ay;first|refine bO ?_|(refine aU ?_ ?_<;>intro hG<;>(try cases hG))|refine ao ?_|refine ak ?_|refine bd ?_|refine bu ?_|refine aI ch ?_|refine gp ?_|refine a8 ?_|refine bF ?_|refine aF ?_|refine bL ?_|refine aS ?_)|refine al ?_|refine ab ?_|refine aa fun C=>?_|refine ae ?_|refine ah ?_|refine ai ?_|refine az rfl ?_|refine aE rfl ?_)
   all_goals try (exfalso;simp only [decide_eq_true_iff] at hG;omega)
   refine aP (fun d:Nat×Nat=>⟨dA [(1,.c (.v (.int .i64 (6-((f+1:Nat):Int))))),(5,.c (.v (.int .i64 (d.2:Int)))),(21,.c (.sl 21 2)),(22,.c (.v (.int .i64 2))),(23,.c (.v (.int .i64 (d.1:Int))))],dq [(21,21,⟨85,1,2,false,[.ro la.length 6 (acL la),.ro lb.length 6 (acL lb)]⟩)],0,[21],44⟩)
    (fun N d=>d.1+N=2∧d.2≤60∧gpI 60 (dO f) (la++lb) 1=gpI 60 (dO f) (if d.1=0 then la++lb else if d.1=1 then lb else []) d.2) 2 (0,1) ⟨by simp,by simp,rfl⟩ ?_ ?_
   ·have hcl:bf [.ro la.length 6 (acL la),.ro lb.length 6 (acL lb)]=true:=by simp [bf,clo,aH]
    (refine aC _ _ rfl rfl ?_ ?_<;>exact tdy1)
   rintro N ⟨j,m⟩ ⟨hN,hm,hr⟩
   dsimp only at hN hm hr ⊢
   have hj:j=0∨j=1∨j=2:=by omega
   rcases hj with rfl|rfl|rfl
   ·have hr:gpI 60 (dO f) (la++lb) 1=gpI 60 (dO f) (la++lb) m:=by rw [hr];simp
    repeat' (first|(apply ay;first|refine ao ?_|refine ak ?_|refine aY ?_|refine uo ?_|refine aO ?_|refine aS ?_)|refine al ?_|refine ab ?_|refine aa fun C=>?_|refine ae ?_|refine ah ?_|refine ai ?_|refine az rfl ?_)
    refine aP (fun d:Nat×Nat=>⟨dA [(1,.c (.v (.int .i64 (6-((f+1:Nat):Int))))),(5,.c (.v (.int .i64 (d.2:Int)))),(21,.c (.sl 21 2)),(22,.c (.v (.int .i64 2))),(23,.c (.v (.int .i64 0))),(27,.c (.ro la.length 6 (acL la))),(28,.c (.v (.int .i64 la.length))),(29,.c (.v (.int .i64 (d.1:Int))))],dq [(21,21,⟨85,1,2,false,[.ro la.length 6 (acL la),.ro lb.length 6 (acL lb)]⟩)],0,[21],44⟩)
     (fun M d=>d.1+M=la.length∧d.2≤60∧gpI 60 (dO f) (la++lb) 1=gpI 60 (dO f) (la.drop d.1++lb) d.2) la.length (0,m) ⟨by simp,hm,hr⟩ ?_ ?_
    ·have hcl:bf [.ro la.length 6 (acL la),.ro lb.length 6 (acL lb)]=true:=by simp [bf,clo,aH]
     (refine aC _ _ rfl rfl ?_ ?_<;>exact tdy1)
    rintro M ⟨i,m'⟩ ⟨hM,hm',hr'⟩
    dsimp only at hM hm' hr' ⊢
    repeat' (first|(apply ay;refine aO ?_)|refine al ?_|refine ab ?_|refine aa fun C=>?_|refine ae ?_)
    refine aj (by rfl) (fun h1=>?_) fun h1=>?_
    ·have hk':i<la.length:=by simpa using h1
     obtain⟨x,hx'⟩:∃x,la[i]? = some x:=⟨_,List.getElem?_eq_getElem hk'⟩
     have hxz:=E.szL_mem (List.mem_of_getElem? hx')
     have hxt:=ha x (List.mem_of_getElem? hx')
     have cx:=hQ f omq x hxt omq
     have cle:=rh f x
     rw [gK hx',List.cons_append] at hr'
     rw [show (6-(f:Int))=6-((f+1:Nat):Int)+1 by omega] at cx
     have hr2:gpI 60 (dO f) (x :: (la.drop (i+1)++lb)) m'=if 60<m'+dO f x then 61 else gpI 60 (dO f) (la.drop (i+1)++lb) (m'+dO f x):=rfl
     rw [hr2] at hr'
     generalize dO f x=c at cx cle hr'
     obtain⟨z0,z1,z2,zA,zc,zx,yA,yc,ya,wA,wc,yb,rfl,-⟩:=aQ hxt
     repeat' (first|(apply ay;first|refine ao ?_|refine ak ?_|refine bI ?_|refine bu ?_|refine aI cx ?_|refine cG ?_|refine dE ?_|refine gq ?_|refine aD ?_|refine dn ?_)|refine al ?_|refine ab ?_|refine aa fun C=>?_|refine ae ?_|refine ah ?_|refine ai ?_)
     refine aj (by rfl) (fun h2=>?_) fun h2=>?_
     ·have h3:60<m'+c:=by simp at h2;omega
      rw [hr',if_pos h3]
      repeat' (first|(apply ay;refine ak ?_)|refine al ?_|refine ab ?_|refine aa fun C=>?_|refine ae ?_)
      exact d9
     ·have h3:¬60<m'+c:=by simp at h2;omega
      rw [if_neg h3] at hr'
      repeat' (first|(apply ay;first|refine ao ?_|refine aD ?_)|refine al ?_|refine ab ?_|refine aa fun C=>?_|refine ai ?_)
      have hcl:bf [.ro la.length 6 (acL la),.ro lb.length 6 (acL lb)]=true:=by simp [bf,clo,aH]
      refine⟨M-1,(i+1,m'+c),omq,⟨by show i+1+(M-1)=la.length;omega,by show m'+c≤60;omega,hr'⟩,?_⟩
      (refine aC _ _ rfl rfl ?_ ?_<;>exact tdy1)
    ·have hk':¬i<la.length:=by simpa using h1
     rw [List.drop_eq_nil_of_le omq,List.nil_append] at hr'
     repeat' (first|(apply ay;first|refine ao ?_|refine aD ?_)|refine al ?_|refine ab ?_|refine aa fun C=>?_|refine au ?_)
     have hcl:bf [.ro la.length 6 (acL la),.ro lb.length 6 (acL lb)]=true:=by simp [bf,clo,aH]
     refine⟨N-1,(0+1,m'),omq,⟨by show 0+1+(N-1)=2;omega,hm',by rw [hr'];rfl⟩,?_⟩
     (refine aC _ _ rfl rfl ?_ ?_<;>exact tdy1)
   ·have hr:gpI 60 (dO f) (la++lb) 1=gpI 60 (dO f) (lb++([]:List E)) m:=by rw [hr];simp
    repeat' (first|(apply ay;first|refine ao ?_|refine ak ?_|refine aY ?_|refine uo ?_|refine aO ?_|refine aS ?_)|refine al ?_|refine ab ?_|refine aa fun C=>?_|refine ae ?_|refine ah ?_|refine ai ?_|refine az rfl ?_)
    refine aP (fun d:Nat×Nat=>⟨dA [(1,.c (.v (.int .i64 (6-((f+1:Nat):Int))))),(5,.c (.v (.int .i64 (d.2:Int)))),(21,.c (.sl 21 2)),(22,.c (.v (.int .i64 2))),(23,.c (.v (.int .i64 1))),(27,.c (.ro lb.length 6 (acL lb))),(28,.c (.v (.int .i64 lb.length))),(29,.c (.v (.int .i64 (d.1:Int))))],dq [(21,21,⟨85,1,2,false,[.ro la.length 6 (acL la),.ro lb.length 6 (acL lb)]⟩)],0,[21],44⟩)
     (fun M d=>d.1+M=lb.length∧d.2≤60∧gpI 60 (dO f) (la++lb) 1=gpI 60 (dO f) (lb.drop d.1++([]:List E)) d.2) lb.length (0,m) ⟨by simp,hm,hr⟩ ?_ ?_
    ·have hcl:bf [.ro la.length 6 (acL la),.ro lb.length 6 (acL lb)]=true:=by simp [bf,clo,aH]
     (refine aC _ _ rfl rfl ?_ ?_<;>exact tdy1)
    rintro M ⟨i,m'⟩ ⟨hM,hm',hr'⟩
    dsimp only at hM hm' hr' ⊢
    repeat' (first|(apply ay;refine aO ?_)|refine al ?_|refine ab ?_|refine aa fun C=>?_|refine ae ?_)
    refine aj (by rfl) (fun h1=>?_) fun h1=>?_
    ·have hk':i<lb.length:=by simpa using h1
     obtain⟨x,hx'⟩:∃x,lb[i]? = some x:=⟨_,List.getElem?_eq_getElem hk'⟩
     have hxz:=E.szL_mem (List.mem_of_getElem? hx')
     have hxt:=hb x (List.mem_of_getElem? hx')
     have cx:=hQ f omq x hxt omq
     have cle:=rh f x
     rw [gK hx',List.cons_append] at hr'
     rw [show (6-(f:Int))=6-((f+1:Nat):Int)+1 by omega] at cx
     have hr2:gpI 60 (dO f) (x :: (lb.drop (i+1)++([]:List E))) m'=if 60<m'+dO f x then 61 else gpI 60 (dO f) (lb.drop (i+1)++([]:List E)) (m'+dO f x):=rfl
     rw [hr2] at hr'
     generalize dO f x=c at cx cle hr'
     obtain⟨z0,z1,z2,zA,zc,zx,yA,yc,ya,wA,wc,yb,rfl,-⟩:=aQ hxt
     repeat' (first|(apply ay;first|refine ao ?_|refine ak ?_|refine bI ?_|refine bu ?_|refine aI cx ?_|refine cG ?_|refine dE ?_|refine gq ?_|refine aD ?_|refine dn ?_)|refine al ?_|refine ab ?_|refine aa fun C=>?_|refine ae ?_|refine ah ?_|refine ai ?_)
     refine aj (by rfl) (fun h2=>?_) fun h2=>?_
     ·have h3:60<m'+c:=by simp at h2;omega
      rw [hr',if_pos h3]
      repeat' (first|(apply ay;refine ak ?_)|refine al ?_|refine ab ?_|refine aa fun C=>?_|refine ae ?_)
      exact d9
     ·have h3:¬60<m'+c:=by simp at h2;omega
      rw [if_neg h3] at hr'
      repeat' (first|(apply ay;first|refine ao ?_|refine aD ?_)|refine al ?_|refine ab ?_|refine aa fun C=>?_|refine ai ?_)
      have hcl:bf [.ro la.length 6 (acL la),.ro lb.length 6 (acL lb)]=true:=by simp [bf,clo,aH]
      refine⟨M-1,(i+1,m'+c),omq,⟨by show i+1+(M-1)=lb.length;omega,by show m'+c≤60;omega,hr'⟩,?_⟩
      (refine aC _ _ rfl rfl ?_ ?_<;>exact tdy1)
    ·have hk':¬i<lb.length:=by simpa using h1
     rw [List.drop_eq_nil_of_le omq,List.nil_append] at hr'
     repeat' (first|(apply ay;first|refine ao ?_|refine aD ?_)|refine al ?_|refine ab ?_|refine aa fun C=>?_|refine au ?_)
     have hcl:bf [.ro la.length 6 (acL la),.ro lb.length 6 (acL lb)]=true:=by simp [bf,clo,aH]
     refine⟨N-1,(1+1,m'),omq,⟨by show 1+1+(N-1)=2;omega,hm',by rw [hr'];rfl⟩,?_⟩
     (refine aC _ _ rfl rfl ?_ ?_<;>exact tdy1)
   ·repeat' (first|(apply ay;first|refine ao ?_|refine ak ?_|refine aO ?_)|refine al ?_|refine ab ?_|refine aa fun C=>?_|refine ae ?_|refine au ?_|refine aE rfl ?_)
    refine am ?_;refine bi rfl aN ⟨?_,rfl⟩
    rw [hr];rfl
theorem oG {e:E}(he:e.Ty prog 106)(hsz:e.sz≤1048576):Ctr prog 191 [.ag (acE e)] [] (.c (.v (.bool (ja e)))) []:=by
 have c1:=hQ 5 omq e he hsz
 rw [zd1,show (6-((5:Nat):Int))=1 from rfl] at *
 rw [show decide (dO 5 e≤60)=decide ((dO 5 e:Int)≤60) from decide_eq_decide.2 omq]
 generalize dO 5 e=c at c1 ⊢
 obtain⟨k0,s0,t0,xA,xc,xs,aA,ac,la,bA,bc,lb,rfl,-,gs,gt,⟨hx,kx⟩,⟨ha,ka⟩,⟨hb,kb⟩,-⟩:=aQ he
 refine av func191 rfl rfl ?_
 repeat' (first|(apply ay;first|refine ak ?_|refine bu ?_|refine aI c1 ?_|refine bz ?_|refine bL ?_)|refine al ?_|refine ab ?_|refine aa fun C=>?_|refine ae ?_)
 exact d9
open Classical in
noncomputable def eqD (x y:E):Bool:=decide (x.d=y.d)
open Classical in
noncomputable def sV (x y:List E):Bool:=decide (E.dL x=E.dL y)
theorem hZ {x y:E}:eqD x y=true↔x.d=y.d:=by unfold eqD;exact @decide_eq_true_iff _ (Classical.propDecidable _)
open Classical in
theorem fV {x y:List E}:sV x y=true↔E.dL x=E.dL y:=by unfold sV;exact decide_eq_true_iff
theorem gM {a b:Bool}(h:a=true↔b=true):a=b:=by cases a<;>cases b<;>simp_all
theorem qf {k:IntKind}{a b:Int}:eqD (.int k a) (.int k b)=(a==b):=gM (by rw [hZ];simp [E.d])
theorem yB {a b:Bool}:eqD (.bool a) (.bool b)=(a==b):=gM (by rw [hZ];simp [E.d])
theorem wb {a b:ByteArray}:eqD (.str a) (.str b)=(a.toList==b.toList):=gM (by
 rw [hZ]
 simp only [E.d,E.str.injEq,beq_iff_eq]
 exact⟨fun h=>by rw [h],fun h=>by
  have h1:a.data.toList=b.data.toList:=by simpa [ByteArray.toList_eq] using h
  cases a;cases b
  simp only at h1
  congr 1
  exact Array.toList_inj.1 h1⟩)
theorem wd {l m:List E}:eqD (.agg l) (.agg m)=sV l m:=gM (by rw [hZ,fV];simp [E.d])
theorem we {k k' c c':Nat}{T T':TypeId}{A A':Option Addr}{l m:List E}:eqD (.lst k T A c l) (.lst k' T' A' c' m)=sV l m:=gM (by rw [hZ,fV];simp [E.d])
theorem jU:sV [] []=true:=fV.2 rfl
theorem fE {x y:E}{l m:List E}:sV (x :: l) (y :: m)=(eqD x y&&sV l m):=gM (by rw [fV,Bool.and_eq_true,hZ,fV];simp [E.dL])
theorem rj:∀{a b:List E},a.length≠b.length→sV a b=false:=by
 intro a b h
 rw [Bool.eq_false_iff]
 intro h'
 rw [fV,E.dL_eq,E.dL_eq] at h'
 exact h (by simpa using congrArg List.length h')
theorem zj2:∀{a b:List E} {k:Nat} {x y:E},a[k]? = some x→b[k]? = some y→eqD x y=false→sV a b=false:=by
 intro a b k x y hx hy h
 rw [Bool.eq_false_iff]
 intro h'
 rw [fV,E.dL_eq,E.dL_eq] at h'
 have:=congrArg (fun l=>l[k]?) h'
 simp only [List.getElem?_map,hx,hy,Option.map_some,Option.some.injEq] at this
 rw [hZ.2 this] at h
 cases h
theorem rm:∀{a b:List E},a.length=b.length→(∀(j:Nat) x y,j<a.length→a[j]? = some x→b[j]? = some y→eqD x y=true)→sV a b=true
 | [],[],_,_=>jU
 | [],_ :: _,h,_=>by simp at h
 | _ :: _,[],h,_=>by simp at h
 | x :: a,y :: b,h,hh=>by
  rw [fE,Bool.and_eq_true]
  exact⟨hh 0 x y (by simp) rfl rfl,rm (by simpa using h) fun j p q hj hp hq=>hh (j+1) p q (by simpa using hj) (by simpa using hp) (by simpa using hq)⟩
theorem oH {la lb:List E}(ha:∀e∈la,e.Ty prog 70)(hka:∀e∈la,e.enc.length=4)(hb:∀e∈lb,e.Ty prog 70)(hkb:∀e∈lb,e.enc.length=4)(hla:la.length≤1073741824)(hlb:lb.length≤1073741824)(hc:∀x∈la,∀y∈lb,Ctr prog 141 [.ag (acE x),.ag (acE y)] [] (.c (.v (.bool (eqD x y)))) []):Ctr prog 193 [.c (.ro la.length 4 (acL la)),.c (.ro lb.length 4 (acL lb)),.c (.fn 141 [])] [] (.c (.v (.bool (sV la lb)))) []:=by
 refine av func193 rfl rfl ?_
 repeat (first|refine ae ?_|refine ah ?_|refine ai ?_|refine au ?_|refine am ?_|refine aa fun C=>?_|refine ar (by kernel_rfl) (by kernel_rfl) fun C=>?_|refine ab ?_|refine bD ?_|refine dP ?_|refine dM ?_|refine dQ ?_|refine x_mv ?_|refine dB ?_|refine x_sk0 ?_|refine dR ?_|refine ce ?_|refine x_sto ?_|refine cf ?_|refine x_app0 ?_|refine x_ld ?_)
 refine cy (by rfl) (fun h1=>?_) fun h1=>?_
 ·repeat (first|refine ae ?_|refine ah ?_|refine ai ?_|refine au ?_|refine am ?_|refine aa fun C=>?_|refine ar (by kernel_rfl) (by kernel_rfl) fun C=>?_|refine ab ?_|refine bD ?_|refine dP ?_|refine dM ?_|refine dQ ?_|refine x_mv ?_|refine dB ?_|refine x_sk0 ?_|refine dR ?_|refine ce ?_|refine x_sto ?_|refine cf ?_|refine x_app0 ?_|refine x_ld ?_)
  refine bi (x:=.c (.v (.bool false))) rfl aN ⟨?_,rfl⟩
  rw [rj (by simp at h1;omega)]
 ·have hl:la.length=lb.length:=by simp at h1;omega
  repeat (first|refine ae ?_|refine ah ?_|refine ai ?_|refine au ?_|refine am ?_|refine aa fun C=>?_|refine ar (by kernel_rfl) (by kernel_rfl) fun C=>?_|refine ab ?_|refine bD ?_|refine dP ?_|refine dM ?_|refine dQ ?_|refine x_mv ?_|refine dB ?_|refine x_sk0 ?_|refine dR ?_|refine ce ?_|refine x_sto ?_|refine cf ?_|refine x_app0 ?_|refine x_ld ?_)
  refine aP (fun k:Nat=>⟨dA [(1,.c (.ro lb.length 4 (acL lb))),(2,.c (.fn 141 [])),(15,.c (.ro la.length 4 (acL la))),(16,.c (.v (.int .i64 la.length))),(17,.c (.v (.int .i64 k)))],dq [],0,[],32⟩)
   (fun N k=>k+N=la.length∧∀j x y,j<k→la[j]? = some x→lb[j]? = some y→eqD x y=true) la.length 0 ⟨omq,omq⟩ ?_ ?_
  ·(refine aC _ _ rfl rfl ?_ ?_<;>exact tdy0)
  rintro N k ⟨hN,hno⟩
  repeat (first|refine ae ?_|refine ah ?_|refine ai ?_|refine au ?_|refine am ?_|refine aa fun C=>?_|refine ar (by kernel_rfl) (by kernel_rfl) fun C=>?_|refine ab ?_|refine bD ?_|refine dP ?_|refine dM ?_|refine dQ ?_|refine x_mv ?_|refine dB ?_|refine x_sk0 ?_|refine dR ?_|refine ce ?_|refine x_sto ?_|refine cf ?_|refine x_app0 ?_|refine x_ld ?_)
  refine cy (by rfl) (fun h2=>?_) fun h2=>?_
  ·have hk':k<la.length:=by simpa using h2
   obtain⟨x,hx⟩:∃x,la[k]? = some x:=⟨_,List.getElem?_eq_getElem hk'⟩
   obtain⟨y,hy⟩:∃y,lb[k]? = some y:=⟨_,List.getElem?_eq_getElem omq⟩
   have hcc:=hc x (List.mem_of_getElem? hx) y (List.mem_of_getElem? hy)
   obtain⟨x0,x1,x2,x3A,x3c,x3l,rfl,gx0,gx1,gx2,gx3,-⟩:=aB (ha x (List.mem_of_getElem? hx))
   obtain⟨y0,y1,y2,y3A,y3c,y3l,rfl,gy0,gy1,gy2,gy3,-⟩:=aB (hb y (List.mem_of_getElem? hy))
   repeat (first|refine ae ?_|refine ah ?_|refine ai ?_|refine au ?_|refine am ?_|refine aa fun C=>?_|refine ar (by kernel_rfl) (by kernel_rfl) fun C=>?_|refine ab ?_|refine bD ?_|refine dP ?_|refine dM ?_|refine dQ ?_|refine x_mv ?_|refine dB ?_|refine x_sk0 ?_|refine dR ?_|refine ce ?_|refine x_sto ?_|refine cf ?_|refine x_app0 ?_|refine x_ld ?_)
   refine zj3 100 hcc ?_
   repeat (first|refine ae ?_|refine ah ?_|refine ai ?_|refine au ?_|refine am ?_|refine aa fun C=>?_|refine ar (by kernel_rfl) (by kernel_rfl) fun C=>?_|refine ab ?_|refine bD ?_|refine dP ?_|refine dM ?_|refine dQ ?_|refine x_mv ?_|refine dB ?_|refine x_sk0 ?_|refine dR ?_|refine ce ?_|refine x_sto ?_|refine cf ?_|refine x_app0 ?_|refine x_ld ?_)
   refine cy (by rfl) (fun h3=>?_) fun h3=>?_
   ·repeat (first|refine ae ?_|refine ah ?_|refine ai ?_|refine au ?_|refine am ?_|refine aa fun C=>?_|refine ar (by kernel_rfl) (by kernel_rfl) fun C=>?_|refine ab ?_|refine bD ?_|refine dP ?_|refine dM ?_|refine dQ ?_|refine x_mv ?_|refine dB ?_|refine x_sk0 ?_|refine dR ?_|refine ce ?_|refine x_sto ?_|refine cf ?_|refine x_app0 ?_|refine x_ld ?_)
    refine bi (x:=.c (.v (.bool false))) rfl aN ⟨?_,rfl⟩
    rw [zj2 hx hy (by simpa using h3)]
   ·repeat (first|refine ae ?_|refine ah ?_|refine ai ?_|refine au ?_|refine am ?_|refine aa fun C=>?_|refine ar (by kernel_rfl) (by kernel_rfl) fun C=>?_|refine ab ?_|refine bD ?_|refine dP ?_|refine dM ?_|refine dQ ?_|refine x_mv ?_|refine dB ?_|refine x_sk0 ?_|refine dR ?_|refine ce ?_|refine x_sto ?_|refine cf ?_|refine x_app0 ?_|refine x_ld ?_)
    refine⟨N-1,k+1,omq,⟨omq,fun j p q hj hp hq=>?_⟩,?_⟩
    ·by_cases e:j=k
     ·rw [e,hx] at hp;rw [e,hy] at hq;injection hp with hp;injection hq with hq;subst hp hq;simpa using h3
     ·exact hno j p q omq hp hq
    ·(refine aC _ _ rfl rfl ?_ ?_<;>exact tdy0)
  ·have hk':¬k<la.length:=by simpa using h2
   repeat (first|refine ae ?_|refine ah ?_|refine ai ?_|refine au ?_|refine am ?_|refine aa fun C=>?_|refine ar (by kernel_rfl) (by kernel_rfl) fun C=>?_|refine ab ?_|refine bD ?_|refine dP ?_|refine dM ?_|refine dQ ?_|refine x_mv ?_|refine dB ?_|refine x_sk0 ?_|refine dR ?_|refine ce ?_|refine x_sto ?_|refine cf ?_|refine x_app0 ?_|refine x_ld ?_)
   refine bi (x:=.c (.v (.bool true))) rfl aN ⟨?_,rfl⟩
   rw [rm hl fun j x y hj hx hy=>hno j x y omq hx hy]
theorem sH (n:Nat):∀(x y:E),x.Ty prog 70→y.Ty prog 70→x.sz≤n→y.sz≤1048576→n≤1048576→Ctr prog 141 [.ag (acE x),.ag (acE y)] [] (.c (.v (.bool (eqD x y)))) []:=by
 induction n using Nat.strongRecOn with
 | _ n ih =>
 intro x y hx hy hsx hsy hn
 obtain⟨x0,x1,x2,x3A,x3c,x3l,rfl,gx0,gx1,gx2,gx3,-⟩:=aB hx
 obtain⟨y0,y1,y2,y3A,y3c,y3l,rfl,gy0,gy1,gy2,gy3,-⟩:=aB hy
 simp only [E.sz,E.szL] at hsx hsy
 have c1:=oH gx3.1 gx3.2 gy3.1 gy3.2 omq omq (fun p hp q hq=>ih p.sz (by have h1:=E.szL_mem hp;have h2:=List.length_pos_of_mem hp;omega) p q (gx3.1 p hp) (gy3.1 q hq) (Nat.le_refl _) (by have h1:=E.szL_mem hq;omega) (by have h1:=E.szL_mem hp;have h2:=List.length_pos_of_mem hp;omega))
 clear ih
 refine av func141 rfl rfl ?_
 repeat' (first|refine ae ?_|refine aa fun C=>?_|refine ab ?_|(refine xg ?_ ?_<;>intro hG<;>(try cases hG))|refine bD ?_|refine dM ?_|refine dB ?_|refine x_cal ?_)
 all_goals
  refine am ?_
  refine bi rfl aN ⟨?_,rfl⟩
  simp only [wd,we,qf,yB,wb,fE,jU]
  first|(simp [*];done)|(simp_all;done)|skip
theorem lA {x y:E}(hx:x.Ty prog 70)(hy:y.Ty prog 70)(hsx:x.sz≤1048576)(hsy:y.sz≤1048576):Ctr prog 141 [.ag (acE x),.ag (acE y)] [] (.c (.v (.bool (eqD x y)))) []:=sH _ x y hx hy hsx hsy (Nat.le_refl _)
end Go.Proofs.YtmnneflenebgmaaGreat
