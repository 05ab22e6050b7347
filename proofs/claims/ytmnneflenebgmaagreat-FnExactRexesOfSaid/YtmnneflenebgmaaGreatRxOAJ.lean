/- T -/
import Derived.Test.YtmnneflenebgmaaGreatRxOAI
set_option maxHeartbeats 0
set_option maxRecDepth 100000
namespace Go.Proofs.YtmnneflenebgmaaGreat
open Go.RowKit Go.Proofs.Tryz
section
variable {ops:Array Oper}{Q:Exit→Act→World→Prop}{C:Ctx}{H:List (Nat×Oper×Inf)}{i:Nat}{r:List Nat}{dr:Bool}
variable {tm:Nat→AV}{hp:Nat→Option Row}{gn L:Nat}{us:List Nat}
theorem zc2 {t:Nat}{gd:Option (Nat×Bool)}{ps:String}{af:Array Edge}{ty ty':TypeId}{xo yo:Operand}{a0 b0:Int}{a1 b1:Int}{a2 b2:ByteArray}(h:Walk prog ops Q C dr (bP dr (i,(⟨some t,.binOp .eql 36 xo yo ty',ty,ps,af,gd⟩:Oper),⟨fpO (AS.ev ⟨tm,hp,gn,us,L⟩) (⟨some t,.binOp .eql 36 xo yo ty',ty,ps,af,gd⟩:Oper),[],[],.c (.v (.bool ((a0==b0)&&((a1==b1)&&(a2.toList==b2.toList)))))⟩) H) r ⟨upd tm t (.c (.v (.bool ((a0==b0)&&((a1==b1)&&(a2.toList==b2.toList)))))),hp,gn,us,L⟩)
 (ht:Nat.blt t L=true:=by exact rfl) (hg:gw ops tm (⟨some t,.binOp .eql 36 xo yo ty',ty,ps,af,gd⟩:Oper)=some true:=by exact rfl) (hx:AS.ev ⟨tm,hp,gn,us,L⟩ xo=.ag [.v (.int .i64 a0),.v (.int .i64 a1),.v (.string a2)]:=by exact rfl) (hy:AS.ev ⟨tm,hp,gn,us,L⟩ yo=.ag [.v (.int .i64 b0),.v (.int .i64 b1),.v (.string b2)]:=by exact rfl)
 (hc:chk dr ops i (⟨some t,.binOp .eql 36 xo yo ty',ty,ps,af,gd⟩:Oper) ⟨fpO (AS.ev ⟨tm,hp,gn,us,L⟩) (⟨some t,.binOp .eql 36 xo yo ty',ty,ps,af,gd⟩:Oper),[],[],.c (.v (.bool ((a0==b0)&&((a1==b1)&&(a2.toList==b2.toList)))))⟩ H=true:=by first|(with_reducible exact bB)|kernel_rfl):WalkO prog ops Q C dr H i (⟨some t,.binOp .eql 36 xo yo ty',ty,ps,af,gd⟩:Oper) r ⟨tm,hp,gn,us,L⟩ :=
 ⟨fun hop=>w_eqS (xs:=[.int .i64 a0,.int .i64 a1,.string a2]) (ys:=[.int .i64 b0,.int .i64 b1,.string b2]) hop rfl rfl ht hg (by kernel_rfl) (by rw [hx];rfl) (by rw [hy];rfl) (tX a0 b0 a1 b1 a2 b2) (.inl ⟨rfl,rfl⟩) hc h⟩
end
theorem zd2 {l:List E}(hl:∀e∈l,e.Ty prog 36)(hk:∀e∈l,e.enc.length=3)(hlen:l.length≤1073741824)(k n:Int)(s:ByteArray):Ctr prog 199 [.c (.ro l.length 3 (acL l)),.ag [.v (.int .i64 k),.v (.int .i64 n),.v (.string s)]] [] (.c (.v (.int .i64 (gF (isV k n s) l)))) []:=by
 refine av func199 rfl rfl ?_
 repeat' (first|(apply ay;first|refine ak ?_|refine bN ?_)|refine al ?_|refine ab ?_|refine aa fun C=>?_|refine ae ?_|refine ah ?_)
 refine aP (fun j:Nat=>⟨dy [(0,.c (.ro l.length 3 (acL l))),(3,.c (.pt 3 0)),(5,.c (.v (.int .i64 j)))],dn [(3,3,⟨36,0,0,true,[.v (.int .i64 k),.v (.int .i64 n),.v (.string s)]⟩)],0,[3],19⟩)
  (fun N j=>j+N=l.length∧∀i y,i<j→l[i]? = some y→isV k n s y=false) l.length 0 ⟨omq,omq⟩ ?_ ?_
 ·(refine aD _ _ rfl rfl ?_ ?_<;>exact tdy0)
 rintro N j ⟨hN,hno⟩
 repeat' (first|(apply ay;first|refine ao ?_|refine aY ?_|refine aN ?_)|refine al ?_|refine ab ?_|refine aa fun C=>?_|refine ae ?_)
 refine aj (by rfl) (fun h1=>?_) fun h1=>?_
 ·have hj:j<l.length:=by simpa using h1
  obtain⟨x,hx⟩:∃x,l[j]? = some x:=⟨_,List.getElem?_eq_getElem hj⟩
  have hxt:=hl x (List.mem_of_getElem? hx)
  obtain⟨y0,y1,y2,rfl,gy0,gy1,gy2,-⟩:=ll hxt
  have e0:((y0==k)&&((y1==n)&&(y2.toList==s.toList)))=isV k n s (.agg [.int .i64 y0,.int .i64 y1,.str y2]):=rfl
  repeat' (first|(apply fU;refine zc2 ?_)|(apply fU;first|(apply gi;refine bh ?_)|refine ue ?_|refine ud ?_|refine o_ix ?_)|refine al ?_|refine ab ?_|refine ar (by kernel_rfl) (by kernel_rfl) fun C=>?_|refine ae ?_|refine ah ?_|refine ai ?_)
  refine aj (by rfl) (fun h2=>?_) fun h2=>?_
  ·rw [e0] at h2
   repeat' (first|(apply ay;first|refine ao ?_|refine ak ?_)|refine al ?_|refine ab ?_|refine aa fun C=>?_|refine ae ?_)
   refine am ?_;refine bi rfl aM ⟨?_,rfl⟩;rw [fH hno hx h2]
  ·rw [e0] at h2
   repeat' (first|(apply ay;first|refine ao ?_|refine ak ?_|refine aC ?_)|refine al ?_|refine ab ?_|refine aa fun C=>?_|refine ai ?_)
   refine⟨N-1,j+1,omq,⟨omq,fun i z hi hz=>?_⟩,?_⟩
   ·by_cases e:i=j
    ·rw [e,hx] at hz;injection hz with hz;subst hz;exact h2
    ·exact hno i z omq hz
   ·(refine aD _ _ rfl rfl ?_ ?_<;>exact tdy0)
 ·have hj:¬j<l.length:=by simpa using h1
  repeat' (first|(apply ay;refine ak ?_)|refine al ?_|refine ab ?_|refine aa fun C=>?_|refine ae ?_|refine au ?_)
  refine am ?_;refine bi rfl aM ⟨?_,rfl⟩;rw [dC fun i y hi hy=>hno i y omq hy]
theorem ze2 {l:List E}(hl:∀e∈l,e.Ty prog 9)(hk:∀e∈l,e.enc.length=1)(hlen:l.length≤1073741824)(s:ByteArray):Ctr prog 159 [.c (.ro l.length 1 (acL l)),.c (.v (.string s))] [] (.c (.v (.int .i64 (gF (fun e=>s.toList==(ju e).toList) l)))) []:=by
 refine av func159 rfl rfl ?_
 repeat' (first|(apply ay;refine ak ?_)|refine al ?_|refine ab ?_|refine aa fun C=>?_|refine ae ?_|refine ah ?_)
 refine aP (fun j:Nat=>⟨dy [(0,.c (.ro l.length 1 (acL l))),(1,.c (.v (.string s))),(5,.c (.v (.int .i64 j)))],dn [],0,[],19⟩)
  (fun N j=>j+N=l.length∧∀i y,i<j→l[i]? = some y→(fun e=>s.toList==(ju e).toList) y=false) l.length 0 ⟨omq,omq⟩ ?_ ?_
 ·(refine aD _ _ rfl rfl ?_ ?_<;>exact tdy0)
 rintro N j ⟨hN,hno⟩
 repeat' (first|(apply ay;first|refine ao ?_|refine aY ?_|refine aN ?_)|refine al ?_|refine ab ?_|refine aa fun C=>?_|refine ae ?_)
 refine aj (by rfl) (fun h1=>?_) fun h1=>?_
 ·have hj:j<l.length:=by simpa using h1
  obtain⟨x,hx⟩:∃x,l[j]? = some x:=⟨_,List.getElem?_eq_getElem hj⟩
  have hxt:=hl x (List.mem_of_getElem? hx)
  obtain⟨y0,rfl,-⟩:=hxt.str_ underlying9
  have e0:(y0.toList==s.toList)=(fun e=>s.toList==(ju e).toList) (.str y0):=BEq.comm
  repeat' (first|(apply ay;first|refine ao ?_|refine de ?_|refine dD ?_|refine bE ?_)|refine al ?_|refine ab ?_|refine aa fun C=>?_|refine ae ?_|refine ah ?_|refine ai ?_)
  refine aj (by rfl) (fun h2=>?_) fun h2=>?_
  ·rw [e0] at h2
   repeat' (first|(apply ay;first|refine ao ?_|refine ak ?_)|refine al ?_|refine ab ?_|refine aa fun C=>?_|refine ae ?_)
   refine am ?_;refine bi rfl aM ⟨?_,rfl⟩;rw [fH hno hx h2]
  ·rw [e0] at h2
   repeat' (first|(apply ay;first|refine ao ?_|refine ak ?_|refine aC ?_)|refine al ?_|refine ab ?_|refine aa fun C=>?_|refine ai ?_)
   refine⟨N-1,j+1,omq,⟨omq,fun i z hi hz=>?_⟩,?_⟩
   ·by_cases e:i=j
    ·rw [e,hx] at hz;injection hz with hz;subst hz;exact h2
    ·exact hno i z omq hz
   ·(refine aD _ _ rfl rfl ?_ ?_<;>exact tdy0)
 ·have hj:¬j<l.length:=by simpa using h1
  repeat' (first|(apply ay;refine ak ?_)|refine al ?_|refine ab ?_|refine aa fun C=>?_|refine ae ?_|refine au ?_)
  refine am ?_;refine bi rfl aM ⟨?_,rfl⟩;rw [dC fun i y hi hy=>hno i y omq hy]
theorem vT {k:Int}{s t:ByteArray}{xs:List E}{na nb:Nat}(h:xs.all fX=true):fa k s t xs na nb=dE k s t xs.length na nb (eV xs):=by unfold fa;rw [h,Bool.true_and]
theorem su {k:Int}{s t:ByteArray}(hs:s.size≤1048576)(ht:t.size≤1048576){xs la lb:List E}(hx:xs.length≤1048576)(ha:la.length≤1048576)(hb:lb.length≤1048576)(hxt:∀e∈xs,e.Ty prog 70)(hxk:∀e∈xs,e.enc.length=4)(hxz:∀e∈xs,e.sz≤1048576):Ctr prog 247 [.ag [.v (.int .i64 k),.v (.string s),.v (.string t),.ro xs.length 4 (acL xs),.ro la.length 6 (acL la),.ro lb.length 6 (acL lb)]] [] (.c (.v (.bool (fa k s t xs la.length lb.length)))) []:=by
 refine av func247 rfl rfl ?_
 repeat' (first|(apply ay;first|refine ao ?_|refine ak ?_|refine be ?_|refine aL ?_|refine aY ?_|refine bN ?_)|refine al ?_|refine ab ?_|refine aa fun C=>?_|refine ae ?_|refine ah ?_)
 refine aP (fun d:Nat=>⟨dy [(1,.c (.pt 1 0)),(8,.c (.ro xs.length 4 (acL xs))),(9,.c (.v (.int .i64 xs.length))),(10,.c (.v (.int .i64 (d:Int))))],dn [(1,1,⟨106,0,0,true,[.v (.int .i64 k),.v (.string s),.v (.string t),.ro xs.length 4 (acL xs),.ro la.length 6 (acL la),.ro lb.length 6 (acL lb)]⟩)],0,[1],138⟩)
  (fun N d=>d+N=xs.length∧∀j y,j<d→xs[j]? = some y→fX y=true) xs.length 0 ⟨omq,fun j y hj=>absurd hj (Nat.not_lt_zero j)⟩ ?_ ?_
 ·(refine aD _ _ rfl rfl ?_ ?_<;>exact tdy0)
 rintro N d ⟨hN,hr⟩
 try dsimp only
 repeat' (first|(apply ay;refine aN ?_)|refine al ?_|refine ab ?_|refine aa fun C=>?_|refine ae ?_)
 refine aj (by rfl) (fun h1=>?_) fun h1=>?_
 ·have hk':d<xs.length:=by simpa using h1
  obtain⟨x,hx'⟩:∃x,xs[d]? = some x:=⟨_,List.getElem?_eq_getElem hk'⟩
  have hxt':=hxt x (List.mem_of_getElem? hx')
  have cx:=jw hxt' (hxz x (List.mem_of_getElem? hx'))
  cases hb2:fX x with
  | false =>
   have e0:fa k s t xs la.length lb.length=false:=by
    unfold fa
    cases ha2:xs.all fX with
    | false=>rfl
    | true=>rw [List.all_eq_true.1 ha2 x (List.mem_of_getElem? hx')] at hb2;cases hb2
   rw [hb2] at cx
   rw [e0]
   obtain⟨y0,y1,y2,yA,yc,yl,rfl,-⟩:=aB hxt'
   repeat' (first|(apply ay;first|refine ak ?_|refine bG ?_|refine bz ?_|refine aI cx ?_|refine cJ ?_|refine dD ?_|refine bF ?_|refine dB ?_)|refine al ?_|refine ab ?_|refine aa fun C=>?_|refine ae ?_|refine ah ?_|refine ai ?_|refine az rfl ?_)
   exact d8
  | true =>
   have hb3:=hb2
   rw [hb2] at cx
   obtain⟨y0,y1,y2,yA,yc,yl,rfl,-⟩:=aB hxt'
   repeat' (first|(apply ay;first|refine ao ?_|refine bG ?_|refine bz ?_|refine aI cx ?_|refine cJ ?_|refine dD ?_|refine aC ?_|refine bF ?_|refine dB ?_)|refine al ?_|refine ab ?_|refine aa fun C=>?_|refine ae ?_|refine ah ?_|refine ai ?_|refine aF rfl ?_)
   refine⟨N-1,d+1,omq,⟨omq,fun j y hj hy=>?_⟩,?_⟩
   ·by_cases e:j=d
    ·rw [e,hx'] at hy;injection hy with hy;subst hy;exact hb3
    ·exact hr j y omq hy
   ·(refine aD _ _ rfl rfl ?_ ?_<;>exact tdy0)
 have hk':¬d<xs.length:=by simpa using h1
 rw [vT (List.all_eq_true.2 fun y hy=>by
  obtain⟨j,hj⟩:=List.getElem?_of_mem hy
  have:=(List.getElem?_eq_some_iff.1 hj).1
  exact hr j y omq hj)]
 clear hr h1 hN
 have cn:=da hs
 have cm:=da ht
 have cw:=fL (xs.length:Int) 1 5
 refine au ?_
 by_cases h1:k=1
 ·subst h1
  rw [show dE 1 s t xs.length la.length lb.length (eV xs)=(emB t&&(inR xs.length 1 5&&(emB s&&(((la.length:Int)==0)&&((lb.length:Int)==0))))) from rfl]
  generalize inR (xs.length:Int) 1 5=bw at cw ⊢
  cases bw
  all_goals
   repeat' (first|(apply ay;first|refine bO ?_|(refine aV ?_ ?_<;>intro hG<;>(try cases hG))|refine ao ?_|refine ak ?_|refine be ?_|refine aL ?_|refine aI cw ?_|refine aY ?_|refine aq ?_|refine aH ?_|refine cq ?_|refine dS ?_|refine a8 ?_|refine aE ?_)|refine al ?_|refine ab ?_|refine aa fun C=>?_|refine ae ?_|refine ah ?_|refine ai ?_|(refine aj (by rfl) ?_ ?_<;>intro hC<;>(try cases hC)))
  all_goals first
   | (refine am ?_;refine bi rfl aM ⟨?_,rfl⟩;first|rfl|(simp_all [emB,bne,shp,List.length_pos_iff];done))
   | (exfalso;simp_all [emB,bne,List.length_pos_iff];done)
 by_cases h2:k=2
 ·subst h2
  rw [show dE 2 s t xs.length la.length lb.length (eV xs)=(emB t&&(bW s&&shp xs.length la.length lb.length 1 false false)) from rfl]
  have hne:emB s=true→bW s=false:=mM
  generalize bW s=bn at cn hne ⊢
  cases bn
  all_goals
   repeat' (first|(apply ay;first|refine bO ?_|(refine aV ?_ ?_<;>intro hG<;>(try cases hG))|refine ao ?_|refine ak ?_|refine be ?_|refine aL ?_|refine aI cn ?_|refine aY ?_|refine aq ?_|refine aH ?_|refine cq ?_|refine dS ?_|refine a8 ?_|refine bF ?_|refine aE ?_)|refine al ?_|refine ab ?_|refine aa fun C=>?_|refine ae ?_|refine ah ?_|refine ai ?_|(refine aj (by rfl) ?_ ?_<;>intro hC<;>(try cases hC)))
  all_goals first
   | (refine am ?_;refine bi rfl aM ⟨?_,rfl⟩;first|rfl|(simp_all [emB,bne,shp,List.length_pos_iff];done))
   | (exfalso;simp_all [emB,bne,List.length_pos_iff];done)
 by_cases h3:k=3
 ·subst h3
  rw [show dE 3 s t xs.length la.length lb.length (eV xs)=(emB t&&(bW s&&shp xs.length la.length lb.length 2 false false)) from rfl]
  have hne:emB s=true→bW s=false:=mM
  generalize bW s=bn at cn hne ⊢
  cases bn
  all_goals
   repeat' (first|(apply ay;first|refine bO ?_|(refine aV ?_ ?_<;>intro hG<;>(try cases hG))|refine ao ?_|refine ak ?_|refine be ?_|refine aL ?_|refine aI cn ?_|refine aY ?_|refine aq ?_|refine aH ?_|refine cq ?_|refine dS ?_|refine a8 ?_|refine bF ?_|refine aE ?_)|refine al ?_|refine ab ?_|refine aa fun C=>?_|refine ae ?_|refine ah ?_|refine ai ?_|(refine aj (by rfl) ?_ ?_<;>intro hC<;>(try cases hC)))
  all_goals first
   | (refine am ?_;refine bi rfl aM ⟨?_,rfl⟩;first|rfl|(simp_all [emB,bne,shp,List.length_pos_iff];done))
   | (exfalso;simp_all [emB,bne,List.length_pos_iff];done)
 by_cases h4:k=4
 ·subst h4
  rw [show dE 4 s t xs.length la.length lb.length (eV xs)=(emB t&&(emB s&&shp xs.length la.length lb.length 2 false false)) from rfl]
  repeat' (first|(apply ay;first|refine bO ?_|(refine aV ?_ ?_<;>intro hG<;>(try cases hG))|refine ao ?_|refine ak ?_|refine be ?_|refine aL ?_|refine aY ?_|refine aq ?_|refine aH ?_|refine cq ?_|refine dS ?_|refine a8 ?_|refine aE ?_)|refine al ?_|refine ab ?_|refine aa fun C=>?_|refine ae ?_|refine ah ?_|refine ai ?_|(refine aj (by rfl) ?_ ?_<;>intro hC<;>(try cases hC)))
  all_goals first
   | (refine am ?_;refine bi rfl aM ⟨?_,rfl⟩;first|rfl|(simp_all [emB,bne,shp,List.length_pos_iff];done))
   | (exfalso;simp_all [emB,bne,List.length_pos_iff];done)
 by_cases h5:k=5
 ·subst h5
  rw [show dE 5 s t xs.length la.length lb.length (eV xs)=(emB t&&(emB s&&shp xs.length la.length lb.length 1 true true)) from rfl]
  repeat' (first|(apply ay;first|refine bO ?_|(refine aV ?_ ?_<;>intro hG<;>(try cases hG))|refine ao ?_|refine ak ?_|refine be ?_|refine aL ?_|refine aY ?_|refine aq ?_|refine aH ?_|refine cq ?_|refine dS ?_|refine aE ?_)|refine al ?_|refine ab ?_|refine aa fun C=>?_|refine ae ?_|refine ah ?_|refine ai ?_|(refine aj (by rfl) ?_ ?_<;>intro hC<;>(try cases hC)))
  all_goals first
   | (refine am ?_;refine bi rfl aM ⟨?_,rfl⟩;first|rfl|(simp_all [emB,bne,shp,List.length_pos_iff];done))
   | (exfalso;simp_all [emB,bne,List.length_pos_iff];done)
 by_cases h6:k=6
 ·subst h6
  rw [show dE 6 s t xs.length la.length lb.length (eV xs)=(emB t&&(emB s&&shp xs.length la.length lb.length 1 true false)) from rfl]
  repeat' (first|(apply ay;first|refine bO ?_|(refine aV ?_ ?_<;>intro hG<;>(try cases hG))|refine ao ?_|refine ak ?_|refine be ?_|refine aL ?_|refine aY ?_|refine aq ?_|refine aH ?_|refine cq ?_|refine dS ?_|refine a8 ?_|refine aE ?_)|refine al ?_|refine ab ?_|refine aa fun C=>?_|refine ae ?_|refine ah ?_|refine ai ?_|(refine aj (by rfl) ?_ ?_<;>intro hC<;>(try cases hC)))
  all_goals first
   | (refine am ?_;refine bi rfl aM ⟨?_,rfl⟩;first|rfl|(simp_all [emB,bne,shp,List.length_pos_iff];done))
   | (exfalso;simp_all [emB,bne,List.length_pos_iff];done)
 by_cases h7:k=7
 ·subst h7
  rw [show dE 7 s t xs.length la.length lb.length (eV xs)=(bW s&&(bW t&&shp xs.length la.length lb.length 0 true false)) from rfl]
  have hne:emB s=true→bW s=false:=mM
  generalize bW s=bn at cn hne ⊢
  generalize bW t=bm at cm ⊢
  cases bn<;>cases bm
  all_goals
   repeat' (first|(apply ay;first|refine bO ?_|(refine aV ?_ ?_<;>intro hG<;>(try cases hG))|refine ao ?_|refine ak ?_|refine be ?_|refine aL ?_|refine aI cn ?_|refine aI cm ?_|refine aY ?_|refine aq ?_|refine aH ?_|refine cq ?_|refine dS ?_|refine a8 ?_|refine bF ?_|refine aE ?_)|refine al ?_|refine ab ?_|refine aa fun C=>?_|refine ae ?_|refine ah ?_|refine ai ?_|(refine aj (by rfl) ?_ ?_<;>intro hC<;>(try cases hC)))
  all_goals first
   | (refine am ?_;refine bi rfl aM ⟨?_,rfl⟩;first|rfl|(simp_all [emB,bne,shp,List.length_pos_iff];done))
   | (exfalso;simp_all [emB,bne,List.length_pos_iff];done)
 by_cases h8:k=8
 ·subst h8
  rw [show dE 8 s t xs.length la.length lb.length (eV xs)=(emB t&&(emB s&&shp xs.length la.length lb.length 0 false false)) from rfl]
  repeat' (first|(apply ay;first|refine bO ?_|(refine aV ?_ ?_<;>intro hG<;>(try cases hG))|refine ao ?_|refine ak ?_|refine be ?_|refine aL ?_|refine aY ?_|refine aq ?_|refine aH ?_|refine cq ?_|refine dS ?_|refine a8 ?_|refine aE ?_)|refine al ?_|refine ab ?_|refine aa fun C=>?_|refine ae ?_|refine ah ?_|refine ai ?_|(refine aj (by rfl) ?_ ?_<;>intro hC<;>(try cases hC)))
  all_goals first
   | (refine am ?_;refine bi rfl aM ⟨?_,rfl⟩;first|rfl|(simp_all [emB,bne,shp,List.length_pos_iff];done))
   | (exfalso;simp_all [emB,bne,List.length_pos_iff];done)
 by_cases h9:k=9
 ·subst h9
  rw [show dE 9 s t xs.length la.length lb.length (eV xs)=(emB t&&(emB s&&shp xs.length la.length lb.length 1 false false)) from rfl]
  repeat' (first|(apply ay;first|refine bO ?_|(refine aV ?_ ?_<;>intro hG<;>(try cases hG))|refine ao ?_|refine ak ?_|refine be ?_|refine aL ?_|refine aY ?_|refine aq ?_|refine aH ?_|refine cq ?_|refine dS ?_|refine a8 ?_|refine aE ?_)|refine al ?_|refine ab ?_|refine aa fun C=>?_|refine ae ?_|refine ah ?_|refine ai ?_|(refine aj (by rfl) ?_ ?_<;>intro hC<;>(try cases hC)))
  all_goals first
   | (refine am ?_;refine bi rfl aM ⟨?_,rfl⟩;first|rfl|(simp_all [emB,bne,shp,List.length_pos_iff];done))
   | (exfalso;simp_all [emB,bne,List.length_pos_iff];done)
 by_cases h10:k=10
 ·subst h10
  rw [show dE 10 s t xs.length la.length lb.length (eV xs)=(emB t&&(emB s&&shp xs.length la.length lb.length 1 false false)) from rfl]
  repeat' (first|(apply ay;first|refine bO ?_|(refine aV ?_ ?_<;>intro hG<;>(try cases hG))|refine ao ?_|refine ak ?_|refine be ?_|refine aL ?_|refine aY ?_|refine aq ?_|refine aH ?_|refine cq ?_|refine dS ?_|refine a8 ?_|refine aE ?_)|refine al ?_|refine ab ?_|refine aa fun C=>?_|refine ae ?_|refine ah ?_|refine ai ?_|(refine aj (by rfl) ?_ ?_<;>intro hC<;>(try cases hC)))
  all_goals first
   | (refine am ?_;refine bi rfl aM ⟨?_,rfl⟩;first|rfl|(simp_all [emB,bne,shp,List.length_pos_iff];done))
   | (exfalso;simp_all [emB,bne,List.length_pos_iff];done)
 by_cases h11:k=11
 ·subst h11
  rw [show dE 11 s t xs.length la.length lb.length (eV xs)=(emB t&&(bW s&&shp xs.length la.length lb.length 1 false false)) from rfl]
  have hne:emB s=true→bW s=false:=mM
  generalize bW s=bn at cn hne ⊢
  cases bn
  all_goals
   repeat' (first|(apply ay;first|refine bO ?_|(refine aV ?_ ?_<;>intro hG<;>(try cases hG))|refine ao ?_|refine ak ?_|refine be ?_|refine aL ?_|refine aI cn ?_|refine aY ?_|refine aq ?_|refine aH ?_|refine cq ?_|refine dS ?_|refine a8 ?_|refine bF ?_|refine aE ?_)|refine al ?_|refine ab ?_|refine aa fun C=>?_|refine ae ?_|refine ah ?_|refine ai ?_|(refine aj (by rfl) ?_ ?_<;>intro hC<;>(try cases hC)))
  all_goals first
   | (refine am ?_;refine bi rfl aM ⟨?_,rfl⟩;first|rfl|(simp_all [emB,bne,shp,List.length_pos_iff];done))
   | (exfalso;simp_all [emB,bne,List.length_pos_iff];done)
 by_cases h12:k=12
 ·subst h12
  rw [show dE 12 s t xs.length la.length lb.length (eV xs)=(emB t&&(emB s&&(shp xs.length la.length lb.length 1 false false&&eV xs))) from rfl]
  by_cases hx1:xs.length=1
  ·obtain⟨x,hx0⟩:∃x,xs[0]? = some x:=⟨_,List.getElem?_eq_getElem omq⟩
   rw [qQ hx0]
   obtain⟨y0,y1,y2,yA,yc,yl,rfl,-⟩:=aB (hxt x (List.mem_of_getElem? hx0))
   rw [show eP (.agg [.int .i64 y0,.int .i64 y1,.str y2,.lst 4 70 yA yc yl])=y0 from rfl]
   repeat' (first|(apply ay;first|refine bO ?_|(refine aV ?_ ?_<;>intro hG<;>(try cases hG))|refine ao ?_|refine ak ?_|refine be ?_|refine gO ?_|refine aL ?_|refine de ?_|refine aY ?_|refine dD ?_|refine aq ?_|refine aH ?_|refine cq ?_|refine dS ?_|refine a8 ?_|refine aE ?_)|refine al ?_|refine ab ?_|refine aa fun C=>?_|refine ae ?_|refine ah ?_|refine ai ?_|(refine aj (by rfl) ?_ ?_<;>intro hC<;>(try cases hC)))
   all_goals first
   | (refine am ?_;refine bi rfl aM ⟨?_,rfl⟩;first|rfl|(simp_all [emB,bne,shp,List.length_pos_iff];done))
   | (exfalso;simp_all [emB,bne,List.length_pos_iff];done)
  ·have hx2:¬(xs.length:Int)=1:=by omega
   rw [zlQ hx2]
   repeat' (first|(apply ay;first|refine bO ?_|(refine aV ?_ ?_<;>intro hG<;>(try cases hG))|refine ao ?_|refine ak ?_|refine be ?_|refine aL ?_|refine aY ?_|refine aq ?_|refine aH ?_|refine cq ?_|refine dS ?_|refine a8 ?_|refine aE ?_)|refine al ?_|refine ab ?_|refine aa fun C=>?_|refine ae ?_|refine ah ?_|refine ai ?_|(refine aj (by rfl) ?_ ?_<;>intro hC<;>(try cases hC)))
   all_goals first
   | (refine am ?_;refine bi rfl aM ⟨?_,rfl⟩;first|rfl|(simp_all [emB,bne,shp,List.length_pos_iff];done))
   | (exfalso;simp_all [emB,bne,List.length_pos_iff];done)
 rw [show dE k s t xs.length la.length lb.length (eV xs)=false by simp [dE, *]]
 repeat' (first|(apply ay;first|refine bO ?_|(refine aV ?_ ?_<;>intro hG<;>(try cases hG))|refine ao ?_|refine ak ?_|refine be ?_|refine aL ?_|refine aY ?_|refine aq ?_|refine aH ?_|refine cq ?_|refine dS ?_|refine a8 ?_|refine aE ?_)|refine al ?_|refine ab ?_|refine aa fun C=>?_|refine ae ?_|refine ah ?_|refine ai ?_|(refine aj (by rfl) ?_ ?_<;>intro hC<;>(try cases hC)))
 all_goals first
  | (refine am ?_;refine bi rfl aM ⟨?_,rfl⟩;rfl)
  | (exfalso;simp_all;done)
theorem ze4:zP prog 258=some (85,1):=rfl
theorem qZ (f:Nat)(e:E):dM f e≤61:=uC f e omq
theorem g9:∀(f:Nat),f≤5→∀(e:E),e.Ty prog 106→e.sz≤1048576→Ctr prog 229 [.ag (acE e),.c (.v (.int .i64 (6-(f:Int))))] [] (.c (.v (.int .i64 (dM f e:Nat)))) []
 | 0,_,e,he,hsz=>by
  obtain⟨k0,s0,t0,xA,xc,xs,aA,ac,la,bA,bc,lb,rfl,-,gs,gt,⟨hx,kx⟩,⟨ha,ka⟩,⟨hb,kb⟩,-⟩:=aQ he
  rw [show (6-((0:Nat):Int))=6 from rfl]
  refine av func229 rfl rfl ?_
  repeat' (first|(apply ay;first|refine bO ?_|(refine aV ?_ ?_<;>intro hG<;>(try cases hG))|refine ao ?_|refine ak ?_|refine a8 ?_|refine aE ?_|refine bN ?_)|refine al ?_|refine ab ?_|refine aa fun C=>?_|refine ae ?_|refine az rfl ?_)
  exact d8
 | f+1,hf,e,he,hsz=>by
  obtain⟨k0,s0,t0,xA,xc,xs,aA,ac,la,bA,bc,lb,rfl,-,gs,gt,⟨hx,kx⟩,⟨ha,ka⟩,⟨hb,kb⟩,-⟩:=aQ he
  simp only [E.sz,E.szL] at hsz
  have ch:=su (k:=k0) (s:=s0) (t:=t0) omq omq (xs:=xs) (la:=la) (lb:=lb) omq omq omq hx kx (fun e he=>by have:=E.szL_mem he;omega)
  have hd:lS (.agg [.int .i64 k0,.str s0,.str t0,.lst 4 70 xA xc xs,.lst 6 106 aA ac la,.lst 6 106 bA bc lb])=fa k0 s0 t0 xs la.length lb.length:=rfl
  cases hq:fa k0 s0 t0 xs la.length lb.length with
  | false =>
   rw [hq] at ch
   rw [show dM (f+1) (.agg [.int .i64 k0,.str s0,.str t0,.lst 4 70 xA xc xs,.lst 6 106 aA ac la,.lst 6 106 bA bc lb])=61 by unfold dM m8;rw [hd,hq];rfl]
   refine av func229 rfl rfl ?_
   repeat' (first|(apply ay;first|refine bO ?_|(refine aV ?_ ?_<;>intro hG<;>(try cases hG))|refine ao ?_|refine ak ?_|refine bz ?_|refine aI ch ?_|refine a8 ?_|refine bF ?_|refine aE ?_|refine bN ?_)|refine al ?_|refine ab ?_|refine aa fun C=>?_|refine ae ?_|(refine aj (by rfl) ?_ ?_<;>intro hC<;>(try cases hC)))
   all_goals (refine am ?_;refine bi rfl aM ⟨?_,rfl⟩;rfl)
  | true =>
   rw [hq] at ch
   rw [show dM (f+1) (.agg [.int .i64 k0,.str s0,.str t0,.lst 4 70 xA xc xs,.lst 6 106 aA ac la,.lst 6 106 bA bc lb])=gpI 60 (dM f) (la++lb) 1 by
    show m8 60 lS m9 (f+1) _=_
    unfold m8;rw [hd,hq];rfl]
   refine av func229 rfl rfl ?_
   have hgg:¬(6-((f+1:Nat):Int) > 5):=by omega
   repeat' (first|(apply ay;refine gG ?_ (hT:=ze4))|(apply ay;first|refine bO ?_|(refine aV ?_ ?_<;>intro hG<;>(try cases hG))|refine ao ?_|refine ak ?_|refine be ?_|refine bz ?_|refine aI ch ?_|refine gj ?_|refine a8 ?_|refine bF ?_|refine aE ?_|refine bN ?_|refine aU ?_)|refine al ?_|refine ab ?_|refine aa fun C=>?_|refine ae ?_|refine ah ?_|refine ai ?_|refine az rfl ?_|refine aF rfl ?_)
   all_goals try (exfalso;simp only [decide_eq_true_iff] at hG;omega)
   refine aP (fun d:Nat×Nat=>⟨dy [(1,.c (.v (.int .i64 (6-((f+1:Nat):Int))))),(5,.c (.v (.int .i64 (d.2:Int)))),(21,.c (.sl 21 2)),(22,.c (.v (.int .i64 2))),(23,.c (.v (.int .i64 (d.1:Int))))],dn [(21,21,⟨85,1,2,false,[.ro la.length 6 (acL la),.ro lb.length 6 (acL lb)]⟩)],0,[21],44⟩)
    (fun N d=>d.1+N=2∧d.2≤60∧gpI 60 (dM f) (la++lb) 1=gpI 60 (dM f) (if d.1=0 then la++lb else if d.1=1 then lb else []) d.2) 2 (0,1) ⟨by simp,by simp,rfl⟩ ?_ ?_
   ·have hcl:ba [.ro la.length 6 (acL la),.ro lb.length 6 (acL lb)]=true:=by simp [ba,clo,aG]
    (refine aD _ _ rfl rfl ?_ ?_<;>exact tdy1)
   rintro N ⟨j,m⟩ ⟨hN,hm,hr⟩
   dsimp only at hN hm hr ⊢
   have hj:j=0∨j=1∨j=2:=by omega
   rcases hj with rfl|rfl|rfl
   ·have hr:gpI 60 (dM f) (la++lb) 1=gpI 60 (dM f) (la++lb) m:=by rw [hr];simp
    repeat' (first|(apply ay;first|refine ao ?_|refine ak ?_|refine aY ?_|refine uf ?_|refine aN ?_|refine aU ?_)|refine al ?_|refine ab ?_|refine aa fun C=>?_|refine ae ?_|refine ah ?_|refine ai ?_|refine az rfl ?_)
    refine aP (fun d:Nat×Nat=>⟨dy [(1,.c (.v (.int .i64 (6-((f+1:Nat):Int))))),(5,.c (.v (.int .i64 (d.2:Int)))),(21,.c (.sl 21 2)),(22,.c (.v (.int .i64 2))),(23,.c (.v (.int .i64 0))),(27,.c (.ro la.length 6 (acL la))),(28,.c (.v (.int .i64 la.length))),(29,.c (.v (.int .i64 (d.1:Int))))],dn [(21,21,⟨85,1,2,false,[.ro la.length 6 (acL la),.ro lb.length 6 (acL lb)]⟩)],0,[21],44⟩)
     (fun M d=>d.1+M=la.length∧d.2≤60∧gpI 60 (dM f) (la++lb) 1=gpI 60 (dM f) (la.drop d.1++lb) d.2) la.length (0,m) ⟨by simp,hm,hr⟩ ?_ ?_
    ·have hcl:ba [.ro la.length 6 (acL la),.ro lb.length 6 (acL lb)]=true:=by simp [ba,clo,aG]
     (refine aD _ _ rfl rfl ?_ ?_<;>exact tdy1)
    rintro M ⟨i,m'⟩ ⟨hM,hm',hr'⟩
    dsimp only at hM hm' hr' ⊢
    repeat' (first|(apply ay;refine aN ?_)|refine al ?_|refine ab ?_|refine aa fun C=>?_|refine ae ?_)
    refine aj (by rfl) (fun h1=>?_) fun h1=>?_
    ·have hk':i<la.length:=by simpa using h1
     obtain⟨x,hx'⟩:∃x,la[i]? = some x:=⟨_,List.getElem?_eq_getElem hk'⟩
     have hxz:=E.szL_mem (List.mem_of_getElem? hx')
     have hxt:=ha x (List.mem_of_getElem? hx')
     have cx:=g9 f omq x hxt omq
     have cle:=qZ f x
     rw [gK hx',List.cons_append] at hr'
     rw [show (6-(f:Int))=6-((f+1:Nat):Int)+1 by omega] at cx
     have hr2:gpI 60 (dM f) (x :: (la.drop (i+1)++lb)) m'=if 60<m'+dM f x then 61 else gpI 60 (dM f) (la.drop (i+1)++lb) (m'+dM f x):=rfl
     rw [hr2] at hr'
     generalize dM f x=c at cx cle hr'
     obtain⟨z0,z1,z2,zA,zc,zx,yA,yc,ya,wA,wc,yb,rfl,-⟩:=aQ hxt
     repeat' (first|(apply ay;first|refine ao ?_|refine ak ?_|refine bG ?_|refine bz ?_|refine aI cx ?_|refine cJ ?_|refine dD ?_|refine iq ?_|refine aC ?_|refine dB ?_)|refine al ?_|refine ab ?_|refine aa fun C=>?_|refine ae ?_|refine ah ?_|refine ai ?_)
     refine aj (by rfl) (fun h2=>?_) fun h2=>?_
     ·have h3:60<m'+c:=by simp at h2;omega
      rw [hr',if_pos h3]
      repeat' (first|(apply ay;refine ak ?_)|refine al ?_|refine ab ?_|refine aa fun C=>?_|refine ae ?_)
      exact d8
     ·have h3:¬60<m'+c:=by simp at h2;omega
      rw [if_neg h3] at hr'
      repeat' (first|(apply ay;first|refine ao ?_|refine aC ?_)|refine al ?_|refine ab ?_|refine aa fun C=>?_|refine ai ?_)
      have hcl:ba [.ro la.length 6 (acL la),.ro lb.length 6 (acL lb)]=true:=by simp [ba,clo,aG]
      refine⟨M-1,(i+1,m'+c),omq,⟨by show i+1+(M-1)=la.length;omega,by show m'+c≤60;omega,hr'⟩,?_⟩
      (refine aD _ _ rfl rfl ?_ ?_<;>exact tdy1)
    ·have hk':¬i<la.length:=by simpa using h1
     rw [List.drop_eq_nil_of_le omq,List.nil_append] at hr'
     repeat' (first|(apply ay;first|refine ao ?_|refine aC ?_)|refine al ?_|refine ab ?_|refine aa fun C=>?_|refine au ?_)
     have hcl:ba [.ro la.length 6 (acL la),.ro lb.length 6 (acL lb)]=true:=by simp [ba,clo,aG]
     refine⟨N-1,(0+1,m'),omq,⟨by show 0+1+(N-1)=2;omega,hm',by rw [hr'];rfl⟩,?_⟩
     (refine aD _ _ rfl rfl ?_ ?_<;>exact tdy1)
   ·have hr:gpI 60 (dM f) (la++lb) 1=gpI 60 (dM f) (lb++([]:List E)) m:=by rw [hr];simp
    repeat' (first|(apply ay;first|refine ao ?_|refine ak ?_|refine aY ?_|refine uf ?_|refine aN ?_|refine aU ?_)|refine al ?_|refine ab ?_|refine aa fun C=>?_|refine ae ?_|refine ah ?_|refine ai ?_|refine az rfl ?_)
    refine aP (fun d:Nat×Nat=>⟨dy [(1,.c (.v (.int .i64 (6-((f+1:Nat):Int))))),(5,.c (.v (.int .i64 (d.2:Int)))),(21,.c (.sl 21 2)),(22,.c (.v (.int .i64 2))),(23,.c (.v (.int .i64 1))),(27,.c (.ro lb.length 6 (acL lb))),(28,.c (.v (.int .i64 lb.length))),(29,.c (.v (.int .i64 (d.1:Int))))],dn [(21,21,⟨85,1,2,false,[.ro la.length 6 (acL la),.ro lb.length 6 (acL lb)]⟩)],0,[21],44⟩)
     (fun M d=>d.1+M=lb.length∧d.2≤60∧gpI 60 (dM f) (la++lb) 1=gpI 60 (dM f) (lb.drop d.1++([]:List E)) d.2) lb.length (0,m) ⟨by simp,hm,hr⟩ ?_ ?_
    ·have hcl:ba [.ro la.length 6 (acL la),.ro lb.length 6 (acL lb)]=true:=by simp [ba,clo,aG]
     (refine aD _ _ rfl rfl ?_ ?_<;>exact tdy1)
    rintro M ⟨i,m'⟩ ⟨hM,hm',hr'⟩
    dsimp only at hM hm' hr' ⊢
    repeat' (first|(apply ay;refine aN ?_)|refine al ?_|refine ab ?_|refine aa fun C=>?_|refine ae ?_)
    refine aj (by rfl) (fun h1=>?_) fun h1=>?_
    ·have hk':i<lb.length:=by simpa using h1
     obtain⟨x,hx'⟩:∃x,lb[i]? = some x:=⟨_,List.getElem?_eq_getElem hk'⟩
     have hxz:=E.szL_mem (List.mem_of_getElem? hx')
     have hxt:=hb x (List.mem_of_getElem? hx')
     have cx:=g9 f omq x hxt omq
     have cle:=qZ f x
     rw [gK hx',List.cons_append] at hr'
     rw [show (6-(f:Int))=6-((f+1:Nat):Int)+1 by omega] at cx
     have hr2:gpI 60 (dM f) (x :: (lb.drop (i+1)++([]:List E))) m'=if 60<m'+dM f x then 61 else gpI 60 (dM f) (lb.drop (i+1)++([]:List E)) (m'+dM f x):=rfl
     rw [hr2] at hr'
     generalize dM f x=c at cx cle hr'
     obtain⟨z0,z1,z2,zA,zc,zx,yA,yc,ya,wA,wc,yb,rfl,-⟩:=aQ hxt
     repeat' (first|(apply ay;first|refine ao ?_|refine ak ?_|refine bG ?_|refine bz ?_|refine aI cx ?_|refine cJ ?_|refine dD ?_|refine iq ?_|refine aC ?_|refine dB ?_)|refine al ?_|refine ab ?_|refine aa fun C=>?_|refine ae ?_|refine ah ?_|refine ai ?_)
     refine aj (by rfl) (fun h2=>?_) fun h2=>?_
     ·have h3:60<m'+c:=by simp at h2;omega
      rw [hr',if_pos h3]
      repeat' (first|(apply ay;refine ak ?_)|refine al ?_|refine ab ?_|refine aa fun C=>?_|refine ae ?_)
      exact d8
     ·have h3:¬60<m'+c:=by simp at h2;omega
      rw [if_neg h3] at hr'
      repeat' (first|(apply ay;first|refine ao ?_|refine aC ?_)|refine al ?_|refine ab ?_|refine aa fun C=>?_|refine ai ?_)
      have hcl:ba [.ro la.length 6 (acL la),.ro lb.length 6 (acL lb)]=true:=by simp [ba,clo,aG]
      refine⟨M-1,(i+1,m'+c),omq,⟨by show i+1+(M-1)=lb.length;omega,by show m'+c≤60;omega,hr'⟩,?_⟩
      (refine aD _ _ rfl rfl ?_ ?_<;>exact tdy1)
    ·have hk':¬i<lb.length:=by simpa using h1
     rw [List.drop_eq_nil_of_le omq,List.nil_append] at hr'
     repeat' (first|(apply ay;first|refine ao ?_|refine aC ?_)|refine al ?_|refine ab ?_|refine aa fun C=>?_|refine au ?_)
     have hcl:ba [.ro la.length 6 (acL la),.ro lb.length 6 (acL lb)]=true:=by simp [ba,clo,aG]
     refine⟨N-1,(1+1,m'),omq,⟨by show 1+1+(N-1)=2;omega,hm',by rw [hr'];rfl⟩,?_⟩
     (refine aD _ _ rfl rfl ?_ ?_<;>exact tdy1)
   ·repeat' (first|(apply ay;first|refine ao ?_|refine ak ?_|refine aN ?_)|refine al ?_|refine ab ?_|refine aa fun C=>?_|refine ae ?_|refine au ?_|refine aF rfl ?_)
    refine am ?_;refine bi rfl aM ⟨?_,rfl⟩
    rw [hr];rfl
theorem oA {e:E}(he:e.Ty prog 106)(hsz:e.sz≤1048576):Ctr prog 191 [.ag (acE e)] [] (.c (.v (.bool (jd e)))) []:=by
 have c1:=g9 5 omq e he hsz
 rw [zwQ,show (6-((5:Nat):Int))=1 from rfl] at *
 rw [show decide (dM 5 e≤60)=decide ((dM 5 e:Int)≤60) from decide_eq_decide.2 omq]
 generalize dM 5 e=c at c1 ⊢
 obtain⟨k0,s0,t0,xA,xc,xs,aA,ac,la,bA,bc,lb,rfl,-,gs,gt,⟨hx,kx⟩,⟨ha,ka⟩,⟨hb,kb⟩,-⟩:=aQ he
 refine av func191 rfl rfl ?_
 repeat' (first|(apply ay;first|refine ak ?_|refine bz ?_|refine aI c1 ?_|refine bv ?_|refine bN ?_)|refine al ?_|refine ab ?_|refine aa fun C=>?_|refine ae ?_)
 exact d8
open Classical in
noncomputable def eqD (x y:E):Bool:=decide (x.d=y.d)
open Classical in
noncomputable def sK (x y:List E):Bool:=decide (E.dL x=E.dL y)
theorem hH {x y:E}:eqD x y=true↔x.d=y.d:=by unfold eqD;exact @decide_eq_true_iff _ (Classical.propDecidable _)
open Classical in
theorem fS {x y:List E}:sK x y=true↔E.dL x=E.dL y:=by unfold sK;exact decide_eq_true_iff
theorem gM {a b:Bool}(h:a=true↔b=true):a=b:=by cases a<;>cases b<;>simp_all
theorem pZ {k:IntKind}{a b:Int}:eqD (.int k a) (.int k b)=(a==b):=gM (by rw [hH];simp [E.d])
theorem yt {a b:Bool}:eqD (.bool a) (.bool b)=(a==b):=gM (by rw [hH];simp [E.d])
theorem vU {a b:ByteArray}:eqD (.str a) (.str b)=(a.toList==b.toList):=gM (by
 rw [hH]
 simp only [E.d,E.str.injEq,beq_iff_eq]
 exact⟨fun h=>by rw [h],fun h=>by
  have h1:a.data.toList=b.data.toList:=by simpa [ByteArray.toList_eq] using h
  cases a;cases b
  simp only at h1
  congr 1
  exact Array.toList_inj.1 h1⟩)
theorem vV {l m:List E}:eqD (.agg l) (.agg m)=sK l m:=gM (by rw [hH,fS];simp [E.d])
theorem vW {k k' c c':Nat}{T T':TypeId}{A A':Option Addr}{l m:List E}:eqD (.lst k T A c l) (.lst k' T' A' c' m)=sK l m:=gM (by rw [hH,fS];simp [E.d])
theorem jT:sK [] []=true:=fS.2 rfl
theorem fw {x y:E}{l m:List E}:sK (x :: l) (y :: m)=(eqD x y&&sK l m):=gM (by rw [fS,Bool.and_eq_true,hH,fS];simp [E.dL])
theorem q7:∀{a b:List E},a.length≠b.length→sK a b=false:=by
 intro a b h
 rw [Bool.eq_false_iff]
 intro h'
 rw [fS,E.dL_eq,E.dL_eq] at h'
 exact h (by simpa using congrArg List.length h')
theorem zf2:∀{a b:List E} {k:Nat} {x y:E},a[k]? = some x→b[k]? = some y→eqD x y=false→sK a b=false:=by
 intro a b k x y hx hy h
 rw [Bool.eq_false_iff]
 intro h'
 rw [fS,E.dL_eq,E.dL_eq] at h'
 have:=congrArg (fun l=>l[k]?) h'
 simp only [List.getElem?_map,hx,hy,Option.map_some,Option.some.injEq] at this
 rw [hH.2 this] at h
 cases h
theorem q8:∀{a b:List E},a.length=b.length→(∀(j:Nat) x y,j<a.length→a[j]? = some x→b[j]? = some y→eqD x y=true)→sK a b=true
 | [],[],_,_=>jT
 | [],_ :: _,h,_=>by simp at h
 | _ :: _,[],h,_=>by simp at h
 | x :: a,y :: b,h,hh=>by
  rw [fw,Bool.and_eq_true]
  exact⟨hh 0 x y (by simp) rfl rfl,q8 (by simpa using h) fun j p q hj hp hq=>hh (j+1) p q (by simpa using hj) (by simpa using hp) (by simpa using hq)⟩
end Go.Proofs.YtmnneflenebgmaaGreat
