/- T -/
import Derived.Test.YtmnneflenebgmaaGreatCnOAC
set_option maxHeartbeats 0
set_option maxRecDepth 100000
namespace Go.Proofs.YtmnneflenebgmaaGreat
open Go.RowKit Go.Proofs.Tryz
theorem dw {s t:ByteArray}{xs la lb:List E}(hx:xs.length≤1048576)(ha:la.length≤1048576)(hb:lb.length≤1048576)(k j:Int)(a b:Bool):Ctr prog 240 [.ag [.v (.int .i64 k),.v (.string s),.v (.string t),.ro xs.length 4 (acL xs),.ro la.length 6 (acL la),.ro lb.length 6 (acL lb)],.c (.v (.int .i64 j)),.c (.v (.bool a)),.c (.v (.bool b))] [] (.c (.v (.bool (shp xs.length la.length lb.length j a b)))) []:=by
 cases a<;>cases b
 all_goals
  refine av func240 rfl rfl ?_
  repeat' (first|(apply ay;first|refine bO ?_|(refine aU ?_ ?_<;>intro hG<;>(try cases hG))|refine ao ?_|refine ak ?_|refine bd ?_|refine aY ?_|refine aq ?_|refine aF ?_|refine bL ?_|refine aS ?_)|refine al ?_|refine ab ?_|refine aa fun C=>?_|refine ae ?_)
 all_goals (refine am ?_;refine bi rfl aN ⟨?_,rfl⟩;first|rfl|(simp_all [shp];done))
theorem mT {s:ByteArray}(h:emB s=true):bW s=false:=by
 have h0:s.size=0:=by
  unfold emB at h
  rw [beq_iff_eq] at h
  have:=congrArg List.length h
  simpa [ByteArray.toList_eq] using this
 simp [bW,fR,h0]
theorem qX {xs:List E}{x:E}(h:xs[0]? = some x):eW xs=(eQ x==11):=by
 cases xs with
 | nil=>simp at h
 | cons y r=>simp at h;subst h;rfl
theorem zuQ {n na nb j:Int}{a b:Bool}(h:¬n=j):shp n na nb j a b=false:=by simp [shp,h]
theorem zq1 {s t:ByteArray}(hs:s.size≤1048576)(ht:t.size≤1048576){xs la lb:List E}(hx:xs.length≤1048576)(ha:la.length≤1048576)(hb:lb.length≤1048576):Ctr prog 209 [.ag [.v (.int .i64 1),.v (.string s),.v (.string t),.ro xs.length 4 (acL xs),.ro la.length 6 (acL la),.ro lb.length 6 (acL lb)]] [] (.c (.v (.bool (emB t&&(inR xs.length 1 5&&(emB s&&(((la.length:Int)==0)&&((lb.length:Int)==0)))))))) []:=by
 have cw:=ir (xs.length:Int) 1 5
 generalize inR (xs.length:Int) 1 5=bw at cw ⊢
 cases bw
 all_goals
  refine av func209 rfl rfl ?_
  repeat' (first|(apply ay;first|refine bO ?_|(refine aU ?_ ?_<;>intro hG<;>(try cases hG))|refine ak ?_|refine bd ?_|refine aL ?_|refine aI cw ?_|refine aY ?_|refine aq ?_|refine bG ?_|refine aG ?_|refine cu ?_|refine aF ?_|refine bL ?_)|refine al ?_|refine ab ?_|refine aa fun C=>?_|refine ae ?_|refine ah ?_|refine ai ?_|(refine aj (by rfl) ?_ ?_<;>intro hC<;>(try cases hC)))
 all_goals first
  | (refine am ?_;refine bi rfl aN ⟨?_,rfl⟩;first|rfl|(simp_all [emB,bne,shp,List.length_pos_iff];done))
  | (exfalso;simp_all [emB,bne,List.length_pos_iff];done)
theorem zr1 {s t:ByteArray}(hs:s.size≤1048576)(ht:t.size≤1048576){xs la lb:List E}(hx:xs.length≤1048576)(ha:la.length≤1048576)(hb:lb.length≤1048576):Ctr prog 209 [.ag [.v (.int .i64 2),.v (.string s),.v (.string t),.ro xs.length 4 (acL xs),.ro la.length 6 (acL la),.ro lb.length 6 (acL lb)]] [] (.c (.v (.bool (emB t&&(bW s&&shp xs.length la.length lb.length 1 false false))))) []:=by
 have cS:=dw (s:=s) (t:=t) hx ha hb 2 1 false false
 have cn:=cF hs
 generalize bW s=bn at cn ⊢
 cases bn
 all_goals
  refine av func209 rfl rfl ?_
  repeat' (first|(apply ay;first|refine bO ?_|(refine aU ?_ ?_<;>intro hG<;>(try cases hG))|refine ak ?_|refine bd ?_|refine aL ?_|refine bu ?_|refine aI cS ?_|refine aI cn ?_|refine aq ?_|refine aG ?_|refine cu ?_|refine aF ?_|refine bL ?_)|refine al ?_|refine ab ?_|refine aa fun C=>?_|refine ae ?_|refine ah ?_|refine ai ?_|(refine aj (by rfl) ?_ ?_<;>intro hC<;>(try cases hC)))
 all_goals first
  | (refine am ?_;refine bi rfl aN ⟨?_,rfl⟩;first|rfl|(simp_all [emB,bne,shp,List.length_pos_iff];done))
  | (exfalso;simp_all [emB,bne,List.length_pos_iff];done)
theorem zs1 {s t:ByteArray}(hs:s.size≤1048576)(ht:t.size≤1048576){xs la lb:List E}(hx:xs.length≤1048576)(ha:la.length≤1048576)(hb:lb.length≤1048576):Ctr prog 209 [.ag [.v (.int .i64 3),.v (.string s),.v (.string t),.ro xs.length 4 (acL xs),.ro la.length 6 (acL la),.ro lb.length 6 (acL lb)]] [] (.c (.v (.bool (emB t&&(bW s&&shp xs.length la.length lb.length 2 false false))))) []:=by
 have cS:=dw (s:=s) (t:=t) hx ha hb 3 2 false false
 have cn:=cF hs
 generalize bW s=bn at cn ⊢
 cases bn
 all_goals
  refine av func209 rfl rfl ?_
  repeat' (first|(apply ay;first|refine bO ?_|(refine aU ?_ ?_<;>intro hG<;>(try cases hG))|refine ak ?_|refine bd ?_|refine aL ?_|refine bu ?_|refine aI cS ?_|refine aI cn ?_|refine aq ?_|refine aG ?_|refine cu ?_|refine aF ?_|refine bL ?_)|refine al ?_|refine ab ?_|refine aa fun C=>?_|refine ae ?_|refine ah ?_|refine ai ?_|(refine aj (by rfl) ?_ ?_<;>intro hC<;>(try cases hC)))
 all_goals first
  | (refine am ?_;refine bi rfl aN ⟨?_,rfl⟩;first|rfl|(simp_all [emB,bne,shp,List.length_pos_iff];done))
  | (exfalso;simp_all [emB,bne,List.length_pos_iff];done)
theorem zt1 {s t:ByteArray}(hs:s.size≤1048576)(ht:t.size≤1048576){xs la lb:List E}(hx:xs.length≤1048576)(ha:la.length≤1048576)(hb:lb.length≤1048576):Ctr prog 209 [.ag [.v (.int .i64 4),.v (.string s),.v (.string t),.ro xs.length 4 (acL xs),.ro la.length 6 (acL la),.ro lb.length 6 (acL lb)]] [] (.c (.v (.bool (emB t&&(emB s&&shp xs.length la.length lb.length 2 false false))))) []:=by
 have cS:=dw (s:=s) (t:=t) hx ha hb 4 2 false false
 all_goals
  refine av func209 rfl rfl ?_
  repeat' (first|(apply ay;first|refine bO ?_|(refine aU ?_ ?_<;>intro hG<;>(try cases hG))|refine ak ?_|refine bd ?_|refine aL ?_|refine bu ?_|refine aI cS ?_|refine aq ?_|refine bG ?_|refine aG ?_|refine cu ?_|refine aF ?_|refine bL ?_)|refine al ?_|refine ab ?_|refine aa fun C=>?_|refine ae ?_|refine ah ?_|refine ai ?_|(refine aj (by rfl) ?_ ?_<;>intro hC<;>(try cases hC)))
 all_goals first
  | (refine am ?_;refine bi rfl aN ⟨?_,rfl⟩;first|rfl|(simp_all [emB,bne,shp,List.length_pos_iff];done))
  | (exfalso;simp_all [emB,bne,List.length_pos_iff];done)
theorem zu1 {s t:ByteArray}(hs:s.size≤1048576)(ht:t.size≤1048576){xs la lb:List E}(hx:xs.length≤1048576)(ha:la.length≤1048576)(hb:lb.length≤1048576):Ctr prog 209 [.ag [.v (.int .i64 5),.v (.string s),.v (.string t),.ro xs.length 4 (acL xs),.ro la.length 6 (acL la),.ro lb.length 6 (acL lb)]] [] (.c (.v (.bool (emB t&&(emB s&&shp xs.length la.length lb.length 1 true true))))) []:=by
 have cS:=dw (s:=s) (t:=t) hx ha hb 5 1 true true
 all_goals
  refine av func209 rfl rfl ?_
  repeat' (first|(apply ay;first|refine bO ?_|(refine aU ?_ ?_<;>intro hG<;>(try cases hG))|refine ak ?_|refine bd ?_|refine aL ?_|refine bu ?_|refine aI cS ?_|refine aq ?_|refine bG ?_|refine aG ?_|refine cu ?_|refine aF ?_|refine bL ?_)|refine al ?_|refine ab ?_|refine aa fun C=>?_|refine ae ?_|refine ah ?_|refine ai ?_|(refine aj (by rfl) ?_ ?_<;>intro hC<;>(try cases hC)))
 all_goals first
  | (refine am ?_;refine bi rfl aN ⟨?_,rfl⟩;first|rfl|(simp_all [emB,bne,shp,List.length_pos_iff];done))
  | (exfalso;simp_all [emB,bne,List.length_pos_iff];done)
theorem zv1 {s t:ByteArray}(hs:s.size≤1048576)(ht:t.size≤1048576){xs la lb:List E}(hx:xs.length≤1048576)(ha:la.length≤1048576)(hb:lb.length≤1048576):Ctr prog 209 [.ag [.v (.int .i64 6),.v (.string s),.v (.string t),.ro xs.length 4 (acL xs),.ro la.length 6 (acL la),.ro lb.length 6 (acL lb)]] [] (.c (.v (.bool (emB t&&(emB s&&shp xs.length la.length lb.length 1 true false))))) []:=by
 have cS:=dw (s:=s) (t:=t) hx ha hb 6 1 true false
 all_goals
  refine av func209 rfl rfl ?_
  repeat' (first|(apply ay;first|refine bO ?_|(refine aU ?_ ?_<;>intro hG<;>(try cases hG))|refine ak ?_|refine bd ?_|refine aL ?_|refine bu ?_|refine aI cS ?_|refine aq ?_|refine bG ?_|refine aG ?_|refine cu ?_|refine aF ?_|refine bL ?_)|refine al ?_|refine ab ?_|refine aa fun C=>?_|refine ae ?_|refine ah ?_|refine ai ?_|(refine aj (by rfl) ?_ ?_<;>intro hC<;>(try cases hC)))
 all_goals first
  | (refine am ?_;refine bi rfl aN ⟨?_,rfl⟩;first|rfl|(simp_all [emB,bne,shp,List.length_pos_iff];done))
  | (exfalso;simp_all [emB,bne,List.length_pos_iff];done)
theorem zw1 {s t:ByteArray}(hs:s.size≤1048576)(ht:t.size≤1048576){xs la lb:List E}(hx:xs.length≤1048576)(ha:la.length≤1048576)(hb:lb.length≤1048576):Ctr prog 209 [.ag [.v (.int .i64 7),.v (.string s),.v (.string t),.ro xs.length 4 (acL xs),.ro la.length 6 (acL la),.ro lb.length 6 (acL lb)]] [] (.c (.v (.bool (bW s&&(bW t&&shp xs.length la.length lb.length 0 true false))))) []:=by
 have cS:=dw (s:=s) (t:=t) hx ha hb 7 0 true false
 have cn:=cF hs
 generalize bW s=bn at cn ⊢
 have cm:=cF ht
 generalize bW t=bm at cm ⊢
 cases bn<;>cases bm
 all_goals
  refine av func209 rfl rfl ?_
  repeat' (first|(apply ay;first|refine bO ?_|(refine aU ?_ ?_<;>intro hG<;>(try cases hG))|refine ak ?_|refine bd ?_|refine aL ?_|refine bu ?_|refine aI cS ?_|refine aI cn ?_|refine aI cm ?_|refine aq ?_|refine aG ?_|refine aF ?_|refine bL ?_)|refine al ?_|refine ab ?_|refine aa fun C=>?_|refine ae ?_|refine ah ?_|refine ai ?_|(refine aj (by rfl) ?_ ?_<;>intro hC<;>(try cases hC)))
 all_goals first
  | (refine am ?_;refine bi rfl aN ⟨?_,rfl⟩;first|rfl|(simp_all [emB,bne,shp,List.length_pos_iff];done))
  | (exfalso;simp_all [emB,bne,List.length_pos_iff];done)
theorem zx1 {s t:ByteArray}(hs:s.size≤1048576)(ht:t.size≤1048576){xs la lb:List E}(hx:xs.length≤1048576)(ha:la.length≤1048576)(hb:lb.length≤1048576):Ctr prog 209 [.ag [.v (.int .i64 8),.v (.string s),.v (.string t),.ro xs.length 4 (acL xs),.ro la.length 6 (acL la),.ro lb.length 6 (acL lb)]] [] (.c (.v (.bool (emB t&&(emB s&&shp xs.length la.length lb.length 0 false false))))) []:=by
 have cS:=dw (s:=s) (t:=t) hx ha hb 8 0 false false
 all_goals
  refine av func209 rfl rfl ?_
  repeat' (first|(apply ay;first|refine bO ?_|(refine aU ?_ ?_<;>intro hG<;>(try cases hG))|refine ak ?_|refine bd ?_|refine aL ?_|refine bu ?_|refine aI cS ?_|refine aq ?_|refine bG ?_|refine aG ?_|refine cu ?_|refine aF ?_|refine bL ?_)|refine al ?_|refine ab ?_|refine aa fun C=>?_|refine ae ?_|refine ah ?_|refine ai ?_|(refine aj (by rfl) ?_ ?_<;>intro hC<;>(try cases hC)))
 all_goals first
  | (refine am ?_;refine bi rfl aN ⟨?_,rfl⟩;first|rfl|(simp_all [emB,bne,shp,List.length_pos_iff];done))
  | (exfalso;simp_all [emB,bne,List.length_pos_iff];done)
theorem zy1 {s t:ByteArray}(hs:s.size≤1048576)(ht:t.size≤1048576){xs la lb:List E}(hx:xs.length≤1048576)(ha:la.length≤1048576)(hb:lb.length≤1048576):Ctr prog 209 [.ag [.v (.int .i64 9),.v (.string s),.v (.string t),.ro xs.length 4 (acL xs),.ro la.length 6 (acL la),.ro lb.length 6 (acL lb)]] [] (.c (.v (.bool (emB t&&(emB s&&shp xs.length la.length lb.length 1 false false))))) []:=by
 have cS:=dw (s:=s) (t:=t) hx ha hb 9 1 false false
 all_goals
  refine av func209 rfl rfl ?_
  repeat' (first|(apply ay;first|refine bO ?_|(refine aU ?_ ?_<;>intro hG<;>(try cases hG))|refine ak ?_|refine bd ?_|refine aL ?_|refine bu ?_|refine aI cS ?_|refine aq ?_|refine bG ?_|refine aG ?_|refine cu ?_|refine aF ?_|refine bL ?_)|refine al ?_|refine ab ?_|refine aa fun C=>?_|refine ae ?_|refine ah ?_|refine ai ?_|(refine aj (by rfl) ?_ ?_<;>intro hC<;>(try cases hC)))
 all_goals first
  | (refine am ?_;refine bi rfl aN ⟨?_,rfl⟩;first|rfl|(simp_all [emB,bne,shp,List.length_pos_iff];done))
  | (exfalso;simp_all [emB,bne,List.length_pos_iff];done)
theorem yk {s t:ByteArray}(hs:s.size≤1048576)(ht:t.size≤1048576){xs la lb:List E}(hx:xs.length≤1048576)(ha:la.length≤1048576)(hb:lb.length≤1048576):Ctr prog 209 [.ag [.v (.int .i64 10),.v (.string s),.v (.string t),.ro xs.length 4 (acL xs),.ro la.length 6 (acL la),.ro lb.length 6 (acL lb)]] [] (.c (.v (.bool (emB t&&(emB s&&shp xs.length la.length lb.length 1 false false))))) []:=by
 have cS:=dw (s:=s) (t:=t) hx ha hb 10 1 false false
 all_goals
  refine av func209 rfl rfl ?_
  repeat' (first|(apply ay;first|refine bO ?_|(refine aU ?_ ?_<;>intro hG<;>(try cases hG))|refine ak ?_|refine bd ?_|refine aL ?_|refine bu ?_|refine aI cS ?_|refine aq ?_|refine bG ?_|refine aG ?_|refine cu ?_|refine aF ?_|refine bL ?_)|refine al ?_|refine ab ?_|refine aa fun C=>?_|refine ae ?_|refine ah ?_|refine ai ?_|(refine aj (by rfl) ?_ ?_<;>intro hC<;>(try cases hC)))
 all_goals first
  | (refine am ?_;refine bi rfl aN ⟨?_,rfl⟩;first|rfl|(simp_all [emB,bne,shp,List.length_pos_iff];done))
  | (exfalso;simp_all [emB,bne,List.length_pos_iff];done)
theorem ym {s t:ByteArray}(hs:s.size≤1048576)(ht:t.size≤1048576){xs la lb:List E}(hx:xs.length≤1048576)(ha:la.length≤1048576)(hb:lb.length≤1048576):Ctr prog 209 [.ag [.v (.int .i64 11),.v (.string s),.v (.string t),.ro xs.length 4 (acL xs),.ro la.length 6 (acL la),.ro lb.length 6 (acL lb)]] [] (.c (.v (.bool (emB t&&(bW s&&shp xs.length la.length lb.length 1 false false))))) []:=by
 have cS:=dw (s:=s) (t:=t) hx ha hb 11 1 false false
 have cn:=cF hs
 generalize bW s=bn at cn ⊢
 cases bn
 all_goals
  refine av func209 rfl rfl ?_
  repeat' (first|(apply ay;first|refine bO ?_|(refine aU ?_ ?_<;>intro hG<;>(try cases hG))|refine ak ?_|refine bd ?_|refine aL ?_|refine bu ?_|refine aI cS ?_|refine aI cn ?_|refine aq ?_|refine aG ?_|refine cu ?_|refine aF ?_|refine bL ?_)|refine al ?_|refine ab ?_|refine aa fun C=>?_|refine ae ?_|refine ah ?_|refine ai ?_|(refine aj (by rfl) ?_ ?_<;>intro hC<;>(try cases hC)))
 all_goals first
  | (refine am ?_;refine bi rfl aN ⟨?_,rfl⟩;first|rfl|(simp_all [emB,bne,shp,List.length_pos_iff];done))
  | (exfalso;simp_all [emB,bne,List.length_pos_iff];done)
theorem yn {s t:ByteArray}(hs:s.size≤1048576)(ht:t.size≤1048576){xs la lb:List E}(hx:xs.length≤1048576)(ha:la.length≤1048576)(hb:lb.length≤1048576)(hxt:∀e∈xs,e.Ty prog 70)(hxk:∀e∈xs,e.enc.length=4):Ctr prog 209 [.ag [.v (.int .i64 12),.v (.string s),.v (.string t),.ro xs.length 4 (acL xs),.ro la.length 6 (acL la),.ro lb.length 6 (acL lb)]] [] (.c (.v (.bool (emB t&&(emB s&&(shp xs.length la.length lb.length 1 false false&&eW xs)))))) []:=by
 have cS:=dw (s:=s) (t:=t) hx ha hb 12 1 false false
 by_cases hx1:xs.length=1
 ·obtain⟨x,hx0⟩:∃x,xs[0]? = some x:=⟨_,List.getElem?_eq_getElem omq⟩
  rw [qX hx0]
  obtain⟨y0,y1,y2,yA,yc,yl,rfl,-⟩:=aB (hxt x (List.mem_of_getElem? hx0))
  rw [show eQ (.agg [.int .i64 y0,.int .i64 y1,.str y2,.lst 4 70 yA yc yl])=y0 from rfl]
  generalize shp xs.length la.length lb.length 1 false false=bS at cS ⊢
  cases bS
  all_goals
   refine av func209 rfl rfl ?_
   repeat' (first|(apply ay;first|refine bO ?_|(refine aU ?_ ?_<;>intro hG<;>(try cases hG))|refine ak ?_|refine bd ?_|refine gO ?_|refine aL ?_|refine dC ?_|refine bu ?_|refine aI cS ?_|refine dE ?_|refine aq ?_|refine bG ?_|refine aG ?_|refine cu ?_|refine aF ?_|refine bL ?_)|refine al ?_|refine ab ?_|refine aa fun C=>?_|refine ae ?_|refine ah ?_|refine ai ?_|(refine aj (by rfl) ?_ ?_<;>intro hC<;>(try cases hC)))
  all_goals first
   | (refine am ?_;refine bi rfl aN ⟨?_,rfl⟩;first|rfl|(simp_all [emB,bne,shp,List.length_pos_iff];done))
   | (exfalso;simp_all [emB,bne,List.length_pos_iff];done)
 ·rw [zuQ (show ¬(xs.length:Int)=1 by omega)] at cS ⊢
  refine av func209 rfl rfl ?_
  repeat' (first|(apply ay;first|refine bO ?_|(refine aU ?_ ?_<;>intro hG<;>(try cases hG))|refine ak ?_|refine bd ?_|refine aL ?_|refine bu ?_|refine aI cS ?_|refine aq ?_|refine bG ?_|refine aG ?_|refine cu ?_|refine aF ?_|refine bL ?_)|refine al ?_|refine ab ?_|refine aa fun C=>?_|refine ae ?_|refine ah ?_|refine ai ?_|(refine aj (by rfl) ?_ ?_<;>intro hC<;>(try cases hC)))
  all_goals first
   | (refine am ?_;refine bi rfl aN ⟨?_,rfl⟩;first|rfl|(simp_all [emB,bne,shp,List.length_pos_iff];done))
   | (exfalso;simp_all [emB,bne,List.length_pos_iff];done)
theorem zz1 {s t:ByteArray}(hs:s.size≤1048576)(ht:t.size≤1048576){xs la lb:List E}(hx:xs.length≤1048576)(ha:la.length≤1048576)(hb:lb.length≤1048576){k:Int}(h1:¬k=1)(h2:¬k=2)(h3:¬k=3)(h4:¬k=4)(h5:¬k=5)(h6:¬k=6)(h7:¬k=7)(h8:¬k=8)(h9:¬k=9)(h10:¬k=10)(h11:¬k=11)(h12:¬k=12):Ctr prog 209 [.ag [.v (.int .i64 k),.v (.string s),.v (.string t),.ro xs.length 4 (acL xs),.ro la.length 6 (acL la),.ro lb.length 6 (acL lb)]] [] (.c (.v (.bool false))) []:=by
 refine av func209 rfl rfl ?_
 repeat' (first|(apply ay;first|refine bO ?_|(refine aU ?_ ?_<;>intro hG<;>(try cases hG))|refine ak ?_|refine bd ?_|refine aL ?_|refine aG ?_|refine cu ?_|refine aF ?_|refine bL ?_)|refine al ?_|refine ab ?_|refine aa fun C=>?_|refine ae ?_)
 rotate_left
 ·exact absurd (by simpa using hG) h7
 refine aj (by rfl) (fun hC=>?_) fun hC=>?_
 ·repeat' (first|(apply ay;refine ak ?_)|refine al ?_|refine ab ?_|refine aa fun C=>?_|refine ae ?_)
  exact d9
 repeat' (first|(apply ay;first|refine ak ?_|refine bd ?_|refine aL ?_|refine aq ?_)|refine al ?_|refine ab ?_|refine aa fun C=>?_|refine ae ?_|refine ah ?_|refine ai ?_)
 iterate 30 ((try (first|refine aj (by rfl) (fun hC=>absurd (eq_of_beq hC) (by assumption)) fun hC=>?_|refine aE rfl ?_));(try repeat' (first|(apply ay;first|refine ak ?_|refine aq ?_)|refine al ?_|refine ab ?_|refine aa fun C=>?_|refine ae ?_|refine ai ?_)))
 exact d9
theorem yp {k:Int}{s t:ByteArray}(hs:s.size≤1048576)(ht:t.size≤1048576){xs la lb:List E}(hx:xs.length≤1048576)(ha:la.length≤1048576)(hb:lb.length≤1048576)(hxt:∀e∈xs,e.Ty prog 70)(hxk:∀e∈xs,e.enc.length=4):Ctr prog 209 [.ag [.v (.int .i64 k),.v (.string s),.v (.string t),.ro xs.length 4 (acL xs),.ro la.length 6 (acL la),.ro lb.length 6 (acL lb)]] [] (.c (.v (.bool (dF k s t xs.length la.length lb.length (eW xs))))) []:=by
 by_cases h1:k=1
 ·subst h1
  exact zq1 hs ht hx ha hb
 by_cases h2:k=2
 ·subst h2
  exact zr1 hs ht hx ha hb
 by_cases h3:k=3
 ·subst h3
  exact zs1 hs ht hx ha hb
 by_cases h4:k=4
 ·subst h4
  exact zt1 hs ht hx ha hb
 by_cases h5:k=5
 ·subst h5
  exact zu1 hs ht hx ha hb
 by_cases h6:k=6
 ·subst h6
  exact zv1 hs ht hx ha hb
 by_cases h7:k=7
 ·subst h7
  exact zw1 hs ht hx ha hb
 by_cases h8:k=8
 ·subst h8
  exact zx1 hs ht hx ha hb
 by_cases h9:k=9
 ·subst h9
  exact zy1 hs ht hx ha hb
 by_cases h10:k=10
 ·subst h10
  exact yk hs ht hx ha hb
 by_cases h11:k=11
 ·subst h11
  exact ym hs ht hx ha hb
 by_cases h12:k=12
 ·subst h12
  exact yn hs ht hx ha hb hxt hxk
 rw [show dF k s t xs.length la.length lb.length (eW xs)=false by simp [dF, *]]
 exact zz1 hs ht hx ha hb h1 h2 h3 h4 h5 h6 h7 h8 h9 h10 h11 h12
end Go.Proofs.YtmnneflenebgmaaGreat
