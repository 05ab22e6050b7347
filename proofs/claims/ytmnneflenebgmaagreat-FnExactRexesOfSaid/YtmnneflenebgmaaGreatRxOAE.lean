/- T -/
import Derived.Test.YtmnneflenebgmaaGreatRxOAD
set_option maxHeartbeats 0
set_option maxRecDepth 100000
namespace Go.Proofs.YtmnneflenebgmaaGreat
open Go.RowKit Go.Proofs.Tryz
theorem dv {c1 c2 c3:AC}(h1:clo c1=true)(h2:clo c2=true)(h3:clo c3=true){l:List E}(j:Int):Ctr prog 248 [.c (.v (.int .i64 j)),.c (.pt 0 0)] [[c1,c2,c3,.ro l.length 4 (acL l)]] (.c (.v (.bool ((l.length:Int)==j)))) [[c1,c2,c3,.ro l.length 4 (acL l)]]:=by
 refine av func248 rfl rfl ?_
 repeat' (first|(apply ay;first|refine ao ?_|refine ak ?_|refine be ?_|refine aY ?_|refine aq ?_|refine aU ?_)|refine al ?_|refine ab ?_|refine aa fun C=>?_|refine ae ?_)
 refine am ?_
 refine em rfl aM rfl (by simp [ba,clo,aG,h1,h2,h3]) rfl ⟨?_,?_⟩
 all_goals rfl
theorem vn {s:ByteArray}(hs:s.size≤1048576){l:List E}(hl:l.length≤1048576):Ctr prog 230 [.ag [.v (.int .i64 2),.v (.int .i64 0),.v (.string s),.ro l.length 4 (acL l)]] [] (.c (.v (.bool (gW 39 s&&((l.length:Int)==0))))) []:=by
 have ct:=xk hs
 generalize gW 39 s=bt at ct ⊢
 have cM:=dv (c1:=.v (.int .i64 2)) (c2:=.v (.int .i64 0)) (c3:=.v (.string s)) rfl rfl rfl (l:=l) 0
 have hq:ba [.v (.int .i64 2),.v (.int .i64 0),.v (.string s),.ro l.length 4 (acL l)]=true:=by simp [ba,clo,aG]
 all_goals cases bt
 all_goals
  refine av func230 rfl rfl ?_
  repeat' (first|(apply ay;first|refine bO ?_|(refine aV ?_ ?_<;>intro hG<;>(try cases hG))|refine ao ?_|refine ak ?_|refine be ?_|refine aL ?_|refine aI ct ?_|refine bd 1 (cM) ?_ (hl:=cV (by rfl) hq)|refine aq ?_|refine aH ?_|refine aE ?_|refine bN ?_|refine aU ?_)|refine al ?_|refine ab ?_|refine aa fun C=>?_|refine ae ?_|refine ah ?_|refine ai ?_|(refine aj (by rfl) ?_ ?_<;>intro hC<;>(try cases hC)))
 all_goals first
  | (refine am ?_;refine bi rfl aM ⟨?_,rfl⟩;first|rfl|(rw [show emB s=true from hG];rfl)|(rw [show emB s=false from hG];rfl)|(rw [Bool.and_true])|(rw [Bool.and_false])|(simp [*];done))
theorem vo {s:ByteArray}(hs:s.size≤1048576){l:List E}(hl:l.length≤1048576):Ctr prog 230 [.ag [.v (.int .i64 3),.v (.int .i64 0),.v (.string s),.ro l.length 4 (acL l)]] [] (.c (.v (.bool (bW s&&((l.length:Int)==0))))) []:=by
 have cn:=da hs
 generalize bW s=bn at cn ⊢
 have cM:=dv (c1:=.v (.int .i64 3)) (c2:=.v (.int .i64 0)) (c3:=.v (.string s)) rfl rfl rfl (l:=l) 0
 have hq:ba [.v (.int .i64 3),.v (.int .i64 0),.v (.string s),.ro l.length 4 (acL l)]=true:=by simp [ba,clo,aG]
 all_goals cases bn
 all_goals
  refine av func230 rfl rfl ?_
  repeat' (first|(apply ay;first|refine bO ?_|(refine aV ?_ ?_<;>intro hG<;>(try cases hG))|refine ao ?_|refine ak ?_|refine be ?_|refine aL ?_|refine aI cn ?_|refine bd 1 (cM) ?_ (hl:=cV (by rfl) hq)|refine aq ?_|refine aH ?_|refine aE ?_|refine bN ?_|refine aU ?_)|refine al ?_|refine ab ?_|refine aa fun C=>?_|refine ae ?_|refine ah ?_|refine ai ?_|(refine aj (by rfl) ?_ ?_<;>intro hC<;>(try cases hC)))
 all_goals first
  | (refine am ?_;refine bi rfl aM ⟨?_,rfl⟩;first|rfl|(rw [show emB s=true from hG];rfl)|(rw [show emB s=false from hG];rfl)|(rw [Bool.and_true])|(rw [Bool.and_false])|(simp [*];done))
theorem vp {s:ByteArray}(hs:s.size≤1048576){l:List E}(hl:l.length≤1048576):Ctr prog 230 [.ag [.v (.int .i64 4),.v (.int .i64 0),.v (.string s),.ro l.length 4 (acL l)]] [] (.c (.v (.bool (bW s&&((l.length:Int)==1))))) []:=by
 have cn:=da hs
 generalize bW s=bn at cn ⊢
 have cM:=dv (c1:=.v (.int .i64 4)) (c2:=.v (.int .i64 0)) (c3:=.v (.string s)) rfl rfl rfl (l:=l) 1
 have hq:ba [.v (.int .i64 4),.v (.int .i64 0),.v (.string s),.ro l.length 4 (acL l)]=true:=by simp [ba,clo,aG]
 all_goals cases bn
 all_goals
  refine av func230 rfl rfl ?_
  repeat' (first|(apply ay;first|refine bO ?_|(refine aV ?_ ?_<;>intro hG<;>(try cases hG))|refine ao ?_|refine ak ?_|refine be ?_|refine aL ?_|refine aI cn ?_|refine bd 1 (cM) ?_ (hl:=cV (by rfl) hq)|refine aq ?_|refine aH ?_|refine aE ?_|refine bN ?_|refine aU ?_)|refine al ?_|refine ab ?_|refine aa fun C=>?_|refine ae ?_|refine ah ?_|refine ai ?_|(refine aj (by rfl) ?_ ?_<;>intro hC<;>(try cases hC)))
 all_goals first
  | (refine am ?_;refine bi rfl aM ⟨?_,rfl⟩;first|rfl|(rw [show emB s=true from hG];rfl)|(rw [show emB s=false from hG];rfl)|(rw [Bool.and_true])|(rw [Bool.and_false])|(simp [*];done))
theorem vq {s:ByteArray}(hs:s.size≤1048576){l:List E}(hl:l.length≤1048576):Ctr prog 230 [.ag [.v (.int .i64 5),.v (.int .i64 0),.v (.string s),.ro l.length 4 (acL l)]] [] (.c (.v (.bool (emB s&&((l.length:Int)==1))))) []:=by
 have cM:=dv (c1:=.v (.int .i64 5)) (c2:=.v (.int .i64 0)) (c3:=.v (.string s)) rfl rfl rfl (l:=l) 1
 have hq:ba [.v (.int .i64 5),.v (.int .i64 0),.v (.string s),.ro l.length 4 (acL l)]=true:=by simp [ba,clo,aG]
 all_goals
  refine av func230 rfl rfl ?_
  repeat' (first|(apply ay;first|refine bO ?_|(refine aV ?_ ?_<;>intro hG<;>(try cases hG))|refine ao ?_|refine ak ?_|refine be ?_|refine aL ?_|refine bd 1 (cM) ?_ (hl:=cV (by rfl) hq)|refine aq ?_|refine bE ?_|refine aH ?_|refine aE ?_|refine bN ?_|refine aU ?_)|refine al ?_|refine ab ?_|refine aa fun C=>?_|refine ae ?_|refine ah ?_|refine ai ?_|(refine aj (by rfl) ?_ ?_<;>intro hC<;>(try cases hC)))
 all_goals first
  | (refine am ?_;refine bi rfl aM ⟨?_,rfl⟩;first|rfl|(rw [show emB s=true from hG];rfl)|(rw [show emB s=false from hG];rfl)|(rw [Bool.and_true])|(rw [Bool.and_false])|(simp [*];done))
theorem vt {s:ByteArray}(hs:s.size≤1048576){l:List E}(hl:l.length≤1048576):Ctr prog 230 [.ag [.v (.int .i64 6),.v (.int .i64 0),.v (.string s),.ro l.length 4 (acL l)]] [] (.c (.v (.bool (iO r6 s&&((l.length:Int)==2))))) []:=by
 have co:Ctr prog 53 [.c (.ro r6.length 1 (acL r6)),.c (.v (.string s))] [] (.c (.v (.bool (iO r6 s)))) []:=fQ vl oe (by decide) s
 generalize iO r6 s=bo at co ⊢
 have c0:=xR
 have cM:=dv (c1:=.v (.int .i64 6)) (c2:=.v (.int .i64 0)) (c3:=.v (.string s)) rfl rfl rfl (l:=l) 2
 have hq:ba [.v (.int .i64 6),.v (.int .i64 0),.v (.string s),.ro l.length 4 (acL l)]=true:=by simp [ba,clo,aG]
 all_goals cases bo
 all_goals
  refine av func230 rfl rfl ?_
  repeat' (first|(apply ay;first|(refine aV ?_ ?_<;>intro hG<;>(try cases hG))|refine ak ?_|refine be ?_|refine aL ?_|refine aq ?_|refine aH ?_|refine aE ?_|refine bN ?_|refine aU ?_)|refine al ?_|refine ab ?_|(apply fU;first|refine m7 ?_|(refine lD ?_ ?_<;>intro hG<;>(try cases hG))|(apply gi;refine bh ?_)|(apply d_as;refine bh ?_)|refine gV ?_|refine dI ?_|refine fI co ?_|refine fI c0 ?_|refine o_cad 1 (cM) ?_ (hl:=cV (by rfl) hq)|refine bh ?_)|refine al ?_|refine ab ?_|refine aa fun C=>?_|refine ar (by kernel_rfl) (by kernel_rfl) fun C=>?_|refine ae ?_|refine ah ?_|refine ai ?_|(refine aj (by rfl) ?_ ?_<;>intro hC<;>(try cases hC)))
 all_goals first
  | (refine am ?_;refine bi rfl aM ⟨?_,rfl⟩;first|rfl|(rw [show emB s=true from hG];rfl)|(rw [show emB s=false from hG];rfl)|(rw [Bool.and_true])|(rw [Bool.and_false])|(simp [*];done))
theorem vu {s:ByteArray}(hs:s.size≤1048576){l:List E}(hl:l.length≤1048576):Ctr prog 230 [.ag [.v (.int .i64 7),.v (.int .i64 0),.v (.string s),.ro l.length 4 (acL l)]] [] (.c (.v (.bool (emB s&&((l.length:Int)==1))))) []:=by
 have cM:=dv (c1:=.v (.int .i64 7)) (c2:=.v (.int .i64 0)) (c3:=.v (.string s)) rfl rfl rfl (l:=l) 1
 have hq:ba [.v (.int .i64 7),.v (.int .i64 0),.v (.string s),.ro l.length 4 (acL l)]=true:=by simp [ba,clo,aG]
 all_goals
  refine av func230 rfl rfl ?_
  repeat' (first|(apply ay;first|refine bO ?_|(refine aV ?_ ?_<;>intro hG<;>(try cases hG))|refine ao ?_|refine ak ?_|refine be ?_|refine aL ?_|refine bd 1 (cM) ?_ (hl:=cV (by rfl) hq)|refine aq ?_|refine bE ?_|refine aH ?_|refine aE ?_|refine bN ?_|refine aU ?_)|refine al ?_|refine ab ?_|refine aa fun C=>?_|refine ae ?_|refine ah ?_|refine ai ?_|(refine aj (by rfl) ?_ ?_<;>intro hC<;>(try cases hC)))
 all_goals first
  | (refine am ?_;refine bi rfl aM ⟨?_,rfl⟩;first|rfl|(rw [show emB s=true from hG];rfl)|(rw [show emB s=false from hG];rfl)|(rw [Bool.and_true])|(rw [Bool.and_false])|(simp [*];done))
theorem vv {s:ByteArray}(hs:s.size≤1048576){l:List E}(hl:l.length≤1048576):Ctr prog 230 [.ag [.v (.int .i64 8),.v (.int .i64 0),.v (.string s),.ro l.length 4 (acL l)]] [] (.c (.v (.bool (emB s&&((l.length:Int)==1))))) []:=by
 have cM:=dv (c1:=.v (.int .i64 8)) (c2:=.v (.int .i64 0)) (c3:=.v (.string s)) rfl rfl rfl (l:=l) 1
 have hq:ba [.v (.int .i64 8),.v (.int .i64 0),.v (.string s),.ro l.length 4 (acL l)]=true:=by simp [ba,clo,aG]
 all_goals
  refine av func230 rfl rfl ?_
  repeat' (first|(apply ay;first|refine bO ?_|(refine aV ?_ ?_<;>intro hG<;>(try cases hG))|refine ao ?_|refine ak ?_|refine be ?_|refine aL ?_|refine bd 1 (cM) ?_ (hl:=cV (by rfl) hq)|refine aq ?_|refine bE ?_|refine aH ?_|refine aE ?_|refine bN ?_|refine aU ?_)|refine al ?_|refine ab ?_|refine aa fun C=>?_|refine ae ?_|refine ah ?_|refine ai ?_|(refine aj (by rfl) ?_ ?_<;>intro hC<;>(try cases hC)))
 all_goals first
  | (refine am ?_;refine bi rfl aM ⟨?_,rfl⟩;first|rfl|(rw [show emB s=true from hG];rfl)|(rw [show emB s=false from hG];rfl)|(rw [Bool.and_true])|(rw [Bool.and_false])|(simp [*];done))
theorem vw {s:ByteArray}(hs:s.size≤1048576){l:List E}(hl:l.length≤1048576):Ctr prog 230 [.ag [.v (.int .i64 9),.v (.int .i64 0),.v (.string s),.ro l.length 4 (acL l)]] [] (.c (.v (.bool (bW s&&((l.length:Int)==1))))) []:=by
 have cn:=da hs
 generalize bW s=bn at cn ⊢
 have cM:=dv (c1:=.v (.int .i64 9)) (c2:=.v (.int .i64 0)) (c3:=.v (.string s)) rfl rfl rfl (l:=l) 1
 have hq:ba [.v (.int .i64 9),.v (.int .i64 0),.v (.string s),.ro l.length 4 (acL l)]=true:=by simp [ba,clo,aG]
 all_goals cases bn
 all_goals
  refine av func230 rfl rfl ?_
  repeat' (first|(apply ay;first|refine bO ?_|(refine aV ?_ ?_<;>intro hG<;>(try cases hG))|refine ao ?_|refine ak ?_|refine be ?_|refine aL ?_|refine aI cn ?_|refine bd 1 (cM) ?_ (hl:=cV (by rfl) hq)|refine aq ?_|refine aH ?_|refine aE ?_|refine bN ?_|refine aU ?_)|refine al ?_|refine ab ?_|refine aa fun C=>?_|refine ae ?_|refine ah ?_|refine ai ?_|(refine aj (by rfl) ?_ ?_<;>intro hC<;>(try cases hC)))
 all_goals first
  | (refine am ?_;refine bi rfl aM ⟨?_,rfl⟩;first|rfl|(rw [show emB s=true from hG];rfl)|(rw [show emB s=false from hG];rfl)|(rw [Bool.and_true])|(rw [Bool.and_false])|(simp [*];done))
theorem r7 {s:ByteArray}(hs:s.size≤1048576){l:List E}(hl:l.length≤1048576):Ctr prog 230 [.ag [.v (.int .i64 10),.v (.int .i64 0),.v (.string s),.ro l.length 4 (acL l)]] [] (.c (.v (.bool (((l.length:Int)==1)&&oL s)))) []:=by
 have cr:=lR hs
 generalize oL s=br at cr ⊢
 have cM:=dv (c1:=.v (.int .i64 10)) (c2:=.v (.int .i64 0)) (c3:=.v (.string s)) rfl rfl rfl (l:=l) 1
 generalize ((l.length:Int)==1)=bm at cM ⊢
 cases bm
 all_goals have hq:ba [.v (.int .i64 10),.v (.int .i64 0),.v (.string s),.ro l.length 4 (acL l)]=true:=by simp [ba,clo,aG]
 all_goals cases br
 all_goals
  refine av func230 rfl rfl ?_
  repeat' (first|(apply ay;first|refine bO ?_|(refine aV ?_ ?_<;>intro hG<;>(try cases hG))|refine ao ?_|refine ak ?_|refine be ?_|refine aL ?_|refine aI cr ?_|refine bd 1 (cM) ?_ (hl:=cV (by rfl) hq)|refine aq ?_|refine aH ?_|refine aE ?_|refine bN ?_|refine aU ?_)|refine al ?_|refine ab ?_|refine aa fun C=>?_|refine ae ?_|refine ah ?_|refine ai ?_|(refine aj (by rfl) ?_ ?_<;>intro hC<;>(try cases hC)))
 all_goals first
  | (refine am ?_;refine bi rfl aM ⟨?_,rfl⟩;first|rfl|(rw [show emB s=true from hG];rfl)|(rw [show emB s=false from hG];rfl)|(rw [Bool.and_true])|(rw [Bool.and_false])|(simp [*];done))
theorem r8 {s:ByteArray}(hs:s.size≤1048576){l:List E}(hl:l.length≤1048576):Ctr prog 230 [.ag [.v (.int .i64 11),.v (.int .i64 0),.v (.string s),.ro l.length 4 (acL l)]] [] (.c (.v (.bool (bW s&&decide ((l.length:Int)≤4))))) []:=by
 have cn:=da hs
 generalize bW s=bn at cn ⊢
 have hq:ba [.v (.int .i64 11),.v (.int .i64 0),.v (.string s),.ro l.length 4 (acL l)]=true:=by simp [ba,clo,aG]
 all_goals cases bn
 all_goals
  refine av func230 rfl rfl ?_
  repeat' (first|(apply ay;first|refine bO ?_|(refine aV ?_ ?_<;>intro hG<;>(try cases hG))|refine ak ?_|refine be ?_|refine aL ?_|refine aI cn ?_|refine aY ?_|refine aq ?_|refine aH ?_|refine bv ?_|refine aE ?_|refine bN ?_|refine aU ?_)|refine al ?_|refine ab ?_|refine aa fun C=>?_|refine ae ?_|refine ah ?_|refine ai ?_|(refine aj (by rfl) ?_ ?_<;>intro hC<;>(try cases hC)))
 all_goals first
  | (refine am ?_;refine bi rfl aM ⟨?_,rfl⟩;first|rfl|(rw [show emB s=true from hG];rfl)|(rw [show emB s=false from hG];rfl)|(rw [Bool.and_true])|(rw [Bool.and_false])|(simp [*];done))
theorem r9 {s:ByteArray}(hs:s.size≤1048576){l:List E}(hl:l.length≤1048576):Ctr prog 230 [.ag [.v (.int .i64 12),.v (.int .i64 0),.v (.string s),.ro l.length 4 (acL l)]] [] (.c (.v (.bool (emB s&&((l.length:Int)==1))))) []:=by
 have cM:=dv (c1:=.v (.int .i64 12)) (c2:=.v (.int .i64 0)) (c3:=.v (.string s)) rfl rfl rfl (l:=l) 1
 have hq:ba [.v (.int .i64 12),.v (.int .i64 0),.v (.string s),.ro l.length 4 (acL l)]=true:=by simp [ba,clo,aG]
 all_goals
  refine av func230 rfl rfl ?_
  repeat' (first|(apply ay;first|refine bO ?_|(refine aV ?_ ?_<;>intro hG<;>(try cases hG))|refine ao ?_|refine ak ?_|refine be ?_|refine aL ?_|refine bd 1 (cM) ?_ (hl:=cV (by rfl) hq)|refine aq ?_|refine bE ?_|refine aH ?_|refine aE ?_|refine bN ?_|refine aU ?_)|refine al ?_|refine ab ?_|refine aa fun C=>?_|refine ae ?_|refine ah ?_|refine ai ?_|(refine aj (by rfl) ?_ ?_<;>intro hC<;>(try cases hC)))
 all_goals first
  | (refine am ?_;refine bi rfl aM ⟨?_,rfl⟩;first|rfl|(rw [show emB s=true from hG];rfl)|(rw [show emB s=false from hG];rfl)|(rw [Bool.and_true])|(rw [Bool.and_false])|(simp [*];done))
theorem sa {s:ByteArray}(hs:s.size≤1048576){l:List E}(hl:l.length≤1048576):Ctr prog 230 [.ag [.v (.int .i64 13),.v (.int .i64 0),.v (.string s),.ro l.length 4 (acL l)]] [] (.c (.v (.bool (emB s&&((l.length:Int)==3))))) []:=by
 have cM:=dv (c1:=.v (.int .i64 13)) (c2:=.v (.int .i64 0)) (c3:=.v (.string s)) rfl rfl rfl (l:=l) 3
 have hq:ba [.v (.int .i64 13),.v (.int .i64 0),.v (.string s),.ro l.length 4 (acL l)]=true:=by simp [ba,clo,aG]
 all_goals
  refine av func230 rfl rfl ?_
  repeat' (first|(apply ay;first|refine bO ?_|(refine aV ?_ ?_<;>intro hG<;>(try cases hG))|refine ao ?_|refine ak ?_|refine be ?_|refine aL ?_|refine bd 1 (cM) ?_ (hl:=cV (by rfl) hq)|refine aq ?_|refine bE ?_|refine aH ?_|refine aE ?_|refine bN ?_|refine aU ?_)|refine al ?_|refine ab ?_|refine aa fun C=>?_|refine ae ?_|refine ah ?_|refine ai ?_|(refine aj (by rfl) ?_ ?_<;>intro hC<;>(try cases hC)))
 all_goals first
  | (refine am ?_;refine bi rfl aM ⟨?_,rfl⟩;first|rfl|(rw [show emB s=true from hG];rfl)|(rw [show emB s=false from hG];rfl)|(rw [Bool.and_true])|(rw [Bool.and_false])|(simp [*];done))
theorem sb {s:ByteArray}(hs:s.size≤1048576){l:List E}(hl:l.length≤1048576):Ctr prog 230 [.ag [.v (.int .i64 14),.v (.int .i64 0),.v (.string s),.ro l.length 4 (acL l)]] [] (.c (.v (.bool (emB s&&((l.length:Int)==0))))) []:=by
 have cM:=dv (c1:=.v (.int .i64 14)) (c2:=.v (.int .i64 0)) (c3:=.v (.string s)) rfl rfl rfl (l:=l) 0
 have hq:ba [.v (.int .i64 14),.v (.int .i64 0),.v (.string s),.ro l.length 4 (acL l)]=true:=by simp [ba,clo,aG]
 all_goals
  refine av func230 rfl rfl ?_
  repeat' (first|(apply ay;first|refine bO ?_|(refine aV ?_ ?_<;>intro hG<;>(try cases hG))|refine ao ?_|refine ak ?_|refine be ?_|refine aL ?_|refine bd 1 (cM) ?_ (hl:=cV (by rfl) hq)|refine aq ?_|refine bE ?_|refine aH ?_|refine aE ?_|refine bN ?_|refine aU ?_)|refine al ?_|refine ab ?_|refine aa fun C=>?_|refine ae ?_|refine ah ?_|refine ai ?_|(refine aj (by rfl) ?_ ?_<;>intro hC<;>(try cases hC)))
 all_goals first
  | (refine am ?_;refine bi rfl aM ⟨?_,rfl⟩;first|rfl|(rw [show emB s=true from hG];rfl)|(rw [show emB s=false from hG];rfl)|(rw [Bool.and_true])|(rw [Bool.and_false])|(simp [*];done))
theorem sd {s:ByteArray}(hs:s.size≤1048576){l:List E}(hl:l.length≤1048576):Ctr prog 230 [.ag [.v (.int .i64 15),.v (.int .i64 0),.v (.string s),.ro l.length 4 (acL l)]] [] (.c (.v (.bool (emB s&&((l.length:Int)==0))))) []:=by
 have cM:=dv (c1:=.v (.int .i64 15)) (c2:=.v (.int .i64 0)) (c3:=.v (.string s)) rfl rfl rfl (l:=l) 0
 have hq:ba [.v (.int .i64 15),.v (.int .i64 0),.v (.string s),.ro l.length 4 (acL l)]=true:=by simp [ba,clo,aG]
 all_goals
  refine av func230 rfl rfl ?_
  repeat' (first|(apply ay;first|refine bO ?_|(refine aV ?_ ?_<;>intro hG<;>(try cases hG))|refine ao ?_|refine ak ?_|refine be ?_|refine aL ?_|refine bd 1 (cM) ?_ (hl:=cV (by rfl) hq)|refine aq ?_|refine bE ?_|refine aH ?_|refine aE ?_|refine bN ?_|refine aU ?_)|refine al ?_|refine ab ?_|refine aa fun C=>?_|refine ae ?_|refine ah ?_|refine ai ?_|(refine aj (by rfl) ?_ ?_<;>intro hC<;>(try cases hC)))
 all_goals first
  | (refine am ?_;refine bi rfl aM ⟨?_,rfl⟩;first|rfl|(rw [show emB s=true from hG];rfl)|(rw [show emB s=false from hG];rfl)|(rw [Bool.and_true])|(rw [Bool.and_false])|(simp [*];done))
theorem se {s:ByteArray}(hs:s.size≤1048576){l:List E}(hl:l.length≤1048576):Ctr prog 230 [.ag [.v (.int .i64 16),.v (.int .i64 0),.v (.string s),.ro l.length 4 (acL l)]] [] (.c (.v (.bool (emB s&&((l.length:Int)==2))))) []:=by
 have cM:=dv (c1:=.v (.int .i64 16)) (c2:=.v (.int .i64 0)) (c3:=.v (.string s)) rfl rfl rfl (l:=l) 2
 have hq:ba [.v (.int .i64 16),.v (.int .i64 0),.v (.string s),.ro l.length 4 (acL l)]=true:=by simp [ba,clo,aG]
 all_goals
  refine av func230 rfl rfl ?_
  repeat' (first|(apply ay;first|refine bO ?_|(refine aV ?_ ?_<;>intro hG<;>(try cases hG))|refine ao ?_|refine ak ?_|refine be ?_|refine aL ?_|refine bd 1 (cM) ?_ (hl:=cV (by rfl) hq)|refine aq ?_|refine bE ?_|refine aH ?_|refine aE ?_|refine bN ?_|refine aU ?_)|refine al ?_|refine ab ?_|refine aa fun C=>?_|refine ae ?_|refine ah ?_|refine ai ?_|(refine aj (by rfl) ?_ ?_<;>intro hC<;>(try cases hC)))
 all_goals first
  | (refine am ?_;refine bi rfl aM ⟨?_,rfl⟩;first|rfl|(rw [show emB s=true from hG];rfl)|(rw [show emB s=false from hG];rfl)|(rw [Bool.and_true])|(rw [Bool.and_false])|(simp [*];done))
theorem sf {s:ByteArray}(hs:s.size≤1048576){l:List E}(hl:l.length≤1048576):Ctr prog 230 [.ag [.v (.int .i64 17),.v (.int .i64 0),.v (.string s),.ro l.length 4 (acL l)]] [] (.c (.v (.bool (emB s&&((l.length:Int)==1))))) []:=by
 have cM:=dv (c1:=.v (.int .i64 17)) (c2:=.v (.int .i64 0)) (c3:=.v (.string s)) rfl rfl rfl (l:=l) 1
 have hq:ba [.v (.int .i64 17),.v (.int .i64 0),.v (.string s),.ro l.length 4 (acL l)]=true:=by simp [ba,clo,aG]
 all_goals
  refine av func230 rfl rfl ?_
  repeat' (first|(apply ay;first|refine bO ?_|(refine aV ?_ ?_<;>intro hG<;>(try cases hG))|refine ao ?_|refine ak ?_|refine be ?_|refine aL ?_|refine bd 1 (cM) ?_ (hl:=cV (by rfl) hq)|refine aq ?_|refine bE ?_|refine aH ?_|refine aE ?_|refine bN ?_|refine aU ?_)|refine al ?_|refine ab ?_|refine aa fun C=>?_|refine ae ?_|refine ah ?_|refine ai ?_|(refine aj (by rfl) ?_ ?_<;>intro hC<;>(try cases hC)))
 all_goals first
  | (refine am ?_;refine bi rfl aM ⟨?_,rfl⟩;first|rfl|(rw [show emB s=true from hG];rfl)|(rw [show emB s=false from hG];rfl)|(rw [Bool.and_true])|(rw [Bool.and_false])|(simp [*];done))
theorem sg {s:ByteArray}(hs:s.size≤1048576){l:List E}(hl:l.length≤1048576):Ctr prog 230 [.ag [.v (.int .i64 18),.v (.int .i64 0),.v (.string s),.ro l.length 4 (acL l)]] [] (.c (.v (.bool (((l.length:Int)==2)&&oL s)))) []:=by
 have cr:=lR hs
 generalize oL s=br at cr ⊢
 have cM:=dv (c1:=.v (.int .i64 18)) (c2:=.v (.int .i64 0)) (c3:=.v (.string s)) rfl rfl rfl (l:=l) 2
 generalize ((l.length:Int)==2)=bm at cM ⊢
 cases bm
 all_goals have hq:ba [.v (.int .i64 18),.v (.int .i64 0),.v (.string s),.ro l.length 4 (acL l)]=true:=by simp [ba,clo,aG]
 all_goals cases br
 all_goals
  refine av func230 rfl rfl ?_
  repeat' (first|(apply ay;first|refine bO ?_|(refine aV ?_ ?_<;>intro hG<;>(try cases hG))|refine ao ?_|refine ak ?_|refine be ?_|refine aL ?_|refine aI cr ?_|refine bd 1 (cM) ?_ (hl:=cV (by rfl) hq)|refine aq ?_|refine aH ?_|refine aE ?_|refine bN ?_|refine aU ?_)|refine al ?_|refine ab ?_|refine aa fun C=>?_|refine ae ?_|refine ah ?_|refine ai ?_|(refine aj (by rfl) ?_ ?_<;>intro hC<;>(try cases hC)))
 all_goals first
  | (refine am ?_;refine bi rfl aM ⟨?_,rfl⟩;first|rfl|(rw [show emB s=true from hG];rfl)|(rw [show emB s=false from hG];rfl)|(rw [Bool.and_true])|(rw [Bool.and_false])|(simp [*];done))
theorem vx {s:ByteArray}(hs:s.size≤1048576){l:List E}(hl:l.length≤1048576)(n:Int):Ctr prog 230 [.ag [.v (.int .i64 1),.v (.int .i64 n),.v (.string s),.ro l.length 4 (acL l)]] [] (.c (.v (.bool (inR n 0 2147483647&&(emB s&&((l.length:Int)==0)))))) []:=by
 have cw:=fL n 0 2147483647
 generalize inR n 0 2147483647=bw at cw ⊢
 have hq:ba [.v (.int .i64 1),.v (.int .i64 n),.v (.string s),.ro l.length 4 (acL l)]=true:=by simp [ba,clo,aG]
 have cM:=dv (c1:=.v (.int .i64 1)) (c2:=.v (.int .i64 n)) (c3:=.v (.string s)) rfl rfl rfl (l:=l) 0
 cases bw
 all_goals
  refine av func230 rfl rfl ?_
  repeat' (first|(apply ay;first|refine bO ?_|(refine aV ?_ ?_<;>intro hG<;>(try cases hG))|refine ao ?_|refine ak ?_|refine be ?_|refine aL ?_|refine aI cw ?_|refine bd 1 (cM) ?_ (hl:=cV (by rfl) hq)|refine aq ?_|refine bE ?_|refine aH ?_|refine aE ?_|refine bN ?_|refine aU ?_)|refine al ?_|refine ab ?_|refine aa fun C=>?_|refine ae ?_|refine ah ?_|refine ai ?_|(refine aj (by rfl) ?_ ?_<;>intro hC<;>(try cases hC)))
 all_goals first
  | (refine am ?_;refine bi rfl aM ⟨?_,rfl⟩;first|rfl|(rw [show emB s=true from hG];rfl)|(rw [show emB s=false from hG];rfl)|(rw [Bool.and_true])|(rw [Bool.and_false])|(simp [*];done))
theorem vy {s:ByteArray}(hs:s.size≤1048576){l:List E}(hl:l.length≤1048576){k n:Int}(hk:¬k=1)(hn:¬n=0):Ctr prog 230 [.ag [.v (.int .i64 k),.v (.int .i64 n),.v (.string s),.ro l.length 4 (acL l)]] [] (.c (.v (.bool false))) []:=by
 refine av func230 rfl rfl ?_
 repeat' (first|(apply ay;first|refine bO ?_|(refine aV ?_ ?_<;>intro hG<;>(try cases hG))|refine ak ?_|refine be ?_|refine aL ?_|refine aH ?_|refine aE ?_|refine bN ?_|refine aU ?_)|refine al ?_|refine ab ?_|refine aa fun C=>?_|refine ae ?_)
 ·refine aj (by rfl) (fun hC=>?_) fun hC=>absurd (by simpa using hC) hn
  repeat' (first|(apply ay;refine ak ?_)|refine al ?_|refine ab ?_|refine aa fun C=>?_|refine ae ?_)
  exact d8
 ·exact absurd (by simpa using hG) hk
theorem vz {s:ByteArray}(hs:s.size≤1048576){l:List E}(hl:l.length≤1048576){k:Int}(h1:¬k=1)(h2:¬k=2)(h3:¬k=3)(h4:¬k=4)(h5:¬k=5)(h6:¬k=6)(h7:¬k=7)(h8:¬k=8)(h9:¬k=9)(h10:¬k=10)(h11:¬k=11)(h12:¬k=12)(h13:¬k=13)(h14:¬k=14)(h15:¬k=15)(h16:¬k=16)(h17:¬k=17)(h18:¬k=18):Ctr prog 230 [.ag [.v (.int .i64 k),.v (.int .i64 0),.v (.string s),.ro l.length 4 (acL l)]] [] (.c (.v (.bool false))) []:=by
 refine av func230 rfl rfl ?_
 repeat' (first|(apply ay;first|refine bO ?_|(refine aV ?_ ?_<;>intro hG<;>(try cases hG))|refine ak ?_|refine be ?_|refine aL ?_|refine aH ?_|refine aE ?_|refine bN ?_|refine aU ?_)|refine al ?_|refine ab ?_|refine aa fun C=>?_|refine ae ?_)
 rotate_left
 ·exact absurd (by simpa using hG) h1
 refine aF rfl ?_
 repeat' (first|(apply ay;first|refine ak ?_|refine be ?_|refine aL ?_|refine aq ?_)|refine al ?_|refine ab ?_|refine aa fun C=>?_|refine ae ?_|refine ah ?_|refine ai ?_)
 iterate 40 ((try (first|refine aj (by rfl) (fun hC=>absurd (eq_of_beq hC) (by assumption)) fun hC=>?_|refine aF rfl ?_));(try repeat' (first|(apply ay;first|refine ak ?_|refine aq ?_)|refine al ?_|refine ab ?_|refine aa fun C=>?_|refine ae ?_|refine ai ?_)))
 exact d8
theorem sh {k n:Int}{s:ByteArray}(hs:s.size≤1048576){l:List E}(hl:l.length≤1048576):Ctr prog 230 [.ag [.v (.int .i64 k),.v (.int .i64 n),.v (.string s),.ro l.length 4 (acL l)]] [] (.c (.v (.bool (fW k n s l.length)))) []:=by
 by_cases h1:k=1
 ·subst h1
  exact vx hs hl n
 by_cases hn:n=0
 ·subst hn
  by_cases h2:k=2
  ·subst h2
   exact vn hs hl
  by_cases h3:k=3
  ·subst h3
   exact vo hs hl
  by_cases h4:k=4
  ·subst h4
   exact vp hs hl
  by_cases h5:k=5
  ·subst h5
   exact vq hs hl
  by_cases h6:k=6
  ·subst h6
   exact vt hs hl
  by_cases h7:k=7
  ·subst h7
   exact vu hs hl
  by_cases h8:k=8
  ·subst h8
   exact vv hs hl
  by_cases h9:k=9
  ·subst h9
   exact vw hs hl
  by_cases h10:k=10
  ·subst h10
   exact r7 hs hl
  by_cases h11:k=11
  ·subst h11
   exact r8 hs hl
  by_cases h12:k=12
  ·subst h12
   exact r9 hs hl
  by_cases h13:k=13
  ·subst h13
   exact sa hs hl
  by_cases h14:k=14
  ·subst h14
   exact sb hs hl
  by_cases h15:k=15
  ·subst h15
   exact sd hs hl
  by_cases h16:k=16
  ·subst h16
   exact se hs hl
  by_cases h17:k=17
  ·subst h17
   exact sf hs hl
  by_cases h18:k=18
  ·subst h18
   exact sg hs hl
  rw [show fW k 0 s l.length=false by simp [fW, *]]
  exact vz hs hl h1 h2 h3 h4 h5 h6 h7 h8 h9 h10 h11 h12 h13 h14 h15 h16 h17 h18
 ·rw [show fW k n s l.length=false by simp [fW, *]]
  exact vy hs hl h1 hn
end Go.Proofs.YtmnneflenebgmaaGreat
