/- T -/
import Derived.Test.YtomolhbkdhjofaaGreatDoorParXAB
set_option maxHeartbeats 0
set_option maxRecDepth 100000
namespace Go.Proofs.YtomolhbkdhjofaaGreatDoor
open Go.RowKit Go.Proofs.Tryz
theorem zv4 {s:ByteArray}(hs:s.size≤1048576){l:List E}(hl:l.length≤1048576):Ctr prog 46 [.ag [.v (.int .i64 2),.v (.int .i64 0),.v (.string s),.ro l.length 4 (acL l)]] [] (.c (.v (.bool (dj 39 s&&((l.length:Int)==0))))) []:=by
 have ct:=lc hs (b:=39) omq
 generalize dj 39 s=bt at ct ⊢
 have hq:bl [.v (.int .i64 2),.v (.int .i64 0),.v (.string s),.ro l.length 4 (acL l)]=true:=by simp [bl,clo,aL]
 all_goals cases bt
 all_goals
  refine ay func46 rfl rfl ?_
  repeat' (first|(apply av;first|refine bC ?_|(refine aK ?_ ?_<;>intro hG<;>(try cases hG))|refine ak ?_|refine ai ?_|refine ba ?_|refine aI ?_|refine aG ct ?_|refine bN ?_|refine ao ?_|refine aQ ?_|refine aA ?_|refine cB ?_)|refine aj ?_|refine ab ?_|refine aa fun C=>?_|refine ac ?_|refine ah ?_|refine al ?_|(refine ae (by rfl) ?_ ?_<;>intro hC<;>(try cases hC)))
 all_goals first
  | (refine am ?_;refine bv rfl aJ ⟨?_,rfl⟩;first|rfl|(rw [show emB s=true from hG];rfl)|(rw [show emB s=false from hG];rfl)|(rw [Bool.and_true])|(rw [Bool.and_false])|(simp [*];done))
theorem zw4 {s:ByteArray}(hs:s.size≤1048576){l:List E}(hl:l.length≤1048576):Ctr prog 46 [.ag [.v (.int .i64 3),.v (.int .i64 0),.v (.string s),.ro l.length 4 (acL l)]] [] (.c (.v (.bool (dT s&&((l.length:Int)==0))))) []:=by
 have cn:=eQ hs
 generalize dT s=bn at cn ⊢
 have hq:bl [.v (.int .i64 3),.v (.int .i64 0),.v (.string s),.ro l.length 4 (acL l)]=true:=by simp [bl,clo,aL]
 all_goals cases bn
 all_goals
  refine ay func46 rfl rfl ?_
  repeat' (first|(apply av;first|refine bC ?_|(refine aK ?_ ?_<;>intro hG<;>(try cases hG))|refine ak ?_|refine ai ?_|refine ba ?_|refine aI ?_|refine aG cn ?_|refine bN ?_|refine ao ?_|refine aQ ?_|refine aA ?_|refine cB ?_)|refine aj ?_|refine ab ?_|refine aa fun C=>?_|refine ac ?_|refine ah ?_|refine al ?_|(refine ae (by rfl) ?_ ?_<;>intro hC<;>(try cases hC)))
 all_goals first
  | (refine am ?_;refine bv rfl aJ ⟨?_,rfl⟩;first|rfl|(rw [show emB s=true from hG];rfl)|(rw [show emB s=false from hG];rfl)|(rw [Bool.and_true])|(rw [Bool.and_false])|(simp [*];done))
theorem zx4 {s:ByteArray}(hs:s.size≤1048576){l:List E}(hl:l.length≤1048576):Ctr prog 46 [.ag [.v (.int .i64 4),.v (.int .i64 0),.v (.string s),.ro l.length 4 (acL l)]] [] (.c (.v (.bool (dT s&&((l.length:Int)==1))))) []:=by
 have cn:=eQ hs
 generalize dT s=bn at cn ⊢
 have hq:bl [.v (.int .i64 4),.v (.int .i64 0),.v (.string s),.ro l.length 4 (acL l)]=true:=by simp [bl,clo,aL]
 all_goals cases bn
 all_goals
  refine ay func46 rfl rfl ?_
  repeat' (first|(apply av;first|refine bC ?_|(refine aK ?_ ?_<;>intro hG<;>(try cases hG))|refine ak ?_|refine ai ?_|refine ba ?_|refine aI ?_|refine aG cn ?_|refine bN ?_|refine ao ?_|refine aQ ?_|refine aA ?_|refine cB ?_)|refine aj ?_|refine ab ?_|refine aa fun C=>?_|refine ac ?_|refine ah ?_|refine al ?_|(refine ae (by rfl) ?_ ?_<;>intro hC<;>(try cases hC)))
 all_goals first
  | (refine am ?_;refine bv rfl aJ ⟨?_,rfl⟩;first|rfl|(rw [show emB s=true from hG];rfl)|(rw [show emB s=false from hG];rfl)|(rw [Bool.and_true])|(rw [Bool.and_false])|(simp [*];done))
theorem zy4 {s:ByteArray}(hs:s.size≤1048576){l:List E}(hl:l.length≤1048576):Ctr prog 46 [.ag [.v (.int .i64 5),.v (.int .i64 0),.v (.string s),.ro l.length 4 (acL l)]] [] (.c (.v (.bool (emB s&&((l.length:Int)==1))))) []:=by
 have hq:bl [.v (.int .i64 5),.v (.int .i64 0),.v (.string s),.ro l.length 4 (acL l)]=true:=by simp [bl,clo,aL]
 all_goals
  refine ay func46 rfl rfl ?_
  repeat' (first|(apply av;first|refine bC ?_|(refine aK ?_ ?_<;>intro hG<;>(try cases hG))|refine ak ?_|refine ai ?_|refine ba ?_|refine aI ?_|refine bN ?_|refine ao ?_|refine aC ?_|refine aQ ?_|refine aA ?_|refine cB ?_)|refine aj ?_|refine ab ?_|refine aa fun C=>?_|refine ac ?_|refine ah ?_|refine al ?_|(refine ae (by rfl) ?_ ?_<;>intro hC<;>(try cases hC)))
 all_goals first
  | (refine am ?_;refine bv rfl aJ ⟨?_,rfl⟩;first|rfl|(rw [show emB s=true from hG];rfl)|(rw [show emB s=false from hG];rfl)|(rw [Bool.and_true])|(rw [Bool.and_false])|(simp [*];done))
theorem zz4 {s:ByteArray}(hs:s.size≤1048576){l:List E}(hl:l.length≤1048576):Ctr prog 46 [.ag [.v (.int .i64 6),.v (.int .i64 0),.v (.string s),.ro l.length 4 (acL l)]] [] (.c (.v (.bool (lL mV s&&((l.length:Int)==2))))) []:=by
 have co:=wT wS (by decide) s
 generalize lL mV s=bo at co ⊢
 have c0:=zu4
 have hq:bl [.v (.int .i64 6),.v (.int .i64 0),.v (.string s),.ro l.length 4 (acL l)]=true:=by simp [bl,clo,aL]
 all_goals cases bo
 all_goals
  refine ay func46 rfl rfl ?_
  repeat' (first|(apply av;first|(refine aK ?_ ?_<;>intro hG<;>(try cases hG))|refine ai ?_|refine ba ?_|refine aI ?_|refine bN ?_|refine ao ?_|refine aQ ?_|refine aA ?_|refine cB ?_)|refine aj ?_|refine ab ?_|(apply dc;first|refine fE ?_|(refine fB ?_ ?_<;>intro hG<;>(try cases hG))|(apply dx;refine aH ?_)|(apply ki;refine aH ?_)|refine d5 ?_|refine cg ?_|refine eG co ?_|refine eG c0 ?_|(apply fD;refine aH ?_)|refine aH ?_)|refine aj ?_|refine ab ?_|refine aa fun C=>?_|refine au (by kernel_rfl) (by kernel_rfl) fun C=>?_|refine ac ?_|refine ah ?_|refine al ?_|(refine ae (by rfl) ?_ ?_<;>intro hC<;>(try cases hC)))
 all_goals first
  | (refine am ?_;refine bv rfl aJ ⟨?_,rfl⟩;first|rfl|(rw [show emB s=true from hG];rfl)|(rw [show emB s=false from hG];rfl)|(rw [Bool.and_true])|(rw [Bool.and_false])|(simp [*];done))
theorem za5 {s:ByteArray}(hs:s.size≤1048576){l:List E}(hl:l.length≤1048576):Ctr prog 46 [.ag [.v (.int .i64 7),.v (.int .i64 0),.v (.string s),.ro l.length 4 (acL l)]] [] (.c (.v (.bool (emB s&&((l.length:Int)==1))))) []:=by
 have hq:bl [.v (.int .i64 7),.v (.int .i64 0),.v (.string s),.ro l.length 4 (acL l)]=true:=by simp [bl,clo,aL]
 all_goals
  refine ay func46 rfl rfl ?_
  repeat' (first|(apply av;first|refine bC ?_|(refine aK ?_ ?_<;>intro hG<;>(try cases hG))|refine ak ?_|refine ai ?_|refine ba ?_|refine aI ?_|refine bN ?_|refine ao ?_|refine aC ?_|refine aQ ?_|refine aA ?_|refine cB ?_)|refine aj ?_|refine ab ?_|refine aa fun C=>?_|refine ac ?_|refine ah ?_|refine al ?_|(refine ae (by rfl) ?_ ?_<;>intro hC<;>(try cases hC)))
 all_goals first
  | (refine am ?_;refine bv rfl aJ ⟨?_,rfl⟩;first|rfl|(rw [show emB s=true from hG];rfl)|(rw [show emB s=false from hG];rfl)|(rw [Bool.and_true])|(rw [Bool.and_false])|(simp [*];done))
theorem zb5 {s:ByteArray}(hs:s.size≤1048576){l:List E}(hl:l.length≤1048576):Ctr prog 46 [.ag [.v (.int .i64 8),.v (.int .i64 0),.v (.string s),.ro l.length 4 (acL l)]] [] (.c (.v (.bool (emB s&&((l.length:Int)==1))))) []:=by
 have hq:bl [.v (.int .i64 8),.v (.int .i64 0),.v (.string s),.ro l.length 4 (acL l)]=true:=by simp [bl,clo,aL]
 all_goals
  refine ay func46 rfl rfl ?_
  repeat' (first|(apply av;first|refine bC ?_|(refine aK ?_ ?_<;>intro hG<;>(try cases hG))|refine ak ?_|refine ai ?_|refine ba ?_|refine aI ?_|refine bN ?_|refine ao ?_|refine aC ?_|refine aQ ?_|refine aA ?_|refine cB ?_)|refine aj ?_|refine ab ?_|refine aa fun C=>?_|refine ac ?_|refine ah ?_|refine al ?_|(refine ae (by rfl) ?_ ?_<;>intro hC<;>(try cases hC)))
 all_goals first
  | (refine am ?_;refine bv rfl aJ ⟨?_,rfl⟩;first|rfl|(rw [show emB s=true from hG];rfl)|(rw [show emB s=false from hG];rfl)|(rw [Bool.and_true])|(rw [Bool.and_false])|(simp [*];done))
theorem zc5 {s:ByteArray}(hs:s.size≤1048576){l:List E}(hl:l.length≤1048576):Ctr prog 46 [.ag [.v (.int .i64 9),.v (.int .i64 0),.v (.string s),.ro l.length 4 (acL l)]] [] (.c (.v (.bool (dT s&&((l.length:Int)==1))))) []:=by
 have cn:=eQ hs
 generalize dT s=bn at cn ⊢
 have hq:bl [.v (.int .i64 9),.v (.int .i64 0),.v (.string s),.ro l.length 4 (acL l)]=true:=by simp [bl,clo,aL]
 all_goals cases bn
 all_goals
  refine ay func46 rfl rfl ?_
  repeat' (first|(apply av;first|refine bC ?_|(refine aK ?_ ?_<;>intro hG<;>(try cases hG))|refine ak ?_|refine ai ?_|refine ba ?_|refine aI ?_|refine aG cn ?_|refine bN ?_|refine ao ?_|refine aQ ?_|refine aA ?_|refine cB ?_)|refine aj ?_|refine ab ?_|refine aa fun C=>?_|refine ac ?_|refine ah ?_|refine al ?_|(refine ae (by rfl) ?_ ?_<;>intro hC<;>(try cases hC)))
 all_goals first
  | (refine am ?_;refine bv rfl aJ ⟨?_,rfl⟩;first|rfl|(rw [show emB s=true from hG];rfl)|(rw [show emB s=false from hG];rfl)|(rw [Bool.and_true])|(rw [Bool.and_false])|(simp [*];done))
theorem zD {s:ByteArray}(hs:s.size≤1048576){l:List E}(hl:l.length≤1048576):Ctr prog 46 [.ag [.v (.int .i64 10),.v (.int .i64 0),.v (.string s),.ro l.length 4 (acL l)]] [] (.c (.v (.bool (((l.length:Int)==1)&&pR s)))) []:=by
 have cr:=wP hs
 generalize pR s=br at cr ⊢
 have hq:bl [.v (.int .i64 10),.v (.int .i64 0),.v (.string s),.ro l.length 4 (acL l)]=true:=by simp [bl,clo,aL]
 all_goals cases br
 all_goals
  refine ay func46 rfl rfl ?_
  repeat' (first|(apply av;first|refine bC ?_|(refine aK ?_ ?_<;>intro hG<;>(try cases hG))|refine ak ?_|refine ai ?_|refine ba ?_|refine aI ?_|refine aG cr ?_|refine bN ?_|refine ao ?_|refine aQ ?_|refine aA ?_|refine cB ?_)|refine aj ?_|refine ab ?_|refine aa fun C=>?_|refine ac ?_|refine ah ?_|refine al ?_|(refine ae (by rfl) ?_ ?_<;>intro hC<;>(try cases hC)))
 all_goals first
  | (refine am ?_;refine bv rfl aJ ⟨?_,rfl⟩;first|rfl|(rw [show emB s=true from hG];rfl)|(rw [show emB s=false from hG];rfl)|(rw [Bool.and_true])|(rw [Bool.and_false])|(simp [*];done))
theorem zF {s:ByteArray}(hs:s.size≤1048576){l:List E}(hl:l.length≤1048576):Ctr prog 46 [.ag [.v (.int .i64 11),.v (.int .i64 0),.v (.string s),.ro l.length 4 (acL l)]] [] (.c (.v (.bool (dT s&&decide ((l.length:Int)≤4))))) []:=by
 have cn:=eQ hs
 generalize dT s=bn at cn ⊢
 have hq:bl [.v (.int .i64 11),.v (.int .i64 0),.v (.string s),.ro l.length 4 (acL l)]=true:=by simp [bl,clo,aL]
 all_goals cases bn
 all_goals
  refine ay func46 rfl rfl ?_
  repeat' (first|(apply av;first|refine bC ?_|(refine aK ?_ ?_<;>intro hG<;>(try cases hG))|refine ak ?_|refine ai ?_|refine ba ?_|refine aI ?_|refine aG cn ?_|refine bN ?_|refine ao ?_|refine aQ ?_|refine cJ ?_|refine aA ?_|refine cB ?_)|refine aj ?_|refine ab ?_|refine aa fun C=>?_|refine ac ?_|refine ah ?_|refine al ?_|(refine ae (by rfl) ?_ ?_<;>intro hC<;>(try cases hC)))
 all_goals first
  | (refine am ?_;refine bv rfl aJ ⟨?_,rfl⟩;first|rfl|(rw [show emB s=true from hG];rfl)|(rw [show emB s=false from hG];rfl)|(rw [Bool.and_true])|(rw [Bool.and_false])|(simp [*];done))
theorem zG {s:ByteArray}(hs:s.size≤1048576){l:List E}(hl:l.length≤1048576):Ctr prog 46 [.ag [.v (.int .i64 12),.v (.int .i64 0),.v (.string s),.ro l.length 4 (acL l)]] [] (.c (.v (.bool (emB s&&((l.length:Int)==1))))) []:=by
 have hq:bl [.v (.int .i64 12),.v (.int .i64 0),.v (.string s),.ro l.length 4 (acL l)]=true:=by simp [bl,clo,aL]
 all_goals
  refine ay func46 rfl rfl ?_
  repeat' (first|(apply av;first|refine bC ?_|(refine aK ?_ ?_<;>intro hG<;>(try cases hG))|refine ak ?_|refine ai ?_|refine ba ?_|refine aI ?_|refine bN ?_|refine ao ?_|refine aC ?_|refine aQ ?_|refine aA ?_|refine cB ?_)|refine aj ?_|refine ab ?_|refine aa fun C=>?_|refine ac ?_|refine ah ?_|refine al ?_|(refine ae (by rfl) ?_ ?_<;>intro hC<;>(try cases hC)))
 all_goals first
  | (refine am ?_;refine bv rfl aJ ⟨?_,rfl⟩;first|rfl|(rw [show emB s=true from hG];rfl)|(rw [show emB s=false from hG];rfl)|(rw [Bool.and_true])|(rw [Bool.and_false])|(simp [*];done))
theorem zH {s:ByteArray}(hs:s.size≤1048576){l:List E}(hl:l.length≤1048576):Ctr prog 46 [.ag [.v (.int .i64 13),.v (.int .i64 0),.v (.string s),.ro l.length 4 (acL l)]] [] (.c (.v (.bool (emB s&&((l.length:Int)==3))))) []:=by
 have hq:bl [.v (.int .i64 13),.v (.int .i64 0),.v (.string s),.ro l.length 4 (acL l)]=true:=by simp [bl,clo,aL]
 all_goals
  refine ay func46 rfl rfl ?_
  repeat' (first|(apply av;first|refine bC ?_|(refine aK ?_ ?_<;>intro hG<;>(try cases hG))|refine ak ?_|refine ai ?_|refine ba ?_|refine aI ?_|refine bN ?_|refine ao ?_|refine aC ?_|refine aQ ?_|refine aA ?_|refine cB ?_)|refine aj ?_|refine ab ?_|refine aa fun C=>?_|refine ac ?_|refine ah ?_|refine al ?_|(refine ae (by rfl) ?_ ?_<;>intro hC<;>(try cases hC)))
 all_goals first
  | (refine am ?_;refine bv rfl aJ ⟨?_,rfl⟩;first|rfl|(rw [show emB s=true from hG];rfl)|(rw [show emB s=false from hG];rfl)|(rw [Bool.and_true])|(rw [Bool.and_false])|(simp [*];done))
theorem zI {s:ByteArray}(hs:s.size≤1048576){l:List E}(hl:l.length≤1048576):Ctr prog 46 [.ag [.v (.int .i64 14),.v (.int .i64 0),.v (.string s),.ro l.length 4 (acL l)]] [] (.c (.v (.bool (emB s&&((l.length:Int)==0))))) []:=by
 have hq:bl [.v (.int .i64 14),.v (.int .i64 0),.v (.string s),.ro l.length 4 (acL l)]=true:=by simp [bl,clo,aL]
 all_goals
  refine ay func46 rfl rfl ?_
  repeat' (first|(apply av;first|refine bC ?_|(refine aK ?_ ?_<;>intro hG<;>(try cases hG))|refine ak ?_|refine ai ?_|refine ba ?_|refine aI ?_|refine bN ?_|refine ao ?_|refine aC ?_|refine aQ ?_|refine aA ?_|refine cB ?_)|refine aj ?_|refine ab ?_|refine aa fun C=>?_|refine ac ?_|refine ah ?_|refine al ?_|(refine ae (by rfl) ?_ ?_<;>intro hC<;>(try cases hC)))
 all_goals first
  | (refine am ?_;refine bv rfl aJ ⟨?_,rfl⟩;first|rfl|(rw [show emB s=true from hG];rfl)|(rw [show emB s=false from hG];rfl)|(rw [Bool.and_true])|(rw [Bool.and_false])|(simp [*];done))
theorem zJ {s:ByteArray}(hs:s.size≤1048576){l:List E}(hl:l.length≤1048576):Ctr prog 46 [.ag [.v (.int .i64 15),.v (.int .i64 0),.v (.string s),.ro l.length 4 (acL l)]] [] (.c (.v (.bool (emB s&&((l.length:Int)==0))))) []:=by
 have hq:bl [.v (.int .i64 15),.v (.int .i64 0),.v (.string s),.ro l.length 4 (acL l)]=true:=by simp [bl,clo,aL]
 all_goals
  refine ay func46 rfl rfl ?_
  repeat' (first|(apply av;first|refine bC ?_|(refine aK ?_ ?_<;>intro hG<;>(try cases hG))|refine ak ?_|refine ai ?_|refine ba ?_|refine aI ?_|refine bN ?_|refine ao ?_|refine aC ?_|refine aQ ?_|refine aA ?_|refine cB ?_)|refine aj ?_|refine ab ?_|refine aa fun C=>?_|refine ac ?_|refine ah ?_|refine al ?_|(refine ae (by rfl) ?_ ?_<;>intro hC<;>(try cases hC)))
 all_goals first
  | (refine am ?_;refine bv rfl aJ ⟨?_,rfl⟩;first|rfl|(rw [show emB s=true from hG];rfl)|(rw [show emB s=false from hG];rfl)|(rw [Bool.and_true])|(rw [Bool.and_false])|(simp [*];done))
theorem zK {s:ByteArray}(hs:s.size≤1048576){l:List E}(hl:l.length≤1048576):Ctr prog 46 [.ag [.v (.int .i64 16),.v (.int .i64 0),.v (.string s),.ro l.length 4 (acL l)]] [] (.c (.v (.bool (emB s&&((l.length:Int)==2))))) []:=by
 have hq:bl [.v (.int .i64 16),.v (.int .i64 0),.v (.string s),.ro l.length 4 (acL l)]=true:=by simp [bl,clo,aL]
 all_goals
  refine ay func46 rfl rfl ?_
  repeat' (first|(apply av;first|refine bC ?_|(refine aK ?_ ?_<;>intro hG<;>(try cases hG))|refine ak ?_|refine ai ?_|refine ba ?_|refine aI ?_|refine bN ?_|refine ao ?_|refine aC ?_|refine aQ ?_|refine aA ?_|refine cB ?_)|refine aj ?_|refine ab ?_|refine aa fun C=>?_|refine ac ?_|refine ah ?_|refine al ?_|(refine ae (by rfl) ?_ ?_<;>intro hC<;>(try cases hC)))
 all_goals first
  | (refine am ?_;refine bv rfl aJ ⟨?_,rfl⟩;first|rfl|(rw [show emB s=true from hG];rfl)|(rw [show emB s=false from hG];rfl)|(rw [Bool.and_true])|(rw [Bool.and_false])|(simp [*];done))
theorem zL {s:ByteArray}(hs:s.size≤1048576){l:List E}(hl:l.length≤1048576):Ctr prog 46 [.ag [.v (.int .i64 17),.v (.int .i64 0),.v (.string s),.ro l.length 4 (acL l)]] [] (.c (.v (.bool (emB s&&((l.length:Int)==1))))) []:=by
 have hq:bl [.v (.int .i64 17),.v (.int .i64 0),.v (.string s),.ro l.length 4 (acL l)]=true:=by simp [bl,clo,aL]
 all_goals
  refine ay func46 rfl rfl ?_
  repeat' (first|(apply av;first|refine bC ?_|(refine aK ?_ ?_<;>intro hG<;>(try cases hG))|refine ak ?_|refine ai ?_|refine ba ?_|refine aI ?_|refine bN ?_|refine ao ?_|refine aC ?_|refine aQ ?_|refine aA ?_|refine cB ?_)|refine aj ?_|refine ab ?_|refine aa fun C=>?_|refine ac ?_|refine ah ?_|refine al ?_|(refine ae (by rfl) ?_ ?_<;>intro hC<;>(try cases hC)))
 all_goals first
  | (refine am ?_;refine bv rfl aJ ⟨?_,rfl⟩;first|rfl|(rw [show emB s=true from hG];rfl)|(rw [show emB s=false from hG];rfl)|(rw [Bool.and_true])|(rw [Bool.and_false])|(simp [*];done))
theorem zM {s:ByteArray}(hs:s.size≤1048576){l:List E}(hl:l.length≤1048576):Ctr prog 46 [.ag [.v (.int .i64 18),.v (.int .i64 0),.v (.string s),.ro l.length 4 (acL l)]] [] (.c (.v (.bool (((l.length:Int)==2)&&pR s)))) []:=by
 have cr:=wP hs
 generalize pR s=br at cr ⊢
 have hq:bl [.v (.int .i64 18),.v (.int .i64 0),.v (.string s),.ro l.length 4 (acL l)]=true:=by simp [bl,clo,aL]
 all_goals cases br
 all_goals
  refine ay func46 rfl rfl ?_
  repeat' (first|(apply av;first|refine bC ?_|(refine aK ?_ ?_<;>intro hG<;>(try cases hG))|refine ak ?_|refine ai ?_|refine ba ?_|refine aI ?_|refine aG cr ?_|refine bN ?_|refine ao ?_|refine aQ ?_|refine aA ?_|refine cB ?_)|refine aj ?_|refine ab ?_|refine aa fun C=>?_|refine ac ?_|refine ah ?_|refine al ?_|(refine ae (by rfl) ?_ ?_<;>intro hC<;>(try cases hC)))
 all_goals first
  | (refine am ?_;refine bv rfl aJ ⟨?_,rfl⟩;first|rfl|(rw [show emB s=true from hG];rfl)|(rw [show emB s=false from hG];rfl)|(rw [Bool.and_true])|(rw [Bool.and_false])|(simp [*];done))
theorem zd5 {s:ByteArray}(hs:s.size≤1048576){l:List E}(hl:l.length≤1048576)(n:Int):Ctr prog 46 [.ag [.v (.int .i64 1),.v (.int .i64 n),.v (.string s),.ro l.length 4 (acL l)]] [] (.c (.v (.bool (inR n 0 2147483647&&(emB s&&((l.length:Int)==0)))))) []:=by
 have cw:=iy n 0 2147483647
 generalize inR n 0 2147483647=bw at cw ⊢
 have hq:bl [.v (.int .i64 1),.v (.int .i64 n),.v (.string s),.ro l.length 4 (acL l)]=true:=by simp [bl,clo,aL]
 cases bw
 all_goals
  refine ay func46 rfl rfl ?_
  repeat' (first|(apply av;first|refine bC ?_|(refine aK ?_ ?_<;>intro hG<;>(try cases hG))|refine ak ?_|refine ai ?_|refine ba ?_|refine aI ?_|refine aG cw ?_|refine bN ?_|refine ao ?_|refine aC ?_|refine aQ ?_|refine aA ?_|refine cB ?_)|refine aj ?_|refine ab ?_|refine aa fun C=>?_|refine ac ?_|refine ah ?_|refine al ?_|(refine ae (by rfl) ?_ ?_<;>intro hC<;>(try cases hC)))
 all_goals first
  | (refine am ?_;refine bv rfl aJ ⟨?_,rfl⟩;first|rfl|(rw [show emB s=true from hG];rfl)|(rw [show emB s=false from hG];rfl)|(rw [Bool.and_true])|(rw [Bool.and_false])|(simp [*];done))
theorem ze5 {s:ByteArray}(hs:s.size≤1048576){l:List E}(hl:l.length≤1048576){k n:Int}(hk:¬k=1)(hn:¬n=0):Ctr prog 46 [.ag [.v (.int .i64 k),.v (.int .i64 n),.v (.string s),.ro l.length 4 (acL l)]] [] (.c (.v (.bool false))) []:=by
 refine ay func46 rfl rfl ?_
 repeat' (first|(apply av;first|refine bC ?_|(refine aK ?_ ?_<;>intro hG<;>(try cases hG))|refine ai ?_|refine ba ?_|refine aI ?_|refine bN ?_|refine aQ ?_|refine aA ?_|refine cB ?_)|refine aj ?_|refine ab ?_|refine aa fun C=>?_|refine ac ?_)
 ·refine ae (by rfl) (fun hC=>?_) fun hC=>absurd (by simpa using hC) hn
  repeat' (first|(apply av;refine ai ?_)|refine aj ?_|refine ab ?_|refine aa fun C=>?_|refine ac ?_)
  exact eo
 ·exact absurd (by simpa using hG) hk
theorem zf5 {s:ByteArray}(hs:s.size≤1048576){l:List E}(hl:l.length≤1048576){k:Int}(h1:¬k=1)(h2:¬k=2)(h3:¬k=3)(h4:¬k=4)(h5:¬k=5)(h6:¬k=6)(h7:¬k=7)(h8:¬k=8)(h9:¬k=9)(h10:¬k=10)(h11:¬k=11)(h12:¬k=12)(h13:¬k=13)(h14:¬k=14)(h15:¬k=15)(h16:¬k=16)(h17:¬k=17)(h18:¬k=18):Ctr prog 46 [.ag [.v (.int .i64 k),.v (.int .i64 0),.v (.string s),.ro l.length 4 (acL l)]] [] (.c (.v (.bool false))) []:=by
 refine ay func46 rfl rfl ?_
 repeat' (first|(apply av;first|refine bC ?_|(refine aK ?_ ?_<;>intro hG<;>(try cases hG))|refine ai ?_|refine ba ?_|refine aI ?_|refine bN ?_|refine aQ ?_|refine aA ?_|refine cB ?_)|refine aj ?_|refine ab ?_|refine aa fun C=>?_|refine ac ?_)
 rotate_left
 ·exact absurd (by simpa using hG) h1
 refine ar rfl ?_
 repeat' (first|(apply av;first|refine ai ?_|refine ba ?_|refine aI ?_|refine ao ?_)|refine aj ?_|refine ab ?_|refine aa fun C=>?_|refine ac ?_|refine ah ?_|refine al ?_)
 iterate 40 ((try (first|refine ae (by rfl) (fun hC=>absurd (eq_of_beq hC) (by assumption)) fun hC=>?_|refine ar rfl ?_));(try repeat' (first|(apply av;first|refine ai ?_|refine ao ?_)|refine aj ?_|refine ab ?_|refine aa fun C=>?_|refine ac ?_|refine al ?_)))
 exact eo
theorem zN {k n:Int}{s:ByteArray}(hs:s.size≤1048576){l:List E}(hl:l.length≤1048576):Ctr prog 46 [.ag [.v (.int .i64 k),.v (.int .i64 n),.v (.string s),.ro l.length 4 (acL l)]] [] (.c (.v (.bool (eP k n s l.length)))) []:=by
 by_cases h1:k=1
 ·subst h1
  exact zd5 hs hl n
 by_cases hn:n=0
 ·subst hn
  by_cases h2:k=2
  ·subst h2
   exact zv4 hs hl
  by_cases h3:k=3
  ·subst h3
   exact zw4 hs hl
  by_cases h4:k=4
  ·subst h4
   exact zx4 hs hl
  by_cases h5:k=5
  ·subst h5
   exact zy4 hs hl
  by_cases h6:k=6
  ·subst h6
   exact zz4 hs hl
  by_cases h7:k=7
  ·subst h7
   exact za5 hs hl
  by_cases h8:k=8
  ·subst h8
   exact zb5 hs hl
  by_cases h9:k=9
  ·subst h9
   exact zc5 hs hl
  by_cases h10:k=10
  ·subst h10
   exact zD hs hl
  by_cases h11:k=11
  ·subst h11
   exact zF hs hl
  by_cases h12:k=12
  ·subst h12
   exact zG hs hl
  by_cases h13:k=13
  ·subst h13
   exact zH hs hl
  by_cases h14:k=14
  ·subst h14
   exact zI hs hl
  by_cases h15:k=15
  ·subst h15
   exact zJ hs hl
  by_cases h16:k=16
  ·subst h16
   exact zK hs hl
  by_cases h17:k=17
  ·subst h17
   exact zL hs hl
  by_cases h18:k=18
  ·subst h18
   exact zM hs hl
  rw [show eP k 0 s l.length=false by simp [eP, *]]
  exact zf5 hs hl h1 h2 h3 h4 h5 h6 h7 h8 h9 h10 h11 h12 h13 h14 h15 h16 h17 h18
 ·rw [show eP k n s l.length=false by simp [eP, *]]
  exact ze5 hs hl h1 hn
end Go.Proofs.YtomolhbkdhjofaaGreatDoor
