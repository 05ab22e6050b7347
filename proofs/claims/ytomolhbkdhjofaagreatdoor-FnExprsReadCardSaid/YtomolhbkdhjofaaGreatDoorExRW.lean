/- T -/
import Derived.Test.YtomolhbkdhjofaaGreatDoorExRV
set_option maxHeartbeats 0
set_option maxRecDepth 100000
namespace Go.Proofs.YtomolhbkdhjofaaGreatDoor
open Go.RowKit Go.Proofs.Tryz
theorem zq5 {s:ByteArray}(hs:s.size≤1048576){l:List E}(hl:l.length≤1048576):Ctr prog 46 [.ag [.v (.int .i64 2),.v (.int .i64 0),.v (.string s),.ro l.length 4 (acL l)]] [] (.c (.v (.bool (dE 39 s&&((l.length:Int)==0))))) []:=by
 have ct:=lW hs (b:=39) omq
 generalize dE 39 s=bt at ct ⊢
 have hq:bu [.v (.int .i64 2),.v (.int .i64 0),.v (.string s),.ro l.length 4 (acL l)]=true:=by simp [bu,clo,aM]
 all_goals cases bt
 all_goals
  refine az func46 rfl rfl ?_
  repeat' (first|(apply ay;first|refine bH ?_|(refine aK ?_ ?_<;>intro hG<;>(try cases hG))|refine ak ?_|refine ai ?_|refine bf ?_|refine aI ?_|refine aH ct ?_|refine bC ?_|refine ao ?_|refine aN ?_|refine aB ?_|refine cE ?_)|refine aj ?_|refine ab ?_|refine aa fun C=>?_|refine ac ?_|refine ah ?_|refine al ?_|(refine ae rqf ?_ ?_<;>intro hC<;>(try cases hC)))
 all_goals first
  | (refine am ?_;refine bA rfl aJ ⟨?_,rfl⟩;first|rfl|(rw [show emB s=true from hG];rfl)|(rw [show emB s=false from hG];rfl)|(rw [Bool.and_true])|(rw [Bool.and_false])|(simp [*];done))
theorem zr5 {s:ByteArray}(hs:s.size≤1048576){l:List E}(hl:l.length≤1048576):Ctr prog 46 [.ag [.v (.int .i64 3),.v (.int .i64 0),.v (.string s),.ro l.length 4 (acL l)]] [] (.c (.v (.bool (eu s&&((l.length:Int)==0))))) []:=by
 have cn:=fA hs
 generalize eu s=bn at cn ⊢
 have hq:bu [.v (.int .i64 3),.v (.int .i64 0),.v (.string s),.ro l.length 4 (acL l)]=true:=by simp [bu,clo,aM]
 all_goals cases bn
 all_goals
  refine az func46 rfl rfl ?_
  repeat' (first|(apply ay;first|refine bH ?_|(refine aK ?_ ?_<;>intro hG<;>(try cases hG))|refine ak ?_|refine ai ?_|refine bf ?_|refine aI ?_|refine aH cn ?_|refine bC ?_|refine ao ?_|refine aN ?_|refine aB ?_|refine cE ?_)|refine aj ?_|refine ab ?_|refine aa fun C=>?_|refine ac ?_|refine ah ?_|refine al ?_|(refine ae rqf ?_ ?_<;>intro hC<;>(try cases hC)))
 all_goals first
  | (refine am ?_;refine bA rfl aJ ⟨?_,rfl⟩;first|rfl|(rw [show emB s=true from hG];rfl)|(rw [show emB s=false from hG];rfl)|(rw [Bool.and_true])|(rw [Bool.and_false])|(simp [*];done))
theorem zs5 {s:ByteArray}(hs:s.size≤1048576){l:List E}(hl:l.length≤1048576):Ctr prog 46 [.ag [.v (.int .i64 4),.v (.int .i64 0),.v (.string s),.ro l.length 4 (acL l)]] [] (.c (.v (.bool (eu s&&((l.length:Int)==1))))) []:=by
 have cn:=fA hs
 generalize eu s=bn at cn ⊢
 have hq:bu [.v (.int .i64 4),.v (.int .i64 0),.v (.string s),.ro l.length 4 (acL l)]=true:=by simp [bu,clo,aM]
 all_goals cases bn
 all_goals
  refine az func46 rfl rfl ?_
  repeat' (first|(apply ay;first|refine bH ?_|(refine aK ?_ ?_<;>intro hG<;>(try cases hG))|refine ak ?_|refine ai ?_|refine bf ?_|refine aI ?_|refine aH cn ?_|refine bC ?_|refine ao ?_|refine aN ?_|refine aB ?_|refine cE ?_)|refine aj ?_|refine ab ?_|refine aa fun C=>?_|refine ac ?_|refine ah ?_|refine al ?_|(refine ae rqf ?_ ?_<;>intro hC<;>(try cases hC)))
 all_goals first
  | (refine am ?_;refine bA rfl aJ ⟨?_,rfl⟩;first|rfl|(rw [show emB s=true from hG];rfl)|(rw [show emB s=false from hG];rfl)|(rw [Bool.and_true])|(rw [Bool.and_false])|(simp [*];done))
theorem zt5 {s:ByteArray}(hs:s.size≤1048576){l:List E}(hl:l.length≤1048576):Ctr prog 46 [.ag [.v (.int .i64 5),.v (.int .i64 0),.v (.string s),.ro l.length 4 (acL l)]] [] (.c (.v (.bool (emB s&&((l.length:Int)==1))))) []:=by
 have hq:bu [.v (.int .i64 5),.v (.int .i64 0),.v (.string s),.ro l.length 4 (acL l)]=true:=by simp [bu,clo,aM]
 all_goals
  refine az func46 rfl rfl ?_
  repeat' (first|(apply ay;first|refine bH ?_|(refine aK ?_ ?_<;>intro hG<;>(try cases hG))|refine ak ?_|refine ai ?_|refine bf ?_|refine aI ?_|refine bC ?_|refine ao ?_|refine aC ?_|refine aN ?_|refine aB ?_|refine cE ?_)|refine aj ?_|refine ab ?_|refine aa fun C=>?_|refine ac ?_|refine ah ?_|refine al ?_|(refine ae rqf ?_ ?_<;>intro hC<;>(try cases hC)))
 all_goals first
  | (refine am ?_;refine bA rfl aJ ⟨?_,rfl⟩;first|rfl|(rw [show emB s=true from hG];rfl)|(rw [show emB s=false from hG];rfl)|(rw [Bool.and_true])|(rw [Bool.and_false])|(simp [*];done))
theorem zu5 {s:ByteArray}(hs:s.size≤1048576){l:List E}(hl:l.length≤1048576):Ctr prog 46 [.ag [.v (.int .i64 6),.v (.int .i64 0),.v (.string s),.ro l.length 4 (acL l)]] [] (.c (.v (.bool (mz mw s&&((l.length:Int)==2))))) []:=by
 have co:=xu xt (by decide) s
 generalize mz mw s=bo at co ⊢
 have c0:=xw
 have hq:bu [.v (.int .i64 6),.v (.int .i64 0),.v (.string s),.ro l.length 4 (acL l)]=true:=by simp [bu,clo,aM]
 all_goals cases bo
 all_goals
  refine az func46 rfl rfl ?_
  repeat' (first|(apply ay;first|(refine aK ?_ ?_<;>intro hG<;>(try cases hG))|refine ai ?_|refine bf ?_|refine aI ?_|refine bC ?_|refine ao ?_|refine aN ?_|refine aB ?_|refine cE ?_)|refine aj ?_|refine ab ?_|(apply da;first|refine fg ?_|(refine e7 ?_ ?_<;>intro hG<;>(try cases hG))|(apply dC;refine aD ?_)|(apply iu;refine aD ?_)|refine dZ ?_|refine bW ?_|refine ei co ?_|refine ei c0 ?_|(apply fF;refine aD ?_)|refine aD ?_)|refine aj ?_|refine ab ?_|refine aa fun C=>?_|refine av krq krq fun C=>?_|refine ac ?_|refine ah ?_|refine al ?_|(refine ae rqf ?_ ?_<;>intro hC<;>(try cases hC)))
 all_goals first
  | (refine am ?_;refine bA rfl aJ ⟨?_,rfl⟩;first|rfl|(rw [show emB s=true from hG];rfl)|(rw [show emB s=false from hG];rfl)|(rw [Bool.and_true])|(rw [Bool.and_false])|(simp [*];done))
theorem zv5 {s:ByteArray}(hs:s.size≤1048576){l:List E}(hl:l.length≤1048576):Ctr prog 46 [.ag [.v (.int .i64 7),.v (.int .i64 0),.v (.string s),.ro l.length 4 (acL l)]] [] (.c (.v (.bool (emB s&&((l.length:Int)==1))))) []:=by
 have hq:bu [.v (.int .i64 7),.v (.int .i64 0),.v (.string s),.ro l.length 4 (acL l)]=true:=by simp [bu,clo,aM]
 all_goals
  refine az func46 rfl rfl ?_
  repeat' (first|(apply ay;first|refine bH ?_|(refine aK ?_ ?_<;>intro hG<;>(try cases hG))|refine ak ?_|refine ai ?_|refine bf ?_|refine aI ?_|refine bC ?_|refine ao ?_|refine aC ?_|refine aN ?_|refine aB ?_|refine cE ?_)|refine aj ?_|refine ab ?_|refine aa fun C=>?_|refine ac ?_|refine ah ?_|refine al ?_|(refine ae rqf ?_ ?_<;>intro hC<;>(try cases hC)))
 all_goals first
  | (refine am ?_;refine bA rfl aJ ⟨?_,rfl⟩;first|rfl|(rw [show emB s=true from hG];rfl)|(rw [show emB s=false from hG];rfl)|(rw [Bool.and_true])|(rw [Bool.and_false])|(simp [*];done))
theorem zw5 {s:ByteArray}(hs:s.size≤1048576){l:List E}(hl:l.length≤1048576):Ctr prog 46 [.ag [.v (.int .i64 8),.v (.int .i64 0),.v (.string s),.ro l.length 4 (acL l)]] [] (.c (.v (.bool (emB s&&((l.length:Int)==1))))) []:=by
 have hq:bu [.v (.int .i64 8),.v (.int .i64 0),.v (.string s),.ro l.length 4 (acL l)]=true:=by simp [bu,clo,aM]
 all_goals
  refine az func46 rfl rfl ?_
  repeat' (first|(apply ay;first|refine bH ?_|(refine aK ?_ ?_<;>intro hG<;>(try cases hG))|refine ak ?_|refine ai ?_|refine bf ?_|refine aI ?_|refine bC ?_|refine ao ?_|refine aC ?_|refine aN ?_|refine aB ?_|refine cE ?_)|refine aj ?_|refine ab ?_|refine aa fun C=>?_|refine ac ?_|refine ah ?_|refine al ?_|(refine ae rqf ?_ ?_<;>intro hC<;>(try cases hC)))
 all_goals first
  | (refine am ?_;refine bA rfl aJ ⟨?_,rfl⟩;first|rfl|(rw [show emB s=true from hG];rfl)|(rw [show emB s=false from hG];rfl)|(rw [Bool.and_true])|(rw [Bool.and_false])|(simp [*];done))
theorem zx5 {s:ByteArray}(hs:s.size≤1048576){l:List E}(hl:l.length≤1048576):Ctr prog 46 [.ag [.v (.int .i64 9),.v (.int .i64 0),.v (.string s),.ro l.length 4 (acL l)]] [] (.c (.v (.bool (eu s&&((l.length:Int)==1))))) []:=by
 have cn:=fA hs
 generalize eu s=bn at cn ⊢
 have hq:bu [.v (.int .i64 9),.v (.int .i64 0),.v (.string s),.ro l.length 4 (acL l)]=true:=by simp [bu,clo,aM]
 all_goals cases bn
 all_goals
  refine az func46 rfl rfl ?_
  repeat' (first|(apply ay;first|refine bH ?_|(refine aK ?_ ?_<;>intro hG<;>(try cases hG))|refine ak ?_|refine ai ?_|refine bf ?_|refine aI ?_|refine aH cn ?_|refine bC ?_|refine ao ?_|refine aN ?_|refine aB ?_|refine cE ?_)|refine aj ?_|refine ab ?_|refine aa fun C=>?_|refine ac ?_|refine ah ?_|refine al ?_|(refine ae rqf ?_ ?_<;>intro hC<;>(try cases hC)))
 all_goals first
  | (refine am ?_;refine bA rfl aJ ⟨?_,rfl⟩;first|rfl|(rw [show emB s=true from hG];rfl)|(rw [show emB s=false from hG];rfl)|(rw [Bool.and_true])|(rw [Bool.and_false])|(simp [*];done))
theorem zZ {s:ByteArray}(hs:s.size≤1048576){l:List E}(hl:l.length≤1048576):Ctr prog 46 [.ag [.v (.int .i64 10),.v (.int .i64 0),.v (.string s),.ro l.length 4 (acL l)]] [] (.c (.v (.bool (((l.length:Int)==1)&&ql s)))) []:=by
 have cr:=xq hs
 generalize ql s=br at cr ⊢
 have hq:bu [.v (.int .i64 10),.v (.int .i64 0),.v (.string s),.ro l.length 4 (acL l)]=true:=by simp [bu,clo,aM]
 all_goals cases br
 all_goals
  refine az func46 rfl rfl ?_
  repeat' (first|(apply ay;first|refine bH ?_|(refine aK ?_ ?_<;>intro hG<;>(try cases hG))|refine ak ?_|refine ai ?_|refine bf ?_|refine aI ?_|refine aH cr ?_|refine bC ?_|refine ao ?_|refine aN ?_|refine aB ?_|refine cE ?_)|refine aj ?_|refine ab ?_|refine aa fun C=>?_|refine ac ?_|refine ah ?_|refine al ?_|(refine ae rqf ?_ ?_<;>intro hC<;>(try cases hC)))
 all_goals first
  | (refine am ?_;refine bA rfl aJ ⟨?_,rfl⟩;first|rfl|(rw [show emB s=true from hG];rfl)|(rw [show emB s=false from hG];rfl)|(rw [Bool.and_true])|(rw [Bool.and_false])|(simp [*];done))
theorem z6 {s:ByteArray}(hs:s.size≤1048576){l:List E}(hl:l.length≤1048576):Ctr prog 46 [.ag [.v (.int .i64 11),.v (.int .i64 0),.v (.string s),.ro l.length 4 (acL l)]] [] (.c (.v (.bool (eu s&&decide ((l.length:Int)≤4))))) []:=by
 have cn:=fA hs
 generalize eu s=bn at cn ⊢
 have hq:bu [.v (.int .i64 11),.v (.int .i64 0),.v (.string s),.ro l.length 4 (acL l)]=true:=by simp [bu,clo,aM]
 all_goals cases bn
 all_goals
  refine az func46 rfl rfl ?_
  repeat' (first|(apply ay;first|refine bH ?_|(refine aK ?_ ?_<;>intro hG<;>(try cases hG))|refine ak ?_|refine ai ?_|refine bf ?_|refine aI ?_|refine aH cn ?_|refine bC ?_|refine ao ?_|refine aN ?_|refine bp ?_|refine aB ?_|refine cE ?_)|refine aj ?_|refine ab ?_|refine aa fun C=>?_|refine ac ?_|refine ah ?_|refine al ?_|(refine ae rqf ?_ ?_<;>intro hC<;>(try cases hC)))
 all_goals first
  | (refine am ?_;refine bA rfl aJ ⟨?_,rfl⟩;first|rfl|(rw [show emB s=true from hG];rfl)|(rw [show emB s=false from hG];rfl)|(rw [Bool.and_true])|(rw [Bool.and_false])|(simp [*];done))
theorem z7 {s:ByteArray}(hs:s.size≤1048576){l:List E}(hl:l.length≤1048576):Ctr prog 46 [.ag [.v (.int .i64 12),.v (.int .i64 0),.v (.string s),.ro l.length 4 (acL l)]] [] (.c (.v (.bool (emB s&&((l.length:Int)==1))))) []:=by
 have hq:bu [.v (.int .i64 12),.v (.int .i64 0),.v (.string s),.ro l.length 4 (acL l)]=true:=by simp [bu,clo,aM]
 all_goals
  refine az func46 rfl rfl ?_
  repeat' (first|(apply ay;first|refine bH ?_|(refine aK ?_ ?_<;>intro hG<;>(try cases hG))|refine ak ?_|refine ai ?_|refine bf ?_|refine aI ?_|refine bC ?_|refine ao ?_|refine aC ?_|refine aN ?_|refine aB ?_|refine cE ?_)|refine aj ?_|refine ab ?_|refine aa fun C=>?_|refine ac ?_|refine ah ?_|refine al ?_|(refine ae rqf ?_ ?_<;>intro hC<;>(try cases hC)))
 all_goals first
  | (refine am ?_;refine bA rfl aJ ⟨?_,rfl⟩;first|rfl|(rw [show emB s=true from hG];rfl)|(rw [show emB s=false from hG];rfl)|(rw [Bool.and_true])|(rw [Bool.and_false])|(simp [*];done))
theorem z8 {s:ByteArray}(hs:s.size≤1048576){l:List E}(hl:l.length≤1048576):Ctr prog 46 [.ag [.v (.int .i64 13),.v (.int .i64 0),.v (.string s),.ro l.length 4 (acL l)]] [] (.c (.v (.bool (emB s&&((l.length:Int)==3))))) []:=by
 have hq:bu [.v (.int .i64 13),.v (.int .i64 0),.v (.string s),.ro l.length 4 (acL l)]=true:=by simp [bu,clo,aM]
 all_goals
  refine az func46 rfl rfl ?_
  repeat' (first|(apply ay;first|refine bH ?_|(refine aK ?_ ?_<;>intro hG<;>(try cases hG))|refine ak ?_|refine ai ?_|refine bf ?_|refine aI ?_|refine bC ?_|refine ao ?_|refine aC ?_|refine aN ?_|refine aB ?_|refine cE ?_)|refine aj ?_|refine ab ?_|refine aa fun C=>?_|refine ac ?_|refine ah ?_|refine al ?_|(refine ae rqf ?_ ?_<;>intro hC<;>(try cases hC)))
 all_goals first
  | (refine am ?_;refine bA rfl aJ ⟨?_,rfl⟩;first|rfl|(rw [show emB s=true from hG];rfl)|(rw [show emB s=false from hG];rfl)|(rw [Bool.and_true])|(rw [Bool.and_false])|(simp [*];done))
theorem zaQ {s:ByteArray}(hs:s.size≤1048576){l:List E}(hl:l.length≤1048576):Ctr prog 46 [.ag [.v (.int .i64 14),.v (.int .i64 0),.v (.string s),.ro l.length 4 (acL l)]] [] (.c (.v (.bool (emB s&&((l.length:Int)==0))))) []:=by
 have hq:bu [.v (.int .i64 14),.v (.int .i64 0),.v (.string s),.ro l.length 4 (acL l)]=true:=by simp [bu,clo,aM]
 all_goals
  refine az func46 rfl rfl ?_
  repeat' (first|(apply ay;first|refine bH ?_|(refine aK ?_ ?_<;>intro hG<;>(try cases hG))|refine ak ?_|refine ai ?_|refine bf ?_|refine aI ?_|refine bC ?_|refine ao ?_|refine aC ?_|refine aN ?_|refine aB ?_|refine cE ?_)|refine aj ?_|refine ab ?_|refine aa fun C=>?_|refine ac ?_|refine ah ?_|refine al ?_|(refine ae rqf ?_ ?_<;>intro hC<;>(try cases hC)))
 all_goals first
  | (refine am ?_;refine bA rfl aJ ⟨?_,rfl⟩;first|rfl|(rw [show emB s=true from hG];rfl)|(rw [show emB s=false from hG];rfl)|(rw [Bool.and_true])|(rw [Bool.and_false])|(simp [*];done))
theorem zbQ {s:ByteArray}(hs:s.size≤1048576){l:List E}(hl:l.length≤1048576):Ctr prog 46 [.ag [.v (.int .i64 15),.v (.int .i64 0),.v (.string s),.ro l.length 4 (acL l)]] [] (.c (.v (.bool (emB s&&((l.length:Int)==0))))) []:=by
 have hq:bu [.v (.int .i64 15),.v (.int .i64 0),.v (.string s),.ro l.length 4 (acL l)]=true:=by simp [bu,clo,aM]
 all_goals
  refine az func46 rfl rfl ?_
  repeat' (first|(apply ay;first|refine bH ?_|(refine aK ?_ ?_<;>intro hG<;>(try cases hG))|refine ak ?_|refine ai ?_|refine bf ?_|refine aI ?_|refine bC ?_|refine ao ?_|refine aC ?_|refine aN ?_|refine aB ?_|refine cE ?_)|refine aj ?_|refine ab ?_|refine aa fun C=>?_|refine ac ?_|refine ah ?_|refine al ?_|(refine ae rqf ?_ ?_<;>intro hC<;>(try cases hC)))
 all_goals first
  | (refine am ?_;refine bA rfl aJ ⟨?_,rfl⟩;first|rfl|(rw [show emB s=true from hG];rfl)|(rw [show emB s=false from hG];rfl)|(rw [Bool.and_true])|(rw [Bool.and_false])|(simp [*];done))
theorem zcQ {s:ByteArray}(hs:s.size≤1048576){l:List E}(hl:l.length≤1048576):Ctr prog 46 [.ag [.v (.int .i64 16),.v (.int .i64 0),.v (.string s),.ro l.length 4 (acL l)]] [] (.c (.v (.bool (emB s&&((l.length:Int)==2))))) []:=by
 have hq:bu [.v (.int .i64 16),.v (.int .i64 0),.v (.string s),.ro l.length 4 (acL l)]=true:=by simp [bu,clo,aM]
 all_goals
  refine az func46 rfl rfl ?_
  repeat' (first|(apply ay;first|refine bH ?_|(refine aK ?_ ?_<;>intro hG<;>(try cases hG))|refine ak ?_|refine ai ?_|refine bf ?_|refine aI ?_|refine bC ?_|refine ao ?_|refine aC ?_|refine aN ?_|refine aB ?_|refine cE ?_)|refine aj ?_|refine ab ?_|refine aa fun C=>?_|refine ac ?_|refine ah ?_|refine al ?_|(refine ae rqf ?_ ?_<;>intro hC<;>(try cases hC)))
 all_goals first
  | (refine am ?_;refine bA rfl aJ ⟨?_,rfl⟩;first|rfl|(rw [show emB s=true from hG];rfl)|(rw [show emB s=false from hG];rfl)|(rw [Bool.and_true])|(rw [Bool.and_false])|(simp [*];done))
theorem zdQ {s:ByteArray}(hs:s.size≤1048576){l:List E}(hl:l.length≤1048576):Ctr prog 46 [.ag [.v (.int .i64 17),.v (.int .i64 0),.v (.string s),.ro l.length 4 (acL l)]] [] (.c (.v (.bool (emB s&&((l.length:Int)==1))))) []:=by
 have hq:bu [.v (.int .i64 17),.v (.int .i64 0),.v (.string s),.ro l.length 4 (acL l)]=true:=by simp [bu,clo,aM]
 all_goals
  refine az func46 rfl rfl ?_
  repeat' (first|(apply ay;first|refine bH ?_|(refine aK ?_ ?_<;>intro hG<;>(try cases hG))|refine ak ?_|refine ai ?_|refine bf ?_|refine aI ?_|refine bC ?_|refine ao ?_|refine aC ?_|refine aN ?_|refine aB ?_|refine cE ?_)|refine aj ?_|refine ab ?_|refine aa fun C=>?_|refine ac ?_|refine ah ?_|refine al ?_|(refine ae rqf ?_ ?_<;>intro hC<;>(try cases hC)))
 all_goals first
  | (refine am ?_;refine bA rfl aJ ⟨?_,rfl⟩;first|rfl|(rw [show emB s=true from hG];rfl)|(rw [show emB s=false from hG];rfl)|(rw [Bool.and_true])|(rw [Bool.and_false])|(simp [*];done))
theorem zeQ {s:ByteArray}(hs:s.size≤1048576){l:List E}(hl:l.length≤1048576):Ctr prog 46 [.ag [.v (.int .i64 18),.v (.int .i64 0),.v (.string s),.ro l.length 4 (acL l)]] [] (.c (.v (.bool (((l.length:Int)==2)&&ql s)))) []:=by
 have cr:=xq hs
 generalize ql s=br at cr ⊢
 have hq:bu [.v (.int .i64 18),.v (.int .i64 0),.v (.string s),.ro l.length 4 (acL l)]=true:=by simp [bu,clo,aM]
 all_goals cases br
 all_goals
  refine az func46 rfl rfl ?_
  repeat' (first|(apply ay;first|refine bH ?_|(refine aK ?_ ?_<;>intro hG<;>(try cases hG))|refine ak ?_|refine ai ?_|refine bf ?_|refine aI ?_|refine aH cr ?_|refine bC ?_|refine ao ?_|refine aN ?_|refine aB ?_|refine cE ?_)|refine aj ?_|refine ab ?_|refine aa fun C=>?_|refine ac ?_|refine ah ?_|refine al ?_|(refine ae rqf ?_ ?_<;>intro hC<;>(try cases hC)))
 all_goals first
  | (refine am ?_;refine bA rfl aJ ⟨?_,rfl⟩;first|rfl|(rw [show emB s=true from hG];rfl)|(rw [show emB s=false from hG];rfl)|(rw [Bool.and_true])|(rw [Bool.and_false])|(simp [*];done))
theorem zy5 {s:ByteArray}(hs:s.size≤1048576){l:List E}(hl:l.length≤1048576)(n:Int):Ctr prog 46 [.ag [.v (.int .i64 1),.v (.int .i64 n),.v (.string s),.ro l.length 4 (acL l)]] [] (.c (.v (.bool (inR n 0 2147483647&&(emB s&&((l.length:Int)==0)))))) []:=by
 have cw:=jc n 0 2147483647
 generalize inR n 0 2147483647=bw at cw ⊢
 have hq:bu [.v (.int .i64 1),.v (.int .i64 n),.v (.string s),.ro l.length 4 (acL l)]=true:=by simp [bu,clo,aM]
 cases bw
 all_goals
  refine az func46 rfl rfl ?_
  repeat' (first|(apply ay;first|refine bH ?_|(refine aK ?_ ?_<;>intro hG<;>(try cases hG))|refine ak ?_|refine ai ?_|refine bf ?_|refine aI ?_|refine aH cw ?_|refine bC ?_|refine ao ?_|refine aC ?_|refine aN ?_|refine aB ?_|refine cE ?_)|refine aj ?_|refine ab ?_|refine aa fun C=>?_|refine ac ?_|refine ah ?_|refine al ?_|(refine ae rqf ?_ ?_<;>intro hC<;>(try cases hC)))
 all_goals first
  | (refine am ?_;refine bA rfl aJ ⟨?_,rfl⟩;first|rfl|(rw [show emB s=true from hG];rfl)|(rw [show emB s=false from hG];rfl)|(rw [Bool.and_true])|(rw [Bool.and_false])|(simp [*];done))
theorem zz5 {s:ByteArray}(hs:s.size≤1048576){l:List E}(hl:l.length≤1048576){k n:Int}(hk:¬k=1)(hn:¬n=0):Ctr prog 46 [.ag [.v (.int .i64 k),.v (.int .i64 n),.v (.string s),.ro l.length 4 (acL l)]] [] (.c (.v (.bool false))) []:=by
 refine az func46 rfl rfl ?_
 repeat' (first|(apply ay;first|refine bH ?_|(refine aK ?_ ?_<;>intro hG<;>(try cases hG))|refine ai ?_|refine bf ?_|refine aI ?_|refine bC ?_|refine aN ?_|refine aB ?_|refine cE ?_)|refine aj ?_|refine ab ?_|refine aa fun C=>?_|refine ac ?_)
 ·refine ae rqf (fun hC=>?_) fun hC=>absurd (by simpa using hC) hn
  repeat' (first|(apply ay;refine ai ?_)|refine aj ?_|refine ab ?_|refine aa fun C=>?_|refine ac ?_)
  exact eo
 ·exact absurd (by simpa using hG) hk
theorem za6 {s:ByteArray}(hs:s.size≤1048576){l:List E}(hl:l.length≤1048576){k:Int}(h1:¬k=1)(h2:¬k=2)(h3:¬k=3)(h4:¬k=4)(h5:¬k=5)(h6:¬k=6)(h7:¬k=7)(h8:¬k=8)(h9:¬k=9)(h10:¬k=10)(h11:¬k=11)(h12:¬k=12)(h13:¬k=13)(h14:¬k=14)(h15:¬k=15)(h16:¬k=16)(h17:¬k=17)(h18:¬k=18):Ctr prog 46 [.ag [.v (.int .i64 k),.v (.int .i64 0),.v (.string s),.ro l.length 4 (acL l)]] [] (.c (.v (.bool false))) []:=by
 refine az func46 rfl rfl ?_
 repeat' (first|(apply ay;first|refine bH ?_|(refine aK ?_ ?_<;>intro hG<;>(try cases hG))|refine ai ?_|refine bf ?_|refine aI ?_|refine bC ?_|refine aN ?_|refine aB ?_|refine cE ?_)|refine aj ?_|refine ab ?_|refine aa fun C=>?_|refine ac ?_)
 rotate_left
 ·exact absurd (by simpa using hG) h1
 refine ar rfl ?_
 repeat' (first|(apply ay;first|refine ai ?_|refine bf ?_|refine aI ?_|refine ao ?_)|refine aj ?_|refine ab ?_|refine aa fun C=>?_|refine ac ?_|refine ah ?_|refine al ?_)
 iterate 40 ((try (first|refine ae rqf (fun hC=>absurd (eq_of_beq hC) (by assumption)) fun hC=>?_|refine ar rfl ?_));(try repeat' (first|(apply ay;first|refine ai ?_|refine ao ?_)|refine aj ?_|refine ab ?_|refine aa fun C=>?_|refine ac ?_|refine al ?_)))
 exact eo
theorem zfQ {k n:Int}{s:ByteArray}(hs:s.size≤1048576){l:List E}(hl:l.length≤1048576):Ctr prog 46 [.ag [.v (.int .i64 k),.v (.int .i64 n),.v (.string s),.ro l.length 4 (acL l)]] [] (.c (.v (.bool (fd k n s l.length)))) []:=by
 by_cases h1:k=1
 ·subst h1
  exact zy5 hs hl n
 by_cases hn:n=0
 ·subst hn
  by_cases h2:k=2
  ·subst h2
   exact zq5 hs hl
  by_cases h3:k=3
  ·subst h3
   exact zr5 hs hl
  by_cases h4:k=4
  ·subst h4
   exact zs5 hs hl
  by_cases h5:k=5
  ·subst h5
   exact zt5 hs hl
  by_cases h6:k=6
  ·subst h6
   exact zu5 hs hl
  by_cases h7:k=7
  ·subst h7
   exact zv5 hs hl
  by_cases h8:k=8
  ·subst h8
   exact zw5 hs hl
  by_cases h9:k=9
  ·subst h9
   exact zx5 hs hl
  by_cases h10:k=10
  ·subst h10
   exact zZ hs hl
  by_cases h11:k=11
  ·subst h11
   exact z6 hs hl
  by_cases h12:k=12
  ·subst h12
   exact z7 hs hl
  by_cases h13:k=13
  ·subst h13
   exact z8 hs hl
  by_cases h14:k=14
  ·subst h14
   exact zaQ hs hl
  by_cases h15:k=15
  ·subst h15
   exact zbQ hs hl
  by_cases h16:k=16
  ·subst h16
   exact zcQ hs hl
  by_cases h17:k=17
  ·subst h17
   exact zdQ hs hl
  by_cases h18:k=18
  ·subst h18
   exact zeQ hs hl
  rw [show fd k 0 s l.length=false by simp [fd, *]]
  exact za6 hs hl h1 h2 h3 h4 h5 h6 h7 h8 h9 h10 h11 h12 h13 h14 h15 h16 h17 h18
 ·rw [show fd k n s l.length=false by simp [fd, *]]
  exact zz5 hs hl h1 hn
theorem sU {l:List E}{k:Nat}{x:E}(h:l[k]? = some x):l.drop k=x :: l.drop (k+1):=by
 obtain⟨h1,h2⟩:=List.getElem?_eq_some_iff.1 h
 rw [List.drop_eq_getElem_cons h1,h2]
theorem zgQ (f:Nat)(e:E):iz f e≤101:=zd5 f e omq
theorem zhQ (f:Nat)(e:E)(h:f≤10):jR f e≤1101:=by
 have:=wL (b:=100) (kd:=dV) f e omq
 unfold jR
 omega
theorem mA:∀(f:Nat),f≤10→∀(e:E),e.Ty prog 26→e.sz≤1048576→Ctr prog 25 [.ag (acE e),.c (.v (.int .i64 (11-(f:Int))))] [] (.c (.v (.int .i64 (iz f e:Nat)))) []
 | 0,_,e,he,hsz=>by
  obtain⟨k,n,s,xA,xc,l,rfl,-⟩:=aW he
  rw [show (11-((0:Nat):Int))=11 from rfl]
  refine az func25 rfl rfl ?_
  repeat' (first|(apply ay;first|refine bH ?_|(refine aK ?_ ?_<;>intro hG<;>(try cases hG))|refine ak ?_|refine ai ?_|refine aX ?_|refine aB ?_|refine cE ?_)|refine aj ?_|refine ab ?_|refine aa fun C=>?_|refine ac ?_|refine aq rfl ?_)
  exact eo
 | f+1,hf,e,he,hsz=>by
  obtain⟨k0,n0,s0,xA,xc,l,rfl,-,-,-,⟨hl,hk⟩,-⟩:=aW he
  simp only [E.sz,E.szL] at hsz
  have ch:=uJ (k:=k0) (n:=n0) (s:=s0) omq (l:=l) omq
  have hd:oA (.agg [.int .i64 k0,.int .i64 n0,.str s0,.lst 4 26 xA xc l])=fd k0 n0 s0 l.length:=rfl
  cases hb:fd k0 n0 s0 l.length with
  | false =>
   rw [hb] at ch
   rw [show iz (f+1) (.agg [.int .i64 k0,.int .i64 n0,.str s0,.lst 4 26 xA xc l])=101 by unfold iz sC;rw [hd,hb];rfl]
   refine az func25 rfl rfl ?_
   repeat' (first|(apply ay;first|refine bH ?_|(refine aK ?_ ?_<;>intro hG<;>(try cases hG))|refine ak ?_|refine ai ?_|refine bM ?_|refine aH ch ?_|refine aX ?_|refine bI ?_|refine aB ?_|refine cE ?_)|refine aj ?_|refine ab ?_|refine aa fun C=>?_|refine ac ?_|(refine ae rqf ?_ ?_<;>intro hC<;>(try cases hC)))
   all_goals (refine am ?_;refine bA rfl aJ ⟨?_,rfl⟩;rfl)
  | true =>
   rw [hb] at ch
   rw [show iz (f+1) (.agg [.int .i64 k0,.int .i64 n0,.str s0,.lst 4 26 xA xc l])=gpI 100 (iz f) l 1 by
    show sC 100 oA dV (f+1) _=_
    unfold sC;rw [hd,hb];rfl]
   refine az func25 rfl rfl ?_
   have hgg:¬(11-((f+1:Nat):Int) > 10):=by omega
   repeat' (first|(apply ay;first|refine bH ?_|(refine aK ?_ ?_<;>intro hG<;>(try cases hG))|refine ak ?_|refine ai ?_|refine bf ?_|refine aI ?_|refine bM ?_|refine aH ch ?_|refine bC ?_|refine aX ?_|refine bI ?_|refine aB ?_|refine cE ?_)|refine aj ?_|refine ab ?_|refine aa fun C=>?_|refine ac ?_|refine ah ?_|refine al ?_|refine aq rfl ?_|refine ar rfl ?_)
   all_goals try (exfalso;simp only [dqt] at hG;omega)
   refine aY (fun d:Nat×Nat=>⟨ft [(1,.c (.v (.int .i64 (11-((f+1:Nat):Int))))),(5,.c (.v (.int .i64 (d.2:Int)))),(16,.c (.ro l.length 4 (acL l))),(17,.c (.v (.int .i64 l.length))),(18,.c (.v (.int .i64 (d.1:Int))))],eW [],0,[],32⟩)
    (fun N d=>d.1+N=l.length∧d.2≤100∧gpI 100 (iz f) l 1=gpI 100 (iz f) (l.drop d.1) d.2) l.length (0,1) ⟨by simp,by simp,rfl⟩ ?_ ?_
   ·(refine aL _ _ rfl rfl ?_ ?_<;>exact tdy0)
   rintro N ⟨k,m⟩ ⟨hN,hm,hr⟩
   dsimp only at hN hm hr ⊢
   repeat' (first|(apply ay;refine aA ?_)|refine aj ?_|refine ab ?_|refine aa fun C=>?_|refine ac ?_)
   refine ae rqf (fun h1=>?_) fun h1=>?_
   ·have hk':k<l.length:=by simpa using h1
    obtain⟨x,hx⟩:∃x,l[k]? = some x:=⟨_,List.getElem?_eq_getElem hk'⟩
    have hxz:=E.szL_mem (mge hx)
    have hxt:=hl x (mge hx)
    have cx:=mA f omq x hxt omq
    have cle:=zgQ f x
    rw [sU hx] at hr
    rw [show (11-(f:Int))=11-((f+1:Nat):Int)+1 by omega] at cx
    have hr2:gpI 100 (iz f) (x :: l.drop (k+1)) m=if 100<m+iz f x then 101 else gpI 100 (iz f) (l.drop (k+1)) (m+iz f x):=rfl
    rw [hr2] at hr
    generalize iz f x=c at cx cle hr
    obtain⟨y0,y1,y2,yA,yc,yl,rfl,-⟩:=aW hxt
    repeat' (first|(apply ay;first|refine ak ?_|refine ai ?_|refine cX ?_|refine bM ?_|refine aH cx ?_|refine bh ?_|refine gJ ?_|refine bX ?_|refine aw ?_|refine bJ ?_)|refine aj ?_|refine ab ?_|refine aa fun C=>?_|refine ac ?_|refine ah ?_|refine al ?_)
    refine ae rqf (fun h2=>?_) fun h2=>?_
    ·have h3:100<m+c:=by simp at h2;omega
     rw [hr,if_pos h3]
     repeat' (first|(apply ay;refine ai ?_)|refine aj ?_|refine ab ?_|refine aa fun C=>?_|refine ac ?_)
     exact eo
    ·have h3:¬100<m+c:=by simp at h2;omega
     rw [if_neg h3] at hr
     repeat' (first|(apply ay;first|refine ak ?_|refine aw ?_)|refine aj ?_|refine ab ?_|refine aa fun C=>?_|refine al ?_)
     refine⟨N-1,(k+1,m+c),omq,⟨by show k+1+(N-1)=l.length;omega,by show m+c≤100;omega,hr⟩,?_⟩
     (refine aL _ _ rfl rfl ?_ ?_<;>exact tdy0)
   ·have hk':¬k<l.length:=by simpa using h1
    rw [hr,List.drop_eq_nil_of_le omq]
    repeat' (first|(apply ay;first|refine ak ?_|refine ai ?_)|refine aj ?_|refine ab ?_|refine aa fun C=>?_|refine ac ?_|refine aE ?_)
    exact eo
theorem pL:∀(f:Nat),f≤10→∀(e:E),e.Ty prog 26→e.sz≤1048576→Ctr prog 23 [.ag (acE e),.c (.v (.int .i64 (11-(f:Int))))] [] (.c (.v (.int .i64 (jR f e:Nat)))) []
 | 0,_,e,he,hsz=>by
  obtain⟨k,n,s,xA,xc,l,rfl,-⟩:=aW he
  rw [show (11-((0:Nat):Int))=11 from rfl]
  refine az func23 rfl rfl ?_
  repeat' (first|(apply ay;first|refine ak ?_|refine ai ?_|refine aX ?_|refine cE ?_)|refine aj ?_|refine ab ?_|refine aa fun C=>?_|refine ac ?_|refine aq rfl ?_)
  exact eo
 | f+1,hf,e,he,hsz=>by
  obtain⟨k0,n0,s0,xA,xc,l,rfl,-,-,-,⟨hl,hk⟩,-⟩:=aW he
  simp only [E.sz,E.szL] at hsz
  rw [show jR (f+1) (.agg [.int .i64 k0,.int .i64 n0,.str s0,.lst 4 26 xA xc l])=gpS 100 (jR f) l 1 from rfl]
  refine az func23 rfl rfl ?_
  repeat' (first|(apply ay;first|refine ak ?_|refine ai ?_|refine aX ?_|refine cE ?_)|refine aj ?_|refine ab ?_|refine aa fun C=>?_|refine ac ?_)
  refine ae rqf (fun h1=>by exfalso;simp only [dqt] at h1;omega) fun h1=>?_
  repeat' (first|(apply ay;refine ai ?_)|refine aj ?_|refine ab ?_|refine aa fun C=>?_|refine ac ?_|refine ah ?_|refine al ?_)
  refine aY (fun d:Nat×Nat=>⟨ft [(1,.c (.v (.int .i64 (11-((f+1:Nat):Int))))),(2,.c (.pt 2 0)),(5,.c (.v (.int .i64 (d.2:Int)))),(6,.c (.v (.int .i64 (d.1:Int))))],eW [(2,2,⟨26,0,0,true,[.v (.int .i64 k0),.v (.int .i64 n0),.v (.string s0),.ro l.length 4 (acL l)]⟩)],0,[2],31⟩)
   (fun N d=>d.1+N=l.length∧d.2≤2000∧gpS 100 (jR f) l 1=gpS 100 (jR f) (l.drop d.1) d.2) l.length (0,1) ⟨by simp,by simp,rfl⟩ ?_ ?_
  ·(refine aL _ _ rfl rfl ?_ ?_<;>exact tdy0)
  rintro N ⟨k,m⟩ ⟨hN,hm,hr⟩
  dsimp only at hN hm hr ⊢
  by_cases hk':k<l.length
  ·obtain⟨x,hx⟩:∃x,l[k]? = some x:=⟨_,List.getElem?_eq_getElem hk'⟩
   rw [sU hx] at hr
   by_cases hm2:m≤100
   ·have hr2:gpS 100 (jR f) (x :: l.drop (k+1)) m=gpS 100 (jR f) (l.drop (k+1)) (m+jR f x):=if_pos hm2
    rw [hr2] at hr
    have hxz:=E.szL_mem (mge hx)
    have hxt:=hl x (mge hx)
    have cx:=pL f omq x hxt omq
    have cle:=zhQ f x omq
    rw [show (11-(f:Int))=11-((f+1:Nat):Int)+1 by omega] at cx
    generalize jR f x=c at cx cle hr
    obtain⟨y0,y1,y2,yA,yc,yl,rfl,-⟩:=aW hxt
    repeat' (first|(apply ay;first|refine bH ?_|(refine aK ?_ ?_<;>intro hG<;>(try cases hG))|refine ak ?_|refine ai ?_|refine bf ?_|refine aI ?_|refine cX ?_|refine aH cx ?_|refine bC ?_|refine gJ ?_|refine aA ?_|refine bp ?_|refine aw ?_|refine aB ?_)|refine aj ?_|refine ab ?_|refine aa fun C=>?_|refine ac ?_|refine ah ?_|refine al ?_|refine aE ?_|(refine ae rqf ?_ ?_<;>intro hC<;>(try cases hC)))
    all_goals first
     | (exfalso;simp only [dqt,dqn] at *;omega)
     | (refine⟨N-1,(k+1,m+c),omq,⟨by show k+1+(N-1)=l.length;omega,by show m+c≤2000;omega,hr⟩,?_⟩
        (refine aL _ _ rfl rfl ?_ ?_<;>(repeat' (first|exact TmOk.nil|exact RwOk.nil|refine TmOk.cons ?_ ?_|refine RwOk.cons ?_ ?_|rfl|(refine rnV_id' rfl ?_;exact byc)|(refine cK ?_;first|rfl|omega|(rw [bB omq omq];omega))|(refine bg rfl ?_;exact byc)|exact dP rfl rfl|(refine rw_mid rqf rqf ?_ ?_<;>exact byc)|(refine rw_rn' rfl rfl ?_;simp;done)))))
   ·have hr2:gpS 100 (jR f) (x :: l.drop (k+1)) m=m:=if_neg hm2
    rw [hr,hr2]
    repeat' (first|(apply ay;first|refine bH ?_|(refine aK ?_ ?_<;>intro hG<;>(try cases hG))|refine ak ?_|refine ai ?_|refine bf ?_|refine aI ?_|refine bC ?_|refine gJ ?_|refine aA ?_|refine bp ?_|refine aB ?_)|refine aj ?_|refine ab ?_|refine aa fun C=>?_|refine ac ?_|refine ah ?_|refine al ?_|refine aE ?_|(refine ae rqf ?_ ?_<;>intro hC<;>(try cases hC)))
    all_goals first
     | (exfalso;simp only [dqt,dqn] at *;omega)
     | (refine am ?_;refine bA rfl aJ ⟨?_,rfl⟩;rfl)
  ·rw [hr,List.drop_eq_nil_of_le omq]
   repeat' (first|(apply ay;first|refine bH ?_|(refine aK ?_ ?_<;>intro hG<;>(try cases hG))|refine ak ?_|refine ai ?_|refine bf ?_|refine aI ?_|refine bC ?_|refine aA ?_|refine bp ?_|refine aB ?_)|refine aj ?_|refine ab ?_|refine aa fun C=>?_|refine ac ?_|refine ah ?_|refine al ?_|refine aE ?_|(refine ae rqf ?_ ?_<;>intro hC<;>(try cases hC)))
   all_goals first
    | (exfalso;simp only [dqt,dqn] at *;omega)
    | (refine am ?_;refine bA rfl aJ ⟨?_,rfl⟩;rfl)
theorem zs2:∀(n:Nat) (e:E),e.Ty prog 26→e.sz<n→n≤1048577→Ctr prog 24 [.ag (acE e)] [] (.c (.v (.bool (okX e)))) []
 | 0,_,_,h,_=>absurd h (Nat.not_lt_zero _)
 | n+1,e,he,hsz,hn=>by
  obtain⟨k0,n0,s0,xA,xc,l,rfl,-,-,-,⟨hl,hk⟩,-⟩:=aW he
  simp only [E.sz,E.szL] at hsz
  have ch:=zfQ (k:=k0) (n:=n0) (s:=s0) omq (l:=l) omq
  have ek:okX (.agg [.int .i64 k0,.int .i64 n0,.str s0,.lst 4 26 xA xc l])=(l.all okX&&fd k0 n0 s0 l.length):=jH ey _
  rw [ek]
  refine az func24 rfl rfl ?_
  repeat' (first|(apply ay;first|refine ai ?_|refine cE ?_)|refine aj ?_|refine ab ?_|refine aa fun C=>?_|refine ac ?_|refine ah ?_)
  refine aY (fun k:Nat=>⟨ft [(1,.c (.pt 1 0)),(3,.c (.v (.int .i64 (k:Int))))],eW [(1,1,⟨26,0,0,true,[.v (.int .i64 k0),.v (.int .i64 n0),.v (.string s0),.ro l.length 4 (acL l)]⟩)],0,[1],20⟩)
   (fun N k=>k+N=l.length∧∀j y,j<k→l[j]? = some y→okX y=true) l.length 0 ⟨omq,fun j y hj=>absurd hj (Nat.not_lt_zero j)⟩ ?_ ?_
  ·(refine aL _ _ rfl rfl ?_ ?_<;>exact tdy0)
  rintro N k ⟨hN,hr⟩
  try dsimp only
  repeat' (first|(apply ay;first|refine ak ?_|refine bf ?_|refine aI ?_|refine bC ?_|refine aA ?_)|refine aj ?_|refine ab ?_|refine aa fun C=>?_|refine ac ?_)
  refine ae rqf (fun h1=>?_) fun h1=>?_
  ·have hk':k<l.length:=by simpa using h1
   obtain⟨x,hx⟩:∃x,l[k]? = some x:=⟨_,List.getElem?_eq_getElem hk'⟩
   have hxz:=E.szL_mem (mge hx)
   have hxt:=hl x (mge hx)
   have cx:=zs2 n x hxt omq omq
   cases hb:okX x with
   | false =>
    have e0:l.all okX=false:=by
     cases ha:l.all okX with
     | false=>rfl
     | true=>rw [List.all_eq_true.1 ha x (mge hx)] at hb;cases hb
    rw [hb] at cx
    rw [e0]
    obtain⟨y0,y1,y2,yA,yc,yl,rfl,-⟩:=aW hxt
    repeat' (first|(apply ay;first|refine ak ?_|refine ai ?_|refine bf ?_|refine aI ?_|refine cX ?_|refine aH cx ?_|refine gJ ?_|refine bI ?_)|refine aj ?_|refine ab ?_|refine aa fun C=>?_|refine ac ?_|refine ah ?_|refine al ?_|refine aq rfl ?_)
    exact eo
   | true =>
    have hb':=hb
    rw [hb] at cx
    obtain⟨y0,y1,y2,yA,yc,yl,rfl,-⟩:=aW hxt
    repeat' (first|(apply ay;first|refine ak ?_|refine ai ?_|refine bf ?_|refine aI ?_|refine cX ?_|refine aH cx ?_|refine gJ ?_|refine aw ?_|refine bI ?_)|refine aj ?_|refine ab ?_|refine aa fun C=>?_|refine ac ?_|refine ah ?_|refine al ?_|refine ar rfl ?_)
    refine⟨N-1,k+1,omq,⟨omq,fun j y hj hy=>?_⟩,?_⟩
    ·by_cases e:j=k
     ·rw [e,hx] at hy;injection hy with hy;subst hy;exact hb'
     ·exact hr j y omq hy
    ·(refine aL _ _ rfl rfl ?_ ?_<;>exact tdy0)
  ·have hk':¬k<l.length:=by simpa using h1
   have e0:l.all okX=true:=List.all_eq_true.2 fun y hy=>by
    obtain⟨j,hj⟩:=List.getElem?_of_mem hy
    have:=(List.getElem?_eq_some_iff.1 hj).1
    exact hr j y omq hj
   rw [e0]
   repeat' (first|(apply ay;first|refine ai ?_|refine bM ?_|refine aH ch ?_)|refine aj ?_|refine ab ?_|refine aa fun C=>?_|refine ac ?_|refine aE ?_)
   exact eo
theorem iA {e:E}(he:e.Ty prog 26)(hsz:e.sz≤1048576):Ctr prog 10 [.ag (acE e)] [] (.c (.v (.bool (ff e)))) []:=by
 have c1:=mA 10 omq e he hsz
 rw [zp5,show (11-((10:Nat):Int))=1 from rfl] at *
 rw [show decide (iz 10 e≤100)=decide ((iz 10 e:Int)≤100) from decide_eq_decide.2 omq]
 generalize iz 10 e=c at c1 ⊢
 obtain⟨k0,n0,s0,xA,xc,l,rfl,-⟩:=aW he
 refine az func10 rfl rfl ?_
 repeat' (first|(apply ay;first|refine ai ?_|refine bM ?_|refine aH c1 ?_|refine bp ?_|refine cE ?_)|refine aj ?_|refine ab ?_|refine aa fun C=>?_|refine ac ?_)
 exact eo
theorem kQ {e:E}(he:e.Ty prog 26)(hsz:e.sz≤1048576):Ctr prog 9 [.ag (acE e)] [] (.c (.v (.bool (ff e)))) []:=by
 have c1:=pL 10 omq e he hsz
 have c2:=zs2 (e.sz+1) e he omq omq
 rw [show (11-((10:Nat):Int))=1 from rfl] at c1
 unfold ff
 generalize jR 10 e=c at c1 ⊢
 generalize okX e=b at c2 ⊢
 obtain⟨k0,n0,s0,xA,xc,l,rfl,-⟩:=aW he
 by_cases hc:c≤100
 ·rw [show decide (c≤100)=true from decide_eq_true hc,Bool.true_and]
  refine az func9 rfl rfl ?_
  repeat' (first|(apply ay;first|refine bH ?_|(refine aK ?_ ?_<;>intro hG<;>(try cases hG))|refine ai ?_|refine bM ?_|refine aH c1 ?_|refine aH c2 ?_|refine bp ?_|refine aB ?_|refine cE ?_)|refine aj ?_|refine ab ?_|refine aa fun C=>?_|refine ac ?_)
  all_goals first
   | (exfalso;simp only [dqt,dqn] at *;omega)
   | (refine am ?_;refine bA rfl aJ ⟨?_,rfl⟩;rfl)
 ·rw [show decide (c≤100)=false from decide_eq_false hc,Bool.false_and]
  refine az func9 rfl rfl ?_
  repeat' (first|(apply ay;first|refine bH ?_|(refine aK ?_ ?_<;>intro hG<;>(try cases hG))|refine ai ?_|refine bM ?_|refine aH c1 ?_|refine aH c2 ?_|refine bp ?_|refine aB ?_|refine cE ?_)|refine aj ?_|refine ab ?_|refine aa fun C=>?_|refine ac ?_)
  all_goals first
   | (exfalso;simp only [dqt,dqn] at *;omega)
   | (refine am ?_;refine bA rfl aJ ⟨?_,rfl⟩;rfl)
end Go.Proofs.YtomolhbkdhjofaaGreatDoor
