/- T -/
import Derived.Test.YtomolhbkdhjofaaGreatDoorParXAA
set_option maxHeartbeats 0
set_option maxRecDepth 100000
namespace Go.Proofs.YtomolhbkdhjofaaGreatDoor
open Go.RowKit Go.Proofs.Tryz
theorem dE {c1 c2 c3:AC}(h1:clo c1=true)(h2:clo c2=true)(h3:clo c3=true){l:List E}(j:Int):Ctr prog 77 [.c (.v (.int .i64 j)),.c (.pt 0 0)] [[c1,c2,c3,.ro l.length 4 (acL l)]] (.c (.v (.bool ((l.length:Int)==j)))) [[c1,c2,c3,.ro l.length 4 (acL l)]]:=by
 refine ay func77 rfl rfl ?_
 repeat' (first|(apply av;first|refine ak ?_|refine ai ?_|refine ba ?_|refine bN ?_|refine ao ?_|refine az ?_)|refine aj ?_|refine ab ?_|refine aa fun C=>?_|refine ac ?_)
 refine am ?_
 refine d8 rfl aJ rfl (by simp [bl,clo,aL,h1,h2,h3]) rfl ⟨?_,?_⟩
 all_goals rfl
theorem wV {s:ByteArray}(hs:s.size≤1048576){l:List E}(hl:l.length≤1048576):Ctr prog 47 [.ag [.v (.int .i64 2),.v (.int .i64 0),.v (.string s),.ro l.length 4 (acL l)]] [] (.c (.v (.bool (dj 39 s&&((l.length:Int)==0))))) []:=by
 have ct:=rO hs
 generalize dj 39 s=bt at ct ⊢
 have cM:=dE (c1:=.v (.int .i64 2)) (c2:=.v (.int .i64 0)) (c3:=.v (.string s)) rfl rfl rfl (l:=l) 0
 have hq:bl [.v (.int .i64 2),.v (.int .i64 0),.v (.string s),.ro l.length 4 (acL l)]=true:=by simp [bl,clo,aL]
 all_goals cases bt
 all_goals
  refine ay func47 rfl rfl ?_
  repeat' (first|(apply av;first|refine bC ?_|(refine aK ?_ ?_<;>intro hG<;>(try cases hG))|refine ak ?_|refine ai ?_|refine ba ?_|refine aI ?_|refine aG ct ?_|refine aF 1 (cM) ?_ (hl:=cH (by rfl) hq)|refine ao ?_|refine aQ ?_|refine aA ?_|refine cB ?_|refine az ?_)|refine aj ?_|refine ab ?_|refine aa fun C=>?_|refine ac ?_|refine ah ?_|refine al ?_|(refine ae (by rfl) ?_ ?_<;>intro hC<;>(try cases hC)))
 all_goals first
  | (refine am ?_;refine bv rfl aJ ⟨?_,rfl⟩;first|rfl|(rw [show emB s=true from hG];rfl)|(rw [show emB s=false from hG];rfl)|(rw [Bool.and_true])|(rw [Bool.and_false])|(simp [*];done))
theorem wW {s:ByteArray}(hs:s.size≤1048576){l:List E}(hl:l.length≤1048576):Ctr prog 47 [.ag [.v (.int .i64 3),.v (.int .i64 0),.v (.string s),.ro l.length 4 (acL l)]] [] (.c (.v (.bool (dT s&&((l.length:Int)==0))))) []:=by
 have cn:=fR hs
 generalize dT s=bn at cn ⊢
 have cM:=dE (c1:=.v (.int .i64 3)) (c2:=.v (.int .i64 0)) (c3:=.v (.string s)) rfl rfl rfl (l:=l) 0
 have hq:bl [.v (.int .i64 3),.v (.int .i64 0),.v (.string s),.ro l.length 4 (acL l)]=true:=by simp [bl,clo,aL]
 all_goals cases bn
 all_goals
  refine ay func47 rfl rfl ?_
  repeat' (first|(apply av;first|refine bC ?_|(refine aK ?_ ?_<;>intro hG<;>(try cases hG))|refine ak ?_|refine ai ?_|refine ba ?_|refine aI ?_|refine aG cn ?_|refine aF 1 (cM) ?_ (hl:=cH (by rfl) hq)|refine ao ?_|refine aQ ?_|refine aA ?_|refine cB ?_|refine az ?_)|refine aj ?_|refine ab ?_|refine aa fun C=>?_|refine ac ?_|refine ah ?_|refine al ?_|(refine ae (by rfl) ?_ ?_<;>intro hC<;>(try cases hC)))
 all_goals first
  | (refine am ?_;refine bv rfl aJ ⟨?_,rfl⟩;first|rfl|(rw [show emB s=true from hG];rfl)|(rw [show emB s=false from hG];rfl)|(rw [Bool.and_true])|(rw [Bool.and_false])|(simp [*];done))
theorem wX {s:ByteArray}(hs:s.size≤1048576){l:List E}(hl:l.length≤1048576):Ctr prog 47 [.ag [.v (.int .i64 4),.v (.int .i64 0),.v (.string s),.ro l.length 4 (acL l)]] [] (.c (.v (.bool (dT s&&((l.length:Int)==1))))) []:=by
 have cn:=fR hs
 generalize dT s=bn at cn ⊢
 have cM:=dE (c1:=.v (.int .i64 4)) (c2:=.v (.int .i64 0)) (c3:=.v (.string s)) rfl rfl rfl (l:=l) 1
 have hq:bl [.v (.int .i64 4),.v (.int .i64 0),.v (.string s),.ro l.length 4 (acL l)]=true:=by simp [bl,clo,aL]
 all_goals cases bn
 all_goals
  refine ay func47 rfl rfl ?_
  repeat' (first|(apply av;first|refine bC ?_|(refine aK ?_ ?_<;>intro hG<;>(try cases hG))|refine ak ?_|refine ai ?_|refine ba ?_|refine aI ?_|refine aG cn ?_|refine aF 1 (cM) ?_ (hl:=cH (by rfl) hq)|refine ao ?_|refine aQ ?_|refine aA ?_|refine cB ?_|refine az ?_)|refine aj ?_|refine ab ?_|refine aa fun C=>?_|refine ac ?_|refine ah ?_|refine al ?_|(refine ae (by rfl) ?_ ?_<;>intro hC<;>(try cases hC)))
 all_goals first
  | (refine am ?_;refine bv rfl aJ ⟨?_,rfl⟩;first|rfl|(rw [show emB s=true from hG];rfl)|(rw [show emB s=false from hG];rfl)|(rw [Bool.and_true])|(rw [Bool.and_false])|(simp [*];done))
theorem wY {s:ByteArray}(hs:s.size≤1048576){l:List E}(hl:l.length≤1048576):Ctr prog 47 [.ag [.v (.int .i64 5),.v (.int .i64 0),.v (.string s),.ro l.length 4 (acL l)]] [] (.c (.v (.bool (emB s&&((l.length:Int)==1))))) []:=by
 have cM:=dE (c1:=.v (.int .i64 5)) (c2:=.v (.int .i64 0)) (c3:=.v (.string s)) rfl rfl rfl (l:=l) 1
 have hq:bl [.v (.int .i64 5),.v (.int .i64 0),.v (.string s),.ro l.length 4 (acL l)]=true:=by simp [bl,clo,aL]
 all_goals
  refine ay func47 rfl rfl ?_
  repeat' (first|(apply av;first|refine bC ?_|(refine aK ?_ ?_<;>intro hG<;>(try cases hG))|refine ak ?_|refine ai ?_|refine ba ?_|refine aI ?_|refine aF 1 (cM) ?_ (hl:=cH (by rfl) hq)|refine ao ?_|refine aC ?_|refine aQ ?_|refine aA ?_|refine cB ?_|refine az ?_)|refine aj ?_|refine ab ?_|refine aa fun C=>?_|refine ac ?_|refine ah ?_|refine al ?_|(refine ae (by rfl) ?_ ?_<;>intro hC<;>(try cases hC)))
 all_goals first
  | (refine am ?_;refine bv rfl aJ ⟨?_,rfl⟩;first|rfl|(rw [show emB s=true from hG];rfl)|(rw [show emB s=false from hG];rfl)|(rw [Bool.and_true])|(rw [Bool.and_false])|(simp [*];done))
theorem wZ {s:ByteArray}(hs:s.size≤1048576){l:List E}(hl:l.length≤1048576):Ctr prog 47 [.ag [.v (.int .i64 6),.v (.int .i64 0),.v (.string s),.ro l.length 4 (acL l)]] [] (.c (.v (.bool (lL mV s&&((l.length:Int)==2))))) []:=by
 have co:Ctr prog 80 [.c (.ro mV.length 1 (acL mV)),.c (.v (.string s))] [] (.c (.v (.bool (lL mV s)))) []:=lK wS pn (by decide) s
 generalize lL mV s=bo at co ⊢
 have c0:=zC
 have cM:=dE (c1:=.v (.int .i64 6)) (c2:=.v (.int .i64 0)) (c3:=.v (.string s)) rfl rfl rfl (l:=l) 2
 have hq:bl [.v (.int .i64 6),.v (.int .i64 0),.v (.string s),.ro l.length 4 (acL l)]=true:=by simp [bl,clo,aL]
 all_goals cases bo
 all_goals
  refine ay func47 rfl rfl ?_
  repeat' (first|(apply av;first|(refine aK ?_ ?_<;>intro hG<;>(try cases hG))|refine ai ?_|refine ba ?_|refine aI ?_|refine ao ?_|refine aQ ?_|refine aA ?_|refine cB ?_|refine az ?_)|refine aj ?_|refine ab ?_|(apply dc;first|refine fE ?_|(refine fB ?_ ?_<;>intro hG<;>(try cases hG))|(apply dx;refine aH ?_)|(apply ki;refine aH ?_)|refine d5 ?_|refine cg ?_|refine eG co ?_|refine eG c0 ?_|refine nz 1 (cM) ?_ (hl:=cH (by rfl) hq)|refine aH ?_)|refine aj ?_|refine ab ?_|refine aa fun C=>?_|refine au (by kernel_rfl) (by kernel_rfl) fun C=>?_|refine ac ?_|refine ah ?_|refine al ?_|(refine ae (by rfl) ?_ ?_<;>intro hC<;>(try cases hC)))
 all_goals first
  | (refine am ?_;refine bv rfl aJ ⟨?_,rfl⟩;first|rfl|(rw [show emB s=true from hG];rfl)|(rw [show emB s=false from hG];rfl)|(rw [Bool.and_true])|(rw [Bool.and_false])|(simp [*];done))
theorem xa {s:ByteArray}(hs:s.size≤1048576){l:List E}(hl:l.length≤1048576):Ctr prog 47 [.ag [.v (.int .i64 7),.v (.int .i64 0),.v (.string s),.ro l.length 4 (acL l)]] [] (.c (.v (.bool (emB s&&((l.length:Int)==1))))) []:=by
 have cM:=dE (c1:=.v (.int .i64 7)) (c2:=.v (.int .i64 0)) (c3:=.v (.string s)) rfl rfl rfl (l:=l) 1
 have hq:bl [.v (.int .i64 7),.v (.int .i64 0),.v (.string s),.ro l.length 4 (acL l)]=true:=by simp [bl,clo,aL]
 all_goals
  refine ay func47 rfl rfl ?_
  repeat' (first|(apply av;first|refine bC ?_|(refine aK ?_ ?_<;>intro hG<;>(try cases hG))|refine ak ?_|refine ai ?_|refine ba ?_|refine aI ?_|refine aF 1 (cM) ?_ (hl:=cH (by rfl) hq)|refine ao ?_|refine aC ?_|refine aQ ?_|refine aA ?_|refine cB ?_|refine az ?_)|refine aj ?_|refine ab ?_|refine aa fun C=>?_|refine ac ?_|refine ah ?_|refine al ?_|(refine ae (by rfl) ?_ ?_<;>intro hC<;>(try cases hC)))
 all_goals first
  | (refine am ?_;refine bv rfl aJ ⟨?_,rfl⟩;first|rfl|(rw [show emB s=true from hG];rfl)|(rw [show emB s=false from hG];rfl)|(rw [Bool.and_true])|(rw [Bool.and_false])|(simp [*];done))
theorem xb {s:ByteArray}(hs:s.size≤1048576){l:List E}(hl:l.length≤1048576):Ctr prog 47 [.ag [.v (.int .i64 8),.v (.int .i64 0),.v (.string s),.ro l.length 4 (acL l)]] [] (.c (.v (.bool (emB s&&((l.length:Int)==1))))) []:=by
 have cM:=dE (c1:=.v (.int .i64 8)) (c2:=.v (.int .i64 0)) (c3:=.v (.string s)) rfl rfl rfl (l:=l) 1
 have hq:bl [.v (.int .i64 8),.v (.int .i64 0),.v (.string s),.ro l.length 4 (acL l)]=true:=by simp [bl,clo,aL]
 all_goals
  refine ay func47 rfl rfl ?_
  repeat' (first|(apply av;first|refine bC ?_|(refine aK ?_ ?_<;>intro hG<;>(try cases hG))|refine ak ?_|refine ai ?_|refine ba ?_|refine aI ?_|refine aF 1 (cM) ?_ (hl:=cH (by rfl) hq)|refine ao ?_|refine aC ?_|refine aQ ?_|refine aA ?_|refine cB ?_|refine az ?_)|refine aj ?_|refine ab ?_|refine aa fun C=>?_|refine ac ?_|refine ah ?_|refine al ?_|(refine ae (by rfl) ?_ ?_<;>intro hC<;>(try cases hC)))
 all_goals first
  | (refine am ?_;refine bv rfl aJ ⟨?_,rfl⟩;first|rfl|(rw [show emB s=true from hG];rfl)|(rw [show emB s=false from hG];rfl)|(rw [Bool.and_true])|(rw [Bool.and_false])|(simp [*];done))
theorem xd {s:ByteArray}(hs:s.size≤1048576){l:List E}(hl:l.length≤1048576):Ctr prog 47 [.ag [.v (.int .i64 9),.v (.int .i64 0),.v (.string s),.ro l.length 4 (acL l)]] [] (.c (.v (.bool (dT s&&((l.length:Int)==1))))) []:=by
 have cn:=fR hs
 generalize dT s=bn at cn ⊢
 have cM:=dE (c1:=.v (.int .i64 9)) (c2:=.v (.int .i64 0)) (c3:=.v (.string s)) rfl rfl rfl (l:=l) 1
 have hq:bl [.v (.int .i64 9),.v (.int .i64 0),.v (.string s),.ro l.length 4 (acL l)]=true:=by simp [bl,clo,aL]
 all_goals cases bn
 all_goals
  refine ay func47 rfl rfl ?_
  repeat' (first|(apply av;first|refine bC ?_|(refine aK ?_ ?_<;>intro hG<;>(try cases hG))|refine ak ?_|refine ai ?_|refine ba ?_|refine aI ?_|refine aG cn ?_|refine aF 1 (cM) ?_ (hl:=cH (by rfl) hq)|refine ao ?_|refine aQ ?_|refine aA ?_|refine cB ?_|refine az ?_)|refine aj ?_|refine ab ?_|refine aa fun C=>?_|refine ac ?_|refine ah ?_|refine al ?_|(refine ae (by rfl) ?_ ?_<;>intro hC<;>(try cases hC)))
 all_goals first
  | (refine am ?_;refine bv rfl aJ ⟨?_,rfl⟩;first|rfl|(rw [show emB s=true from hG];rfl)|(rw [show emB s=false from hG];rfl)|(rw [Bool.and_true])|(rw [Bool.and_false])|(simp [*];done))
theorem tG {s:ByteArray}(hs:s.size≤1048576){l:List E}(hl:l.length≤1048576):Ctr prog 47 [.ag [.v (.int .i64 10),.v (.int .i64 0),.v (.string s),.ro l.length 4 (acL l)]] [] (.c (.v (.bool (((l.length:Int)==1)&&pR s)))) []:=by
 have cr:=mU hs
 generalize pR s=br at cr ⊢
 have cM:=dE (c1:=.v (.int .i64 10)) (c2:=.v (.int .i64 0)) (c3:=.v (.string s)) rfl rfl rfl (l:=l) 1
 generalize ((l.length:Int)==1)=bm at cM ⊢
 cases bm
 all_goals have hq:bl [.v (.int .i64 10),.v (.int .i64 0),.v (.string s),.ro l.length 4 (acL l)]=true:=by simp [bl,clo,aL]
 all_goals cases br
 all_goals
  refine ay func47 rfl rfl ?_
  repeat' (first|(apply av;first|refine bC ?_|(refine aK ?_ ?_<;>intro hG<;>(try cases hG))|refine ak ?_|refine ai ?_|refine ba ?_|refine aI ?_|refine aG cr ?_|refine aF 1 (cM) ?_ (hl:=cH (by rfl) hq)|refine ao ?_|refine aQ ?_|refine aA ?_|refine cB ?_|refine az ?_)|refine aj ?_|refine ab ?_|refine aa fun C=>?_|refine ac ?_|refine ah ?_|refine al ?_|(refine ae (by rfl) ?_ ?_<;>intro hC<;>(try cases hC)))
 all_goals first
  | (refine am ?_;refine bv rfl aJ ⟨?_,rfl⟩;first|rfl|(rw [show emB s=true from hG];rfl)|(rw [show emB s=false from hG];rfl)|(rw [Bool.and_true])|(rw [Bool.and_false])|(simp [*];done))
theorem tH {s:ByteArray}(hs:s.size≤1048576){l:List E}(hl:l.length≤1048576):Ctr prog 47 [.ag [.v (.int .i64 11),.v (.int .i64 0),.v (.string s),.ro l.length 4 (acL l)]] [] (.c (.v (.bool (dT s&&decide ((l.length:Int)≤4))))) []:=by
 have cn:=fR hs
 generalize dT s=bn at cn ⊢
 have hq:bl [.v (.int .i64 11),.v (.int .i64 0),.v (.string s),.ro l.length 4 (acL l)]=true:=by simp [bl,clo,aL]
 all_goals cases bn
 all_goals
  refine ay func47 rfl rfl ?_
  repeat' (first|(apply av;first|refine bC ?_|(refine aK ?_ ?_<;>intro hG<;>(try cases hG))|refine ai ?_|refine ba ?_|refine aI ?_|refine aG cn ?_|refine bN ?_|refine ao ?_|refine aQ ?_|refine cJ ?_|refine aA ?_|refine cB ?_|refine az ?_)|refine aj ?_|refine ab ?_|refine aa fun C=>?_|refine ac ?_|refine ah ?_|refine al ?_|(refine ae (by rfl) ?_ ?_<;>intro hC<;>(try cases hC)))
 all_goals first
  | (refine am ?_;refine bv rfl aJ ⟨?_,rfl⟩;first|rfl|(rw [show emB s=true from hG];rfl)|(rw [show emB s=false from hG];rfl)|(rw [Bool.and_true])|(rw [Bool.and_false])|(simp [*];done))
theorem tI {s:ByteArray}(hs:s.size≤1048576){l:List E}(hl:l.length≤1048576):Ctr prog 47 [.ag [.v (.int .i64 12),.v (.int .i64 0),.v (.string s),.ro l.length 4 (acL l)]] [] (.c (.v (.bool (emB s&&((l.length:Int)==1))))) []:=by
 have cM:=dE (c1:=.v (.int .i64 12)) (c2:=.v (.int .i64 0)) (c3:=.v (.string s)) rfl rfl rfl (l:=l) 1
 have hq:bl [.v (.int .i64 12),.v (.int .i64 0),.v (.string s),.ro l.length 4 (acL l)]=true:=by simp [bl,clo,aL]
 all_goals
  refine ay func47 rfl rfl ?_
  repeat' (first|(apply av;first|refine bC ?_|(refine aK ?_ ?_<;>intro hG<;>(try cases hG))|refine ak ?_|refine ai ?_|refine ba ?_|refine aI ?_|refine aF 1 (cM) ?_ (hl:=cH (by rfl) hq)|refine ao ?_|refine aC ?_|refine aQ ?_|refine aA ?_|refine cB ?_|refine az ?_)|refine aj ?_|refine ab ?_|refine aa fun C=>?_|refine ac ?_|refine ah ?_|refine al ?_|(refine ae (by rfl) ?_ ?_<;>intro hC<;>(try cases hC)))
 all_goals first
  | (refine am ?_;refine bv rfl aJ ⟨?_,rfl⟩;first|rfl|(rw [show emB s=true from hG];rfl)|(rw [show emB s=false from hG];rfl)|(rw [Bool.and_true])|(rw [Bool.and_false])|(simp [*];done))
theorem tJ {s:ByteArray}(hs:s.size≤1048576){l:List E}(hl:l.length≤1048576):Ctr prog 47 [.ag [.v (.int .i64 13),.v (.int .i64 0),.v (.string s),.ro l.length 4 (acL l)]] [] (.c (.v (.bool (emB s&&((l.length:Int)==3))))) []:=by
 have cM:=dE (c1:=.v (.int .i64 13)) (c2:=.v (.int .i64 0)) (c3:=.v (.string s)) rfl rfl rfl (l:=l) 3
 have hq:bl [.v (.int .i64 13),.v (.int .i64 0),.v (.string s),.ro l.length 4 (acL l)]=true:=by simp [bl,clo,aL]
 all_goals
  refine ay func47 rfl rfl ?_
  repeat' (first|(apply av;first|refine bC ?_|(refine aK ?_ ?_<;>intro hG<;>(try cases hG))|refine ak ?_|refine ai ?_|refine ba ?_|refine aI ?_|refine aF 1 (cM) ?_ (hl:=cH (by rfl) hq)|refine ao ?_|refine aC ?_|refine aQ ?_|refine aA ?_|refine cB ?_|refine az ?_)|refine aj ?_|refine ab ?_|refine aa fun C=>?_|refine ac ?_|refine ah ?_|refine al ?_|(refine ae (by rfl) ?_ ?_<;>intro hC<;>(try cases hC)))
 all_goals first
  | (refine am ?_;refine bv rfl aJ ⟨?_,rfl⟩;first|rfl|(rw [show emB s=true from hG];rfl)|(rw [show emB s=false from hG];rfl)|(rw [Bool.and_true])|(rw [Bool.and_false])|(simp [*];done))
theorem tK {s:ByteArray}(hs:s.size≤1048576){l:List E}(hl:l.length≤1048576):Ctr prog 47 [.ag [.v (.int .i64 14),.v (.int .i64 0),.v (.string s),.ro l.length 4 (acL l)]] [] (.c (.v (.bool (emB s&&((l.length:Int)==0))))) []:=by
 have cM:=dE (c1:=.v (.int .i64 14)) (c2:=.v (.int .i64 0)) (c3:=.v (.string s)) rfl rfl rfl (l:=l) 0
 have hq:bl [.v (.int .i64 14),.v (.int .i64 0),.v (.string s),.ro l.length 4 (acL l)]=true:=by simp [bl,clo,aL]
 all_goals
  refine ay func47 rfl rfl ?_
  repeat' (first|(apply av;first|refine bC ?_|(refine aK ?_ ?_<;>intro hG<;>(try cases hG))|refine ak ?_|refine ai ?_|refine ba ?_|refine aI ?_|refine aF 1 (cM) ?_ (hl:=cH (by rfl) hq)|refine ao ?_|refine aC ?_|refine aQ ?_|refine aA ?_|refine cB ?_|refine az ?_)|refine aj ?_|refine ab ?_|refine aa fun C=>?_|refine ac ?_|refine ah ?_|refine al ?_|(refine ae (by rfl) ?_ ?_<;>intro hC<;>(try cases hC)))
 all_goals first
  | (refine am ?_;refine bv rfl aJ ⟨?_,rfl⟩;first|rfl|(rw [show emB s=true from hG];rfl)|(rw [show emB s=false from hG];rfl)|(rw [Bool.and_true])|(rw [Bool.and_false])|(simp [*];done))
theorem tL {s:ByteArray}(hs:s.size≤1048576){l:List E}(hl:l.length≤1048576):Ctr prog 47 [.ag [.v (.int .i64 15),.v (.int .i64 0),.v (.string s),.ro l.length 4 (acL l)]] [] (.c (.v (.bool (emB s&&((l.length:Int)==0))))) []:=by
 have cM:=dE (c1:=.v (.int .i64 15)) (c2:=.v (.int .i64 0)) (c3:=.v (.string s)) rfl rfl rfl (l:=l) 0
 have hq:bl [.v (.int .i64 15),.v (.int .i64 0),.v (.string s),.ro l.length 4 (acL l)]=true:=by simp [bl,clo,aL]
 all_goals
  refine ay func47 rfl rfl ?_
  repeat' (first|(apply av;first|refine bC ?_|(refine aK ?_ ?_<;>intro hG<;>(try cases hG))|refine ak ?_|refine ai ?_|refine ba ?_|refine aI ?_|refine aF 1 (cM) ?_ (hl:=cH (by rfl) hq)|refine ao ?_|refine aC ?_|refine aQ ?_|refine aA ?_|refine cB ?_|refine az ?_)|refine aj ?_|refine ab ?_|refine aa fun C=>?_|refine ac ?_|refine ah ?_|refine al ?_|(refine ae (by rfl) ?_ ?_<;>intro hC<;>(try cases hC)))
 all_goals first
  | (refine am ?_;refine bv rfl aJ ⟨?_,rfl⟩;first|rfl|(rw [show emB s=true from hG];rfl)|(rw [show emB s=false from hG];rfl)|(rw [Bool.and_true])|(rw [Bool.and_false])|(simp [*];done))
theorem tM {s:ByteArray}(hs:s.size≤1048576){l:List E}(hl:l.length≤1048576):Ctr prog 47 [.ag [.v (.int .i64 16),.v (.int .i64 0),.v (.string s),.ro l.length 4 (acL l)]] [] (.c (.v (.bool (emB s&&((l.length:Int)==2))))) []:=by
 have cM:=dE (c1:=.v (.int .i64 16)) (c2:=.v (.int .i64 0)) (c3:=.v (.string s)) rfl rfl rfl (l:=l) 2
 have hq:bl [.v (.int .i64 16),.v (.int .i64 0),.v (.string s),.ro l.length 4 (acL l)]=true:=by simp [bl,clo,aL]
 all_goals
  refine ay func47 rfl rfl ?_
  repeat' (first|(apply av;first|refine bC ?_|(refine aK ?_ ?_<;>intro hG<;>(try cases hG))|refine ak ?_|refine ai ?_|refine ba ?_|refine aI ?_|refine aF 1 (cM) ?_ (hl:=cH (by rfl) hq)|refine ao ?_|refine aC ?_|refine aQ ?_|refine aA ?_|refine cB ?_|refine az ?_)|refine aj ?_|refine ab ?_|refine aa fun C=>?_|refine ac ?_|refine ah ?_|refine al ?_|(refine ae (by rfl) ?_ ?_<;>intro hC<;>(try cases hC)))
 all_goals first
  | (refine am ?_;refine bv rfl aJ ⟨?_,rfl⟩;first|rfl|(rw [show emB s=true from hG];rfl)|(rw [show emB s=false from hG];rfl)|(rw [Bool.and_true])|(rw [Bool.and_false])|(simp [*];done))
theorem tN {s:ByteArray}(hs:s.size≤1048576){l:List E}(hl:l.length≤1048576):Ctr prog 47 [.ag [.v (.int .i64 17),.v (.int .i64 0),.v (.string s),.ro l.length 4 (acL l)]] [] (.c (.v (.bool (emB s&&((l.length:Int)==1))))) []:=by
 have cM:=dE (c1:=.v (.int .i64 17)) (c2:=.v (.int .i64 0)) (c3:=.v (.string s)) rfl rfl rfl (l:=l) 1
 have hq:bl [.v (.int .i64 17),.v (.int .i64 0),.v (.string s),.ro l.length 4 (acL l)]=true:=by simp [bl,clo,aL]
 all_goals
  refine ay func47 rfl rfl ?_
  repeat' (first|(apply av;first|refine bC ?_|(refine aK ?_ ?_<;>intro hG<;>(try cases hG))|refine ak ?_|refine ai ?_|refine ba ?_|refine aI ?_|refine aF 1 (cM) ?_ (hl:=cH (by rfl) hq)|refine ao ?_|refine aC ?_|refine aQ ?_|refine aA ?_|refine cB ?_|refine az ?_)|refine aj ?_|refine ab ?_|refine aa fun C=>?_|refine ac ?_|refine ah ?_|refine al ?_|(refine ae (by rfl) ?_ ?_<;>intro hC<;>(try cases hC)))
 all_goals first
  | (refine am ?_;refine bv rfl aJ ⟨?_,rfl⟩;first|rfl|(rw [show emB s=true from hG];rfl)|(rw [show emB s=false from hG];rfl)|(rw [Bool.and_true])|(rw [Bool.and_false])|(simp [*];done))
theorem tO {s:ByteArray}(hs:s.size≤1048576){l:List E}(hl:l.length≤1048576):Ctr prog 47 [.ag [.v (.int .i64 18),.v (.int .i64 0),.v (.string s),.ro l.length 4 (acL l)]] [] (.c (.v (.bool (((l.length:Int)==2)&&pR s)))) []:=by
 have cr:=mU hs
 generalize pR s=br at cr ⊢
 have cM:=dE (c1:=.v (.int .i64 18)) (c2:=.v (.int .i64 0)) (c3:=.v (.string s)) rfl rfl rfl (l:=l) 2
 generalize ((l.length:Int)==2)=bm at cM ⊢
 cases bm
 all_goals have hq:bl [.v (.int .i64 18),.v (.int .i64 0),.v (.string s),.ro l.length 4 (acL l)]=true:=by simp [bl,clo,aL]
 all_goals cases br
 all_goals
  refine ay func47 rfl rfl ?_
  repeat' (first|(apply av;first|refine bC ?_|(refine aK ?_ ?_<;>intro hG<;>(try cases hG))|refine ak ?_|refine ai ?_|refine ba ?_|refine aI ?_|refine aG cr ?_|refine aF 1 (cM) ?_ (hl:=cH (by rfl) hq)|refine ao ?_|refine aQ ?_|refine aA ?_|refine cB ?_|refine az ?_)|refine aj ?_|refine ab ?_|refine aa fun C=>?_|refine ac ?_|refine ah ?_|refine al ?_|(refine ae (by rfl) ?_ ?_<;>intro hC<;>(try cases hC)))
 all_goals first
  | (refine am ?_;refine bv rfl aJ ⟨?_,rfl⟩;first|rfl|(rw [show emB s=true from hG];rfl)|(rw [show emB s=false from hG];rfl)|(rw [Bool.and_true])|(rw [Bool.and_false])|(simp [*];done))
theorem xe {s:ByteArray}(hs:s.size≤1048576){l:List E}(hl:l.length≤1048576)(n:Int):Ctr prog 47 [.ag [.v (.int .i64 1),.v (.int .i64 n),.v (.string s),.ro l.length 4 (acL l)]] [] (.c (.v (.bool (inR n 0 2147483647&&(emB s&&((l.length:Int)==0)))))) []:=by
 have cw:=hX n 0 2147483647
 generalize inR n 0 2147483647=bw at cw ⊢
 have hq:bl [.v (.int .i64 1),.v (.int .i64 n),.v (.string s),.ro l.length 4 (acL l)]=true:=by simp [bl,clo,aL]
 have cM:=dE (c1:=.v (.int .i64 1)) (c2:=.v (.int .i64 n)) (c3:=.v (.string s)) rfl rfl rfl (l:=l) 0
 cases bw
 all_goals
  refine ay func47 rfl rfl ?_
  repeat' (first|(apply av;first|refine bC ?_|(refine aK ?_ ?_<;>intro hG<;>(try cases hG))|refine ak ?_|refine ai ?_|refine ba ?_|refine aI ?_|refine aG cw ?_|refine aF 1 (cM) ?_ (hl:=cH (by rfl) hq)|refine ao ?_|refine aC ?_|refine aQ ?_|refine aA ?_|refine cB ?_|refine az ?_)|refine aj ?_|refine ab ?_|refine aa fun C=>?_|refine ac ?_|refine ah ?_|refine al ?_|(refine ae (by rfl) ?_ ?_<;>intro hC<;>(try cases hC)))
 all_goals first
  | (refine am ?_;refine bv rfl aJ ⟨?_,rfl⟩;first|rfl|(rw [show emB s=true from hG];rfl)|(rw [show emB s=false from hG];rfl)|(rw [Bool.and_true])|(rw [Bool.and_false])|(simp [*];done))
theorem xf {s:ByteArray}(hs:s.size≤1048576){l:List E}(hl:l.length≤1048576){k n:Int}(hk:¬k=1)(hn:¬n=0):Ctr prog 47 [.ag [.v (.int .i64 k),.v (.int .i64 n),.v (.string s),.ro l.length 4 (acL l)]] [] (.c (.v (.bool false))) []:=by
 refine ay func47 rfl rfl ?_
 repeat' (first|(apply av;first|refine bC ?_|(refine aK ?_ ?_<;>intro hG<;>(try cases hG))|refine ai ?_|refine ba ?_|refine aI ?_|refine aQ ?_|refine aA ?_|refine cB ?_|refine az ?_)|refine aj ?_|refine ab ?_|refine aa fun C=>?_|refine ac ?_)
 ·refine ae (by rfl) (fun hC=>?_) fun hC=>absurd (by simpa using hC) hn
  repeat' (first|(apply av;refine ai ?_)|refine aj ?_|refine ab ?_|refine aa fun C=>?_|refine ac ?_)
  exact eo
 ·exact absurd (by simpa using hG) hk
theorem xg {s:ByteArray}(hs:s.size≤1048576){l:List E}(hl:l.length≤1048576){k:Int}(h1:¬k=1)(h2:¬k=2)(h3:¬k=3)(h4:¬k=4)(h5:¬k=5)(h6:¬k=6)(h7:¬k=7)(h8:¬k=8)(h9:¬k=9)(h10:¬k=10)(h11:¬k=11)(h12:¬k=12)(h13:¬k=13)(h14:¬k=14)(h15:¬k=15)(h16:¬k=16)(h17:¬k=17)(h18:¬k=18):Ctr prog 47 [.ag [.v (.int .i64 k),.v (.int .i64 0),.v (.string s),.ro l.length 4 (acL l)]] [] (.c (.v (.bool false))) []:=by
 refine ay func47 rfl rfl ?_
 repeat' (first|(apply av;first|refine bC ?_|(refine aK ?_ ?_<;>intro hG<;>(try cases hG))|refine ai ?_|refine ba ?_|refine aI ?_|refine aQ ?_|refine aA ?_|refine cB ?_|refine az ?_)|refine aj ?_|refine ab ?_|refine aa fun C=>?_|refine ac ?_)
 rotate_left
 ·exact absurd (by simpa using hG) h1
 refine ar rfl ?_
 repeat' (first|(apply av;first|refine ai ?_|refine ba ?_|refine aI ?_|refine ao ?_)|refine aj ?_|refine ab ?_|refine aa fun C=>?_|refine ac ?_|refine ah ?_|refine al ?_)
 iterate 40 ((try (first|refine ae (by rfl) (fun hC=>absurd (eq_of_beq hC) (by assumption)) fun hC=>?_|refine ar rfl ?_));(try repeat' (first|(apply av;first|refine ai ?_|refine ao ?_)|refine aj ?_|refine ab ?_|refine aa fun C=>?_|refine ac ?_|refine al ?_)))
 exact eo
theorem tP {k n:Int}{s:ByteArray}(hs:s.size≤1048576){l:List E}(hl:l.length≤1048576):Ctr prog 47 [.ag [.v (.int .i64 k),.v (.int .i64 n),.v (.string s),.ro l.length 4 (acL l)]] [] (.c (.v (.bool (eP k n s l.length)))) []:=by
 by_cases h1:k=1
 ·subst h1
  exact xe hs hl n
 by_cases hn:n=0
 ·subst hn
  by_cases h2:k=2
  ·subst h2
   exact wV hs hl
  by_cases h3:k=3
  ·subst h3
   exact wW hs hl
  by_cases h4:k=4
  ·subst h4
   exact wX hs hl
  by_cases h5:k=5
  ·subst h5
   exact wY hs hl
  by_cases h6:k=6
  ·subst h6
   exact wZ hs hl
  by_cases h7:k=7
  ·subst h7
   exact xa hs hl
  by_cases h8:k=8
  ·subst h8
   exact xb hs hl
  by_cases h9:k=9
  ·subst h9
   exact xd hs hl
  by_cases h10:k=10
  ·subst h10
   exact tG hs hl
  by_cases h11:k=11
  ·subst h11
   exact tH hs hl
  by_cases h12:k=12
  ·subst h12
   exact tI hs hl
  by_cases h13:k=13
  ·subst h13
   exact tJ hs hl
  by_cases h14:k=14
  ·subst h14
   exact tK hs hl
  by_cases h15:k=15
  ·subst h15
   exact tL hs hl
  by_cases h16:k=16
  ·subst h16
   exact tM hs hl
  by_cases h17:k=17
  ·subst h17
   exact tN hs hl
  by_cases h18:k=18
  ·subst h18
   exact tO hs hl
  rw [show eP k 0 s l.length=false by simp [eP, *]]
  exact xg hs hl h1 h2 h3 h4 h5 h6 h7 h8 h9 h10 h11 h12 h13 h14 h15 h16 h17 h18
 ·rw [show eP k n s l.length=false by simp [eP, *]]
  exact xf hs hl h1 hn
end Go.Proofs.YtomolhbkdhjofaaGreatDoor
