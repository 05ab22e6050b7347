/- T -/
import Derived.Test.YtomolhbkdhjofaaGreatDoorExAW
set_option maxHeartbeats 0
set_option maxRecDepth 100000
namespace Go.Proofs.YtomolhbkdhjofaaGreatDoor
open Go.RowKit Go.Proofs.Tryz
theorem dq {c1 c2 c3:AC}(h1:clo c1=true)(h2:clo c2=true)(h3:clo c3=true){l:List E}(j:Int):Ctr prog 77 [.c (.v (.int .i64 j)),.c (.pt 0 0)] [[c1,c2,c3,.ro l.length 4 (acL l)]] (.c (.v (.bool ((l.length:Int)==j)))) [[c1,c2,c3,.ro l.length 4 (acL l)]]:=by
 refine av func77 rfl rfl ?_
 repeat' (first|(apply ay;first|refine al ?_|refine ai ?_|refine bj ?_|refine aI ?_|refine bE ?_|refine ao ?_)|refine ak ?_|refine ab ?_|refine aa fun C=>?_|refine ac ?_)
 refine am ?_
 refine dw rfl aH rfl (by simp [bi,clo,aG,h1,h2,h3]) rfl ⟨?_,?_⟩
 all_goals rfl
theorem vR {s:ByteArray}(hs:s.size≤1048576){l:List E}(hl:l.length≤1048576):Ctr prog 47 [.ag [.v (.int .i64 2),.v (.int .i64 0),.v (.string s),.ro l.length 4 (acL l)]] [] (.c (.v (.bool (df 39 s&&((l.length:Int)==0))))) []:=by
 have ct:=qH hs
 generalize df 39 s=bt at ct ⊢
 have cM:=dq (c1:=.v (.int .i64 2)) (c2:=.v (.int .i64 0)) (c3:=.v (.string s)) rfl rfl rfl (l:=l) 0
 have hq:bi [.v (.int .i64 2),.v (.int .i64 0),.v (.string s),.ro l.length 4 (acL l)]=true:=by simp [bi,clo,aG]
 all_goals cases bt
 all_goals
  refine av func47 rfl rfl ?_
  repeat' (first|(apply ay;first|refine bX ?_|(refine aR ?_ ?_<;>intro hG<;>(try cases hG))|refine al ?_|refine ai ?_|refine bj ?_|refine aI ?_|refine aF ct ?_|refine aK 1 (cM) ?_ (hl:=bz (by rfl) hq)|refine ao ?_|refine aS ?_|refine aB ?_|refine cA ?_|refine az ?_)|refine ak ?_|refine ab ?_|refine aa fun C=>?_|refine ac ?_|refine ah ?_|refine aj ?_|(refine ae (by rfl) ?_ ?_<;>intro hC<;>(try cases hC)))
 all_goals first
  | (refine am ?_;refine bv rfl aH ⟨?_,rfl⟩;first|rfl|(rw [show emB s=true from hG];rfl)|(rw [show emB s=false from hG];rfl)|(rw [Bool.and_true])|(rw [Bool.and_false])|(simp [*];done))
theorem vS {s:ByteArray}(hs:s.size≤1048576){l:List E}(hl:l.length≤1048576):Ctr prog 47 [.ag [.v (.int .i64 3),.v (.int .i64 0),.v (.string s),.ro l.length 4 (acL l)]] [] (.c (.v (.bool (dK s&&((l.length:Int)==0))))) []:=by
 have cn:=fc hs
 generalize dK s=bn at cn ⊢
 have cM:=dq (c1:=.v (.int .i64 3)) (c2:=.v (.int .i64 0)) (c3:=.v (.string s)) rfl rfl rfl (l:=l) 0
 have hq:bi [.v (.int .i64 3),.v (.int .i64 0),.v (.string s),.ro l.length 4 (acL l)]=true:=by simp [bi,clo,aG]
 all_goals cases bn
 all_goals
  refine av func47 rfl rfl ?_
  repeat' (first|(apply ay;first|refine bX ?_|(refine aR ?_ ?_<;>intro hG<;>(try cases hG))|refine al ?_|refine ai ?_|refine bj ?_|refine aI ?_|refine aF cn ?_|refine aK 1 (cM) ?_ (hl:=bz (by rfl) hq)|refine ao ?_|refine aS ?_|refine aB ?_|refine cA ?_|refine az ?_)|refine ak ?_|refine ab ?_|refine aa fun C=>?_|refine ac ?_|refine ah ?_|refine aj ?_|(refine ae (by rfl) ?_ ?_<;>intro hC<;>(try cases hC)))
 all_goals first
  | (refine am ?_;refine bv rfl aH ⟨?_,rfl⟩;first|rfl|(rw [show emB s=true from hG];rfl)|(rw [show emB s=false from hG];rfl)|(rw [Bool.and_true])|(rw [Bool.and_false])|(simp [*];done))
theorem vT {s:ByteArray}(hs:s.size≤1048576){l:List E}(hl:l.length≤1048576):Ctr prog 47 [.ag [.v (.int .i64 4),.v (.int .i64 0),.v (.string s),.ro l.length 4 (acL l)]] [] (.c (.v (.bool (dK s&&((l.length:Int)==1))))) []:=by
 have cn:=fc hs
 generalize dK s=bn at cn ⊢
 have cM:=dq (c1:=.v (.int .i64 4)) (c2:=.v (.int .i64 0)) (c3:=.v (.string s)) rfl rfl rfl (l:=l) 1
 have hq:bi [.v (.int .i64 4),.v (.int .i64 0),.v (.string s),.ro l.length 4 (acL l)]=true:=by simp [bi,clo,aG]
 all_goals cases bn
 all_goals
  refine av func47 rfl rfl ?_
  repeat' (first|(apply ay;first|refine bX ?_|(refine aR ?_ ?_<;>intro hG<;>(try cases hG))|refine al ?_|refine ai ?_|refine bj ?_|refine aI ?_|refine aF cn ?_|refine aK 1 (cM) ?_ (hl:=bz (by rfl) hq)|refine ao ?_|refine aS ?_|refine aB ?_|refine cA ?_|refine az ?_)|refine ak ?_|refine ab ?_|refine aa fun C=>?_|refine ac ?_|refine ah ?_|refine aj ?_|(refine ae (by rfl) ?_ ?_<;>intro hC<;>(try cases hC)))
 all_goals first
  | (refine am ?_;refine bv rfl aH ⟨?_,rfl⟩;first|rfl|(rw [show emB s=true from hG];rfl)|(rw [show emB s=false from hG];rfl)|(rw [Bool.and_true])|(rw [Bool.and_false])|(simp [*];done))
theorem vU {s:ByteArray}(hs:s.size≤1048576){l:List E}(hl:l.length≤1048576):Ctr prog 47 [.ag [.v (.int .i64 5),.v (.int .i64 0),.v (.string s),.ro l.length 4 (acL l)]] [] (.c (.v (.bool (emB s&&((l.length:Int)==1))))) []:=by
 have cM:=dq (c1:=.v (.int .i64 5)) (c2:=.v (.int .i64 0)) (c3:=.v (.string s)) rfl rfl rfl (l:=l) 1
 have hq:bi [.v (.int .i64 5),.v (.int .i64 0),.v (.string s),.ro l.length 4 (acL l)]=true:=by simp [bi,clo,aG]
 all_goals
  refine av func47 rfl rfl ?_
  repeat' (first|(apply ay;first|refine bX ?_|(refine aR ?_ ?_<;>intro hG<;>(try cases hG))|refine al ?_|refine ai ?_|refine bj ?_|refine aI ?_|refine aK 1 (cM) ?_ (hl:=bz (by rfl) hq)|refine ao ?_|refine aQ ?_|refine aS ?_|refine aB ?_|refine cA ?_|refine az ?_)|refine ak ?_|refine ab ?_|refine aa fun C=>?_|refine ac ?_|refine ah ?_|refine aj ?_|(refine ae (by rfl) ?_ ?_<;>intro hC<;>(try cases hC)))
 all_goals first
  | (refine am ?_;refine bv rfl aH ⟨?_,rfl⟩;first|rfl|(rw [show emB s=true from hG];rfl)|(rw [show emB s=false from hG];rfl)|(rw [Bool.and_true])|(rw [Bool.and_false])|(simp [*];done))
theorem vV {s:ByteArray}(hs:s.size≤1048576){l:List E}(hl:l.length≤1048576):Ctr prog 47 [.ag [.v (.int .i64 6),.v (.int .i64 0),.v (.string s),.ro l.length 4 (acL l)]] [] (.c (.v (.bool (kU kT s&&((l.length:Int)==2))))) []:=by
 have co:Ctr prog 80 [.c (.ro kT.length 1 (acL kT)),.c (.v (.string s))] [] (.c (.v (.bool (kU kT s)))) []:=kS vN oA (by decide) s
 generalize kU kT s=bo at co ⊢
 have c0:=yg
 have cM:=dq (c1:=.v (.int .i64 6)) (c2:=.v (.int .i64 0)) (c3:=.v (.string s)) rfl rfl rfl (l:=l) 2
 have hq:bi [.v (.int .i64 6),.v (.int .i64 0),.v (.string s),.ro l.length 4 (acL l)]=true:=by simp [bi,clo,aG]
 all_goals cases bo
 all_goals
  refine av func47 rfl rfl ?_
  repeat' (first|(apply ay;first|(refine aR ?_ ?_<;>intro hG<;>(try cases hG))|refine ai ?_|refine bj ?_|refine aI ?_|refine ao ?_|refine aS ?_|refine aB ?_|refine cA ?_|refine az ?_)|refine ak ?_|refine ab ?_|(apply dC;first|refine iu ?_|(refine ik ?_ ?_<;>intro hG<;>(try cases hG))|(apply ep;refine aN ?_)|(apply mG;refine aN ?_)|refine fA ?_|refine cY ?_|refine ex co ?_|refine ex c0 ?_|refine pm 1 (cM) ?_ (hl:=bz (by rfl) hq)|refine aN ?_)|refine ak ?_|refine ab ?_|refine aa fun C=>?_|refine ar (by kernel_rfl) (by kernel_rfl) fun C=>?_|refine ac ?_|refine ah ?_|refine aj ?_|(refine ae (by rfl) ?_ ?_<;>intro hC<;>(try cases hC)))
 all_goals first
  | (refine am ?_;refine bv rfl aH ⟨?_,rfl⟩;first|rfl|(rw [show emB s=true from hG];rfl)|(rw [show emB s=false from hG];rfl)|(rw [Bool.and_true])|(rw [Bool.and_false])|(simp [*];done))
theorem vW {s:ByteArray}(hs:s.size≤1048576){l:List E}(hl:l.length≤1048576):Ctr prog 47 [.ag [.v (.int .i64 7),.v (.int .i64 0),.v (.string s),.ro l.length 4 (acL l)]] [] (.c (.v (.bool (emB s&&((l.length:Int)==1))))) []:=by
 have cM:=dq (c1:=.v (.int .i64 7)) (c2:=.v (.int .i64 0)) (c3:=.v (.string s)) rfl rfl rfl (l:=l) 1
 have hq:bi [.v (.int .i64 7),.v (.int .i64 0),.v (.string s),.ro l.length 4 (acL l)]=true:=by simp [bi,clo,aG]
 all_goals
  refine av func47 rfl rfl ?_
  repeat' (first|(apply ay;first|refine bX ?_|(refine aR ?_ ?_<;>intro hG<;>(try cases hG))|refine al ?_|refine ai ?_|refine bj ?_|refine aI ?_|refine aK 1 (cM) ?_ (hl:=bz (by rfl) hq)|refine ao ?_|refine aQ ?_|refine aS ?_|refine aB ?_|refine cA ?_|refine az ?_)|refine ak ?_|refine ab ?_|refine aa fun C=>?_|refine ac ?_|refine ah ?_|refine aj ?_|(refine ae (by rfl) ?_ ?_<;>intro hC<;>(try cases hC)))
 all_goals first
  | (refine am ?_;refine bv rfl aH ⟨?_,rfl⟩;first|rfl|(rw [show emB s=true from hG];rfl)|(rw [show emB s=false from hG];rfl)|(rw [Bool.and_true])|(rw [Bool.and_false])|(simp [*];done))
theorem vX {s:ByteArray}(hs:s.size≤1048576){l:List E}(hl:l.length≤1048576):Ctr prog 47 [.ag [.v (.int .i64 8),.v (.int .i64 0),.v (.string s),.ro l.length 4 (acL l)]] [] (.c (.v (.bool (emB s&&((l.length:Int)==1))))) []:=by
 have cM:=dq (c1:=.v (.int .i64 8)) (c2:=.v (.int .i64 0)) (c3:=.v (.string s)) rfl rfl rfl (l:=l) 1
 have hq:bi [.v (.int .i64 8),.v (.int .i64 0),.v (.string s),.ro l.length 4 (acL l)]=true:=by simp [bi,clo,aG]
 all_goals
  refine av func47 rfl rfl ?_
  repeat' (first|(apply ay;first|refine bX ?_|(refine aR ?_ ?_<;>intro hG<;>(try cases hG))|refine al ?_|refine ai ?_|refine bj ?_|refine aI ?_|refine aK 1 (cM) ?_ (hl:=bz (by rfl) hq)|refine ao ?_|refine aQ ?_|refine aS ?_|refine aB ?_|refine cA ?_|refine az ?_)|refine ak ?_|refine ab ?_|refine aa fun C=>?_|refine ac ?_|refine ah ?_|refine aj ?_|(refine ae (by rfl) ?_ ?_<;>intro hC<;>(try cases hC)))
 all_goals first
  | (refine am ?_;refine bv rfl aH ⟨?_,rfl⟩;first|rfl|(rw [show emB s=true from hG];rfl)|(rw [show emB s=false from hG];rfl)|(rw [Bool.and_true])|(rw [Bool.and_false])|(simp [*];done))
theorem vY {s:ByteArray}(hs:s.size≤1048576){l:List E}(hl:l.length≤1048576):Ctr prog 47 [.ag [.v (.int .i64 9),.v (.int .i64 0),.v (.string s),.ro l.length 4 (acL l)]] [] (.c (.v (.bool (dK s&&((l.length:Int)==1))))) []:=by
 have cn:=fc hs
 generalize dK s=bn at cn ⊢
 have cM:=dq (c1:=.v (.int .i64 9)) (c2:=.v (.int .i64 0)) (c3:=.v (.string s)) rfl rfl rfl (l:=l) 1
 have hq:bi [.v (.int .i64 9),.v (.int .i64 0),.v (.string s),.ro l.length 4 (acL l)]=true:=by simp [bi,clo,aG]
 all_goals cases bn
 all_goals
  refine av func47 rfl rfl ?_
  repeat' (first|(apply ay;first|refine bX ?_|(refine aR ?_ ?_<;>intro hG<;>(try cases hG))|refine al ?_|refine ai ?_|refine bj ?_|refine aI ?_|refine aF cn ?_|refine aK 1 (cM) ?_ (hl:=bz (by rfl) hq)|refine ao ?_|refine aS ?_|refine aB ?_|refine cA ?_|refine az ?_)|refine ak ?_|refine ab ?_|refine aa fun C=>?_|refine ac ?_|refine ah ?_|refine aj ?_|(refine ae (by rfl) ?_ ?_<;>intro hC<;>(try cases hC)))
 all_goals first
  | (refine am ?_;refine bv rfl aH ⟨?_,rfl⟩;first|rfl|(rw [show emB s=true from hG];rfl)|(rw [show emB s=false from hG];rfl)|(rw [Bool.and_true])|(rw [Bool.and_false])|(simp [*];done))
theorem sw {s:ByteArray}(hs:s.size≤1048576){l:List E}(hl:l.length≤1048576):Ctr prog 47 [.ag [.v (.int .i64 10),.v (.int .i64 0),.v (.string s),.ro l.length 4 (acL l)]] [] (.c (.v (.bool (((l.length:Int)==1)&&oY s)))) []:=by
 have cr:=ma hs
 generalize oY s=br at cr ⊢
 have cM:=dq (c1:=.v (.int .i64 10)) (c2:=.v (.int .i64 0)) (c3:=.v (.string s)) rfl rfl rfl (l:=l) 1
 generalize ((l.length:Int)==1)=bm at cM ⊢
 cases bm
 all_goals have hq:bi [.v (.int .i64 10),.v (.int .i64 0),.v (.string s),.ro l.length 4 (acL l)]=true:=by simp [bi,clo,aG]
 all_goals cases br
 all_goals
  refine av func47 rfl rfl ?_
  repeat' (first|(apply ay;first|refine bX ?_|(refine aR ?_ ?_<;>intro hG<;>(try cases hG))|refine al ?_|refine ai ?_|refine bj ?_|refine aI ?_|refine aF cr ?_|refine aK 1 (cM) ?_ (hl:=bz (by rfl) hq)|refine ao ?_|refine aS ?_|refine aB ?_|refine cA ?_|refine az ?_)|refine ak ?_|refine ab ?_|refine aa fun C=>?_|refine ac ?_|refine ah ?_|refine aj ?_|(refine ae (by rfl) ?_ ?_<;>intro hC<;>(try cases hC)))
 all_goals first
  | (refine am ?_;refine bv rfl aH ⟨?_,rfl⟩;first|rfl|(rw [show emB s=true from hG];rfl)|(rw [show emB s=false from hG];rfl)|(rw [Bool.and_true])|(rw [Bool.and_false])|(simp [*];done))
theorem sx {s:ByteArray}(hs:s.size≤1048576){l:List E}(hl:l.length≤1048576):Ctr prog 47 [.ag [.v (.int .i64 11),.v (.int .i64 0),.v (.string s),.ro l.length 4 (acL l)]] [] (.c (.v (.bool (dK s&&decide ((l.length:Int)≤4))))) []:=by
 have cn:=fc hs
 generalize dK s=bn at cn ⊢
 have hq:bi [.v (.int .i64 11),.v (.int .i64 0),.v (.string s),.ro l.length 4 (acL l)]=true:=by simp [bi,clo,aG]
 all_goals cases bn
 all_goals
  refine av func47 rfl rfl ?_
  repeat' (first|(apply ay;first|refine bX ?_|(refine aR ?_ ?_<;>intro hG<;>(try cases hG))|refine ai ?_|refine bj ?_|refine aI ?_|refine aF cn ?_|refine bE ?_|refine ao ?_|refine aS ?_|refine bG ?_|refine aB ?_|refine cA ?_|refine az ?_)|refine ak ?_|refine ab ?_|refine aa fun C=>?_|refine ac ?_|refine ah ?_|refine aj ?_|(refine ae (by rfl) ?_ ?_<;>intro hC<;>(try cases hC)))
 all_goals first
  | (refine am ?_;refine bv rfl aH ⟨?_,rfl⟩;first|rfl|(rw [show emB s=true from hG];rfl)|(rw [show emB s=false from hG];rfl)|(rw [Bool.and_true])|(rw [Bool.and_false])|(simp [*];done))
theorem sA {s:ByteArray}(hs:s.size≤1048576){l:List E}(hl:l.length≤1048576):Ctr prog 47 [.ag [.v (.int .i64 12),.v (.int .i64 0),.v (.string s),.ro l.length 4 (acL l)]] [] (.c (.v (.bool (emB s&&((l.length:Int)==1))))) []:=by
 have cM:=dq (c1:=.v (.int .i64 12)) (c2:=.v (.int .i64 0)) (c3:=.v (.string s)) rfl rfl rfl (l:=l) 1
 have hq:bi [.v (.int .i64 12),.v (.int .i64 0),.v (.string s),.ro l.length 4 (acL l)]=true:=by simp [bi,clo,aG]
 all_goals
  refine av func47 rfl rfl ?_
  repeat' (first|(apply ay;first|refine bX ?_|(refine aR ?_ ?_<;>intro hG<;>(try cases hG))|refine al ?_|refine ai ?_|refine bj ?_|refine aI ?_|refine aK 1 (cM) ?_ (hl:=bz (by rfl) hq)|refine ao ?_|refine aQ ?_|refine aS ?_|refine aB ?_|refine cA ?_|refine az ?_)|refine ak ?_|refine ab ?_|refine aa fun C=>?_|refine ac ?_|refine ah ?_|refine aj ?_|(refine ae (by rfl) ?_ ?_<;>intro hC<;>(try cases hC)))
 all_goals first
  | (refine am ?_;refine bv rfl aH ⟨?_,rfl⟩;first|rfl|(rw [show emB s=true from hG];rfl)|(rw [show emB s=false from hG];rfl)|(rw [Bool.and_true])|(rw [Bool.and_false])|(simp [*];done))
theorem sB {s:ByteArray}(hs:s.size≤1048576){l:List E}(hl:l.length≤1048576):Ctr prog 47 [.ag [.v (.int .i64 13),.v (.int .i64 0),.v (.string s),.ro l.length 4 (acL l)]] [] (.c (.v (.bool (emB s&&((l.length:Int)==3))))) []:=by
 have cM:=dq (c1:=.v (.int .i64 13)) (c2:=.v (.int .i64 0)) (c3:=.v (.string s)) rfl rfl rfl (l:=l) 3
 have hq:bi [.v (.int .i64 13),.v (.int .i64 0),.v (.string s),.ro l.length 4 (acL l)]=true:=by simp [bi,clo,aG]
 all_goals
  refine av func47 rfl rfl ?_
  repeat' (first|(apply ay;first|refine bX ?_|(refine aR ?_ ?_<;>intro hG<;>(try cases hG))|refine al ?_|refine ai ?_|refine bj ?_|refine aI ?_|refine aK 1 (cM) ?_ (hl:=bz (by rfl) hq)|refine ao ?_|refine aQ ?_|refine aS ?_|refine aB ?_|refine cA ?_|refine az ?_)|refine ak ?_|refine ab ?_|refine aa fun C=>?_|refine ac ?_|refine ah ?_|refine aj ?_|(refine ae (by rfl) ?_ ?_<;>intro hC<;>(try cases hC)))
 all_goals first
  | (refine am ?_;refine bv rfl aH ⟨?_,rfl⟩;first|rfl|(rw [show emB s=true from hG];rfl)|(rw [show emB s=false from hG];rfl)|(rw [Bool.and_true])|(rw [Bool.and_false])|(simp [*];done))
theorem sC {s:ByteArray}(hs:s.size≤1048576){l:List E}(hl:l.length≤1048576):Ctr prog 47 [.ag [.v (.int .i64 14),.v (.int .i64 0),.v (.string s),.ro l.length 4 (acL l)]] [] (.c (.v (.bool (emB s&&((l.length:Int)==0))))) []:=by
 have cM:=dq (c1:=.v (.int .i64 14)) (c2:=.v (.int .i64 0)) (c3:=.v (.string s)) rfl rfl rfl (l:=l) 0
 have hq:bi [.v (.int .i64 14),.v (.int .i64 0),.v (.string s),.ro l.length 4 (acL l)]=true:=by simp [bi,clo,aG]
 all_goals
  refine av func47 rfl rfl ?_
  repeat' (first|(apply ay;first|refine bX ?_|(refine aR ?_ ?_<;>intro hG<;>(try cases hG))|refine al ?_|refine ai ?_|refine bj ?_|refine aI ?_|refine aK 1 (cM) ?_ (hl:=bz (by rfl) hq)|refine ao ?_|refine aQ ?_|refine aS ?_|refine aB ?_|refine cA ?_|refine az ?_)|refine ak ?_|refine ab ?_|refine aa fun C=>?_|refine ac ?_|refine ah ?_|refine aj ?_|(refine ae (by rfl) ?_ ?_<;>intro hC<;>(try cases hC)))
 all_goals first
  | (refine am ?_;refine bv rfl aH ⟨?_,rfl⟩;first|rfl|(rw [show emB s=true from hG];rfl)|(rw [show emB s=false from hG];rfl)|(rw [Bool.and_true])|(rw [Bool.and_false])|(simp [*];done))
theorem sD {s:ByteArray}(hs:s.size≤1048576){l:List E}(hl:l.length≤1048576):Ctr prog 47 [.ag [.v (.int .i64 15),.v (.int .i64 0),.v (.string s),.ro l.length 4 (acL l)]] [] (.c (.v (.bool (emB s&&((l.length:Int)==0))))) []:=by
 have cM:=dq (c1:=.v (.int .i64 15)) (c2:=.v (.int .i64 0)) (c3:=.v (.string s)) rfl rfl rfl (l:=l) 0
 have hq:bi [.v (.int .i64 15),.v (.int .i64 0),.v (.string s),.ro l.length 4 (acL l)]=true:=by simp [bi,clo,aG]
 all_goals
  refine av func47 rfl rfl ?_
  repeat' (first|(apply ay;first|refine bX ?_|(refine aR ?_ ?_<;>intro hG<;>(try cases hG))|refine al ?_|refine ai ?_|refine bj ?_|refine aI ?_|refine aK 1 (cM) ?_ (hl:=bz (by rfl) hq)|refine ao ?_|refine aQ ?_|refine aS ?_|refine aB ?_|refine cA ?_|refine az ?_)|refine ak ?_|refine ab ?_|refine aa fun C=>?_|refine ac ?_|refine ah ?_|refine aj ?_|(refine ae (by rfl) ?_ ?_<;>intro hC<;>(try cases hC)))
 all_goals first
  | (refine am ?_;refine bv rfl aH ⟨?_,rfl⟩;first|rfl|(rw [show emB s=true from hG];rfl)|(rw [show emB s=false from hG];rfl)|(rw [Bool.and_true])|(rw [Bool.and_false])|(simp [*];done))
theorem sE {s:ByteArray}(hs:s.size≤1048576){l:List E}(hl:l.length≤1048576):Ctr prog 47 [.ag [.v (.int .i64 16),.v (.int .i64 0),.v (.string s),.ro l.length 4 (acL l)]] [] (.c (.v (.bool (emB s&&((l.length:Int)==2))))) []:=by
 have cM:=dq (c1:=.v (.int .i64 16)) (c2:=.v (.int .i64 0)) (c3:=.v (.string s)) rfl rfl rfl (l:=l) 2
 have hq:bi [.v (.int .i64 16),.v (.int .i64 0),.v (.string s),.ro l.length 4 (acL l)]=true:=by simp [bi,clo,aG]
 all_goals
  refine av func47 rfl rfl ?_
  repeat' (first|(apply ay;first|refine bX ?_|(refine aR ?_ ?_<;>intro hG<;>(try cases hG))|refine al ?_|refine ai ?_|refine bj ?_|refine aI ?_|refine aK 1 (cM) ?_ (hl:=bz (by rfl) hq)|refine ao ?_|refine aQ ?_|refine aS ?_|refine aB ?_|refine cA ?_|refine az ?_)|refine ak ?_|refine ab ?_|refine aa fun C=>?_|refine ac ?_|refine ah ?_|refine aj ?_|(refine ae (by rfl) ?_ ?_<;>intro hC<;>(try cases hC)))
 all_goals first
  | (refine am ?_;refine bv rfl aH ⟨?_,rfl⟩;first|rfl|(rw [show emB s=true from hG];rfl)|(rw [show emB s=false from hG];rfl)|(rw [Bool.and_true])|(rw [Bool.and_false])|(simp [*];done))
theorem sF {s:ByteArray}(hs:s.size≤1048576){l:List E}(hl:l.length≤1048576):Ctr prog 47 [.ag [.v (.int .i64 17),.v (.int .i64 0),.v (.string s),.ro l.length 4 (acL l)]] [] (.c (.v (.bool (emB s&&((l.length:Int)==1))))) []:=by
 have cM:=dq (c1:=.v (.int .i64 17)) (c2:=.v (.int .i64 0)) (c3:=.v (.string s)) rfl rfl rfl (l:=l) 1
 have hq:bi [.v (.int .i64 17),.v (.int .i64 0),.v (.string s),.ro l.length 4 (acL l)]=true:=by simp [bi,clo,aG]
 all_goals
  refine av func47 rfl rfl ?_
  repeat' (first|(apply ay;first|refine bX ?_|(refine aR ?_ ?_<;>intro hG<;>(try cases hG))|refine al ?_|refine ai ?_|refine bj ?_|refine aI ?_|refine aK 1 (cM) ?_ (hl:=bz (by rfl) hq)|refine ao ?_|refine aQ ?_|refine aS ?_|refine aB ?_|refine cA ?_|refine az ?_)|refine ak ?_|refine ab ?_|refine aa fun C=>?_|refine ac ?_|refine ah ?_|refine aj ?_|(refine ae (by rfl) ?_ ?_<;>intro hC<;>(try cases hC)))
 all_goals first
  | (refine am ?_;refine bv rfl aH ⟨?_,rfl⟩;first|rfl|(rw [show emB s=true from hG];rfl)|(rw [show emB s=false from hG];rfl)|(rw [Bool.and_true])|(rw [Bool.and_false])|(simp [*];done))
theorem sG {s:ByteArray}(hs:s.size≤1048576){l:List E}(hl:l.length≤1048576):Ctr prog 47 [.ag [.v (.int .i64 18),.v (.int .i64 0),.v (.string s),.ro l.length 4 (acL l)]] [] (.c (.v (.bool (((l.length:Int)==2)&&oY s)))) []:=by
 have cr:=ma hs
 generalize oY s=br at cr ⊢
 have cM:=dq (c1:=.v (.int .i64 18)) (c2:=.v (.int .i64 0)) (c3:=.v (.string s)) rfl rfl rfl (l:=l) 2
 generalize ((l.length:Int)==2)=bm at cM ⊢
 cases bm
 all_goals have hq:bi [.v (.int .i64 18),.v (.int .i64 0),.v (.string s),.ro l.length 4 (acL l)]=true:=by simp [bi,clo,aG]
 all_goals cases br
 all_goals
  refine av func47 rfl rfl ?_
  repeat' (first|(apply ay;first|refine bX ?_|(refine aR ?_ ?_<;>intro hG<;>(try cases hG))|refine al ?_|refine ai ?_|refine bj ?_|refine aI ?_|refine aF cr ?_|refine aK 1 (cM) ?_ (hl:=bz (by rfl) hq)|refine ao ?_|refine aS ?_|refine aB ?_|refine cA ?_|refine az ?_)|refine ak ?_|refine ab ?_|refine aa fun C=>?_|refine ac ?_|refine ah ?_|refine aj ?_|(refine ae (by rfl) ?_ ?_<;>intro hC<;>(try cases hC)))
 all_goals first
  | (refine am ?_;refine bv rfl aH ⟨?_,rfl⟩;first|rfl|(rw [show emB s=true from hG];rfl)|(rw [show emB s=false from hG];rfl)|(rw [Bool.and_true])|(rw [Bool.and_false])|(simp [*];done))
theorem vZ {s:ByteArray}(hs:s.size≤1048576){l:List E}(hl:l.length≤1048576)(n:Int):Ctr prog 47 [.ag [.v (.int .i64 1),.v (.int .i64 n),.v (.string s),.ro l.length 4 (acL l)]] [] (.c (.v (.bool (inR n 0 2147483647&&(emB s&&((l.length:Int)==0)))))) []:=by
 have cw:=gR n 0 2147483647
 generalize inR n 0 2147483647=bw at cw ⊢
 have hq:bi [.v (.int .i64 1),.v (.int .i64 n),.v (.string s),.ro l.length 4 (acL l)]=true:=by simp [bi,clo,aG]
 have cM:=dq (c1:=.v (.int .i64 1)) (c2:=.v (.int .i64 n)) (c3:=.v (.string s)) rfl rfl rfl (l:=l) 0
 cases bw
 all_goals
  refine av func47 rfl rfl ?_
  repeat' (first|(apply ay;first|refine bX ?_|(refine aR ?_ ?_<;>intro hG<;>(try cases hG))|refine al ?_|refine ai ?_|refine bj ?_|refine aI ?_|refine aF cw ?_|refine aK 1 (cM) ?_ (hl:=bz (by rfl) hq)|refine ao ?_|refine aQ ?_|refine aS ?_|refine aB ?_|refine cA ?_|refine az ?_)|refine ak ?_|refine ab ?_|refine aa fun C=>?_|refine ac ?_|refine ah ?_|refine aj ?_|(refine ae (by rfl) ?_ ?_<;>intro hC<;>(try cases hC)))
 all_goals first
  | (refine am ?_;refine bv rfl aH ⟨?_,rfl⟩;first|rfl|(rw [show emB s=true from hG];rfl)|(rw [show emB s=false from hG];rfl)|(rw [Bool.and_true])|(rw [Bool.and_false])|(simp [*];done))
theorem v6 {s:ByteArray}(hs:s.size≤1048576){l:List E}(hl:l.length≤1048576){k n:Int}(hk:¬k=1)(hn:¬n=0):Ctr prog 47 [.ag [.v (.int .i64 k),.v (.int .i64 n),.v (.string s),.ro l.length 4 (acL l)]] [] (.c (.v (.bool false))) []:=by
 refine av func47 rfl rfl ?_
 repeat' (first|(apply ay;first|refine bX ?_|(refine aR ?_ ?_<;>intro hG<;>(try cases hG))|refine ai ?_|refine bj ?_|refine aI ?_|refine aS ?_|refine aB ?_|refine cA ?_|refine az ?_)|refine ak ?_|refine ab ?_|refine aa fun C=>?_|refine ac ?_)
 ·refine ae (by rfl) (fun hC=>?_) fun hC=>absurd (by simpa using hC) hn
  repeat' (first|(apply ay;refine ai ?_)|refine ak ?_|refine ab ?_|refine aa fun C=>?_|refine ac ?_)
  exact fJ
 ·exact absurd (by simpa using hG) hk
theorem v7 {s:ByteArray}(hs:s.size≤1048576){l:List E}(hl:l.length≤1048576){k:Int}(h1:¬k=1)(h2:¬k=2)(h3:¬k=3)(h4:¬k=4)(h5:¬k=5)(h6:¬k=6)(h7:¬k=7)(h8:¬k=8)(h9:¬k=9)(h10:¬k=10)(h11:¬k=11)(h12:¬k=12)(h13:¬k=13)(h14:¬k=14)(h15:¬k=15)(h16:¬k=16)(h17:¬k=17)(h18:¬k=18):Ctr prog 47 [.ag [.v (.int .i64 k),.v (.int .i64 0),.v (.string s),.ro l.length 4 (acL l)]] [] (.c (.v (.bool false))) []:=by
 refine av func47 rfl rfl ?_
 repeat' (first|(apply ay;first|refine bX ?_|(refine aR ?_ ?_<;>intro hG<;>(try cases hG))|refine ai ?_|refine bj ?_|refine aI ?_|refine aS ?_|refine aB ?_|refine cA ?_|refine az ?_)|refine ak ?_|refine ab ?_|refine aa fun C=>?_|refine ac ?_)
 rotate_left
 ·exact absurd (by simpa using hG) h1
 refine au rfl ?_
 repeat' (first|(apply ay;first|refine ai ?_|refine bj ?_|refine aI ?_|refine ao ?_)|refine ak ?_|refine ab ?_|refine aa fun C=>?_|refine ac ?_|refine ah ?_|refine aj ?_)
 iterate 40 ((try (first|refine ae (by rfl) (fun hC=>absurd (eq_of_beq hC) (by assumption)) fun hC=>?_|refine au rfl ?_));(try repeat' (first|(apply ay;first|refine ai ?_|refine ao ?_)|refine ak ?_|refine ab ?_|refine aa fun C=>?_|refine ac ?_|refine aj ?_)))
 exact fJ
theorem sH {k n:Int}{s:ByteArray}(hs:s.size≤1048576){l:List E}(hl:l.length≤1048576):Ctr prog 47 [.ag [.v (.int .i64 k),.v (.int .i64 n),.v (.string s),.ro l.length 4 (acL l)]] [] (.c (.v (.bool (eu k n s l.length)))) []:=by
 by_cases h1:k=1
 ·subst h1
  exact vZ hs hl n
 by_cases hn:n=0
 ·subst hn
  by_cases h2:k=2
  ·subst h2
   exact vR hs hl
  by_cases h3:k=3
  ·subst h3
   exact vS hs hl
  by_cases h4:k=4
  ·subst h4
   exact vT hs hl
  by_cases h5:k=5
  ·subst h5
   exact vU hs hl
  by_cases h6:k=6
  ·subst h6
   exact vV hs hl
  by_cases h7:k=7
  ·subst h7
   exact vW hs hl
  by_cases h8:k=8
  ·subst h8
   exact vX hs hl
  by_cases h9:k=9
  ·subst h9
   exact vY hs hl
  by_cases h10:k=10
  ·subst h10
   exact sw hs hl
  by_cases h11:k=11
  ·subst h11
   exact sx hs hl
  by_cases h12:k=12
  ·subst h12
   exact sA hs hl
  by_cases h13:k=13
  ·subst h13
   exact sB hs hl
  by_cases h14:k=14
  ·subst h14
   exact sC hs hl
  by_cases h15:k=15
  ·subst h15
   exact sD hs hl
  by_cases h16:k=16
  ·subst h16
   exact sE hs hl
  by_cases h17:k=17
  ·subst h17
   exact sF hs hl
  by_cases h18:k=18
  ·subst h18
   exact sG hs hl
  rw [show eu k 0 s l.length=false by simp [eu, *]]
  exact v7 hs hl h1 h2 h3 h4 h5 h6 h7 h8 h9 h10 h11 h12 h13 h14 h15 h16 h17 h18
 ·rw [show eu k n s l.length=false by simp [eu, *]]
  exact v6 hs hl h1 hn
end Go.Proofs.YtomolhbkdhjofaaGreatDoor
