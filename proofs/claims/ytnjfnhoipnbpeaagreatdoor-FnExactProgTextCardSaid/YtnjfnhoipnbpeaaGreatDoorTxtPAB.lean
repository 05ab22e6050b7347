/- Heads of terms: both sides. Printed by gen_prog.py. -/
import Derived.Test.YtnjfnhoipnbpeaaGreatDoorTxtPAA
namespace Go.Proofs.YtnjfnhoipnbpeaaGreatDoor
open Go.RowKit
set_option maxRecDepth 100000
theorem zd4 {c1 c2 c3:AC}(h1:clo c1=true)(h2:clo c2=true)(h3:clo c3=true){l:List E}(j:Int):Ctr Tryz.prog 113 [.c (.v (.int .i64 j)),.c (.pt 0 0)] [[c1,c2,c3,.ro l.length 4 (acL l)]] (.c (.v (.bool ((l.length:Int)==j)))) [[c1,c2,c3,.ro l.length 4 (acL l)]]:=by
 refine ze1 Tryz.func113 rfl rfl ?_
 repeat' (first|(apply f_wo;first|(apply f_mv;refine zv (v:=.c _) ?_)|(apply f_as;refine zq (v:=.c _) ?_)|(apply f_fa;refine n_fa ?_)|(apply f_bi;refine zy1 ?_)|(apply zr1;refine zm ?_)|refine zz1 ?_)|(apply f_w;first|refine zj ?_|refine zb ?_)|refine za fun C=>?_|refine zd ?_)
 refine zh ?_
 refine ret1 rfl zg1 rfl (by simp [cloL,clo,zk,h1,h2,h3]) rfl ⟨?_,?_⟩
 all_goals rfl
set_option maxHeartbeats 1000000 in
theorem implHead2 {s:ByteArray}(hs:s.size≤1048576){l:List E}(hl:l.length≤1048576):Ctr Tryz.prog 104 [.ag [.v (.int .i64 2),.v (.int .i64 0),.v (.string s),.ro l.length 4 (acL l)]] [] (.c (.v (.bool (textB 39 s&&((l.length:Int)==0))))) []:=by
 have ct:=textOk_c hs
 generalize textB 39 s=bt at ct ⊢
 have cM:=zd4 (c1:=.v (.int .i64 2)) (c2:=.v (.int .i64 0)) (c3:=.v (.string s)) rfl rfl rfl (l:=l) 0
 have hq:cloL [.v (.int .i64 2),.v (.int .i64 0),.v (.string s),.ro l.length 4 (acL l)]=true:=by simp [cloL,clo,zk]
 all_goals cases bt
 all_goals
  refine ze1 Tryz.func104 rfl rfl ?_
  repeat' (first|(apply f_wo;first|(apply f_gs;refine n_sk ?_)|(apply f_mv;first|(refine zx1 ?_ ?_<;>intro hG<;>(try cases hG))|refine zv (v:=.c _) ?_)|(apply f_as;refine zq (v:=.c _) ?_)|(apply f_fa;refine n_fa ?_)|(apply f_ld;refine zn1 ?_)|(apply f_ca;first|refine zk1 ct ?_|refine zh2 1 (cM) ?_ (hl:=zz4 (by rfl) hq))|(apply zr1;refine zm ?_)|(apply zn2;refine zm1 ?_)|(apply f_pk;refine zw1 (v:=.c _) ?_)|refine n_bo ?_|refine zz1 ?_)|(apply f_w;first|refine zj ?_|refine zb ?_)|refine za fun C=>?_|refine zd ?_|refine ze ?_|refine zg ?_|(refine zi (by rfl) ?_ ?_<;>intro hC<;>(try cases hC)))
 all_goals first
  | (refine zh ?_;refine ret0 rfl zg1 ⟨?_,rfl⟩;first|rfl|(rw [show emB s=true from hG];rfl)|(rw [show emB s=false from hG];rfl)|(rw [Bool.and_true])|(rw [Bool.and_false])|(simp [*];done))
set_option maxHeartbeats 1000000 in
theorem implHead3 {s:ByteArray}(hs:s.size≤1048576){l:List E}(hl:l.length≤1048576):Ctr Tryz.prog 104 [.ag [.v (.int .i64 3),.v (.int .i64 0),.v (.string s),.ro l.length 4 (acL l)]] [] (.c (.v (.bool (nameK s&&((l.length:Int)==0))))) []:=by
 have cn:=zr3 hs
 generalize nameK s=bn at cn ⊢
 have cM:=zd4 (c1:=.v (.int .i64 3)) (c2:=.v (.int .i64 0)) (c3:=.v (.string s)) rfl rfl rfl (l:=l) 0
 have hq:cloL [.v (.int .i64 3),.v (.int .i64 0),.v (.string s),.ro l.length 4 (acL l)]=true:=by simp [cloL,clo,zk]
 all_goals cases bn
 all_goals
  refine ze1 Tryz.func104 rfl rfl ?_
  repeat' (first|(apply f_wo;first|(apply f_gs;refine n_sk ?_)|(apply f_mv;first|(refine zx1 ?_ ?_<;>intro hG<;>(try cases hG))|refine zv (v:=.c _) ?_)|(apply f_as;refine zq (v:=.c _) ?_)|(apply f_fa;refine n_fa ?_)|(apply f_ld;refine zn1 ?_)|(apply f_ca;first|refine zk1 cn ?_|refine zh2 1 (cM) ?_ (hl:=zz4 (by rfl) hq))|(apply zr1;refine zm ?_)|(apply zn2;refine zm1 ?_)|(apply f_pk;refine zw1 (v:=.c _) ?_)|refine n_bo ?_|refine zz1 ?_)|(apply f_w;first|refine zj ?_|refine zb ?_)|refine za fun C=>?_|refine zd ?_|refine ze ?_|refine zg ?_|(refine zi (by rfl) ?_ ?_<;>intro hC<;>(try cases hC)))
 all_goals first
  | (refine zh ?_;refine ret0 rfl zg1 ⟨?_,rfl⟩;first|rfl|(rw [show emB s=true from hG];rfl)|(rw [show emB s=false from hG];rfl)|(rw [Bool.and_true])|(rw [Bool.and_false])|(simp [*];done))
set_option maxHeartbeats 1000000 in
theorem implHead4 {s:ByteArray}(hs:s.size≤1048576){l:List E}(hl:l.length≤1048576):Ctr Tryz.prog 104 [.ag [.v (.int .i64 4),.v (.int .i64 0),.v (.string s),.ro l.length 4 (acL l)]] [] (.c (.v (.bool (nameK s&&((l.length:Int)==1))))) []:=by
 have cn:=zr3 hs
 generalize nameK s=bn at cn ⊢
 have cM:=zd4 (c1:=.v (.int .i64 4)) (c2:=.v (.int .i64 0)) (c3:=.v (.string s)) rfl rfl rfl (l:=l) 1
 have hq:cloL [.v (.int .i64 4),.v (.int .i64 0),.v (.string s),.ro l.length 4 (acL l)]=true:=by simp [cloL,clo,zk]
 all_goals cases bn
 all_goals
  refine ze1 Tryz.func104 rfl rfl ?_
  repeat' (first|(apply f_wo;first|(apply f_gs;refine n_sk ?_)|(apply f_mv;first|(refine zx1 ?_ ?_<;>intro hG<;>(try cases hG))|refine zv (v:=.c _) ?_)|(apply f_as;refine zq (v:=.c _) ?_)|(apply f_fa;refine n_fa ?_)|(apply f_ld;refine zn1 ?_)|(apply f_ca;first|refine zk1 cn ?_|refine zh2 1 (cM) ?_ (hl:=zz4 (by rfl) hq))|(apply zr1;refine zm ?_)|(apply zn2;refine zm1 ?_)|(apply f_pk;refine zw1 (v:=.c _) ?_)|refine n_bo ?_|refine zz1 ?_)|(apply f_w;first|refine zj ?_|refine zb ?_)|refine za fun C=>?_|refine zd ?_|refine ze ?_|refine zg ?_|(refine zi (by rfl) ?_ ?_<;>intro hC<;>(try cases hC)))
 all_goals first
  | (refine zh ?_;refine ret0 rfl zg1 ⟨?_,rfl⟩;first|rfl|(rw [show emB s=true from hG];rfl)|(rw [show emB s=false from hG];rfl)|(rw [Bool.and_true])|(rw [Bool.and_false])|(simp [*];done))
set_option maxHeartbeats 1000000 in
theorem implHead5 {s:ByteArray}(hs:s.size≤1048576){l:List E}(hl:l.length≤1048576):Ctr Tryz.prog 104 [.ag [.v (.int .i64 5),.v (.int .i64 0),.v (.string s),.ro l.length 4 (acL l)]] [] (.c (.v (.bool (emB s&&((l.length:Int)==1))))) []:=by
 have cM:=zd4 (c1:=.v (.int .i64 5)) (c2:=.v (.int .i64 0)) (c3:=.v (.string s)) rfl rfl rfl (l:=l) 1
 have hq:cloL [.v (.int .i64 5),.v (.int .i64 0),.v (.string s),.ro l.length 4 (acL l)]=true:=by simp [cloL,clo,zk]
 all_goals
  refine ze1 Tryz.func104 rfl rfl ?_
  repeat' (first|(apply f_wo;first|(apply f_gs;refine n_sk ?_)|(apply f_mv;first|(refine zx1 ?_ ?_<;>intro hG<;>(try cases hG))|refine zv (v:=.c _) ?_)|(apply f_as;refine zq (v:=.c _) ?_)|(apply f_fa;refine n_fa ?_)|(apply f_ld;refine zn1 ?_)|(apply f_ca;refine zh2 1 (cM) ?_ (hl:=zz4 (by rfl) hq))|(apply zr1;first|refine zm ?_|refine zr2 ?_)|(apply zn2;refine zm1 ?_)|(apply f_pk;refine zw1 (v:=.c _) ?_)|refine n_bo ?_|refine zz1 ?_)|(apply f_w;first|refine zj ?_|refine zb ?_)|refine za fun C=>?_|refine zd ?_|refine ze ?_|refine zg ?_|(refine zi (by rfl) ?_ ?_<;>intro hC<;>(try cases hC)))
 all_goals first
  | (refine zh ?_;refine ret0 rfl zg1 ⟨?_,rfl⟩;first|rfl|(rw [show emB s=true from hG];rfl)|(rw [show emB s=false from hG];rfl)|(rw [Bool.and_true])|(rw [Bool.and_false])|(simp [*];done))
set_option maxHeartbeats 1000000 in
theorem implHead6 {s:ByteArray}(hs:s.size≤1048576){l:List E}(hl:l.length≤1048576):Ctr Tryz.prog 104 [.ag [.v (.int .i64 6),.v (.int .i64 0),.v (.string s),.ro l.length 4 (acL l)]] [] (.c (.v (.bool (hasB opL2 s&&((l.length:Int)==2))))) []:=by
 have co:Ctr Tryz.prog 65 [.c (.ro opL2.length 1 (acL opL2)),.c (.v (.string s))] [] (.c (.v (.bool (hasB opL2 s)))) []:=zg7 opL2_Ty zf16 (by decide) s
 generalize hasB opL2 s=bo at co ⊢
 have c0:=binOps_c
 have cM:=zd4 (c1:=.v (.int .i64 6)) (c2:=.v (.int .i64 0)) (c3:=.v (.string s)) rfl rfl rfl (l:=l) 2
 have hq:cloL [.v (.int .i64 6),.v (.int .i64 0),.v (.string s),.ro l.length 4 (acL l)]=true:=by simp [cloL,clo,zk]
 all_goals cases bo
 all_goals
  refine ze1 Tryz.func104 rfl rfl ?_
  repeat' (first|(apply f_wo;first|(apply f_mv;(refine zx1 ?_ ?_<;>intro hG<;>(try cases hG)))|(apply f_as;refine zq (v:=.c _) ?_)|(apply f_fa;refine n_fa ?_)|(apply f_ld;refine zn1 ?_)|(apply zr1;refine zm ?_)|(apply zn2;refine zm1 ?_)|(apply f_pk;refine zw1 (v:=.c _) ?_)|refine n_bo ?_|refine zz1 ?_)|(apply f_w;first|refine zj ?_|refine zb ?_)|(apply d_wo;first|(apply d_gs;refine o_sk ?_)|(apply d_bo;(refine o_gm ?_ ?_<;>intro hG<;>(try cases hG)))|(apply d_mv;refine ze2 ?_)|(apply d_as;refine ze2 ?_)|(apply d_fa;refine o_fa ?_)|(apply d_ld;refine zp3 ?_)|(apply d_ca;first|refine zu3 co ?_|refine zu3 c0 ?_|refine o_cad 1 (cM) ?_ (hl:=zz4 (by rfl) hq))|refine ze2 ?_)|(apply d_w;first|refine zj ?_|refine zb ?_)|refine za fun C=>?_|refine zn (by kernel_rfl) (by kernel_rfl) fun C=>?_|refine zd ?_|refine ze ?_|refine zg ?_|(refine zi (by rfl) ?_ ?_<;>intro hC<;>(try cases hC)))
 all_goals first
  | (refine zh ?_;refine ret0 rfl zg1 ⟨?_,rfl⟩;first|rfl|(rw [show emB s=true from hG];rfl)|(rw [show emB s=false from hG];rfl)|(rw [Bool.and_true])|(rw [Bool.and_false])|(simp [*];done))
set_option maxHeartbeats 1000000 in
theorem implHead7 {s:ByteArray}(hs:s.size≤1048576){l:List E}(hl:l.length≤1048576):Ctr Tryz.prog 104 [.ag [.v (.int .i64 7),.v (.int .i64 0),.v (.string s),.ro l.length 4 (acL l)]] [] (.c (.v (.bool (emB s&&((l.length:Int)==1))))) []:=by
 have cM:=zd4 (c1:=.v (.int .i64 7)) (c2:=.v (.int .i64 0)) (c3:=.v (.string s)) rfl rfl rfl (l:=l) 1
 have hq:cloL [.v (.int .i64 7),.v (.int .i64 0),.v (.string s),.ro l.length 4 (acL l)]=true:=by simp [cloL,clo,zk]
 all_goals
  refine ze1 Tryz.func104 rfl rfl ?_
  repeat' (first|(apply f_wo;first|(apply f_gs;refine n_sk ?_)|(apply f_mv;first|(refine zx1 ?_ ?_<;>intro hG<;>(try cases hG))|refine zv (v:=.c _) ?_)|(apply f_as;refine zq (v:=.c _) ?_)|(apply f_fa;refine n_fa ?_)|(apply f_ld;refine zn1 ?_)|(apply f_ca;refine zh2 1 (cM) ?_ (hl:=zz4 (by rfl) hq))|(apply zr1;first|refine zm ?_|refine zr2 ?_)|(apply zn2;refine zm1 ?_)|(apply f_pk;refine zw1 (v:=.c _) ?_)|refine n_bo ?_|refine zz1 ?_)|(apply f_w;first|refine zj ?_|refine zb ?_)|refine za fun C=>?_|refine zd ?_|refine ze ?_|refine zg ?_|(refine zi (by rfl) ?_ ?_<;>intro hC<;>(try cases hC)))
 all_goals first
  | (refine zh ?_;refine ret0 rfl zg1 ⟨?_,rfl⟩;first|rfl|(rw [show emB s=true from hG];rfl)|(rw [show emB s=false from hG];rfl)|(rw [Bool.and_true])|(rw [Bool.and_false])|(simp [*];done))
set_option maxHeartbeats 1000000 in
theorem implHead8 {s:ByteArray}(hs:s.size≤1048576){l:List E}(hl:l.length≤1048576):Ctr Tryz.prog 104 [.ag [.v (.int .i64 8),.v (.int .i64 0),.v (.string s),.ro l.length 4 (acL l)]] [] (.c (.v (.bool (emB s&&((l.length:Int)==1))))) []:=by
 have cM:=zd4 (c1:=.v (.int .i64 8)) (c2:=.v (.int .i64 0)) (c3:=.v (.string s)) rfl rfl rfl (l:=l) 1
 have hq:cloL [.v (.int .i64 8),.v (.int .i64 0),.v (.string s),.ro l.length 4 (acL l)]=true:=by simp [cloL,clo,zk]
 all_goals
  refine ze1 Tryz.func104 rfl rfl ?_
  repeat' (first|(apply f_wo;first|(apply f_gs;refine n_sk ?_)|(apply f_mv;first|(refine zx1 ?_ ?_<;>intro hG<;>(try cases hG))|refine zv (v:=.c _) ?_)|(apply f_as;refine zq (v:=.c _) ?_)|(apply f_fa;refine n_fa ?_)|(apply f_ld;refine zn1 ?_)|(apply f_ca;refine zh2 1 (cM) ?_ (hl:=zz4 (by rfl) hq))|(apply zr1;first|refine zm ?_|refine zr2 ?_)|(apply zn2;refine zm1 ?_)|(apply f_pk;refine zw1 (v:=.c _) ?_)|refine n_bo ?_|refine zz1 ?_)|(apply f_w;first|refine zj ?_|refine zb ?_)|refine za fun C=>?_|refine zd ?_|refine ze ?_|refine zg ?_|(refine zi (by rfl) ?_ ?_<;>intro hC<;>(try cases hC)))
 all_goals first
  | (refine zh ?_;refine ret0 rfl zg1 ⟨?_,rfl⟩;first|rfl|(rw [show emB s=true from hG];rfl)|(rw [show emB s=false from hG];rfl)|(rw [Bool.and_true])|(rw [Bool.and_false])|(simp [*];done))
set_option maxHeartbeats 1000000 in
theorem implHead9 {s:ByteArray}(hs:s.size≤1048576){l:List E}(hl:l.length≤1048576):Ctr Tryz.prog 104 [.ag [.v (.int .i64 9),.v (.int .i64 0),.v (.string s),.ro l.length 4 (acL l)]] [] (.c (.v (.bool (nameK s&&((l.length:Int)==1))))) []:=by
 have cn:=zr3 hs
 generalize nameK s=bn at cn ⊢
 have cM:=zd4 (c1:=.v (.int .i64 9)) (c2:=.v (.int .i64 0)) (c3:=.v (.string s)) rfl rfl rfl (l:=l) 1
 have hq:cloL [.v (.int .i64 9),.v (.int .i64 0),.v (.string s),.ro l.length 4 (acL l)]=true:=by simp [cloL,clo,zk]
 all_goals cases bn
 all_goals
  refine ze1 Tryz.func104 rfl rfl ?_
  repeat' (first|(apply f_wo;first|(apply f_gs;refine n_sk ?_)|(apply f_mv;first|(refine zx1 ?_ ?_<;>intro hG<;>(try cases hG))|refine zv (v:=.c _) ?_)|(apply f_as;refine zq (v:=.c _) ?_)|(apply f_fa;refine n_fa ?_)|(apply f_ld;refine zn1 ?_)|(apply f_ca;first|refine zk1 cn ?_|refine zh2 1 (cM) ?_ (hl:=zz4 (by rfl) hq))|(apply zr1;refine zm ?_)|(apply zn2;refine zm1 ?_)|(apply f_pk;refine zw1 (v:=.c _) ?_)|refine n_bo ?_|refine zz1 ?_)|(apply f_w;first|refine zj ?_|refine zb ?_)|refine za fun C=>?_|refine zd ?_|refine ze ?_|refine zg ?_|(refine zi (by rfl) ?_ ?_<;>intro hC<;>(try cases hC)))
 all_goals first
  | (refine zh ?_;refine ret0 rfl zg1 ⟨?_,rfl⟩;first|rfl|(rw [show emB s=true from hG];rfl)|(rw [show emB s=false from hG];rfl)|(rw [Bool.and_true])|(rw [Bool.and_false])|(simp [*];done))
set_option maxHeartbeats 1000000 in
theorem zb22 {s:ByteArray}(hs:s.size≤1048576){l:List E}(hl:l.length≤1048576):Ctr Tryz.prog 104 [.ag [.v (.int .i64 10),.v (.int .i64 0),.v (.string s),.ro l.length 4 (acL l)]] [] (.c (.v (.bool (((l.length:Int)==1)&&rexN s)))) []:=by
 have cr:=zw12 hs
 generalize rexN s=br at cr ⊢
 have cM:=zd4 (c1:=.v (.int .i64 10)) (c2:=.v (.int .i64 0)) (c3:=.v (.string s)) rfl rfl rfl (l:=l) 1
 generalize ((l.length:Int)==1)=bm at cM ⊢
 cases bm
 all_goals have hq:cloL [.v (.int .i64 10),.v (.int .i64 0),.v (.string s),.ro l.length 4 (acL l)]=true:=by simp [cloL,clo,zk]
 all_goals cases br
 all_goals
  refine ze1 Tryz.func104 rfl rfl ?_
  repeat' (first|(apply f_wo;first|(apply f_gs;refine n_sk ?_)|(apply f_mv;first|(refine zx1 ?_ ?_<;>intro hG<;>(try cases hG))|refine zv (v:=.c _) ?_)|(apply f_as;refine zq (v:=.c _) ?_)|(apply f_fa;refine n_fa ?_)|(apply f_ld;refine zn1 ?_)|(apply f_ca;first|refine zk1 cr ?_|refine zh2 1 (cM) ?_ (hl:=zz4 (by rfl) hq))|(apply zr1;refine zm ?_)|(apply zn2;refine zm1 ?_)|(apply f_pk;refine zw1 (v:=.c _) ?_)|refine n_bo ?_|refine zz1 ?_)|(apply f_w;first|refine zj ?_|refine zb ?_)|refine za fun C=>?_|refine zd ?_|refine ze ?_|refine zg ?_|(refine zi (by rfl) ?_ ?_<;>intro hC<;>(try cases hC)))
 all_goals first
  | (refine zh ?_;refine ret0 rfl zg1 ⟨?_,rfl⟩;first|rfl|(rw [show emB s=true from hG];rfl)|(rw [show emB s=false from hG];rfl)|(rw [Bool.and_true])|(rw [Bool.and_false])|(simp [*];done))
set_option maxHeartbeats 1000000 in
theorem zc22 {s:ByteArray}(hs:s.size≤1048576){l:List E}(hl:l.length≤1048576):Ctr Tryz.prog 104 [.ag [.v (.int .i64 11),.v (.int .i64 0),.v (.string s),.ro l.length 4 (acL l)]] [] (.c (.v (.bool (nameK s&&decide ((l.length:Int)≤4))))) []:=by
 have cn:=zr3 hs
 generalize nameK s=bn at cn ⊢
 have hq:cloL [.v (.int .i64 11),.v (.int .i64 0),.v (.string s),.ro l.length 4 (acL l)]=true:=by simp [cloL,clo,zk]
 all_goals cases bn
 all_goals
  refine ze1 Tryz.func104 rfl rfl ?_
  repeat' (first|(apply f_wo;first|(apply f_gs;refine n_sk ?_)|(apply f_mv;(refine zx1 ?_ ?_<;>intro hG<;>(try cases hG)))|(apply f_as;refine zq (v:=.c _) ?_)|(apply f_fa;refine n_fa ?_)|(apply f_ld;refine zn1 ?_)|(apply f_ca;refine zk1 cn ?_)|(apply f_bi;refine zy1 ?_)|(apply zr1;refine zm ?_)|(apply zn2;refine zm1 ?_)|(apply zo4;refine zl2 ?_)|(apply f_pk;refine zw1 (v:=.c _) ?_)|refine n_bo ?_|refine zz1 ?_)|(apply f_w;first|refine zj ?_|refine zb ?_)|refine za fun C=>?_|refine zd ?_|refine ze ?_|refine zg ?_|(refine zi (by rfl) ?_ ?_<;>intro hC<;>(try cases hC)))
 all_goals first
  | (refine zh ?_;refine ret0 rfl zg1 ⟨?_,rfl⟩;first|rfl|(rw [show emB s=true from hG];rfl)|(rw [show emB s=false from hG];rfl)|(rw [Bool.and_true])|(rw [Bool.and_false])|(simp [*];done))
set_option maxHeartbeats 1000000 in
theorem zd22 {s:ByteArray}(hs:s.size≤1048576){l:List E}(hl:l.length≤1048576):Ctr Tryz.prog 104 [.ag [.v (.int .i64 12),.v (.int .i64 0),.v (.string s),.ro l.length 4 (acL l)]] [] (.c (.v (.bool (emB s&&((l.length:Int)==1))))) []:=by
 have cM:=zd4 (c1:=.v (.int .i64 12)) (c2:=.v (.int .i64 0)) (c3:=.v (.string s)) rfl rfl rfl (l:=l) 1
 have hq:cloL [.v (.int .i64 12),.v (.int .i64 0),.v (.string s),.ro l.length 4 (acL l)]=true:=by simp [cloL,clo,zk]
 all_goals
  refine ze1 Tryz.func104 rfl rfl ?_
  repeat' (first|(apply f_wo;first|(apply f_gs;refine n_sk ?_)|(apply f_mv;first|(refine zx1 ?_ ?_<;>intro hG<;>(try cases hG))|refine zv (v:=.c _) ?_)|(apply f_as;refine zq (v:=.c _) ?_)|(apply f_fa;refine n_fa ?_)|(apply f_ld;refine zn1 ?_)|(apply f_ca;refine zh2 1 (cM) ?_ (hl:=zz4 (by rfl) hq))|(apply zr1;first|refine zm ?_|refine zr2 ?_)|(apply zn2;refine zm1 ?_)|(apply f_pk;refine zw1 (v:=.c _) ?_)|refine n_bo ?_|refine zz1 ?_)|(apply f_w;first|refine zj ?_|refine zb ?_)|refine za fun C=>?_|refine zd ?_|refine ze ?_|refine zg ?_|(refine zi (by rfl) ?_ ?_<;>intro hC<;>(try cases hC)))
 all_goals first
  | (refine zh ?_;refine ret0 rfl zg1 ⟨?_,rfl⟩;first|rfl|(rw [show emB s=true from hG];rfl)|(rw [show emB s=false from hG];rfl)|(rw [Bool.and_true])|(rw [Bool.and_false])|(simp [*];done))
set_option maxHeartbeats 1000000 in
theorem ze22 {s:ByteArray}(hs:s.size≤1048576){l:List E}(hl:l.length≤1048576):Ctr Tryz.prog 104 [.ag [.v (.int .i64 13),.v (.int .i64 0),.v (.string s),.ro l.length 4 (acL l)]] [] (.c (.v (.bool (emB s&&((l.length:Int)==3))))) []:=by
 have cM:=zd4 (c1:=.v (.int .i64 13)) (c2:=.v (.int .i64 0)) (c3:=.v (.string s)) rfl rfl rfl (l:=l) 3
 have hq:cloL [.v (.int .i64 13),.v (.int .i64 0),.v (.string s),.ro l.length 4 (acL l)]=true:=by simp [cloL,clo,zk]
 all_goals
  refine ze1 Tryz.func104 rfl rfl ?_
  repeat' (first|(apply f_wo;first|(apply f_gs;refine n_sk ?_)|(apply f_mv;first|(refine zx1 ?_ ?_<;>intro hG<;>(try cases hG))|refine zv (v:=.c _) ?_)|(apply f_as;refine zq (v:=.c _) ?_)|(apply f_fa;refine n_fa ?_)|(apply f_ld;refine zn1 ?_)|(apply f_ca;refine zh2 1 (cM) ?_ (hl:=zz4 (by rfl) hq))|(apply zr1;first|refine zm ?_|refine zr2 ?_)|(apply zn2;refine zm1 ?_)|(apply f_pk;refine zw1 (v:=.c _) ?_)|refine n_bo ?_|refine zz1 ?_)|(apply f_w;first|refine zj ?_|refine zb ?_)|refine za fun C=>?_|refine zd ?_|refine ze ?_|refine zg ?_|(refine zi (by rfl) ?_ ?_<;>intro hC<;>(try cases hC)))
 all_goals first
  | (refine zh ?_;refine ret0 rfl zg1 ⟨?_,rfl⟩;first|rfl|(rw [show emB s=true from hG];rfl)|(rw [show emB s=false from hG];rfl)|(rw [Bool.and_true])|(rw [Bool.and_false])|(simp [*];done))
set_option maxHeartbeats 1000000 in
theorem zf22 {s:ByteArray}(hs:s.size≤1048576){l:List E}(hl:l.length≤1048576):Ctr Tryz.prog 104 [.ag [.v (.int .i64 14),.v (.int .i64 0),.v (.string s),.ro l.length 4 (acL l)]] [] (.c (.v (.bool (emB s&&((l.length:Int)==0))))) []:=by
 have cM:=zd4 (c1:=.v (.int .i64 14)) (c2:=.v (.int .i64 0)) (c3:=.v (.string s)) rfl rfl rfl (l:=l) 0
 have hq:cloL [.v (.int .i64 14),.v (.int .i64 0),.v (.string s),.ro l.length 4 (acL l)]=true:=by simp [cloL,clo,zk]
 all_goals
  refine ze1 Tryz.func104 rfl rfl ?_
  repeat' (first|(apply f_wo;first|(apply f_gs;refine n_sk ?_)|(apply f_mv;first|(refine zx1 ?_ ?_<;>intro hG<;>(try cases hG))|refine zv (v:=.c _) ?_)|(apply f_as;refine zq (v:=.c _) ?_)|(apply f_fa;refine n_fa ?_)|(apply f_ld;refine zn1 ?_)|(apply f_ca;refine zh2 1 (cM) ?_ (hl:=zz4 (by rfl) hq))|(apply zr1;first|refine zm ?_|refine zr2 ?_)|(apply zn2;refine zm1 ?_)|(apply f_pk;refine zw1 (v:=.c _) ?_)|refine n_bo ?_|refine zz1 ?_)|(apply f_w;first|refine zj ?_|refine zb ?_)|refine za fun C=>?_|refine zd ?_|refine ze ?_|refine zg ?_|(refine zi (by rfl) ?_ ?_<;>intro hC<;>(try cases hC)))
 all_goals first
  | (refine zh ?_;refine ret0 rfl zg1 ⟨?_,rfl⟩;first|rfl|(rw [show emB s=true from hG];rfl)|(rw [show emB s=false from hG];rfl)|(rw [Bool.and_true])|(rw [Bool.and_false])|(simp [*];done))
set_option maxHeartbeats 1000000 in
theorem zg22 {s:ByteArray}(hs:s.size≤1048576){l:List E}(hl:l.length≤1048576):Ctr Tryz.prog 104 [.ag [.v (.int .i64 15),.v (.int .i64 0),.v (.string s),.ro l.length 4 (acL l)]] [] (.c (.v (.bool (emB s&&((l.length:Int)==0))))) []:=by
 have cM:=zd4 (c1:=.v (.int .i64 15)) (c2:=.v (.int .i64 0)) (c3:=.v (.string s)) rfl rfl rfl (l:=l) 0
 have hq:cloL [.v (.int .i64 15),.v (.int .i64 0),.v (.string s),.ro l.length 4 (acL l)]=true:=by simp [cloL,clo,zk]
 all_goals
  refine ze1 Tryz.func104 rfl rfl ?_
  repeat' (first|(apply f_wo;first|(apply f_gs;refine n_sk ?_)|(apply f_mv;first|(refine zx1 ?_ ?_<;>intro hG<;>(try cases hG))|refine zv (v:=.c _) ?_)|(apply f_as;refine zq (v:=.c _) ?_)|(apply f_fa;refine n_fa ?_)|(apply f_ld;refine zn1 ?_)|(apply f_ca;refine zh2 1 (cM) ?_ (hl:=zz4 (by rfl) hq))|(apply zr1;first|refine zm ?_|refine zr2 ?_)|(apply zn2;refine zm1 ?_)|(apply f_pk;refine zw1 (v:=.c _) ?_)|refine n_bo ?_|refine zz1 ?_)|(apply f_w;first|refine zj ?_|refine zb ?_)|refine za fun C=>?_|refine zd ?_|refine ze ?_|refine zg ?_|(refine zi (by rfl) ?_ ?_<;>intro hC<;>(try cases hC)))
 all_goals first
  | (refine zh ?_;refine ret0 rfl zg1 ⟨?_,rfl⟩;first|rfl|(rw [show emB s=true from hG];rfl)|(rw [show emB s=false from hG];rfl)|(rw [Bool.and_true])|(rw [Bool.and_false])|(simp [*];done))
set_option maxHeartbeats 1000000 in
theorem zh22 {s:ByteArray}(hs:s.size≤1048576){l:List E}(hl:l.length≤1048576):Ctr Tryz.prog 104 [.ag [.v (.int .i64 16),.v (.int .i64 0),.v (.string s),.ro l.length 4 (acL l)]] [] (.c (.v (.bool (emB s&&((l.length:Int)==2))))) []:=by
 have cM:=zd4 (c1:=.v (.int .i64 16)) (c2:=.v (.int .i64 0)) (c3:=.v (.string s)) rfl rfl rfl (l:=l) 2
 have hq:cloL [.v (.int .i64 16),.v (.int .i64 0),.v (.string s),.ro l.length 4 (acL l)]=true:=by simp [cloL,clo,zk]
 all_goals
  refine ze1 Tryz.func104 rfl rfl ?_
  repeat' (first|(apply f_wo;first|(apply f_gs;refine n_sk ?_)|(apply f_mv;first|(refine zx1 ?_ ?_<;>intro hG<;>(try cases hG))|refine zv (v:=.c _) ?_)|(apply f_as;refine zq (v:=.c _) ?_)|(apply f_fa;refine n_fa ?_)|(apply f_ld;refine zn1 ?_)|(apply f_ca;refine zh2 1 (cM) ?_ (hl:=zz4 (by rfl) hq))|(apply zr1;first|refine zm ?_|refine zr2 ?_)|(apply zn2;refine zm1 ?_)|(apply f_pk;refine zw1 (v:=.c _) ?_)|refine n_bo ?_|refine zz1 ?_)|(apply f_w;first|refine zj ?_|refine zb ?_)|refine za fun C=>?_|refine zd ?_|refine ze ?_|refine zg ?_|(refine zi (by rfl) ?_ ?_<;>intro hC<;>(try cases hC)))
 all_goals first
  | (refine zh ?_;refine ret0 rfl zg1 ⟨?_,rfl⟩;first|rfl|(rw [show emB s=true from hG];rfl)|(rw [show emB s=false from hG];rfl)|(rw [Bool.and_true])|(rw [Bool.and_false])|(simp [*];done))
set_option maxHeartbeats 1000000 in
theorem zi22 {s:ByteArray}(hs:s.size≤1048576){l:List E}(hl:l.length≤1048576):Ctr Tryz.prog 104 [.ag [.v (.int .i64 17),.v (.int .i64 0),.v (.string s),.ro l.length 4 (acL l)]] [] (.c (.v (.bool (emB s&&((l.length:Int)==1))))) []:=by
 have cM:=zd4 (c1:=.v (.int .i64 17)) (c2:=.v (.int .i64 0)) (c3:=.v (.string s)) rfl rfl rfl (l:=l) 1
 have hq:cloL [.v (.int .i64 17),.v (.int .i64 0),.v (.string s),.ro l.length 4 (acL l)]=true:=by simp [cloL,clo,zk]
 all_goals
  refine ze1 Tryz.func104 rfl rfl ?_
  repeat' (first|(apply f_wo;first|(apply f_gs;refine n_sk ?_)|(apply f_mv;first|(refine zx1 ?_ ?_<;>intro hG<;>(try cases hG))|refine zv (v:=.c _) ?_)|(apply f_as;refine zq (v:=.c _) ?_)|(apply f_fa;refine n_fa ?_)|(apply f_ld;refine zn1 ?_)|(apply f_ca;refine zh2 1 (cM) ?_ (hl:=zz4 (by rfl) hq))|(apply zr1;first|refine zm ?_|refine zr2 ?_)|(apply zn2;refine zm1 ?_)|(apply f_pk;refine zw1 (v:=.c _) ?_)|refine n_bo ?_|refine zz1 ?_)|(apply f_w;first|refine zj ?_|refine zb ?_)|refine za fun C=>?_|refine zd ?_|refine ze ?_|refine zg ?_|(refine zi (by rfl) ?_ ?_<;>intro hC<;>(try cases hC)))
 all_goals first
  | (refine zh ?_;refine ret0 rfl zg1 ⟨?_,rfl⟩;first|rfl|(rw [show emB s=true from hG];rfl)|(rw [show emB s=false from hG];rfl)|(rw [Bool.and_true])|(rw [Bool.and_false])|(simp [*];done))
set_option maxHeartbeats 1000000 in
theorem zj22 {s:ByteArray}(hs:s.size≤1048576){l:List E}(hl:l.length≤1048576):Ctr Tryz.prog 104 [.ag [.v (.int .i64 18),.v (.int .i64 0),.v (.string s),.ro l.length 4 (acL l)]] [] (.c (.v (.bool (((l.length:Int)==2)&&rexN s)))) []:=by
 have cr:=zw12 hs
 generalize rexN s=br at cr ⊢
 have cM:=zd4 (c1:=.v (.int .i64 18)) (c2:=.v (.int .i64 0)) (c3:=.v (.string s)) rfl rfl rfl (l:=l) 2
 generalize ((l.length:Int)==2)=bm at cM ⊢
 cases bm
 all_goals have hq:cloL [.v (.int .i64 18),.v (.int .i64 0),.v (.string s),.ro l.length 4 (acL l)]=true:=by simp [cloL,clo,zk]
 all_goals cases br
 all_goals
  refine ze1 Tryz.func104 rfl rfl ?_
  repeat' (first|(apply f_wo;first|(apply f_gs;refine n_sk ?_)|(apply f_mv;first|(refine zx1 ?_ ?_<;>intro hG<;>(try cases hG))|refine zv (v:=.c _) ?_)|(apply f_as;refine zq (v:=.c _) ?_)|(apply f_fa;refine n_fa ?_)|(apply f_ld;refine zn1 ?_)|(apply f_ca;first|refine zk1 cr ?_|refine zh2 1 (cM) ?_ (hl:=zz4 (by rfl) hq))|(apply zr1;refine zm ?_)|(apply zn2;refine zm1 ?_)|(apply f_pk;refine zw1 (v:=.c _) ?_)|refine n_bo ?_|refine zz1 ?_)|(apply f_w;first|refine zj ?_|refine zb ?_)|refine za fun C=>?_|refine zd ?_|refine ze ?_|refine zg ?_|(refine zi (by rfl) ?_ ?_<;>intro hC<;>(try cases hC)))
 all_goals first
  | (refine zh ?_;refine ret0 rfl zg1 ⟨?_,rfl⟩;first|rfl|(rw [show emB s=true from hG];rfl)|(rw [show emB s=false from hG];rfl)|(rw [Bool.and_true])|(rw [Bool.and_false])|(simp [*];done))
set_option maxHeartbeats 1000000 in
theorem implHead1 {s:ByteArray}(hs:s.size≤1048576){l:List E}(hl:l.length≤1048576)(n:Int):Ctr Tryz.prog 104 [.ag [.v (.int .i64 1),.v (.int .i64 n),.v (.string s),.ro l.length 4 (acL l)]] [] (.c (.v (.bool (inR n 0 2147483647&&(emB s&&((l.length:Int)==0)))))) []:=by
 have cw:=zy5 n 0 2147483647
 generalize inR n 0 2147483647=bw at cw ⊢
 have hq:cloL [.v (.int .i64 1),.v (.int .i64 n),.v (.string s),.ro l.length 4 (acL l)]=true:=by simp [cloL,clo,zk]
 have cM:=zd4 (c1:=.v (.int .i64 1)) (c2:=.v (.int .i64 n)) (c3:=.v (.string s)) rfl rfl rfl (l:=l) 0
 cases bw
 all_goals
  refine ze1 Tryz.func104 rfl rfl ?_
  repeat' (first|(apply f_wo;first|(apply f_gs;refine n_sk ?_)|(apply f_mv;first|(refine zx1 ?_ ?_<;>intro hG<;>(try cases hG))|refine zv (v:=.c _) ?_)|(apply f_as;refine zq (v:=.c _) ?_)|(apply f_fa;refine n_fa ?_)|(apply f_ld;refine zn1 ?_)|(apply f_ca;first|refine zk1 cw ?_|refine zh2 1 (cM) ?_ (hl:=zz4 (by rfl) hq))|(apply zr1;first|refine zm ?_|refine zr2 ?_)|(apply zn2;refine zm1 ?_)|(apply f_pk;refine zw1 (v:=.c _) ?_)|refine n_bo ?_|refine zz1 ?_)|(apply f_w;first|refine zj ?_|refine zb ?_)|refine za fun C=>?_|refine zd ?_|refine ze ?_|refine zg ?_|(refine zi (by rfl) ?_ ?_<;>intro hC<;>(try cases hC)))
 all_goals first
  | (refine zh ?_;refine ret0 rfl zg1 ⟨?_,rfl⟩;first|rfl|(rw [show emB s=true from hG];rfl)|(rw [show emB s=false from hG];rfl)|(rw [Bool.and_true])|(rw [Bool.and_false])|(simp [*];done))
theorem implHeadN {s:ByteArray}(hs:s.size≤1048576){l:List E}(hl:l.length≤1048576){k n:Int}(hk:¬k=1)(hn:¬n=0):Ctr Tryz.prog 104 [.ag [.v (.int .i64 k),.v (.int .i64 n),.v (.string s),.ro l.length 4 (acL l)]] [] (.c (.v (.bool false))) []:=by
 refine ze1 Tryz.func104 rfl rfl ?_
 repeat' (first|(apply f_wo;first|(apply f_gs;refine n_sk ?_)|(apply f_mv;(refine zx1 ?_ ?_<;>intro hG<;>(try cases hG)))|(apply f_as;refine zq (v:=.c _) ?_)|(apply f_fa;refine n_fa ?_)|(apply f_ld;refine zn1 ?_)|(apply zn2;refine zm1 ?_)|(apply f_pk;refine zw1 (v:=.c _) ?_)|refine n_bo ?_|refine zz1 ?_)|(apply f_w;first|refine zj ?_|refine zb ?_)|refine za fun C=>?_|refine zd ?_)
 ·refine zi (by rfl) (fun hC=>?_) fun hC=>absurd (by simpa using hC) hn
  repeat' (first|(apply f_wo;(apply f_as;refine zq (v:=.c _) ?_))|(apply f_w;first|refine zj ?_|refine zb ?_)|refine za fun C=>?_|refine zd ?_)
  refine zh ?_;refine ret0 rfl zg1 ⟨?_,rfl⟩;rfl
 ·exact absurd (by simpa using hG) hk
set_option maxHeartbeats 1000000 in
theorem implHeadZ {s:ByteArray}(hs:s.size≤1048576){l:List E}(hl:l.length≤1048576){k:Int}(h1:¬k=1)(h2:¬k=2)(h3:¬k=3)(h4:¬k=4)(h5:¬k=5)(h6:¬k=6)(h7:¬k=7)(h8:¬k=8)(h9:¬k=9)(h10:¬k=10)(h11:¬k=11)(h12:¬k=12)(h13:¬k=13)(h14:¬k=14)(h15:¬k=15)(h16:¬k=16)(h17:¬k=17)(h18:¬k=18):Ctr Tryz.prog 104 [.ag [.v (.int .i64 k),.v (.int .i64 0),.v (.string s),.ro l.length 4 (acL l)]] [] (.c (.v (.bool false))) []:=by
 refine ze1 Tryz.func104 rfl rfl ?_
 repeat' (first|(apply f_wo;first|(apply f_gs;refine n_sk ?_)|(apply f_mv;(refine zx1 ?_ ?_<;>intro hG<;>(try cases hG)))|(apply f_as;refine zq (v:=.c _) ?_)|(apply f_fa;refine n_fa ?_)|(apply f_ld;refine zn1 ?_)|(apply zn2;refine zm1 ?_)|(apply f_pk;refine zw1 (v:=.c _) ?_)|refine n_bo ?_|refine zz1 ?_)|(apply f_w;first|refine zj ?_|refine zb ?_)|refine za fun C=>?_|refine zd ?_)
 rotate_left
 ·exact absurd (by simpa using hG) h1
 refine zf1 rfl ?_
 repeat' (first|(apply f_wo;first|(apply f_as;refine zq (v:=.c _) ?_)|(apply f_fa;refine n_fa ?_)|(apply f_ld;refine zn1 ?_)|(apply zr1;refine zm ?_))|(apply f_w;first|refine zj ?_|refine zb ?_)|refine za fun C=>?_|refine zd ?_|refine ze ?_|refine zg ?_)
 iterate 40 ((try (first|refine zi (by rfl) (fun hC=>absurd (eq_of_beq hC) (by assumption)) fun hC=>?_|refine zf1 rfl ?_));(try repeat' (first|(apply f_wo;first|(apply f_as;refine zq (v:=.c _) ?_)|(apply zr1;refine zm ?_))|(apply f_w;first|refine zj ?_|refine zb ?_)|refine za fun C=>?_|refine zd ?_|refine zg ?_)))
 refine zh ?_;refine ret0 rfl zg1 ⟨?_,rfl⟩;rfl
theorem zk22 {k n:Int}{s:ByteArray}(hs:s.size≤1048576){l:List E}(hl:l.length≤1048576):Ctr Tryz.prog 104 [.ag [.v (.int .i64 k),.v (.int .i64 n),.v (.string s),.ro l.length 4 (acL l)]] [] (.c (.v (.bool (headB k n s l.length)))) []:=by
 by_cases h1:k=1
 ·subst h1
  exact implHead1 hs hl n
 by_cases hn:n=0
 ·subst hn
  by_cases h2:k=2
  ·subst h2
   exact implHead2 hs hl
  by_cases h3:k=3
  ·subst h3
   exact implHead3 hs hl
  by_cases h4:k=4
  ·subst h4
   exact implHead4 hs hl
  by_cases h5:k=5
  ·subst h5
   exact implHead5 hs hl
  by_cases h6:k=6
  ·subst h6
   exact implHead6 hs hl
  by_cases h7:k=7
  ·subst h7
   exact implHead7 hs hl
  by_cases h8:k=8
  ·subst h8
   exact implHead8 hs hl
  by_cases h9:k=9
  ·subst h9
   exact implHead9 hs hl
  by_cases h10:k=10
  ·subst h10
   exact zb22 hs hl
  by_cases h11:k=11
  ·subst h11
   exact zc22 hs hl
  by_cases h12:k=12
  ·subst h12
   exact zd22 hs hl
  by_cases h13:k=13
  ·subst h13
   exact ze22 hs hl
  by_cases h14:k=14
  ·subst h14
   exact zf22 hs hl
  by_cases h15:k=15
  ·subst h15
   exact zg22 hs hl
  by_cases h16:k=16
  ·subst h16
   exact zh22 hs hl
  by_cases h17:k=17
  ·subst h17
   exact zi22 hs hl
  by_cases h18:k=18
  ·subst h18
   exact zj22 hs hl
  rw [show headB k 0 s l.length=false by simp [headB, *]]
  exact implHeadZ hs hl h1 h2 h3 h4 h5 h6 h7 h8 h9 h10 h11 h12 h13 h14 h15 h16 h17 h18
 ·rw [show headB k n s l.length=false by simp [headB, *]]
  exact implHeadN hs hl h1 hn
end Go.Proofs.YtnjfnhoipnbpeaaGreatDoor
