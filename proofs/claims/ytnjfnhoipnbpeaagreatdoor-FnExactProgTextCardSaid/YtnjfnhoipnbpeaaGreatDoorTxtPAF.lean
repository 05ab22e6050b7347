/- Heads of statements: the reference. Printed by gen_stmt.py. -/
import Derived.Test.YtnjfnhoipnbpeaaGreatDoorTxtPAE
namespace Go.Proofs.YtnjfnhoipnbpeaaGreatDoor
open Go.RowKit
set_option maxRecDepth 100000
theorem ze4 {s t:ByteArray}{xs la lb:List E}(hx:xs.length≤1048576)(ha:la.length≤1048576)(hb:lb.length≤1048576)(k j:Int)(a b:Bool):Ctr Tryz.prog 112 [.ag [.v (.int .i64 k),.v (.string s),.v (.string t),.ro xs.length 4 (acL xs),.ro la.length 6 (acL la),.ro lb.length 6 (acL lb)],.c (.v (.int .i64 j)),.c (.v (.bool a)),.c (.v (.bool b))] [] (.c (.v (.bool (shp xs.length la.length lb.length j a b)))) []:=by
 cases a<;>cases b
 all_goals
  refine ze1 Tryz.func112 rfl rfl ?_
  repeat' (first|(apply f_wo;first|(apply f_gs;refine n_sk ?_)|(apply f_mv;first|(refine zx1 ?_ ?_<;>intro hG<;>(try cases hG))|refine zv (v:=.c _) ?_)|(apply f_as;refine zq (v:=.c _) ?_)|(apply f_fa;refine n_fa ?_)|(apply f_bi;refine zy1 ?_)|(apply zr1;refine zm ?_)|(apply f_pk;refine zw1 (v:=.c _) ?_)|refine n_bo ?_|refine zz1 ?_)|(apply f_w;first|refine zj ?_|refine zb ?_)|refine za fun C=>?_|refine zd ?_)
 all_goals (refine zh ?_;refine ret0 rfl zg1 ⟨?_,rfl⟩;first|rfl|(simp_all [shp];done))
theorem zn14 {s:ByteArray}(h:emB s=true):nameK s=false:=by
 have h0:s.size=0:=by
  unfold emB at h
  rw [beq_iff_eq] at h
  have:=congrArg List.length h
  simpa [ByteArray.toList_eq] using this
 simp [nameK,nameW,h0]
theorem zk20 {xs:List E}{x:E}(h:xs[0]? = some x):callX xs=(kindX x==11):=by
 cases xs with
 | nil=>simp at h
 | cons y r=>simp at h;subst h;rfl
theorem shp_no {n na nb j:Int}{a b:Bool}(h:¬n=j):shp n na nb j a b=false:=by simp [shp,h]
set_option maxHeartbeats 2000000 in
theorem l9Here1 {s t:ByteArray}(hs:s.size≤1048576)(ht:t.size≤1048576){xs la lb:List E}(hx:xs.length≤1048576)(ha:la.length≤1048576)(hb:lb.length≤1048576):Ctr Tryz.prog 101 [.ag [.v (.int .i64 1),.v (.string s),.v (.string t),.ro xs.length 4 (acL xs),.ro la.length 6 (acL la),.ro lb.length 6 (acL lb)]] [] (.c (.v (.bool (emB t&&(inR xs.length 1 5&&(emB s&&(((la.length:Int)==0)&&((lb.length:Int)==0)))))))) []:=by
 have cw:=zo7 (xs.length:Int) 1 5
 generalize inR (xs.length:Int) 1 5=bw at cw ⊢
 cases bw
 all_goals
  refine ze1 Tryz.func101 rfl rfl ?_
  repeat' (first|(apply f_wo;first|(apply f_gs;refine n_sk ?_)|(apply f_mv;(refine zx1 ?_ ?_<;>intro hG<;>(try cases hG)))|(apply f_as;refine zq (v:=.c _) ?_)|(apply f_fa;refine n_fa ?_)|(apply f_ld;refine zn1 ?_)|(apply f_ca;refine zk1 cw ?_)|(apply f_bi;refine zy1 ?_)|(apply zr1;first|refine zm ?_|refine zr2 ?_)|(apply zn2;first|refine zm1 ?_|refine zf3 ?_)|(apply f_pk;refine zw1 (v:=.c _) ?_)|refine n_bo ?_)|(apply f_w;first|refine zj ?_|refine zb ?_)|refine za fun C=>?_|refine zd ?_|refine ze ?_|refine zg ?_|(refine zi (by rfl) ?_ ?_<;>intro hC<;>(try cases hC)))
 all_goals first
  | (refine zh ?_;refine ret0 rfl zg1 ⟨?_,rfl⟩;first|rfl|(simp_all [emB,bne,shp,List.length_pos_iff];done))
  | (exfalso;simp_all [emB,bne,List.length_pos_iff];done)
set_option maxHeartbeats 2000000 in
theorem l9Here2 {s t:ByteArray}(hs:s.size≤1048576)(ht:t.size≤1048576){xs la lb:List E}(hx:xs.length≤1048576)(ha:la.length≤1048576)(hb:lb.length≤1048576):Ctr Tryz.prog 101 [.ag [.v (.int .i64 2),.v (.string s),.v (.string t),.ro xs.length 4 (acL xs),.ro la.length 6 (acL la),.ro lb.length 6 (acL lb)]] [] (.c (.v (.bool (emB t&&(nameK s&&shp xs.length la.length lb.length 1 false false))))) []:=by
 have cS:=ze4 (s:=s) (t:=t) hx ha hb 2 1 false false
 have cn:=zm3 hs
 generalize nameK s=bn at cn ⊢
 cases bn
 all_goals
  refine ze1 Tryz.func101 rfl rfl ?_
  repeat' (first|(apply f_wo;first|(apply f_gs;refine n_sk ?_)|(apply f_mv;(refine zx1 ?_ ?_<;>intro hG<;>(try cases hG)))|(apply f_as;refine zq (v:=.c _) ?_)|(apply f_fa;refine n_fa ?_)|(apply f_ld;first|refine zn1 ?_|refine zs2 ?_)|(apply f_ca;first|refine zk1 cS ?_|refine zk1 cn ?_)|(apply zr1;refine zm ?_)|(apply zn2;first|refine zm1 ?_|refine zf3 ?_)|(apply f_pk;refine zw1 (v:=.c _) ?_)|refine n_bo ?_)|(apply f_w;first|refine zj ?_|refine zb ?_)|refine za fun C=>?_|refine zd ?_|refine ze ?_|refine zg ?_|(refine zi (by rfl) ?_ ?_<;>intro hC<;>(try cases hC)))
 all_goals first
  | (refine zh ?_;refine ret0 rfl zg1 ⟨?_,rfl⟩;first|rfl|(simp_all [emB,bne,shp,List.length_pos_iff];done))
  | (exfalso;simp_all [emB,bne,List.length_pos_iff];done)
set_option maxHeartbeats 2000000 in
theorem l9Here3 {s t:ByteArray}(hs:s.size≤1048576)(ht:t.size≤1048576){xs la lb:List E}(hx:xs.length≤1048576)(ha:la.length≤1048576)(hb:lb.length≤1048576):Ctr Tryz.prog 101 [.ag [.v (.int .i64 3),.v (.string s),.v (.string t),.ro xs.length 4 (acL xs),.ro la.length 6 (acL la),.ro lb.length 6 (acL lb)]] [] (.c (.v (.bool (emB t&&(nameK s&&shp xs.length la.length lb.length 2 false false))))) []:=by
 have cS:=ze4 (s:=s) (t:=t) hx ha hb 3 2 false false
 have cn:=zm3 hs
 generalize nameK s=bn at cn ⊢
 cases bn
 all_goals
  refine ze1 Tryz.func101 rfl rfl ?_
  repeat' (first|(apply f_wo;first|(apply f_gs;refine n_sk ?_)|(apply f_mv;(refine zx1 ?_ ?_<;>intro hG<;>(try cases hG)))|(apply f_as;refine zq (v:=.c _) ?_)|(apply f_fa;refine n_fa ?_)|(apply f_ld;first|refine zn1 ?_|refine zs2 ?_)|(apply f_ca;first|refine zk1 cS ?_|refine zk1 cn ?_)|(apply zr1;refine zm ?_)|(apply zn2;first|refine zm1 ?_|refine zf3 ?_)|(apply f_pk;refine zw1 (v:=.c _) ?_)|refine n_bo ?_)|(apply f_w;first|refine zj ?_|refine zb ?_)|refine za fun C=>?_|refine zd ?_|refine ze ?_|refine zg ?_|(refine zi (by rfl) ?_ ?_<;>intro hC<;>(try cases hC)))
 all_goals first
  | (refine zh ?_;refine ret0 rfl zg1 ⟨?_,rfl⟩;first|rfl|(simp_all [emB,bne,shp,List.length_pos_iff];done))
  | (exfalso;simp_all [emB,bne,List.length_pos_iff];done)
set_option maxHeartbeats 2000000 in
theorem l9Here4 {s t:ByteArray}(hs:s.size≤1048576)(ht:t.size≤1048576){xs la lb:List E}(hx:xs.length≤1048576)(ha:la.length≤1048576)(hb:lb.length≤1048576):Ctr Tryz.prog 101 [.ag [.v (.int .i64 4),.v (.string s),.v (.string t),.ro xs.length 4 (acL xs),.ro la.length 6 (acL la),.ro lb.length 6 (acL lb)]] [] (.c (.v (.bool (emB t&&(emB s&&shp xs.length la.length lb.length 2 false false))))) []:=by
 have cS:=ze4 (s:=s) (t:=t) hx ha hb 4 2 false false
 all_goals
  refine ze1 Tryz.func101 rfl rfl ?_
  repeat' (first|(apply f_wo;first|(apply f_gs;refine n_sk ?_)|(apply f_mv;(refine zx1 ?_ ?_<;>intro hG<;>(try cases hG)))|(apply f_as;refine zq (v:=.c _) ?_)|(apply f_fa;refine n_fa ?_)|(apply f_ld;first|refine zn1 ?_|refine zs2 ?_)|(apply f_ca;refine zk1 cS ?_)|(apply zr1;first|refine zm ?_|refine zr2 ?_)|(apply zn2;first|refine zm1 ?_|refine zf3 ?_)|(apply f_pk;refine zw1 (v:=.c _) ?_)|refine n_bo ?_)|(apply f_w;first|refine zj ?_|refine zb ?_)|refine za fun C=>?_|refine zd ?_|refine ze ?_|refine zg ?_|(refine zi (by rfl) ?_ ?_<;>intro hC<;>(try cases hC)))
 all_goals first
  | (refine zh ?_;refine ret0 rfl zg1 ⟨?_,rfl⟩;first|rfl|(simp_all [emB,bne,shp,List.length_pos_iff];done))
  | (exfalso;simp_all [emB,bne,List.length_pos_iff];done)
set_option maxHeartbeats 2000000 in
theorem l9Here5 {s t:ByteArray}(hs:s.size≤1048576)(ht:t.size≤1048576){xs la lb:List E}(hx:xs.length≤1048576)(ha:la.length≤1048576)(hb:lb.length≤1048576):Ctr Tryz.prog 101 [.ag [.v (.int .i64 5),.v (.string s),.v (.string t),.ro xs.length 4 (acL xs),.ro la.length 6 (acL la),.ro lb.length 6 (acL lb)]] [] (.c (.v (.bool (emB t&&(emB s&&shp xs.length la.length lb.length 1 true true))))) []:=by
 have cS:=ze4 (s:=s) (t:=t) hx ha hb 5 1 true true
 all_goals
  refine ze1 Tryz.func101 rfl rfl ?_
  repeat' (first|(apply f_wo;first|(apply f_gs;refine n_sk ?_)|(apply f_mv;(refine zx1 ?_ ?_<;>intro hG<;>(try cases hG)))|(apply f_as;refine zq (v:=.c _) ?_)|(apply f_fa;refine n_fa ?_)|(apply f_ld;first|refine zn1 ?_|refine zs2 ?_)|(apply f_ca;refine zk1 cS ?_)|(apply zr1;first|refine zm ?_|refine zr2 ?_)|(apply zn2;first|refine zm1 ?_|refine zf3 ?_)|(apply f_pk;refine zw1 (v:=.c _) ?_)|refine n_bo ?_)|(apply f_w;first|refine zj ?_|refine zb ?_)|refine za fun C=>?_|refine zd ?_|refine ze ?_|refine zg ?_|(refine zi (by rfl) ?_ ?_<;>intro hC<;>(try cases hC)))
 all_goals first
  | (refine zh ?_;refine ret0 rfl zg1 ⟨?_,rfl⟩;first|rfl|(simp_all [emB,bne,shp,List.length_pos_iff];done))
  | (exfalso;simp_all [emB,bne,List.length_pos_iff];done)
set_option maxHeartbeats 2000000 in
theorem l9Here6 {s t:ByteArray}(hs:s.size≤1048576)(ht:t.size≤1048576){xs la lb:List E}(hx:xs.length≤1048576)(ha:la.length≤1048576)(hb:lb.length≤1048576):Ctr Tryz.prog 101 [.ag [.v (.int .i64 6),.v (.string s),.v (.string t),.ro xs.length 4 (acL xs),.ro la.length 6 (acL la),.ro lb.length 6 (acL lb)]] [] (.c (.v (.bool (emB t&&(emB s&&shp xs.length la.length lb.length 1 true false))))) []:=by
 have cS:=ze4 (s:=s) (t:=t) hx ha hb 6 1 true false
 all_goals
  refine ze1 Tryz.func101 rfl rfl ?_
  repeat' (first|(apply f_wo;first|(apply f_gs;refine n_sk ?_)|(apply f_mv;(refine zx1 ?_ ?_<;>intro hG<;>(try cases hG)))|(apply f_as;refine zq (v:=.c _) ?_)|(apply f_fa;refine n_fa ?_)|(apply f_ld;first|refine zn1 ?_|refine zs2 ?_)|(apply f_ca;refine zk1 cS ?_)|(apply zr1;first|refine zm ?_|refine zr2 ?_)|(apply zn2;first|refine zm1 ?_|refine zf3 ?_)|(apply f_pk;refine zw1 (v:=.c _) ?_)|refine n_bo ?_)|(apply f_w;first|refine zj ?_|refine zb ?_)|refine za fun C=>?_|refine zd ?_|refine ze ?_|refine zg ?_|(refine zi (by rfl) ?_ ?_<;>intro hC<;>(try cases hC)))
 all_goals first
  | (refine zh ?_;refine ret0 rfl zg1 ⟨?_,rfl⟩;first|rfl|(simp_all [emB,bne,shp,List.length_pos_iff];done))
  | (exfalso;simp_all [emB,bne,List.length_pos_iff];done)
set_option maxHeartbeats 2000000 in
theorem l9Here7 {s t:ByteArray}(hs:s.size≤1048576)(ht:t.size≤1048576){xs la lb:List E}(hx:xs.length≤1048576)(ha:la.length≤1048576)(hb:lb.length≤1048576):Ctr Tryz.prog 101 [.ag [.v (.int .i64 7),.v (.string s),.v (.string t),.ro xs.length 4 (acL xs),.ro la.length 6 (acL la),.ro lb.length 6 (acL lb)]] [] (.c (.v (.bool (nameK s&&(nameK t&&shp xs.length la.length lb.length 0 true false))))) []:=by
 have cS:=ze4 (s:=s) (t:=t) hx ha hb 7 0 true false
 have cn:=zm3 hs
 generalize nameK s=bn at cn ⊢
 have cm:=zm3 ht
 generalize nameK t=bm at cm ⊢
 cases bn<;>cases bm
 all_goals
  refine ze1 Tryz.func101 rfl rfl ?_
  repeat' (first|(apply f_wo;first|(apply f_gs;refine n_sk ?_)|(apply f_mv;(refine zx1 ?_ ?_<;>intro hG<;>(try cases hG)))|(apply f_as;refine zq (v:=.c _) ?_)|(apply f_fa;refine n_fa ?_)|(apply f_ld;first|refine zn1 ?_|refine zs2 ?_)|(apply f_ca;first|refine zk1 cS ?_|refine zk1 cn ?_|refine zk1 cm ?_)|(apply zr1;refine zm ?_)|(apply zn2;refine zm1 ?_)|(apply f_pk;refine zw1 (v:=.c _) ?_)|refine n_bo ?_)|(apply f_w;first|refine zj ?_|refine zb ?_)|refine za fun C=>?_|refine zd ?_|refine ze ?_|refine zg ?_|(refine zi (by rfl) ?_ ?_<;>intro hC<;>(try cases hC)))
 all_goals first
  | (refine zh ?_;refine ret0 rfl zg1 ⟨?_,rfl⟩;first|rfl|(simp_all [emB,bne,shp,List.length_pos_iff];done))
  | (exfalso;simp_all [emB,bne,List.length_pos_iff];done)
set_option maxHeartbeats 2000000 in
theorem l9Here8 {s t:ByteArray}(hs:s.size≤1048576)(ht:t.size≤1048576){xs la lb:List E}(hx:xs.length≤1048576)(ha:la.length≤1048576)(hb:lb.length≤1048576):Ctr Tryz.prog 101 [.ag [.v (.int .i64 8),.v (.string s),.v (.string t),.ro xs.length 4 (acL xs),.ro la.length 6 (acL la),.ro lb.length 6 (acL lb)]] [] (.c (.v (.bool (emB t&&(emB s&&shp xs.length la.length lb.length 0 false false))))) []:=by
 have cS:=ze4 (s:=s) (t:=t) hx ha hb 8 0 false false
 all_goals
  refine ze1 Tryz.func101 rfl rfl ?_
  repeat' (first|(apply f_wo;first|(apply f_gs;refine n_sk ?_)|(apply f_mv;(refine zx1 ?_ ?_<;>intro hG<;>(try cases hG)))|(apply f_as;refine zq (v:=.c _) ?_)|(apply f_fa;refine n_fa ?_)|(apply f_ld;first|refine zn1 ?_|refine zs2 ?_)|(apply f_ca;refine zk1 cS ?_)|(apply zr1;first|refine zm ?_|refine zr2 ?_)|(apply zn2;first|refine zm1 ?_|refine zf3 ?_)|(apply f_pk;refine zw1 (v:=.c _) ?_)|refine n_bo ?_)|(apply f_w;first|refine zj ?_|refine zb ?_)|refine za fun C=>?_|refine zd ?_|refine ze ?_|refine zg ?_|(refine zi (by rfl) ?_ ?_<;>intro hC<;>(try cases hC)))
 all_goals first
  | (refine zh ?_;refine ret0 rfl zg1 ⟨?_,rfl⟩;first|rfl|(simp_all [emB,bne,shp,List.length_pos_iff];done))
  | (exfalso;simp_all [emB,bne,List.length_pos_iff];done)
set_option maxHeartbeats 2000000 in
theorem l9Here9 {s t:ByteArray}(hs:s.size≤1048576)(ht:t.size≤1048576){xs la lb:List E}(hx:xs.length≤1048576)(ha:la.length≤1048576)(hb:lb.length≤1048576):Ctr Tryz.prog 101 [.ag [.v (.int .i64 9),.v (.string s),.v (.string t),.ro xs.length 4 (acL xs),.ro la.length 6 (acL la),.ro lb.length 6 (acL lb)]] [] (.c (.v (.bool (emB t&&(emB s&&shp xs.length la.length lb.length 1 false false))))) []:=by
 have cS:=ze4 (s:=s) (t:=t) hx ha hb 9 1 false false
 all_goals
  refine ze1 Tryz.func101 rfl rfl ?_
  repeat' (first|(apply f_wo;first|(apply f_gs;refine n_sk ?_)|(apply f_mv;(refine zx1 ?_ ?_<;>intro hG<;>(try cases hG)))|(apply f_as;refine zq (v:=.c _) ?_)|(apply f_fa;refine n_fa ?_)|(apply f_ld;first|refine zn1 ?_|refine zs2 ?_)|(apply f_ca;refine zk1 cS ?_)|(apply zr1;first|refine zm ?_|refine zr2 ?_)|(apply zn2;first|refine zm1 ?_|refine zf3 ?_)|(apply f_pk;refine zw1 (v:=.c _) ?_)|refine n_bo ?_)|(apply f_w;first|refine zj ?_|refine zb ?_)|refine za fun C=>?_|refine zd ?_|refine ze ?_|refine zg ?_|(refine zi (by rfl) ?_ ?_<;>intro hC<;>(try cases hC)))
 all_goals first
  | (refine zh ?_;refine ret0 rfl zg1 ⟨?_,rfl⟩;first|rfl|(simp_all [emB,bne,shp,List.length_pos_iff];done))
  | (exfalso;simp_all [emB,bne,List.length_pos_iff];done)
set_option maxHeartbeats 2000000 in
theorem l9Here10 {s t:ByteArray}(hs:s.size≤1048576)(ht:t.size≤1048576){xs la lb:List E}(hx:xs.length≤1048576)(ha:la.length≤1048576)(hb:lb.length≤1048576):Ctr Tryz.prog 101 [.ag [.v (.int .i64 10),.v (.string s),.v (.string t),.ro xs.length 4 (acL xs),.ro la.length 6 (acL la),.ro lb.length 6 (acL lb)]] [] (.c (.v (.bool (emB t&&(emB s&&shp xs.length la.length lb.length 1 false false))))) []:=by
 have cS:=ze4 (s:=s) (t:=t) hx ha hb 10 1 false false
 all_goals
  refine ze1 Tryz.func101 rfl rfl ?_
  repeat' (first|(apply f_wo;first|(apply f_gs;refine n_sk ?_)|(apply f_mv;(refine zx1 ?_ ?_<;>intro hG<;>(try cases hG)))|(apply f_as;refine zq (v:=.c _) ?_)|(apply f_fa;refine n_fa ?_)|(apply f_ld;first|refine zn1 ?_|refine zs2 ?_)|(apply f_ca;refine zk1 cS ?_)|(apply zr1;first|refine zm ?_|refine zr2 ?_)|(apply zn2;first|refine zm1 ?_|refine zf3 ?_)|(apply f_pk;refine zw1 (v:=.c _) ?_)|refine n_bo ?_)|(apply f_w;first|refine zj ?_|refine zb ?_)|refine za fun C=>?_|refine zd ?_|refine ze ?_|refine zg ?_|(refine zi (by rfl) ?_ ?_<;>intro hC<;>(try cases hC)))
 all_goals first
  | (refine zh ?_;refine ret0 rfl zg1 ⟨?_,rfl⟩;first|rfl|(simp_all [emB,bne,shp,List.length_pos_iff];done))
  | (exfalso;simp_all [emB,bne,List.length_pos_iff];done)
set_option maxHeartbeats 2000000 in
theorem l9Here11 {s t:ByteArray}(hs:s.size≤1048576)(ht:t.size≤1048576){xs la lb:List E}(hx:xs.length≤1048576)(ha:la.length≤1048576)(hb:lb.length≤1048576):Ctr Tryz.prog 101 [.ag [.v (.int .i64 11),.v (.string s),.v (.string t),.ro xs.length 4 (acL xs),.ro la.length 6 (acL la),.ro lb.length 6 (acL lb)]] [] (.c (.v (.bool (emB t&&(nameK s&&shp xs.length la.length lb.length 1 false false))))) []:=by
 have cS:=ze4 (s:=s) (t:=t) hx ha hb 11 1 false false
 have cn:=zm3 hs
 generalize nameK s=bn at cn ⊢
 cases bn
 all_goals
  refine ze1 Tryz.func101 rfl rfl ?_
  repeat' (first|(apply f_wo;first|(apply f_gs;refine n_sk ?_)|(apply f_mv;(refine zx1 ?_ ?_<;>intro hG<;>(try cases hG)))|(apply f_as;refine zq (v:=.c _) ?_)|(apply f_fa;refine n_fa ?_)|(apply f_ld;first|refine zn1 ?_|refine zs2 ?_)|(apply f_ca;first|refine zk1 cS ?_|refine zk1 cn ?_)|(apply zr1;refine zm ?_)|(apply zn2;first|refine zm1 ?_|refine zf3 ?_)|(apply f_pk;refine zw1 (v:=.c _) ?_)|refine n_bo ?_)|(apply f_w;first|refine zj ?_|refine zb ?_)|refine za fun C=>?_|refine zd ?_|refine ze ?_|refine zg ?_|(refine zi (by rfl) ?_ ?_<;>intro hC<;>(try cases hC)))
 all_goals first
  | (refine zh ?_;refine ret0 rfl zg1 ⟨?_,rfl⟩;first|rfl|(simp_all [emB,bne,shp,List.length_pos_iff];done))
  | (exfalso;simp_all [emB,bne,List.length_pos_iff];done)
set_option maxHeartbeats 2000000 in
theorem l9Here12 {s t:ByteArray}(hs:s.size≤1048576)(ht:t.size≤1048576){xs la lb:List E}(hx:xs.length≤1048576)(ha:la.length≤1048576)(hb:lb.length≤1048576)(hxt:∀e∈xs,e.Ty Tryz.prog 45)(hxk:∀e∈xs,e.enc.length=4):Ctr Tryz.prog 101 [.ag [.v (.int .i64 12),.v (.string s),.v (.string t),.ro xs.length 4 (acL xs),.ro la.length 6 (acL la),.ro lb.length 6 (acL lb)]] [] (.c (.v (.bool (emB t&&(emB s&&(shp xs.length la.length lb.length 1 false false&&callX xs)))))) []:=by
 have cS:=ze4 (s:=s) (t:=t) hx ha hb 12 1 false false
 by_cases hx1:xs.length=1
 ·obtain⟨x,hx0⟩:∃x,xs[0]? = some x:=⟨_,List.getElem?_eq_getElem (by omega)⟩
  rw [zk20 hx0]
  obtain⟨y0,y1,y2,yA,yc,yl,rfl,-⟩:=zh1 (hxt x (List.mem_of_getElem? hx0))
  rw [show kindX (.agg [.int .i64 y0,.int .i64 y1,.str y2,.lst 4 45 yA yc yl])=y0 from rfl]
  generalize shp xs.length la.length lb.length 1 false false=bS at cS ⊢
  cases bS
  all_goals
   refine ze1 Tryz.func101 rfl rfl ?_
   repeat' (first|(apply f_wo;first|(apply f_gs;refine n_sk ?_)|(apply f_mv;(refine zx1 ?_ ?_<;>intro hG<;>(try cases hG)))|(apply f_as;refine zq (v:=.c _) ?_)|(apply f_fa;first|refine n_fa ?_|refine zc7 ?_)|(apply f_ld;first|refine zn1 ?_|refine zz3 ?_|refine zs2 ?_)|(apply f_ca;refine zk1 cS ?_)|(apply f_ia;refine n_ix ?_)|(apply zr1;first|refine zm ?_|refine zr2 ?_)|(apply zn2;first|refine zm1 ?_|refine zf3 ?_)|(apply f_pk;refine zw1 (v:=.c _) ?_)|refine n_bo ?_)|(apply f_w;first|refine zj ?_|refine zb ?_)|refine za fun C=>?_|refine zd ?_|refine ze ?_|refine zg ?_|(refine zi (by rfl) ?_ ?_<;>intro hC<;>(try cases hC)))
  all_goals first
   | (refine zh ?_;refine ret0 rfl zg1 ⟨?_,rfl⟩;first|rfl|(simp_all [emB,bne,shp,List.length_pos_iff];done))
   | (exfalso;simp_all [emB,bne,List.length_pos_iff];done)
 ·rw [shp_no (show ¬(xs.length:Int)=1 by omega)] at cS ⊢
  refine ze1 Tryz.func101 rfl rfl ?_
  repeat' (first|(apply f_wo;first|(apply f_gs;refine n_sk ?_)|(apply f_mv;(refine zx1 ?_ ?_<;>intro hG<;>(try cases hG)))|(apply f_as;refine zq (v:=.c _) ?_)|(apply f_fa;refine n_fa ?_)|(apply f_ld;first|refine zn1 ?_|refine zs2 ?_)|(apply f_ca;refine zk1 cS ?_)|(apply zr1;first|refine zm ?_|refine zr2 ?_)|(apply zn2;first|refine zm1 ?_|refine zf3 ?_)|(apply f_pk;refine zw1 (v:=.c _) ?_)|refine n_bo ?_)|(apply f_w;first|refine zj ?_|refine zb ?_)|refine za fun C=>?_|refine zd ?_|refine ze ?_|refine zg ?_|(refine zi (by rfl) ?_ ?_<;>intro hC<;>(try cases hC)))
  all_goals first
   | (refine zh ?_;refine ret0 rfl zg1 ⟨?_,rfl⟩;first|rfl|(simp_all [emB,bne,shp,List.length_pos_iff];done))
   | (exfalso;simp_all [emB,bne,List.length_pos_iff];done)
set_option maxHeartbeats 2000000 in
theorem l9HereZ {s t:ByteArray}(hs:s.size≤1048576)(ht:t.size≤1048576){xs la lb:List E}(hx:xs.length≤1048576)(ha:la.length≤1048576)(hb:lb.length≤1048576){k:Int}(h1:¬k=1)(h2:¬k=2)(h3:¬k=3)(h4:¬k=4)(h5:¬k=5)(h6:¬k=6)(h7:¬k=7)(h8:¬k=8)(h9:¬k=9)(h10:¬k=10)(h11:¬k=11)(h12:¬k=12):Ctr Tryz.prog 101 [.ag [.v (.int .i64 k),.v (.string s),.v (.string t),.ro xs.length 4 (acL xs),.ro la.length 6 (acL la),.ro lb.length 6 (acL lb)]] [] (.c (.v (.bool false))) []:=by
 refine ze1 Tryz.func101 rfl rfl ?_
 repeat' (first|(apply f_wo;first|(apply f_gs;refine n_sk ?_)|(apply f_mv;(refine zx1 ?_ ?_<;>intro hG<;>(try cases hG)))|(apply f_as;refine zq (v:=.c _) ?_)|(apply f_fa;refine n_fa ?_)|(apply f_ld;refine zn1 ?_)|(apply zn2;first|refine zm1 ?_|refine zf3 ?_)|(apply f_pk;refine zw1 (v:=.c _) ?_)|refine n_bo ?_)|(apply f_w;first|refine zj ?_|refine zb ?_)|refine za fun C=>?_|refine zd ?_)
 rotate_left
 ·exact absurd (by simpa using hG) h7
 refine zi (by rfl) (fun hC=>?_) fun hC=>?_
 ·repeat' (first|(apply f_wo;(apply f_as;refine zq (v:=.c _) ?_))|(apply f_w;first|refine zj ?_|refine zb ?_)|refine za fun C=>?_|refine zd ?_)
  refine zh ?_;refine ret0 rfl zg1 ⟨?_,rfl⟩;rfl
 repeat' (first|(apply f_wo;first|(apply f_as;refine zq (v:=.c _) ?_)|(apply f_fa;refine n_fa ?_)|(apply f_ld;refine zn1 ?_)|(apply zr1;refine zm ?_))|(apply f_w;first|refine zj ?_|refine zb ?_)|refine za fun C=>?_|refine zd ?_|refine ze ?_|refine zg ?_)
 iterate 30 ((try (first|refine zi (by rfl) (fun hC=>absurd (eq_of_beq hC) (by assumption)) fun hC=>?_|refine zf1 rfl ?_));(try repeat' (first|(apply f_wo;first|(apply f_as;refine zq (v:=.c _) ?_)|(apply zr1;refine zm ?_))|(apply f_w;first|refine zj ?_|refine zb ?_)|refine za fun C=>?_|refine zd ?_|refine zg ?_)))
 refine zh ?_;refine ret0 rfl zg1 ⟨?_,rfl⟩;rfl
theorem l9Here_c {k:Int}{s t:ByteArray}(hs:s.size≤1048576)(ht:t.size≤1048576){xs la lb:List E}(hx:xs.length≤1048576)(ha:la.length≤1048576)(hb:lb.length≤1048576)(hxt:∀e∈xs,e.Ty Tryz.prog 45)(hxk:∀e∈xs,e.enc.length=4):Ctr Tryz.prog 101 [.ag [.v (.int .i64 k),.v (.string s),.v (.string t),.ro xs.length 4 (acL xs),.ro la.length 6 (acL la),.ro lb.length 6 (acL lb)]] [] (.c (.v (.bool (shapeB k s t xs.length la.length lb.length (callX xs))))) []:=by
 by_cases h1:k=1
 ·subst h1
  exact l9Here1 hs ht hx ha hb
 by_cases h2:k=2
 ·subst h2
  exact l9Here2 hs ht hx ha hb
 by_cases h3:k=3
 ·subst h3
  exact l9Here3 hs ht hx ha hb
 by_cases h4:k=4
 ·subst h4
  exact l9Here4 hs ht hx ha hb
 by_cases h5:k=5
 ·subst h5
  exact l9Here5 hs ht hx ha hb
 by_cases h6:k=6
 ·subst h6
  exact l9Here6 hs ht hx ha hb
 by_cases h7:k=7
 ·subst h7
  exact l9Here7 hs ht hx ha hb
 by_cases h8:k=8
 ·subst h8
  exact l9Here8 hs ht hx ha hb
 by_cases h9:k=9
 ·subst h9
  exact l9Here9 hs ht hx ha hb
 by_cases h10:k=10
 ·subst h10
  exact l9Here10 hs ht hx ha hb
 by_cases h11:k=11
 ·subst h11
  exact l9Here11 hs ht hx ha hb
 by_cases h12:k=12
 ·subst h12
  exact l9Here12 hs ht hx ha hb hxt hxk
 rw [show shapeB k s t xs.length la.length lb.length (callX xs)=false by simp [shapeB, *]]
 exact l9HereZ hs ht hx ha hb h1 h2 h3 h4 h5 h6 h7 h8 h9 h10 h11 h12
end Go.Proofs.YtnjfnhoipnbpeaaGreatDoor
