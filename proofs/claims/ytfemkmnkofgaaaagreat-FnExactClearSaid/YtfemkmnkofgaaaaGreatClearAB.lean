/- The law FnExactClear, walked. -/
import Derived.Deep.DeepCutAuto
import Derived.Test.YtfemkmnkofgaaaaGreatClearAA
namespace Go.Proofs.YtfemkmnkofgaaaaGreat
open Go.RowKit
set_option maxRecDepth 100000 in
set_option maxHeartbeats 8000000 in
theorem zq18 (w:World){a0:E}(ta0:a0.Ty Tryz.prog 33)(ra0:a0.In w) :
 Calls Tryz.prog 3 #[a0.val] w fun e w'=>e=.returned (.bool true)∧Below w.heap.size w w':=by
 have TA0:=Lib.hid ta0
 obtain⟨D0,HDa0⟩:∃D:E,Hid (a0.d=D):=⟨_,rfl⟩
 obtain⟨a0_0A,a0_0c,a0_0l,a0_1A,a0_1c,a0_1l,a0_2A,a0_2c,a0_2l,a0_3A,a0_3c,a0_3l,a0_4,a0_5A,a0_5c,a0_5l,a0_6,a0_7A,a0_7c,a0_7l,a0_8,a0_9,a0_10,a0_11,a0_12,rfl,ga0_0,ga0_1,ga0_2,ga0_3,ga0_4,ga0_5,ga0_6,ga0_7,ga0_8,ga0_9,ga0_10,ga0_11,-⟩:=za4 ta0
 change Calls _ _ #[.agg #[.slice a0_0A a0_0l.length a0_0c,.slice a0_1A a0_1l.length a0_1c,.slice a0_2A a0_2l.length a0_2c,.slice a0_3A a0_3l.length a0_3c,.string a0_4,.slice a0_5A a0_5l.length a0_5c,.int .i64 a0_6,.slice a0_7A a0_7l.length a0_7c,.int .i64 a0_8,.int .i64 a0_9,.int .i64 a0_10,.int .i64 a0_11,.bool a0_12]] w _
 go_enter Tryz.func3,Tryz.ntmps3
 go_upto_region 0 with fail
 go_cut [1,2] (fun s1 s2 wx=>∃(g0:Nat),s1=.pointer (some ⟨g0,0,none⟩)∧s2=.bool false∧wx.heap[g0]? = some (.cells #[.slice a0_0A a0_0l.length a0_0c,.slice a0_1A a0_1l.length a0_1c,.slice a0_2A a0_2l.length a0_2c,.slice a0_3A a0_3l.length a0_3c,.string a0_4,.slice a0_5A a0_5l.length a0_5c,.int .i64 a0_6,.slice a0_7A a0_7l.length a0_7c,.int .i64 a0_8,.int .i64 a0_9,.int .i64 a0_10,.int .i64 a0_11,.bool a0_12] 33 (0,0))∧w.heap.size≤g0∧Below w.heap.size w wx)
 case first =>
  go_wp2_with fail
  go_meet
  refine⟨_,rfl,rfl,?_,?_,?_⟩
  ·(repeat (first|(with_reducible assumption)|(with_reducible refine zl ?_)|(with_reducible refine zh ?_)|(refine zz9 ?_;first|rfl|(simp;done))|(with_reducible refine zf ?_ ?_)|(refine zg (by with_reducible assumption) ?_ ?_)|omega|(·simp)|(·(simp;omega))))
  ·first|omega|(simp;done)|(simp;omega)
  ·exact by0
 case rest =>
  obtain⟨g0,rfl,rfl,B1_0,lb0,hb1⟩:=hcut
  obtain⟨W1,hWeq⟩:∃W:World,W=wc:=⟨_,rfl⟩
  subst hWeq
  have hs1:=hb1.size
  have lu0:=zy9 B1_0
  have RA1_0:(E.agg [(.agg [.lst 4 129 a0_0A a0_0c a0_0l]),.lst 1 3 a0_1A a0_1c a0_1l,.lst 1 90 a0_2A a0_2c a0_2l,.lst 6 96 a0_3A a0_3c a0_3l,(.agg [.str a0_4,.lst 1 9 a0_5A a0_5c a0_5l]),.int .i64 a0_6,.lst 1 5 a0_7A a0_7c a0_7l,.int .i64 a0_8,.int .i64 a0_9,.int .i64 a0_10,.int .i64 a0_11,.bool a0_12]).Re W1 0 w.heap.size:=(show (E.agg [(.agg [.lst 4 129 a0_0A a0_0c a0_0l]),.lst 1 3 a0_1A a0_1c a0_1l,.lst 1 90 a0_2A a0_2c a0_2l,.lst 6 96 a0_3A a0_3c a0_3l,(.agg [.str a0_4,.lst 1 9 a0_5A a0_5c a0_5l]),.int .i64 a0_6,.lst 1 5 a0_7A a0_7c a0_7l,.int .i64 a0_8,.int .i64 a0_9,.int .i64 a0_10,.int .i64 a0_11,.bool a0_12]).Re w 0 w.heap.size from ra0).below hb1 (by omega)
  have hB1:Below w.heap.size w W1:=hb1
  go_upto_region 2 with fail
  go_cut [3] (fun s3 wx=>∃(r1:Int),s3=.int .i64 r1∧(r1<0∨Hid (r1+(E.agg [(.agg [.lst 4 129 a0_0A a0_0c a0_0l]),.lst 1 3 a0_1A a0_1c a0_1l,.lst 1 90 a0_2A a0_2c a0_2l,.lst 6 96 a0_3A a0_3c a0_3l,(.agg [.str a0_4,.lst 1 9 a0_5A a0_5c a0_5l]),.int .i64 a0_6,.lst 1 5 a0_7A a0_7c a0_7l,.int .i64 a0_8,.int .i64 a0_9,.int .i64 a0_10,.int .i64 a0_11,.bool a0_12]).sz=1048576))∧r1≤1048576∧Below W1.heap.size W1 wx)
  case first =>
   have hwW:=hB1.size
   have ltW0:g0<W1.heap.size:=by omega
   clear hs1 lu0 lb0
   have z0_0_0:W1.cell? ⟨g0,0,none⟩=some (.slice a0_0A a0_0l.length a0_0c):=za B1_0 rfl
   have z0_0_1:W1.cell? ⟨g0,1,none⟩=some (.slice a0_1A a0_1l.length a0_1c):=za B1_0 rfl
   have z0_0_2:W1.cell? ⟨g0,2,none⟩=some (.slice a0_2A a0_2l.length a0_2c):=za B1_0 rfl
   have z0_0_3:W1.cell? ⟨g0,3,none⟩=some (.slice a0_3A a0_3l.length a0_3c):=za B1_0 rfl
   have z0_0_4:W1.cell? ⟨g0,4,none⟩=some (.string a0_4):=za B1_0 rfl
   have z0_0_5:W1.cell? ⟨g0,5,none⟩=some (.slice a0_5A a0_5l.length a0_5c):=za B1_0 rfl
   have z0_0_6:W1.cell? ⟨g0,6,none⟩=some (.int .i64 a0_6):=za B1_0 rfl
   have z0_0_7:W1.cell? ⟨g0,7,none⟩=some (.slice a0_7A a0_7l.length a0_7c):=za B1_0 rfl
   have z0_0_8:W1.cell? ⟨g0,8,none⟩=some (.int .i64 a0_8):=za B1_0 rfl
   have z0_0_9:W1.cell? ⟨g0,9,none⟩=some (.int .i64 a0_9):=za B1_0 rfl
   have z0_0_10:W1.cell? ⟨g0,10,none⟩=some (.int .i64 a0_10):=za B1_0 rfl
   have z0_0_11:W1.cell? ⟨g0,11,none⟩=some (.int .i64 a0_11):=za B1_0 rfl
   have z0_0_12:W1.cell? ⟨g0,12,none⟩=some (.bool a0_12):=za B1_0 rfl
   go_wp2_with fail
   go_at_call 4
   refine (zg15 TA0.out _ _ (by have h:(E.agg [(.agg [.lst 4 129 a0_0A a0_0c a0_0l]),.lst 1 3 a0_1A a0_1c a0_1l,.lst 1 90 a0_2A a0_2c a0_2l,.lst 6 96 a0_3A a0_3c a0_3l,(.agg [.str a0_4,.lst 1 9 a0_5A a0_5c a0_5l]),.int .i64 a0_6,.lst 1 5 a0_7A a0_7c a0_7l,.int .i64 a0_8,.int .i64 a0_9,.int .i64 a0_10,.int .i64 a0_11,.bool a0_12]).In W1:=E.Re.inn RA1_0 (by omega);exact by2) (by omega) (by omega)).mono ?_;rintro e w1 ⟨r1,rfl,hr1,hl1,hb1⟩
   go_wp2_with fail
   go_meet
   refine⟨r1,rfl,?_,?_,?_⟩
   ·exact hr1
   ·exact hl1
   ·exact by0
  case rest =>
   obtain⟨r1,rfl,hr1,hl1,hb2⟩:=hcut
   obtain⟨W2,hWeq⟩:∃W:World,W=wc:=⟨_,rfl⟩
   subst hWeq
   have hs2:=hb2.size
   have B2_0:=(hb2.block g0 (by omega)).trans B1_0
   clear B1_0
   have RA2_0:(E.agg [(.agg [.lst 4 129 a0_0A a0_0c a0_0l]),.lst 1 3 a0_1A a0_1c a0_1l,.lst 1 90 a0_2A a0_2c a0_2l,.lst 6 96 a0_3A a0_3c a0_3l,(.agg [.str a0_4,.lst 1 9 a0_5A a0_5c a0_5l]),.int .i64 a0_6,.lst 1 5 a0_7A a0_7c a0_7l,.int .i64 a0_8,.int .i64 a0_9,.int .i64 a0_10,.int .i64 a0_11,.bool a0_12]).Re W2 0 w.heap.size:=RA1_0.below hb2 (by omega)
   clear RA1_0
   have hB2:Below w.heap.size w W2:=hB1.trans (hb2.mono (by omega))
   by_cases hn1:r1<0
   ·go_wp2
    go_ret
    exact⟨rfl,hB2⟩
   have HR1:=hr1.resolve_left hn1
   clear hr1
   have hz1:(E.agg [(.agg [.lst 4 129 a0_0A a0_0c a0_0l]),.lst 1 3 a0_1A a0_1c a0_1l,.lst 1 90 a0_2A a0_2c a0_2l,.lst 6 96 a0_3A a0_3c a0_3l,(.agg [.str a0_4,.lst 1 9 a0_5A a0_5c a0_5l]),.int .i64 a0_6,.lst 1 5 a0_7A a0_7c a0_7l,.int .i64 a0_8,.int .i64 a0_9,.int .i64 a0_10,.int .i64 a0_11,.bool a0_12]).sz≤1048576:=by have:=HR1.out;omega
   have hD0:D0.sz≤1048576:=by rw [←HDa0.out,E.sz_d];exact hz1
   go_upto_region 5 with fail
   go_cut [4] (fun s4 wx=>∃(g1:Nat) (x3_0A:Option Addr) (x3_0c:Nat) (x3_0l:List E) (x3_1A:Option Addr) (x3_1c:Nat) (x3_1l:List E) (x3_2A:Option Addr) (x3_2c:Nat) (x3_2l:List E) (x3_3A:Option Addr) (x3_3c:Nat) (x3_3l:List E) (x3_4:ByteArray) (x3_5A:Option Addr) (x3_5c:Nat) (x3_5l:List E) (x3_6:Int) (x3_7A:Option Addr) (x3_7c:Nat) (x3_7l:List E) (x3_8:Int) (x3_9:Int) (x3_10:Int) (x3_11:Int) (x3_12:Bool),s4=.pointer (some ⟨g1,0,none⟩)∧wx.heap[g1]? = some (.cells #[.slice x3_0A x3_0l.length x3_0c,.slice x3_1A x3_1l.length x3_1c,.slice x3_2A x3_2l.length x3_2c,.slice x3_3A x3_3l.length x3_3c,.string x3_4,.slice x3_5A x3_5l.length x3_5c,.int .i64 x3_6,.slice x3_7A x3_7l.length x3_7c,.int .i64 x3_8,.int .i64 x3_9,.int .i64 x3_10,.int .i64 x3_11,.bool x3_12] 42 (0,0))∧W2.heap.size≤g1∧Hid ((E.agg [(.agg [.lst 4 110 x3_0A x3_0c x3_0l]),.lst 1 3 x3_1A x3_1c x3_1l,.lst 1 65 x3_2A x3_2c x3_2l,.lst 6 60 x3_3A x3_3c x3_3l,(.agg [.str x3_4,.lst 1 9 x3_5A x3_5c x3_5l]),.int .i64 x3_6,.lst 1 5 x3_7A x3_7c x3_7l,.int .i64 x3_8,.int .i64 x3_9,.int .i64 x3_10,.int .i64 x3_11,.bool x3_12]).Ty Tryz.prog 42)∧Hid ((E.agg [(.agg [.lst 4 110 x3_0A x3_0c x3_0l]),.lst 1 3 x3_1A x3_1c x3_1l,.lst 1 65 x3_2A x3_2c x3_2l,.lst 6 60 x3_3A x3_3c x3_3l,(.agg [.str x3_4,.lst 1 9 x3_5A x3_5c x3_5l]),.int .i64 x3_6,.lst 1 5 x3_7A x3_7c x3_7l,.int .i64 x3_8,.int .i64 x3_9,.int .i64 x3_10,.int .i64 x3_11,.bool x3_12]).d=clrD D0)∧(E.agg [(.agg [.lst 4 110 x3_0A x3_0c x3_0l]),.lst 1 3 x3_1A x3_1c x3_1l,.lst 1 65 x3_2A x3_2c x3_2l,.lst 6 60 x3_3A x3_3c x3_3l,(.agg [.str x3_4,.lst 1 9 x3_5A x3_5c x3_5l]),.int .i64 x3_6,.lst 1 5 x3_7A x3_7c x3_7l,.int .i64 x3_8,.int .i64 x3_9,.int .i64 x3_10,.int .i64 x3_11,.bool x3_12]).Re wx W2.heap.size wx.heap.size∧Below W2.heap.size W2 wx)
   case first =>
    have hwW:=hB2.size
    have ltW0:g0<W2.heap.size:=by omega
    clear hs1 lu0 lb0 hs2
    have z0_0_0:W2.cell? ⟨g0,0,none⟩=some (.slice a0_0A a0_0l.length a0_0c):=za B2_0 rfl
    have z0_0_1:W2.cell? ⟨g0,1,none⟩=some (.slice a0_1A a0_1l.length a0_1c):=za B2_0 rfl
    have z0_0_2:W2.cell? ⟨g0,2,none⟩=some (.slice a0_2A a0_2l.length a0_2c):=za B2_0 rfl
    have z0_0_3:W2.cell? ⟨g0,3,none⟩=some (.slice a0_3A a0_3l.length a0_3c):=za B2_0 rfl
    have z0_0_4:W2.cell? ⟨g0,4,none⟩=some (.string a0_4):=za B2_0 rfl
    have z0_0_5:W2.cell? ⟨g0,5,none⟩=some (.slice a0_5A a0_5l.length a0_5c):=za B2_0 rfl
    have z0_0_6:W2.cell? ⟨g0,6,none⟩=some (.int .i64 a0_6):=za B2_0 rfl
    have z0_0_7:W2.cell? ⟨g0,7,none⟩=some (.slice a0_7A a0_7l.length a0_7c):=za B2_0 rfl
    have z0_0_8:W2.cell? ⟨g0,8,none⟩=some (.int .i64 a0_8):=za B2_0 rfl
    have z0_0_9:W2.cell? ⟨g0,9,none⟩=some (.int .i64 a0_9):=za B2_0 rfl
    have z0_0_10:W2.cell? ⟨g0,10,none⟩=some (.int .i64 a0_10):=za B2_0 rfl
    have z0_0_11:W2.cell? ⟨g0,11,none⟩=some (.int .i64 a0_11):=za B2_0 rfl
    have z0_0_12:W2.cell? ⟨g0,12,none⟩=some (.bool a0_12):=za B2_0 rfl
    go_wp2_with fail
    go_at_call 6
    (with_reducible change Calls _ _ #[.agg #[.slice a0_0A a0_0l.length a0_0c,.slice a0_1A a0_1l.length a0_1c,.slice a0_2A a0_2l.length a0_2c,.slice a0_3A a0_3l.length a0_3c,.string a0_4,.slice a0_5A a0_5l.length a0_5c,.int .i64 a0_6,.slice a0_7A a0_7l.length a0_7c,.int .i64 a0_8,.int .i64 a0_9,.int .i64 a0_10,.int .i64 a0_11,.bool a0_12]] _ _);refine (zd5 TA0.out _ (by have h:(E.agg [(.agg [.lst 4 129 a0_0A a0_0c a0_0l]),.lst 1 3 a0_1A a0_1c a0_1l,.lst 1 90 a0_2A a0_2c a0_2l,.lst 6 96 a0_3A a0_3c a0_3l,(.agg [.str a0_4,.lst 1 9 a0_5A a0_5c a0_5l]),.int .i64 a0_6,.lst 1 5 a0_7A a0_7c a0_7l,.int .i64 a0_8,.int .i64 a0_9,.int .i64 a0_10,.int .i64 a0_11,.bool a0_12]).In W2:=E.Re.inn RA2_0 (by omega);exact by2) (by omega)).mono ?_;rintro e2 w2 ⟨x2,e2h,HD2,ht2,ho2,hn2,hb2⟩;have HT2:=Lib.hid ht2;have HD2:=Lib.hid (HD2.out.trans HDa0.out);obtain⟨x2_0A,x2_0c,x2_0l,x2_1A,x2_1c,x2_1l,x2_2A,x2_2c,x2_2l,x2_3A,x2_3c,x2_3l,x2_4,x2_5A,x2_5c,x2_5l,x2_6,x2_7A,x2_7c,x2_7l,x2_8,x2_9,x2_10,x2_11,x2_12,rfl,-,-,-,-,-,-,-,-,-,-,-,-,-⟩:=zb1 ht2;obtain rfl:e2=.returned (.agg #[.slice x2_0A x2_0l.length x2_0c,.slice x2_1A x2_1l.length x2_1c,.slice x2_2A x2_2l.length x2_2c,.slice x2_3A x2_3l.length x2_3c,.string x2_4,.slice x2_5A x2_5l.length x2_5c,.int .i64 x2_6,.slice x2_7A x2_7l.length x2_7c,.int .i64 x2_8,.int .i64 x2_9,.int .i64 x2_10,.int .i64 x2_11,.bool x2_12]):=e2h;have HO2:=Lib.hid ho2;have HN2:=Lib.hid hn2;clear ht2 ho2 hn2;have hz2:=hb2.size;(try simp only [World.size_alloc,World.size_drew,World.heap_drewN,World.size_setCell] at hz2)
    have z2_0_0:w2.cell? ⟨g0,0,none⟩=some (.slice a0_0A a0_0l.length a0_0c):=za (by exact (by repeat (first|(with_reducible assumption)|(with_reducible refine zl ?_)|(with_reducible refine zh ?_)|(with_reducible refine zf ?_ ?_)|(refine zg (by with_reducible assumption) ?_ ?_)|omega|(·simp)|(·(simp;omega)))):w2.heap[g0]? = some (.cells #[.slice a0_0A a0_0l.length a0_0c,.slice a0_1A a0_1l.length a0_1c,.slice a0_2A a0_2l.length a0_2c,.slice a0_3A a0_3l.length a0_3c,.string a0_4,.slice a0_5A a0_5l.length a0_5c,.int .i64 a0_6,.slice a0_7A a0_7l.length a0_7c,.int .i64 a0_8,.int .i64 a0_9,.int .i64 a0_10,.int .i64 a0_11,.bool a0_12] 33 (0,0))) rfl
    have z2_0_1:w2.cell? ⟨g0,1,none⟩=some (.slice a0_1A a0_1l.length a0_1c):=za (by exact (by repeat (first|(with_reducible assumption)|(with_reducible refine zl ?_)|(with_reducible refine zh ?_)|(with_reducible refine zf ?_ ?_)|(refine zg (by with_reducible assumption) ?_ ?_)|omega|(·simp)|(·(simp;omega)))):w2.heap[g0]? = some (.cells #[.slice a0_0A a0_0l.length a0_0c,.slice a0_1A a0_1l.length a0_1c,.slice a0_2A a0_2l.length a0_2c,.slice a0_3A a0_3l.length a0_3c,.string a0_4,.slice a0_5A a0_5l.length a0_5c,.int .i64 a0_6,.slice a0_7A a0_7l.length a0_7c,.int .i64 a0_8,.int .i64 a0_9,.int .i64 a0_10,.int .i64 a0_11,.bool a0_12] 33 (0,0))) rfl
    have z2_0_2:w2.cell? ⟨g0,2,none⟩=some (.slice a0_2A a0_2l.length a0_2c):=za (by exact (by repeat (first|(with_reducible assumption)|(with_reducible refine zl ?_)|(with_reducible refine zh ?_)|(with_reducible refine zf ?_ ?_)|(refine zg (by with_reducible assumption) ?_ ?_)|omega|(·simp)|(·(simp;omega)))):w2.heap[g0]? = some (.cells #[.slice a0_0A a0_0l.length a0_0c,.slice a0_1A a0_1l.length a0_1c,.slice a0_2A a0_2l.length a0_2c,.slice a0_3A a0_3l.length a0_3c,.string a0_4,.slice a0_5A a0_5l.length a0_5c,.int .i64 a0_6,.slice a0_7A a0_7l.length a0_7c,.int .i64 a0_8,.int .i64 a0_9,.int .i64 a0_10,.int .i64 a0_11,.bool a0_12] 33 (0,0))) rfl
    have z2_0_3:w2.cell? ⟨g0,3,none⟩=some (.slice a0_3A a0_3l.length a0_3c):=za (by exact (by repeat (first|(with_reducible assumption)|(with_reducible refine zl ?_)|(with_reducible refine zh ?_)|(with_reducible refine zf ?_ ?_)|(refine zg (by with_reducible assumption) ?_ ?_)|omega|(·simp)|(·(simp;omega)))):w2.heap[g0]? = some (.cells #[.slice a0_0A a0_0l.length a0_0c,.slice a0_1A a0_1l.length a0_1c,.slice a0_2A a0_2l.length a0_2c,.slice a0_3A a0_3l.length a0_3c,.string a0_4,.slice a0_5A a0_5l.length a0_5c,.int .i64 a0_6,.slice a0_7A a0_7l.length a0_7c,.int .i64 a0_8,.int .i64 a0_9,.int .i64 a0_10,.int .i64 a0_11,.bool a0_12] 33 (0,0))) rfl
    have z2_0_4:w2.cell? ⟨g0,4,none⟩=some (.string a0_4):=za (by exact (by repeat (first|(with_reducible assumption)|(with_reducible refine zl ?_)|(with_reducible refine zh ?_)|(with_reducible refine zf ?_ ?_)|(refine zg (by with_reducible assumption) ?_ ?_)|omega|(·simp)|(·(simp;omega)))):w2.heap[g0]? = some (.cells #[.slice a0_0A a0_0l.length a0_0c,.slice a0_1A a0_1l.length a0_1c,.slice a0_2A a0_2l.length a0_2c,.slice a0_3A a0_3l.length a0_3c,.string a0_4,.slice a0_5A a0_5l.length a0_5c,.int .i64 a0_6,.slice a0_7A a0_7l.length a0_7c,.int .i64 a0_8,.int .i64 a0_9,.int .i64 a0_10,.int .i64 a0_11,.bool a0_12] 33 (0,0))) rfl
    have z2_0_5:w2.cell? ⟨g0,5,none⟩=some (.slice a0_5A a0_5l.length a0_5c):=za (by exact (by repeat (first|(with_reducible assumption)|(with_reducible refine zl ?_)|(with_reducible refine zh ?_)|(with_reducible refine zf ?_ ?_)|(refine zg (by with_reducible assumption) ?_ ?_)|omega|(·simp)|(·(simp;omega)))):w2.heap[g0]? = some (.cells #[.slice a0_0A a0_0l.length a0_0c,.slice a0_1A a0_1l.length a0_1c,.slice a0_2A a0_2l.length a0_2c,.slice a0_3A a0_3l.length a0_3c,.string a0_4,.slice a0_5A a0_5l.length a0_5c,.int .i64 a0_6,.slice a0_7A a0_7l.length a0_7c,.int .i64 a0_8,.int .i64 a0_9,.int .i64 a0_10,.int .i64 a0_11,.bool a0_12] 33 (0,0))) rfl
    have z2_0_6:w2.cell? ⟨g0,6,none⟩=some (.int .i64 a0_6):=za (by exact (by repeat (first|(with_reducible assumption)|(with_reducible refine zl ?_)|(with_reducible refine zh ?_)|(with_reducible refine zf ?_ ?_)|(refine zg (by with_reducible assumption) ?_ ?_)|omega|(·simp)|(·(simp;omega)))):w2.heap[g0]? = some (.cells #[.slice a0_0A a0_0l.length a0_0c,.slice a0_1A a0_1l.length a0_1c,.slice a0_2A a0_2l.length a0_2c,.slice a0_3A a0_3l.length a0_3c,.string a0_4,.slice a0_5A a0_5l.length a0_5c,.int .i64 a0_6,.slice a0_7A a0_7l.length a0_7c,.int .i64 a0_8,.int .i64 a0_9,.int .i64 a0_10,.int .i64 a0_11,.bool a0_12] 33 (0,0))) rfl
    have z2_0_7:w2.cell? ⟨g0,7,none⟩=some (.slice a0_7A a0_7l.length a0_7c):=za (by exact (by repeat (first|(with_reducible assumption)|(with_reducible refine zl ?_)|(with_reducible refine zh ?_)|(with_reducible refine zf ?_ ?_)|(refine zg (by with_reducible assumption) ?_ ?_)|omega|(·simp)|(·(simp;omega)))):w2.heap[g0]? = some (.cells #[.slice a0_0A a0_0l.length a0_0c,.slice a0_1A a0_1l.length a0_1c,.slice a0_2A a0_2l.length a0_2c,.slice a0_3A a0_3l.length a0_3c,.string a0_4,.slice a0_5A a0_5l.length a0_5c,.int .i64 a0_6,.slice a0_7A a0_7l.length a0_7c,.int .i64 a0_8,.int .i64 a0_9,.int .i64 a0_10,.int .i64 a0_11,.bool a0_12] 33 (0,0))) rfl
    have z2_0_8:w2.cell? ⟨g0,8,none⟩=some (.int .i64 a0_8):=za (by exact (by repeat (first|(with_reducible assumption)|(with_reducible refine zl ?_)|(with_reducible refine zh ?_)|(with_reducible refine zf ?_ ?_)|(refine zg (by with_reducible assumption) ?_ ?_)|omega|(·simp)|(·(simp;omega)))):w2.heap[g0]? = some (.cells #[.slice a0_0A a0_0l.length a0_0c,.slice a0_1A a0_1l.length a0_1c,.slice a0_2A a0_2l.length a0_2c,.slice a0_3A a0_3l.length a0_3c,.string a0_4,.slice a0_5A a0_5l.length a0_5c,.int .i64 a0_6,.slice a0_7A a0_7l.length a0_7c,.int .i64 a0_8,.int .i64 a0_9,.int .i64 a0_10,.int .i64 a0_11,.bool a0_12] 33 (0,0))) rfl
    have z2_0_9:w2.cell? ⟨g0,9,none⟩=some (.int .i64 a0_9):=za (by exact (by repeat (first|(with_reducible assumption)|(with_reducible refine zl ?_)|(with_reducible refine zh ?_)|(with_reducible refine zf ?_ ?_)|(refine zg (by with_reducible assumption) ?_ ?_)|omega|(·simp)|(·(simp;omega)))):w2.heap[g0]? = some (.cells #[.slice a0_0A a0_0l.length a0_0c,.slice a0_1A a0_1l.length a0_1c,.slice a0_2A a0_2l.length a0_2c,.slice a0_3A a0_3l.length a0_3c,.string a0_4,.slice a0_5A a0_5l.length a0_5c,.int .i64 a0_6,.slice a0_7A a0_7l.length a0_7c,.int .i64 a0_8,.int .i64 a0_9,.int .i64 a0_10,.int .i64 a0_11,.bool a0_12] 33 (0,0))) rfl
    have z2_0_10:w2.cell? ⟨g0,10,none⟩=some (.int .i64 a0_10):=za (by exact (by repeat (first|(with_reducible assumption)|(with_reducible refine zl ?_)|(with_reducible refine zh ?_)|(with_reducible refine zf ?_ ?_)|(refine zg (by with_reducible assumption) ?_ ?_)|omega|(·simp)|(·(simp;omega)))):w2.heap[g0]? = some (.cells #[.slice a0_0A a0_0l.length a0_0c,.slice a0_1A a0_1l.length a0_1c,.slice a0_2A a0_2l.length a0_2c,.slice a0_3A a0_3l.length a0_3c,.string a0_4,.slice a0_5A a0_5l.length a0_5c,.int .i64 a0_6,.slice a0_7A a0_7l.length a0_7c,.int .i64 a0_8,.int .i64 a0_9,.int .i64 a0_10,.int .i64 a0_11,.bool a0_12] 33 (0,0))) rfl
    have z2_0_11:w2.cell? ⟨g0,11,none⟩=some (.int .i64 a0_11):=za (by exact (by repeat (first|(with_reducible assumption)|(with_reducible refine zl ?_)|(with_reducible refine zh ?_)|(with_reducible refine zf ?_ ?_)|(refine zg (by with_reducible assumption) ?_ ?_)|omega|(·simp)|(·(simp;omega)))):w2.heap[g0]? = some (.cells #[.slice a0_0A a0_0l.length a0_0c,.slice a0_1A a0_1l.length a0_1c,.slice a0_2A a0_2l.length a0_2c,.slice a0_3A a0_3l.length a0_3c,.string a0_4,.slice a0_5A a0_5l.length a0_5c,.int .i64 a0_6,.slice a0_7A a0_7l.length a0_7c,.int .i64 a0_8,.int .i64 a0_9,.int .i64 a0_10,.int .i64 a0_11,.bool a0_12] 33 (0,0))) rfl
    have z2_0_12:w2.cell? ⟨g0,12,none⟩=some (.bool a0_12):=za (by exact (by repeat (first|(with_reducible assumption)|(with_reducible refine zl ?_)|(with_reducible refine zh ?_)|(with_reducible refine zf ?_ ?_)|(refine zg (by with_reducible assumption) ?_ ?_)|omega|(·simp)|(·(simp;omega)))):w2.heap[g0]? = some (.cells #[.slice a0_0A a0_0l.length a0_0c,.slice a0_1A a0_1l.length a0_1c,.slice a0_2A a0_2l.length a0_2c,.slice a0_3A a0_3l.length a0_3c,.string a0_4,.slice a0_5A a0_5l.length a0_5c,.int .i64 a0_6,.slice a0_7A a0_7l.length a0_7c,.int .i64 a0_8,.int .i64 a0_9,.int .i64 a0_10,.int .i64 a0_11,.bool a0_12] 33 (0,0))) rfl
    go_wp2_with fail
    go_at_call 5
    refine (zf13 HT2.out _ (by have h:=HO2.out.inn;exact by2) (zs18 HD2 hD0)).mono ?_;rintro e3 w3 ⟨x3,e3h,HD3,ht3,hi3,hb3⟩;have HD3:Hid (x3.d=clrD D0):=(by have h:=HD3.out;rw [HD2.out] at h;exact h);have HT3:=Lib.hid ht3;obtain⟨x3_0A,x3_0c,x3_0l,x3_1A,x3_1c,x3_1l,x3_2A,x3_2c,x3_2l,x3_3A,x3_3c,x3_3l,x3_4,x3_5A,x3_5c,x3_5l,x3_6,x3_7A,x3_7c,x3_7l,x3_8,x3_9,x3_10,x3_11,x3_12,rfl,-,-,-,-,-,-,-,-,-,-,-,-,-⟩:=zb1 ht3;obtain rfl:e3=.returned (.agg #[.slice x3_0A x3_0l.length x3_0c,.slice x3_1A x3_1l.length x3_1c,.slice x3_2A x3_2l.length x3_2c,.slice x3_3A x3_3l.length x3_3c,.string x3_4,.slice x3_5A x3_5l.length x3_5c,.int .i64 x3_6,.slice x3_7A x3_7l.length x3_7c,.int .i64 x3_8,.int .i64 x3_9,.int .i64 x3_10,.int .i64 x3_11,.bool x3_12]):=e3h;clear ht3;have hz3:=hb3.size;(try simp only [World.size_alloc,World.size_drew,World.heap_drewN,World.size_setCell] at hz3)
    have z3_0_0:w3.cell? ⟨g0,0,none⟩=some (.slice a0_0A a0_0l.length a0_0c):=za (by exact (by repeat (first|(with_reducible assumption)|(with_reducible refine zl ?_)|(with_reducible refine zh ?_)|(with_reducible refine zf ?_ ?_)|(refine zg (by with_reducible assumption) ?_ ?_)|omega|(·simp)|(·(simp;omega)))):w3.heap[g0]? = some (.cells #[.slice a0_0A a0_0l.length a0_0c,.slice a0_1A a0_1l.length a0_1c,.slice a0_2A a0_2l.length a0_2c,.slice a0_3A a0_3l.length a0_3c,.string a0_4,.slice a0_5A a0_5l.length a0_5c,.int .i64 a0_6,.slice a0_7A a0_7l.length a0_7c,.int .i64 a0_8,.int .i64 a0_9,.int .i64 a0_10,.int .i64 a0_11,.bool a0_12] 33 (0,0))) rfl
    have z3_0_1:w3.cell? ⟨g0,1,none⟩=some (.slice a0_1A a0_1l.length a0_1c):=za (by exact (by repeat (first|(with_reducible assumption)|(with_reducible refine zl ?_)|(with_reducible refine zh ?_)|(with_reducible refine zf ?_ ?_)|(refine zg (by with_reducible assumption) ?_ ?_)|omega|(·simp)|(·(simp;omega)))):w3.heap[g0]? = some (.cells #[.slice a0_0A a0_0l.length a0_0c,.slice a0_1A a0_1l.length a0_1c,.slice a0_2A a0_2l.length a0_2c,.slice a0_3A a0_3l.length a0_3c,.string a0_4,.slice a0_5A a0_5l.length a0_5c,.int .i64 a0_6,.slice a0_7A a0_7l.length a0_7c,.int .i64 a0_8,.int .i64 a0_9,.int .i64 a0_10,.int .i64 a0_11,.bool a0_12] 33 (0,0))) rfl
    have z3_0_2:w3.cell? ⟨g0,2,none⟩=some (.slice a0_2A a0_2l.length a0_2c):=za (by exact (by repeat (first|(with_reducible assumption)|(with_reducible refine zl ?_)|(with_reducible refine zh ?_)|(with_reducible refine zf ?_ ?_)|(refine zg (by with_reducible assumption) ?_ ?_)|omega|(·simp)|(·(simp;omega)))):w3.heap[g0]? = some (.cells #[.slice a0_0A a0_0l.length a0_0c,.slice a0_1A a0_1l.length a0_1c,.slice a0_2A a0_2l.length a0_2c,.slice a0_3A a0_3l.length a0_3c,.string a0_4,.slice a0_5A a0_5l.length a0_5c,.int .i64 a0_6,.slice a0_7A a0_7l.length a0_7c,.int .i64 a0_8,.int .i64 a0_9,.int .i64 a0_10,.int .i64 a0_11,.bool a0_12] 33 (0,0))) rfl
    have z3_0_3:w3.cell? ⟨g0,3,none⟩=some (.slice a0_3A a0_3l.length a0_3c):=za (by exact (by repeat (first|(with_reducible assumption)|(with_reducible refine zl ?_)|(with_reducible refine zh ?_)|(with_reducible refine zf ?_ ?_)|(refine zg (by with_reducible assumption) ?_ ?_)|omega|(·simp)|(·(simp;omega)))):w3.heap[g0]? = some (.cells #[.slice a0_0A a0_0l.length a0_0c,.slice a0_1A a0_1l.length a0_1c,.slice a0_2A a0_2l.length a0_2c,.slice a0_3A a0_3l.length a0_3c,.string a0_4,.slice a0_5A a0_5l.length a0_5c,.int .i64 a0_6,.slice a0_7A a0_7l.length a0_7c,.int .i64 a0_8,.int .i64 a0_9,.int .i64 a0_10,.int .i64 a0_11,.bool a0_12] 33 (0,0))) rfl
    have z3_0_4:w3.cell? ⟨g0,4,none⟩=some (.string a0_4):=za (by exact (by repeat (first|(with_reducible assumption)|(with_reducible refine zl ?_)|(with_reducible refine zh ?_)|(with_reducible refine zf ?_ ?_)|(refine zg (by with_reducible assumption) ?_ ?_)|omega|(·simp)|(·(simp;omega)))):w3.heap[g0]? = some (.cells #[.slice a0_0A a0_0l.length a0_0c,.slice a0_1A a0_1l.length a0_1c,.slice a0_2A a0_2l.length a0_2c,.slice a0_3A a0_3l.length a0_3c,.string a0_4,.slice a0_5A a0_5l.length a0_5c,.int .i64 a0_6,.slice a0_7A a0_7l.length a0_7c,.int .i64 a0_8,.int .i64 a0_9,.int .i64 a0_10,.int .i64 a0_11,.bool a0_12] 33 (0,0))) rfl
    have z3_0_5:w3.cell? ⟨g0,5,none⟩=some (.slice a0_5A a0_5l.length a0_5c):=za (by exact (by repeat (first|(with_reducible assumption)|(with_reducible refine zl ?_)|(with_reducible refine zh ?_)|(with_reducible refine zf ?_ ?_)|(refine zg (by with_reducible assumption) ?_ ?_)|omega|(·simp)|(·(simp;omega)))):w3.heap[g0]? = some (.cells #[.slice a0_0A a0_0l.length a0_0c,.slice a0_1A a0_1l.length a0_1c,.slice a0_2A a0_2l.length a0_2c,.slice a0_3A a0_3l.length a0_3c,.string a0_4,.slice a0_5A a0_5l.length a0_5c,.int .i64 a0_6,.slice a0_7A a0_7l.length a0_7c,.int .i64 a0_8,.int .i64 a0_9,.int .i64 a0_10,.int .i64 a0_11,.bool a0_12] 33 (0,0))) rfl
    have z3_0_6:w3.cell? ⟨g0,6,none⟩=some (.int .i64 a0_6):=za (by exact (by repeat (first|(with_reducible assumption)|(with_reducible refine zl ?_)|(with_reducible refine zh ?_)|(with_reducible refine zf ?_ ?_)|(refine zg (by with_reducible assumption) ?_ ?_)|omega|(·simp)|(·(simp;omega)))):w3.heap[g0]? = some (.cells #[.slice a0_0A a0_0l.length a0_0c,.slice a0_1A a0_1l.length a0_1c,.slice a0_2A a0_2l.length a0_2c,.slice a0_3A a0_3l.length a0_3c,.string a0_4,.slice a0_5A a0_5l.length a0_5c,.int .i64 a0_6,.slice a0_7A a0_7l.length a0_7c,.int .i64 a0_8,.int .i64 a0_9,.int .i64 a0_10,.int .i64 a0_11,.bool a0_12] 33 (0,0))) rfl
    have z3_0_7:w3.cell? ⟨g0,7,none⟩=some (.slice a0_7A a0_7l.length a0_7c):=za (by exact (by repeat (first|(with_reducible assumption)|(with_reducible refine zl ?_)|(with_reducible refine zh ?_)|(with_reducible refine zf ?_ ?_)|(refine zg (by with_reducible assumption) ?_ ?_)|omega|(·simp)|(·(simp;omega)))):w3.heap[g0]? = some (.cells #[.slice a0_0A a0_0l.length a0_0c,.slice a0_1A a0_1l.length a0_1c,.slice a0_2A a0_2l.length a0_2c,.slice a0_3A a0_3l.length a0_3c,.string a0_4,.slice a0_5A a0_5l.length a0_5c,.int .i64 a0_6,.slice a0_7A a0_7l.length a0_7c,.int .i64 a0_8,.int .i64 a0_9,.int .i64 a0_10,.int .i64 a0_11,.bool a0_12] 33 (0,0))) rfl
    have z3_0_8:w3.cell? ⟨g0,8,none⟩=some (.int .i64 a0_8):=za (by exact (by repeat (first|(with_reducible assumption)|(with_reducible refine zl ?_)|(with_reducible refine zh ?_)|(with_reducible refine zf ?_ ?_)|(refine zg (by with_reducible assumption) ?_ ?_)|omega|(·simp)|(·(simp;omega)))):w3.heap[g0]? = some (.cells #[.slice a0_0A a0_0l.length a0_0c,.slice a0_1A a0_1l.length a0_1c,.slice a0_2A a0_2l.length a0_2c,.slice a0_3A a0_3l.length a0_3c,.string a0_4,.slice a0_5A a0_5l.length a0_5c,.int .i64 a0_6,.slice a0_7A a0_7l.length a0_7c,.int .i64 a0_8,.int .i64 a0_9,.int .i64 a0_10,.int .i64 a0_11,.bool a0_12] 33 (0,0))) rfl
    have z3_0_9:w3.cell? ⟨g0,9,none⟩=some (.int .i64 a0_9):=za (by exact (by repeat (first|(with_reducible assumption)|(with_reducible refine zl ?_)|(with_reducible refine zh ?_)|(with_reducible refine zf ?_ ?_)|(refine zg (by with_reducible assumption) ?_ ?_)|omega|(·simp)|(·(simp;omega)))):w3.heap[g0]? = some (.cells #[.slice a0_0A a0_0l.length a0_0c,.slice a0_1A a0_1l.length a0_1c,.slice a0_2A a0_2l.length a0_2c,.slice a0_3A a0_3l.length a0_3c,.string a0_4,.slice a0_5A a0_5l.length a0_5c,.int .i64 a0_6,.slice a0_7A a0_7l.length a0_7c,.int .i64 a0_8,.int .i64 a0_9,.int .i64 a0_10,.int .i64 a0_11,.bool a0_12] 33 (0,0))) rfl
    have z3_0_10:w3.cell? ⟨g0,10,none⟩=some (.int .i64 a0_10):=za (by exact (by repeat (first|(with_reducible assumption)|(with_reducible refine zl ?_)|(with_reducible refine zh ?_)|(with_reducible refine zf ?_ ?_)|(refine zg (by with_reducible assumption) ?_ ?_)|omega|(·simp)|(·(simp;omega)))):w3.heap[g0]? = some (.cells #[.slice a0_0A a0_0l.length a0_0c,.slice a0_1A a0_1l.length a0_1c,.slice a0_2A a0_2l.length a0_2c,.slice a0_3A a0_3l.length a0_3c,.string a0_4,.slice a0_5A a0_5l.length a0_5c,.int .i64 a0_6,.slice a0_7A a0_7l.length a0_7c,.int .i64 a0_8,.int .i64 a0_9,.int .i64 a0_10,.int .i64 a0_11,.bool a0_12] 33 (0,0))) rfl
    have z3_0_11:w3.cell? ⟨g0,11,none⟩=some (.int .i64 a0_11):=za (by exact (by repeat (first|(with_reducible assumption)|(with_reducible refine zl ?_)|(with_reducible refine zh ?_)|(with_reducible refine zf ?_ ?_)|(refine zg (by with_reducible assumption) ?_ ?_)|omega|(·simp)|(·(simp;omega)))):w3.heap[g0]? = some (.cells #[.slice a0_0A a0_0l.length a0_0c,.slice a0_1A a0_1l.length a0_1c,.slice a0_2A a0_2l.length a0_2c,.slice a0_3A a0_3l.length a0_3c,.string a0_4,.slice a0_5A a0_5l.length a0_5c,.int .i64 a0_6,.slice a0_7A a0_7l.length a0_7c,.int .i64 a0_8,.int .i64 a0_9,.int .i64 a0_10,.int .i64 a0_11,.bool a0_12] 33 (0,0))) rfl
    have z3_0_12:w3.cell? ⟨g0,12,none⟩=some (.bool a0_12):=za (by exact (by repeat (first|(with_reducible assumption)|(with_reducible refine zl ?_)|(with_reducible refine zh ?_)|(with_reducible refine zf ?_ ?_)|(refine zg (by with_reducible assumption) ?_ ?_)|omega|(·simp)|(·(simp;omega)))):w3.heap[g0]? = some (.cells #[.slice a0_0A a0_0l.length a0_0c,.slice a0_1A a0_1l.length a0_1c,.slice a0_2A a0_2l.length a0_2c,.slice a0_3A a0_3l.length a0_3c,.string a0_4,.slice a0_5A a0_5l.length a0_5c,.int .i64 a0_6,.slice a0_7A a0_7l.length a0_7c,.int .i64 a0_8,.int .i64 a0_9,.int .i64 a0_10,.int .i64 a0_11,.bool a0_12] 33 (0,0))) rfl
    go_wp2_with fail
    go_meet
    refine⟨_,x3_0A,x3_0c,x3_0l,x3_1A,x3_1c,x3_1l,x3_2A,x3_2c,x3_2l,x3_3A,x3_3c,x3_3l,x3_4,x3_5A,x3_5c,x3_5l,x3_6,x3_7A,x3_7c,x3_7l,x3_8,x3_9,x3_10,x3_11,x3_12,rfl,?_,?_,?_,?_,?_,?_⟩
    ·(repeat (first|(with_reducible assumption)|(with_reducible refine zl ?_)|(with_reducible refine zh ?_)|(refine zz9 ?_;first|rfl|(simp;done))|(with_reducible refine zf ?_ ?_)|(refine zg (by with_reducible assumption) ?_ ?_)|omega|(·simp)|(·(simp;omega))))
    ·first|omega|(simp;done)|(simp;omega)
    ·exact HT3
    ·exact HD3
    ·refine E.Re.fin hi3 (fun hh=>?_) ?_ ?_
     ·(repeat (first|(with_reducible assumption)|(with_reducible refine E.Re.drew ?_)|(with_reducible refine E.Re.drewN ?_ _)|(with_reducible refine E.Re.alloc ?_ ?_ _)|(with_reducible refine E.Re.setAny ?_ ?_ _)|(refine E.Re.below ?_ (by with_reducible assumption) ?_)|(first|omega|(dsimp only;omega)|(simp only [World.size_alloc,World.size_drew,World.heap_drewN,World.size_setCell];omega)|(simp;done)|(simp;omega))))
     ·(first|omega|(dsimp only;omega)|(simp only [World.size_alloc,World.size_drew,World.heap_drewN,World.size_setCell];omega)|(simp;done)|(simp;omega))
     ·(first|omega|(dsimp only;omega)|(simp only [World.size_alloc,World.size_drew,World.heap_drewN,World.size_setCell];omega)|(simp;done)|(simp;omega))
    ·exact by0
   case rest =>
    obtain⟨g1,x3_0A,x3_0c,x3_0l,x3_1A,x3_1c,x3_1l,x3_2A,x3_2c,x3_2l,x3_3A,x3_3c,x3_3l,x3_4,x3_5A,x3_5c,x3_5l,x3_6,x3_7A,x3_7c,x3_7l,x3_8,x3_9,x3_10,x3_11,x3_12,rfl,B3_1,lb1,HT3,HD3,I3_3,hb3⟩:=hcut
    obtain⟨W3,hWeq⟩:∃W:World,W=wc:=⟨_,rfl⟩
    subst hWeq
    have hs3:=hb3.size
    have lu1:=zy9 B3_1
    have B3_0:=(hb3.block g0 (by omega)).trans B2_0
    clear B2_0
    have RA3_0:(E.agg [(.agg [.lst 4 129 a0_0A a0_0c a0_0l]),.lst 1 3 a0_1A a0_1c a0_1l,.lst 1 90 a0_2A a0_2c a0_2l,.lst 6 96 a0_3A a0_3c a0_3l,(.agg [.str a0_4,.lst 1 9 a0_5A a0_5c a0_5l]),.int .i64 a0_6,.lst 1 5 a0_7A a0_7c a0_7l,.int .i64 a0_8,.int .i64 a0_9,.int .i64 a0_10,.int .i64 a0_11,.bool a0_12]).Re W3 0 w.heap.size:=RA2_0.below hb3 (by omega)
    clear RA2_0
    have hB3:Below w.heap.size w W3:=hB2.trans (hb3.mono (by omega))
    go_upto_region 6 with fail
    go_cut [5] (fun s5 wx=>∃(g2:Nat) (x4_0A:Option Addr) (x4_0c:Nat) (x4_0l:List E) (x4_1A:Option Addr) (x4_1c:Nat) (x4_1l:List E) (x4_2A:Option Addr) (x4_2c:Nat) (x4_2l:List E) (x4_3A:Option Addr) (x4_3c:Nat) (x4_3l:List E) (x4_4:ByteArray) (x4_5A:Option Addr) (x4_5c:Nat) (x4_5l:List E) (x4_6:Int) (x4_7A:Option Addr) (x4_7c:Nat) (x4_7l:List E) (x4_8:Int) (x4_9:Int) (x4_10:Int) (x4_11:Int) (x4_12:Bool),s5=.pointer (some ⟨g2,0,none⟩)∧wx.heap[g2]? = some (.cells #[.slice x4_0A x4_0l.length x4_0c,.slice x4_1A x4_1l.length x4_1c,.slice x4_2A x4_2l.length x4_2c,.slice x4_3A x4_3l.length x4_3c,.string x4_4,.slice x4_5A x4_5l.length x4_5c,.int .i64 x4_6,.slice x4_7A x4_7l.length x4_7c,.int .i64 x4_8,.int .i64 x4_9,.int .i64 x4_10,.int .i64 x4_11,.bool x4_12] 42 (0,0))∧W3.heap.size≤g2∧g2∉(E.agg [(.agg [.lst 4 110 x4_0A x4_0c x4_0l]),.lst 1 3 x4_1A x4_1c x4_1l,.lst 1 65 x4_2A x4_2c x4_2l,.lst 6 60 x4_3A x4_3c x4_3l,(.agg [.str x4_4,.lst 1 9 x4_5A x4_5c x4_5l]),.int .i64 x4_6,.lst 1 5 x4_7A x4_7c x4_7l,.int .i64 x4_8,.int .i64 x4_9,.int .i64 x4_10,.int .i64 x4_11,.bool x4_12]).fp∧Hid ((E.agg [(.agg [.lst 4 110 x4_0A x4_0c x4_0l]),.lst 1 3 x4_1A x4_1c x4_1l,.lst 1 65 x4_2A x4_2c x4_2l,.lst 6 60 x4_3A x4_3c x4_3l,(.agg [.str x4_4,.lst 1 9 x4_5A x4_5c x4_5l]),.int .i64 x4_6,.lst 1 5 x4_7A x4_7c x4_7l,.int .i64 x4_8,.int .i64 x4_9,.int .i64 x4_10,.int .i64 x4_11,.bool x4_12]).Ty Tryz.prog 42)∧Hid ((E.agg [(.agg [.lst 4 110 x4_0A x4_0c x4_0l]),.lst 1 3 x4_1A x4_1c x4_1l,.lst 1 65 x4_2A x4_2c x4_2l,.lst 6 60 x4_3A x4_3c x4_3l,(.agg [.str x4_4,.lst 1 9 x4_5A x4_5c x4_5l]),.int .i64 x4_6,.lst 1 5 x4_7A x4_7c x4_7l,.int .i64 x4_8,.int .i64 x4_9,.int .i64 x4_10,.int .i64 x4_11,.bool x4_12]).d=D0)∧Hid ((E.agg [(.agg [.lst 4 110 x4_0A x4_0c x4_0l]),.lst 1 3 x4_1A x4_1c x4_1l,.lst 1 65 x4_2A x4_2c x4_2l,.lst 6 60 x4_3A x4_3c x4_3l,(.agg [.str x4_4,.lst 1 9 x4_5A x4_5c x4_5l]),.int .i64 x4_6,.lst 1 5 x4_7A x4_7c x4_7l,.int .i64 x4_8,.int .i64 x4_9,.int .i64 x4_10,.int .i64 x4_11,.bool x4_12]).Ho wx W3.heap.size wx.heap.size)∧Hid (E.agg [(.agg [.lst 4 110 x4_0A x4_0c x4_0l]),.lst 1 3 x4_1A x4_1c x4_1l,.lst 1 65 x4_2A x4_2c x4_2l,.lst 6 60 x4_3A x4_3c x4_3l,(.agg [.str x4_4,.lst 1 9 x4_5A x4_5c x4_5l]),.int .i64 x4_6,.lst 1 5 x4_7A x4_7c x4_7l,.int .i64 x4_8,.int .i64 x4_9,.int .i64 x4_10,.int .i64 x4_11,.bool x4_12]).fp.Nodup∧Below W3.heap.size W3 wx)
    case first =>
     have hwW:=hB3.size
     have ltW0:g0<W3.heap.size:=by omega
     clear hs1 lu0 lb0 hs2 hs3 lu1 lb1
     clear B3_1 I3_3
     have z0_0_0:W3.cell? ⟨g0,0,none⟩=some (.slice a0_0A a0_0l.length a0_0c):=za B3_0 rfl
     have z0_0_1:W3.cell? ⟨g0,1,none⟩=some (.slice a0_1A a0_1l.length a0_1c):=za B3_0 rfl
     have z0_0_2:W3.cell? ⟨g0,2,none⟩=some (.slice a0_2A a0_2l.length a0_2c):=za B3_0 rfl
     have z0_0_3:W3.cell? ⟨g0,3,none⟩=some (.slice a0_3A a0_3l.length a0_3c):=za B3_0 rfl
     have z0_0_4:W3.cell? ⟨g0,4,none⟩=some (.string a0_4):=za B3_0 rfl
     have z0_0_5:W3.cell? ⟨g0,5,none⟩=some (.slice a0_5A a0_5l.length a0_5c):=za B3_0 rfl
     have z0_0_6:W3.cell? ⟨g0,6,none⟩=some (.int .i64 a0_6):=za B3_0 rfl
     have z0_0_7:W3.cell? ⟨g0,7,none⟩=some (.slice a0_7A a0_7l.length a0_7c):=za B3_0 rfl
     have z0_0_8:W3.cell? ⟨g0,8,none⟩=some (.int .i64 a0_8):=za B3_0 rfl
     have z0_0_9:W3.cell? ⟨g0,9,none⟩=some (.int .i64 a0_9):=za B3_0 rfl
     have z0_0_10:W3.cell? ⟨g0,10,none⟩=some (.int .i64 a0_10):=za B3_0 rfl
     have z0_0_11:W3.cell? ⟨g0,11,none⟩=some (.int .i64 a0_11):=za B3_0 rfl
     have z0_0_12:W3.cell? ⟨g0,12,none⟩=some (.bool a0_12):=za B3_0 rfl
     go_wp2_with fail
     go_at_call 6
     (with_reducible change Calls _ _ #[.agg #[.slice a0_0A a0_0l.length a0_0c,.slice a0_1A a0_1l.length a0_1c,.slice a0_2A a0_2l.length a0_2c,.slice a0_3A a0_3l.length a0_3c,.string a0_4,.slice a0_5A a0_5l.length a0_5c,.int .i64 a0_6,.slice a0_7A a0_7l.length a0_7c,.int .i64 a0_8,.int .i64 a0_9,.int .i64 a0_10,.int .i64 a0_11,.bool a0_12]] _ _);refine (zd5 TA0.out _ (by have h:(E.agg [(.agg [.lst 4 129 a0_0A a0_0c a0_0l]),.lst 1 3 a0_1A a0_1c a0_1l,.lst 1 90 a0_2A a0_2c a0_2l,.lst 6 96 a0_3A a0_3c a0_3l,(.agg [.str a0_4,.lst 1 9 a0_5A a0_5c a0_5l]),.int .i64 a0_6,.lst 1 5 a0_7A a0_7c a0_7l,.int .i64 a0_8,.int .i64 a0_9,.int .i64 a0_10,.int .i64 a0_11,.bool a0_12]).In W3:=E.Re.inn RA3_0 (by omega);exact by2) (by omega)).mono ?_;rintro e4 w4 ⟨x4,e4h,HD4,ht4,ho4,hn4,hb4⟩;have HT4:=Lib.hid ht4;have HD4:=Lib.hid (HD4.out.trans HDa0.out);obtain⟨x4_0A,x4_0c,x4_0l,x4_1A,x4_1c,x4_1l,x4_2A,x4_2c,x4_2l,x4_3A,x4_3c,x4_3l,x4_4,x4_5A,x4_5c,x4_5l,x4_6,x4_7A,x4_7c,x4_7l,x4_8,x4_9,x4_10,x4_11,x4_12,rfl,-,-,-,-,-,-,-,-,-,-,-,-,-⟩:=zb1 ht4;obtain rfl:e4=.returned (.agg #[.slice x4_0A x4_0l.length x4_0c,.slice x4_1A x4_1l.length x4_1c,.slice x4_2A x4_2l.length x4_2c,.slice x4_3A x4_3l.length x4_3c,.string x4_4,.slice x4_5A x4_5l.length x4_5c,.int .i64 x4_6,.slice x4_7A x4_7l.length x4_7c,.int .i64 x4_8,.int .i64 x4_9,.int .i64 x4_10,.int .i64 x4_11,.bool x4_12]):=e4h;have HO4:=Lib.hid ho4;have HN4:=Lib.hid hn4;clear ht4 ho4 hn4;have hz4:=hb4.size;(try simp only [World.size_alloc,World.size_drew,World.heap_drewN,World.size_setCell] at hz4)
     go_wp2_with fail
     go_meet
     refine⟨_,x4_0A,x4_0c,x4_0l,x4_1A,x4_1c,x4_1l,x4_2A,x4_2c,x4_2l,x4_3A,x4_3c,x4_3l,x4_4,x4_5A,x4_5c,x4_5l,x4_6,x4_7A,x4_7c,x4_7l,x4_8,x4_9,x4_10,x4_11,x4_12,rfl,?_,?_,?_,?_,?_,?_,?_,?_⟩
     ·(repeat (first|(with_reducible assumption)|(with_reducible refine zl ?_)|(with_reducible refine zh ?_)|(refine zz9 ?_;first|rfl|(simp;done))|(with_reducible refine zf ?_ ?_)|(refine zg (by with_reducible assumption) ?_ ?_)|omega|(·simp)|(·(simp;omega))))
     ·first|omega|(simp;done)|(simp;omega)
     ·(intro hm;have h:=HO4.out.lt _ hm;(try simp only [World.size_alloc,World.size_drew,World.heap_drewN,World.size_setCell] at h);omega)
     ·exact HT4
     ·exact HD4
     ·refine E.Ho.fin HO4.out (fun hh=>?_) ?_ ?_
      ·(repeat (first|(with_reducible assumption)|(with_reducible refine E.Ho.drew ?_)|(with_reducible refine E.Ho.drewN ?_ _)|(with_reducible refine E.Ho.alloc ?_ ?_ _)|(with_reducible refine E.Ho.setAny ?_ ?_ _)|(refine E.Ho.below ?_ (by with_reducible assumption) ?_)|(first|omega|(dsimp only;omega)|(simp only [World.size_alloc,World.size_drew,World.heap_drewN,World.size_setCell];omega)|(simp;done)|(simp;omega))))
      ·(first|omega|(dsimp only;omega)|(simp only [World.size_alloc,World.size_drew,World.heap_drewN,World.size_setCell];omega)|(simp;done)|(simp;omega))
      ·(first|omega|(dsimp only;omega)|(simp only [World.size_alloc,World.size_drew,World.heap_drewN,World.size_setCell];omega)|(simp;done)|(simp;omega))
     ·exact HN4
     ·exact by0
    case rest =>
     obtain⟨g2,x4_0A,x4_0c,x4_0l,x4_1A,x4_1c,x4_1l,x4_2A,x4_2c,x4_2l,x4_3A,x4_3c,x4_3l,x4_4,x4_5A,x4_5c,x4_5l,x4_6,x4_7A,x4_7c,x4_7l,x4_8,x4_9,x4_10,x4_11,x4_12,rfl,B4_2,lb2,nb2_4,HT4,HD4,HO4_4,HN4,hb4⟩:=hcut
     obtain⟨W4,hWeq⟩:∃W:World,W=wc:=⟨_,rfl⟩
     subst hWeq
     have hs4:=hb4.size
     have lu2:=zy9 B4_2
     have B4_0:=(hb4.block g0 (by omega)).trans B3_0
     clear B3_0
     have B4_1:=(hb4.block g1 (by omega)).trans B3_1
     clear B3_1
     have RA4_0:(E.agg [(.agg [.lst 4 129 a0_0A a0_0c a0_0l]),.lst 1 3 a0_1A a0_1c a0_1l,.lst 1 90 a0_2A a0_2c a0_2l,.lst 6 96 a0_3A a0_3c a0_3l,(.agg [.str a0_4,.lst 1 9 a0_5A a0_5c a0_5l]),.int .i64 a0_6,.lst 1 5 a0_7A a0_7c a0_7l,.int .i64 a0_8,.int .i64 a0_9,.int .i64 a0_10,.int .i64 a0_11,.bool a0_12]).Re W4 0 w.heap.size:=RA3_0.below hb4 (by omega)
     clear RA3_0
     have I4_3:=I3_3.below hb4 (by omega)
     clear I3_3
     have hB4:Below w.heap.size w W4:=hB3.trans (hb4.mono (by omega))
     go_upto_region 7 with fail
     go_cut [6] (fun s6 wx=>∃(g3:Nat) (x5_0A:Option Addr) (x5_0c:Nat) (x5_0l:List E) (x5_1A:Option Addr) (x5_1c:Nat) (x5_1l:List E) (x5_2A:Option Addr) (x5_2c:Nat) (x5_2l:List E) (x5_3A:Option Addr) (x5_3c:Nat) (x5_3l:List E) (x5_4:ByteArray) (x5_5A:Option Addr) (x5_5c:Nat) (x5_5l:List E) (x5_6:Int) (x5_7A:Option Addr) (x5_7c:Nat) (x5_7l:List E) (x5_8:Int) (x5_9:Int) (x5_10:Int) (x5_11:Int) (x5_12:Bool),s6=.pointer (some ⟨g3,0,none⟩)∧wx.heap[g3]? = some (.cells #[.slice x5_0A x5_0l.length x5_0c,.slice x5_1A x5_1l.length x5_1c,.slice x5_2A x5_2l.length x5_2c,.slice x5_3A x5_3l.length x5_3c,.string x5_4,.slice x5_5A x5_5l.length x5_5c,.int .i64 x5_6,.slice x5_7A x5_7l.length x5_7c,.int .i64 x5_8,.int .i64 x5_9,.int .i64 x5_10,.int .i64 x5_11,.bool x5_12] 42 (0,0))∧W4.heap.size≤g3∧g3∉(E.agg [(.agg [.lst 4 110 x5_0A x5_0c x5_0l]),.lst 1 3 x5_1A x5_1c x5_1l,.lst 1 65 x5_2A x5_2c x5_2l,.lst 6 60 x5_3A x5_3c x5_3l,(.agg [.str x5_4,.lst 1 9 x5_5A x5_5c x5_5l]),.int .i64 x5_6,.lst 1 5 x5_7A x5_7c x5_7l,.int .i64 x5_8,.int .i64 x5_9,.int .i64 x5_10,.int .i64 x5_11,.bool x5_12]).fp∧Hid ((E.agg [(.agg [.lst 4 110 x5_0A x5_0c x5_0l]),.lst 1 3 x5_1A x5_1c x5_1l,.lst 1 65 x5_2A x5_2c x5_2l,.lst 6 60 x5_3A x5_3c x5_3l,(.agg [.str x5_4,.lst 1 9 x5_5A x5_5c x5_5l]),.int .i64 x5_6,.lst 1 5 x5_7A x5_7c x5_7l,.int .i64 x5_8,.int .i64 x5_9,.int .i64 x5_10,.int .i64 x5_11,.bool x5_12]).Ty Tryz.prog 42)∧Hid ((E.agg [(.agg [.lst 4 110 x5_0A x5_0c x5_0l]),.lst 1 3 x5_1A x5_1c x5_1l,.lst 1 65 x5_2A x5_2c x5_2l,.lst 6 60 x5_3A x5_3c x5_3l,(.agg [.str x5_4,.lst 1 9 x5_5A x5_5c x5_5l]),.int .i64 x5_6,.lst 1 5 x5_7A x5_7c x5_7l,.int .i64 x5_8,.int .i64 x5_9,.int .i64 x5_10,.int .i64 x5_11,.bool x5_12]).d=clrD D0)∧Hid ((E.agg [(.agg [.lst 4 110 x5_0A x5_0c x5_0l]),.lst 1 3 x5_1A x5_1c x5_1l,.lst 1 65 x5_2A x5_2c x5_2l,.lst 6 60 x5_3A x5_3c x5_3l,(.agg [.str x5_4,.lst 1 9 x5_5A x5_5c x5_5l]),.int .i64 x5_6,.lst 1 5 x5_7A x5_7c x5_7l,.int .i64 x5_8,.int .i64 x5_9,.int .i64 x5_10,.int .i64 x5_11,.bool x5_12]).Ho wx W4.heap.size wx.heap.size)∧Hid (E.agg [(.agg [.lst 4 110 x5_0A x5_0c x5_0l]),.lst 1 3 x5_1A x5_1c x5_1l,.lst 1 65 x5_2A x5_2c x5_2l,.lst 6 60 x5_3A x5_3c x5_3l,(.agg [.str x5_4,.lst 1 9 x5_5A x5_5c x5_5l]),.int .i64 x5_6,.lst 1 5 x5_7A x5_7c x5_7l,.int .i64 x5_8,.int .i64 x5_9,.int .i64 x5_10,.int .i64 x5_11,.bool x5_12]).fp.Nodup∧Below W4.heap.size W4 wx)
     case first =>
      have hwW:=hB4.size
      have ltW2:g2<W4.heap.size:=by omega
      have hiW4:W4.heap.size≤W4.heap.size:=by omega
      clear hs1 lu0 lb0 hs2 hs3 lu1 lb1 lu2 lb2 nb2_4
      clear B4_0 B4_1 I4_3
      have z0_2_0:W4.cell? ⟨g2,0,none⟩=some (.slice x4_0A x4_0l.length x4_0c):=za B4_2 rfl
      have z0_2_1:W4.cell? ⟨g2,1,none⟩=some (.slice x4_1A x4_1l.length x4_1c):=za B4_2 rfl
      have z0_2_2:W4.cell? ⟨g2,2,none⟩=some (.slice x4_2A x4_2l.length x4_2c):=za B4_2 rfl
      have z0_2_3:W4.cell? ⟨g2,3,none⟩=some (.slice x4_3A x4_3l.length x4_3c):=za B4_2 rfl
      have z0_2_4:W4.cell? ⟨g2,4,none⟩=some (.string x4_4):=za B4_2 rfl
      have z0_2_5:W4.cell? ⟨g2,5,none⟩=some (.slice x4_5A x4_5l.length x4_5c):=za B4_2 rfl
      have z0_2_6:W4.cell? ⟨g2,6,none⟩=some (.int .i64 x4_6):=za B4_2 rfl
      have z0_2_7:W4.cell? ⟨g2,7,none⟩=some (.slice x4_7A x4_7l.length x4_7c):=za B4_2 rfl
      have z0_2_8:W4.cell? ⟨g2,8,none⟩=some (.int .i64 x4_8):=za B4_2 rfl
      have z0_2_9:W4.cell? ⟨g2,9,none⟩=some (.int .i64 x4_9):=za B4_2 rfl
      have z0_2_10:W4.cell? ⟨g2,10,none⟩=some (.int .i64 x4_10):=za B4_2 rfl
      have z0_2_11:W4.cell? ⟨g2,11,none⟩=some (.int .i64 x4_11):=za B4_2 rfl
      have z0_2_12:W4.cell? ⟨g2,12,none⟩=some (.bool x4_12):=za B4_2 rfl
      go_wp2_with fail
      go_at_call 7
      refine (zm7 HT4.out _ (by have h:(E.agg [(.agg [.lst 4 110 x4_0A x4_0c x4_0l]),.lst 1 3 x4_1A x4_1c x4_1l,.lst 1 65 x4_2A x4_2c x4_2l,.lst 6 60 x4_3A x4_3c x4_3l,(.agg [.str x4_4,.lst 1 9 x4_5A x4_5c x4_5l]),.int .i64 x4_6,.lst 1 5 x4_7A x4_7c x4_7l,.int .i64 x4_8,.int .i64 x4_9,.int .i64 x4_10,.int .i64 x4_11,.bool x4_12]).In W4:=HO4_4.out.inn;exact by2) (zs18 HD4 hD0)).mono ?_;rintro e5 w5 ⟨x5,e5h,HD5,ht5,ho5,hn5,hb5⟩;have HD5:Hid (x5.d=clrD D0):=(by have h:=HD5.out;rw [HD4.out] at h;exact h);have HT5:=Lib.hid ht5;obtain⟨x5_0A,x5_0c,x5_0l,x5_1A,x5_1c,x5_1l,x5_2A,x5_2c,x5_2l,x5_3A,x5_3c,x5_3l,x5_4,x5_5A,x5_5c,x5_5l,x5_6,x5_7A,x5_7c,x5_7l,x5_8,x5_9,x5_10,x5_11,x5_12,rfl,-,-,-,-,-,-,-,-,-,-,-,-,-⟩:=zb1 ht5;obtain rfl:e5=.returned (.agg #[.slice x5_0A x5_0l.length x5_0c,.slice x5_1A x5_1l.length x5_1c,.slice x5_2A x5_2l.length x5_2c,.slice x5_3A x5_3l.length x5_3c,.string x5_4,.slice x5_5A x5_5l.length x5_5c,.int .i64 x5_6,.slice x5_7A x5_7l.length x5_7c,.int .i64 x5_8,.int .i64 x5_9,.int .i64 x5_10,.int .i64 x5_11,.bool x5_12]):=e5h;have HO5:=Lib.hid ho5;have HN5:=Lib.hid hn5;clear ho5 hn5 ht5;have hz5:=hb5.size;(try simp only [World.size_alloc,World.size_drew,World.heap_drewN,World.size_setCell] at hz5)
      go_wp2_with fail
      go_meet
      refine⟨_,x5_0A,x5_0c,x5_0l,x5_1A,x5_1c,x5_1l,x5_2A,x5_2c,x5_2l,x5_3A,x5_3c,x5_3l,x5_4,x5_5A,x5_5c,x5_5l,x5_6,x5_7A,x5_7c,x5_7l,x5_8,x5_9,x5_10,x5_11,x5_12,rfl,?_,?_,?_,?_,?_,?_,?_,?_⟩
      ·(repeat (first|(with_reducible assumption)|(with_reducible refine zl ?_)|(with_reducible refine zh ?_)|(refine zz9 ?_;first|rfl|(simp;done))|(with_reducible refine zf ?_ ?_)|(refine zg (by with_reducible assumption) ?_ ?_)|omega|(·simp)|(·(simp;omega))))
      ·first|omega|(simp;done)|(simp;omega)
      ·(intro hm;have h:=HO5.out.lt _ hm;(try simp only [World.size_alloc,World.size_drew,World.heap_drewN,World.size_setCell] at h);omega)
      ·exact HT5
      ·exact HD5
      ·refine E.Ho.fin HO5.out (fun hh=>?_) ?_ ?_
       ·(repeat (first|(with_reducible assumption)|(with_reducible refine E.Ho.drew ?_)|(with_reducible refine E.Ho.drewN ?_ _)|(with_reducible refine E.Ho.alloc ?_ ?_ _)|(with_reducible refine E.Ho.setAny ?_ ?_ _)|(refine E.Ho.below ?_ (by with_reducible assumption) ?_)|(first|omega|(dsimp only;omega)|(simp only [World.size_alloc,World.size_drew,World.heap_drewN,World.size_setCell];omega)|(simp;done)|(simp;omega))))
       ·(first|omega|(dsimp only;omega)|(simp only [World.size_alloc,World.size_drew,World.heap_drewN,World.size_setCell];omega)|(simp;done)|(simp;omega))
       ·(first|omega|(dsimp only;omega)|(simp only [World.size_alloc,World.size_drew,World.heap_drewN,World.size_setCell];omega)|(simp;done)|(simp;omega))
      ·exact HN5
      ·exact by0
     case rest =>
      obtain⟨g3,x5_0A,x5_0c,x5_0l,x5_1A,x5_1c,x5_1l,x5_2A,x5_2c,x5_2l,x5_3A,x5_3c,x5_3l,x5_4,x5_5A,x5_5c,x5_5l,x5_6,x5_7A,x5_7c,x5_7l,x5_8,x5_9,x5_10,x5_11,x5_12,rfl,B5_3,lb3,nb3_5,HT5,HD5,HO5_5,HN5,hb5⟩:=hcut
      obtain⟨W5,hWeq⟩:∃W:World,W=wc:=⟨_,rfl⟩
      subst hWeq
      have hs5:=hb5.size
      have lu3:=zy9 B5_3
      have B5_0:=(hb5.block g0 (by omega)).trans B4_0
      clear B4_0
      have B5_1:=(hb5.block g1 (by omega)).trans B4_1
      clear B4_1
      have B5_2:=(hb5.block g2 (by omega)).trans B4_2
      clear B4_2
      have RA5_0:(E.agg [(.agg [.lst 4 129 a0_0A a0_0c a0_0l]),.lst 1 3 a0_1A a0_1c a0_1l,.lst 1 90 a0_2A a0_2c a0_2l,.lst 6 96 a0_3A a0_3c a0_3l,(.agg [.str a0_4,.lst 1 9 a0_5A a0_5c a0_5l]),.int .i64 a0_6,.lst 1 5 a0_7A a0_7c a0_7l,.int .i64 a0_8,.int .i64 a0_9,.int .i64 a0_10,.int .i64 a0_11,.bool a0_12]).Re W5 0 w.heap.size:=RA4_0.below hb5 (by omega)
      clear RA4_0
      have I5_3:=I4_3.below hb5 (by omega)
      clear I4_3
      have HO5_4:=Lib.hid (HO4_4.out.below hb5 (by omega))
      clear HO4_4
      have hB5:Below w.heap.size w W5:=hB4.trans (hb5.mono (by omega))
      go_upto_region 8 with fail
      go_cut [26] (fun s26 wx=>s26=.bool false∧Below W5.heap.size W5 wx)
      case first =>
       have hwW:=hB5.size
       have ltW3:g3<W5.heap.size:=by omega
       have ltW1:g1<W5.heap.size:=by omega
       have hiW3:W3.heap.size≤W5.heap.size:=by omega
       have hiW5:W5.heap.size≤W5.heap.size:=by omega
       clear hs1 lu0 lb0 hs2 lu1 lb1 hs4 lu2 lb2 nb2_4 lu3 lb3 nb3_5
       clear B5_0 B5_2 HO5_4
       have z0_3_0:W5.cell? ⟨g3,0,none⟩=some (.slice x5_0A x5_0l.length x5_0c):=za B5_3 rfl
       have z0_3_1:W5.cell? ⟨g3,1,none⟩=some (.slice x5_1A x5_1l.length x5_1c):=za B5_3 rfl
       have z0_3_2:W5.cell? ⟨g3,2,none⟩=some (.slice x5_2A x5_2l.length x5_2c):=za B5_3 rfl
       have z0_3_3:W5.cell? ⟨g3,3,none⟩=some (.slice x5_3A x5_3l.length x5_3c):=za B5_3 rfl
       have z0_3_4:W5.cell? ⟨g3,4,none⟩=some (.string x5_4):=za B5_3 rfl
       have z0_3_5:W5.cell? ⟨g3,5,none⟩=some (.slice x5_5A x5_5l.length x5_5c):=za B5_3 rfl
       have z0_3_6:W5.cell? ⟨g3,6,none⟩=some (.int .i64 x5_6):=za B5_3 rfl
       have z0_3_7:W5.cell? ⟨g3,7,none⟩=some (.slice x5_7A x5_7l.length x5_7c):=za B5_3 rfl
       have z0_3_8:W5.cell? ⟨g3,8,none⟩=some (.int .i64 x5_8):=za B5_3 rfl
       have z0_3_9:W5.cell? ⟨g3,9,none⟩=some (.int .i64 x5_9):=za B5_3 rfl
       have z0_3_10:W5.cell? ⟨g3,10,none⟩=some (.int .i64 x5_10):=za B5_3 rfl
       have z0_3_11:W5.cell? ⟨g3,11,none⟩=some (.int .i64 x5_11):=za B5_3 rfl
       have z0_3_12:W5.cell? ⟨g3,12,none⟩=some (.bool x5_12):=za B5_3 rfl
       have z0_1_0:W5.cell? ⟨g1,0,none⟩=some (.slice x3_0A x3_0l.length x3_0c):=za B5_1 rfl
       have z0_1_1:W5.cell? ⟨g1,1,none⟩=some (.slice x3_1A x3_1l.length x3_1c):=za B5_1 rfl
       have z0_1_2:W5.cell? ⟨g1,2,none⟩=some (.slice x3_2A x3_2l.length x3_2c):=za B5_1 rfl
       have z0_1_3:W5.cell? ⟨g1,3,none⟩=some (.slice x3_3A x3_3l.length x3_3c):=za B5_1 rfl
       have z0_1_4:W5.cell? ⟨g1,4,none⟩=some (.string x3_4):=za B5_1 rfl
       have z0_1_5:W5.cell? ⟨g1,5,none⟩=some (.slice x3_5A x3_5l.length x3_5c):=za B5_1 rfl
       have z0_1_6:W5.cell? ⟨g1,6,none⟩=some (.int .i64 x3_6):=za B5_1 rfl
       have z0_1_7:W5.cell? ⟨g1,7,none⟩=some (.slice x3_7A x3_7l.length x3_7c):=za B5_1 rfl
       have z0_1_8:W5.cell? ⟨g1,8,none⟩=some (.int .i64 x3_8):=za B5_1 rfl
       have z0_1_9:W5.cell? ⟨g1,9,none⟩=some (.int .i64 x3_9):=za B5_1 rfl
       have z0_1_10:W5.cell? ⟨g1,10,none⟩=some (.int .i64 x3_10):=za B5_1 rfl
       have z0_1_11:W5.cell? ⟨g1,11,none⟩=some (.int .i64 x3_11):=za B5_1 rfl
       have z0_1_12:W5.cell? ⟨g1,12,none⟩=some (.bool x3_12):=za B5_1 rfl
       go_wp2_with fail
       go_at_call 8
       refine (ze5 HT5.out HT3.out ((show (E.agg [(.agg [.lst 4 110 x5_0A x5_0c x5_0l]),.lst 1 3 x5_1A x5_1c x5_1l,.lst 1 65 x5_2A x5_2c x5_2l,.lst 6 60 x5_3A x5_3c x5_3l,(.agg [.str x5_4,.lst 1 9 x5_5A x5_5c x5_5l]),.int .i64 x5_6,.lst 1 5 x5_7A x5_7c x5_7l,.int .i64 x5_8,.int .i64 x5_9,.int .i64 x5_10,.int .i64 x5_11,.bool x5_12]).d=clrD D0 from HD5.out).trans (show (E.agg [(.agg [.lst 4 110 x3_0A x3_0c x3_0l]),.lst 1 3 x3_1A x3_1c x3_1l,.lst 1 65 x3_2A x3_2c x3_2l,.lst 6 60 x3_3A x3_3c x3_3l,(.agg [.str x3_4,.lst 1 9 x3_5A x3_5c x3_5l]),.int .i64 x3_6,.lst 1 5 x3_7A x3_7c x3_7l,.int .i64 x3_8,.int .i64 x3_9,.int .i64 x3_10,.int .i64 x3_11,.bool x3_12]).d=clrD D0 from HD3.out).symm) _ (by have h:(E.agg [(.agg [.lst 4 110 x5_0A x5_0c x5_0l]),.lst 1 3 x5_1A x5_1c x5_1l,.lst 1 65 x5_2A x5_2c x5_2l,.lst 6 60 x5_3A x5_3c x5_3l,(.agg [.str x5_4,.lst 1 9 x5_5A x5_5c x5_5l]),.int .i64 x5_6,.lst 1 5 x5_7A x5_7c x5_7l,.int .i64 x5_8,.int .i64 x5_9,.int .i64 x5_10,.int .i64 x5_11,.bool x5_12]).In W5:=HO5_5.out.inn;exact by2) (by have h:(E.agg [(.agg [.lst 4 110 x3_0A x3_0c x3_0l]),.lst 1 3 x3_1A x3_1c x3_1l,.lst 1 65 x3_2A x3_2c x3_2l,.lst 6 60 x3_3A x3_3c x3_3l,(.agg [.str x3_4,.lst 1 9 x3_5A x3_5c x3_5l]),.int .i64 x3_6,.lst 1 5 x3_7A x3_7c x3_7l,.int .i64 x3_8,.int .i64 x3_9,.int .i64 x3_10,.int .i64 x3_11,.bool x3_12]).In W5:=I5_3.inn (by omega);exact by2)).mono ?_;rintro e w6 ⟨rfl,hb6⟩;have hz6:=hb6.size;(try simp only [World.size_alloc,World.size_drew,World.heap_drewN,World.size_setCell] at hz6)
       go_wp2_with fail
       go_meet
       refine⟨rfl,?_⟩
       ·exact by0
      case rest =>
       obtain⟨rfl,hb6⟩:=hcut
       obtain⟨W6,hWeq⟩:∃W:World,W=wc:=⟨_,rfl⟩
       subst hWeq
       have hs6:=hb6.size
       have B6_0:=(hb6.block g0 (by omega)).trans B5_0
       clear B5_0
       have B6_1:=(hb6.block g1 (by omega)).trans B5_1
       clear B5_1
       have B6_2:=(hb6.block g2 (by omega)).trans B5_2
       clear B5_2
       have B6_3:=(hb6.block g3 (by omega)).trans B5_3
       clear B5_3
       have RA6_0:(E.agg [(.agg [.lst 4 129 a0_0A a0_0c a0_0l]),.lst 1 3 a0_1A a0_1c a0_1l,.lst 1 90 a0_2A a0_2c a0_2l,.lst 6 96 a0_3A a0_3c a0_3l,(.agg [.str a0_4,.lst 1 9 a0_5A a0_5c a0_5l]),.int .i64 a0_6,.lst 1 5 a0_7A a0_7c a0_7l,.int .i64 a0_8,.int .i64 a0_9,.int .i64 a0_10,.int .i64 a0_11,.bool a0_12]).Re W6 0 w.heap.size:=RA5_0.below hb6 (by omega)
       clear RA5_0
       have I6_3:=I5_3.below hb6 (by omega)
       clear I5_3
       have HO6_4:=Lib.hid (HO5_4.out.below hb6 (by omega))
       clear HO5_4
       have HO6_5:=Lib.hid (HO5_5.out.below hb6 (by omega))
       clear HO5_5
       have hB6:Below w.heap.size w W6:=hB5.trans (hb6.mono (by omega))
       go_upto_region 10 with fail
       go_cut [31] (fun s31 wx=>s31=.bool false∧Below W6.heap.size W6 wx)
       case first =>
        have hwW:=hB6.size
        have ltW2:g2<W6.heap.size:=by omega
        have ltW0:g0<W6.heap.size:=by omega
        have hiW4:W4.heap.size≤W6.heap.size:=by omega
        clear hs1 lu0 lb0 hs2 hs3 lu1 lb1 lu2 lb2 nb2_4 hs5 lu3 lb3 nb3_5 hs6
        clear B6_1 B6_3 I6_3 HO6_5
        have z0_2_0:W6.cell? ⟨g2,0,none⟩=some (.slice x4_0A x4_0l.length x4_0c):=za B6_2 rfl
        have z0_2_1:W6.cell? ⟨g2,1,none⟩=some (.slice x4_1A x4_1l.length x4_1c):=za B6_2 rfl
        have z0_2_2:W6.cell? ⟨g2,2,none⟩=some (.slice x4_2A x4_2l.length x4_2c):=za B6_2 rfl
        have z0_2_3:W6.cell? ⟨g2,3,none⟩=some (.slice x4_3A x4_3l.length x4_3c):=za B6_2 rfl
        have z0_2_4:W6.cell? ⟨g2,4,none⟩=some (.string x4_4):=za B6_2 rfl
        have z0_2_5:W6.cell? ⟨g2,5,none⟩=some (.slice x4_5A x4_5l.length x4_5c):=za B6_2 rfl
        have z0_2_6:W6.cell? ⟨g2,6,none⟩=some (.int .i64 x4_6):=za B6_2 rfl
        have z0_2_7:W6.cell? ⟨g2,7,none⟩=some (.slice x4_7A x4_7l.length x4_7c):=za B6_2 rfl
        have z0_2_8:W6.cell? ⟨g2,8,none⟩=some (.int .i64 x4_8):=za B6_2 rfl
        have z0_2_9:W6.cell? ⟨g2,9,none⟩=some (.int .i64 x4_9):=za B6_2 rfl
        have z0_2_10:W6.cell? ⟨g2,10,none⟩=some (.int .i64 x4_10):=za B6_2 rfl
        have z0_2_11:W6.cell? ⟨g2,11,none⟩=some (.int .i64 x4_11):=za B6_2 rfl
        have z0_2_12:W6.cell? ⟨g2,12,none⟩=some (.bool x4_12):=za B6_2 rfl
        have z0_0_0:W6.cell? ⟨g0,0,none⟩=some (.slice a0_0A a0_0l.length a0_0c):=za B6_0 rfl
        have z0_0_1:W6.cell? ⟨g0,1,none⟩=some (.slice a0_1A a0_1l.length a0_1c):=za B6_0 rfl
        have z0_0_2:W6.cell? ⟨g0,2,none⟩=some (.slice a0_2A a0_2l.length a0_2c):=za B6_0 rfl
        have z0_0_3:W6.cell? ⟨g0,3,none⟩=some (.slice a0_3A a0_3l.length a0_3c):=za B6_0 rfl
        have z0_0_4:W6.cell? ⟨g0,4,none⟩=some (.string a0_4):=za B6_0 rfl
        have z0_0_5:W6.cell? ⟨g0,5,none⟩=some (.slice a0_5A a0_5l.length a0_5c):=za B6_0 rfl
        have z0_0_6:W6.cell? ⟨g0,6,none⟩=some (.int .i64 a0_6):=za B6_0 rfl
        have z0_0_7:W6.cell? ⟨g0,7,none⟩=some (.slice a0_7A a0_7l.length a0_7c):=za B6_0 rfl
        have z0_0_8:W6.cell? ⟨g0,8,none⟩=some (.int .i64 a0_8):=za B6_0 rfl
        have z0_0_9:W6.cell? ⟨g0,9,none⟩=some (.int .i64 a0_9):=za B6_0 rfl
        have z0_0_10:W6.cell? ⟨g0,10,none⟩=some (.int .i64 a0_10):=za B6_0 rfl
        have z0_0_11:W6.cell? ⟨g0,11,none⟩=some (.int .i64 a0_11):=za B6_0 rfl
        have z0_0_12:W6.cell? ⟨g0,12,none⟩=some (.bool a0_12):=za B6_0 rfl
        go_region_held3 (fun w'=>w'.cell? ⟨g2,0,none⟩=some (.slice x4_0A x4_0l.length x4_0c)∧w'.cell? ⟨g2,1,none⟩=some (.slice x4_1A x4_1l.length x4_1c)∧w'.cell? ⟨g2,2,none⟩=some (.slice x4_2A x4_2l.length x4_2c)∧w'.cell? ⟨g2,3,none⟩=some (.slice x4_3A x4_3l.length x4_3c)∧w'.cell? ⟨g2,4,none⟩=some (.string x4_4)∧w'.cell? ⟨g2,5,none⟩=some (.slice x4_5A x4_5l.length x4_5c)∧w'.cell? ⟨g2,6,none⟩=some (.int .i64 x4_6)∧w'.cell? ⟨g2,7,none⟩=some (.slice x4_7A x4_7l.length x4_7c)∧w'.cell? ⟨g2,8,none⟩=some (.int .i64 x4_8)∧w'.cell? ⟨g2,9,none⟩=some (.int .i64 x4_9)∧w'.cell? ⟨g2,10,none⟩=some (.int .i64 x4_10)∧w'.cell? ⟨g2,11,none⟩=some (.int .i64 x4_11)∧w'.cell? ⟨g2,12,none⟩=some (.bool x4_12)∧w'.cell? ⟨g0,0,none⟩=some (.slice a0_0A a0_0l.length a0_0c)∧w'.cell? ⟨g0,1,none⟩=some (.slice a0_1A a0_1l.length a0_1c)∧w'.cell? ⟨g0,2,none⟩=some (.slice a0_2A a0_2l.length a0_2c)∧w'.cell? ⟨g0,3,none⟩=some (.slice a0_3A a0_3l.length a0_3c)∧w'.cell? ⟨g0,4,none⟩=some (.string a0_4)∧w'.cell? ⟨g0,5,none⟩=some (.slice a0_5A a0_5l.length a0_5c)∧w'.cell? ⟨g0,6,none⟩=some (.int .i64 a0_6)∧w'.cell? ⟨g0,7,none⟩=some (.slice a0_7A a0_7l.length a0_7c)∧w'.cell? ⟨g0,8,none⟩=some (.int .i64 a0_8)∧w'.cell? ⟨g0,9,none⟩=some (.int .i64 a0_9)∧w'.cell? ⟨g0,10,none⟩=some (.int .i64 a0_10)∧w'.cell? ⟨g0,11,none⟩=some (.int .i64 a0_11)∧w'.cell? ⟨g0,12,none⟩=some (.bool a0_12))
         (first|exact⟨z0_2_0,z0_2_1,z0_2_2,z0_2_3,z0_2_4,z0_2_5,z0_2_6,z0_2_7,z0_2_8,z0_2_9,z0_2_10,z0_2_11,z0_2_12,z0_0_0,z0_0_1,z0_0_2,z0_0_3,z0_0_4,z0_0_5,z0_0_6,z0_0_7,z0_0_8,z0_0_9,z0_0_10,z0_0_11,z0_0_12⟩|(refine⟨?_,?_,?_,?_,?_,?_,?_,?_,?_,?_,?_,?_,?_,?_,?_,?_,?_,?_,?_,?_,?_,?_,?_,?_,?_,?_⟩<;>(repeat (first|(with_reducible assumption)|(with_reducible refine zq11 ?_ ?_)|(with_reducible refine zo ?_)|(with_reducible refine zk ?_)|(with_reducible refine ze ?_ ?_)|omega|(simp;done)|(simp;omega))))|skip)
         ((first
           | (go_at_call 6;(with_reducible change Calls _ _ #[.agg #[.slice a0_0A a0_0l.length a0_0c,.slice a0_1A a0_1l.length a0_1c,.slice a0_2A a0_2l.length a0_2c,.slice a0_3A a0_3l.length a0_3c,.string a0_4,.slice a0_5A a0_5l.length a0_5c,.int .i64 a0_6,.slice a0_7A a0_7l.length a0_7c,.int .i64 a0_8,.int .i64 a0_9,.int .i64 a0_10,.int .i64 a0_11,.bool a0_12]] _ _);refine (zd5 TA0.out _ (by have h:(E.agg [(.agg [.lst 4 129 a0_0A a0_0c a0_0l]),.lst 1 3 a0_1A a0_1c a0_1l,.lst 1 90 a0_2A a0_2c a0_2l,.lst 6 96 a0_3A a0_3c a0_3l,(.agg [.str a0_4,.lst 1 9 a0_5A a0_5c a0_5l]),.int .i64 a0_6,.lst 1 5 a0_7A a0_7c a0_7l,.int .i64 a0_8,.int .i64 a0_9,.int .i64 a0_10,.int .i64 a0_11,.bool a0_12]).In W6:=E.Re.inn RA6_0 (by omega);exact by2) (by omega)).mono ?_;rintro e7 w7 ⟨x7,e7h,HD7,ht7,ho7,hn7,hb7⟩;have HT7:=Lib.hid ht7;have HD7:=Lib.hid (HD7.out.trans HDa0.out);obtain⟨x7_0A,x7_0c,x7_0l,x7_1A,x7_1c,x7_1l,x7_2A,x7_2c,x7_2l,x7_3A,x7_3c,x7_3l,x7_4,x7_5A,x7_5c,x7_5l,x7_6,x7_7A,x7_7c,x7_7l,x7_8,x7_9,x7_10,x7_11,x7_12,rfl,-,-,-,-,-,-,-,-,-,-,-,-,-⟩:=zb1 ht7;obtain rfl:e7=.returned (.agg #[.slice x7_0A x7_0l.length x7_0c,.slice x7_1A x7_1l.length x7_1c,.slice x7_2A x7_2l.length x7_2c,.slice x7_3A x7_3l.length x7_3c,.string x7_4,.slice x7_5A x7_5l.length x7_5c,.int .i64 x7_6,.slice x7_7A x7_7l.length x7_7c,.int .i64 x7_8,.int .i64 x7_9,.int .i64 x7_10,.int .i64 x7_11,.bool x7_12]):=e7h;have HO7:=Lib.hid ho7;have HN7:=Lib.hid hn7;clear ht7 ho7 hn7;have hz7:=hb7.size;(try simp only [World.size_alloc,World.size_drew,World.heap_drewN,World.size_setCell] at hz7);have z7_2_0:w7.cell? ⟨g2,0,none⟩=some (.slice x4_0A x4_0l.length x4_0c):=za (by exact (by repeat (first|(with_reducible assumption)|(with_reducible refine zl ?_)|(with_reducible refine zh ?_)|(with_reducible refine zf ?_ ?_)|(refine zg (by with_reducible assumption) ?_ ?_)|omega|(·simp)|(·(simp;omega)))):w7.heap[g2]? = some (.cells #[.slice x4_0A x4_0l.length x4_0c,.slice x4_1A x4_1l.length x4_1c,.slice x4_2A x4_2l.length x4_2c,.slice x4_3A x4_3l.length x4_3c,.string x4_4,.slice x4_5A x4_5l.length x4_5c,.int .i64 x4_6,.slice x4_7A x4_7l.length x4_7c,.int .i64 x4_8,.int .i64 x4_9,.int .i64 x4_10,.int .i64 x4_11,.bool x4_12] 42 (0,0))) rfl;have z7_2_1:w7.cell? ⟨g2,1,none⟩=some (.slice x4_1A x4_1l.length x4_1c):=za (by exact (by repeat (first|(with_reducible assumption)|(with_reducible refine zl ?_)|(with_reducible refine zh ?_)|(with_reducible refine zf ?_ ?_)|(refine zg (by with_reducible assumption) ?_ ?_)|omega|(·simp)|(·(simp;omega)))):w7.heap[g2]? = some (.cells #[.slice x4_0A x4_0l.length x4_0c,.slice x4_1A x4_1l.length x4_1c,.slice x4_2A x4_2l.length x4_2c,.slice x4_3A x4_3l.length x4_3c,.string x4_4,.slice x4_5A x4_5l.length x4_5c,.int .i64 x4_6,.slice x4_7A x4_7l.length x4_7c,.int .i64 x4_8,.int .i64 x4_9,.int .i64 x4_10,.int .i64 x4_11,.bool x4_12] 42 (0,0))) rfl;have z7_2_2:w7.cell? ⟨g2,2,none⟩=some (.slice x4_2A x4_2l.length x4_2c):=za (by exact (by repeat (first|(with_reducible assumption)|(with_reducible refine zl ?_)|(with_reducible refine zh ?_)|(with_reducible refine zf ?_ ?_)|(refine zg (by with_reducible assumption) ?_ ?_)|omega|(·simp)|(·(simp;omega)))):w7.heap[g2]? = some (.cells #[.slice x4_0A x4_0l.length x4_0c,.slice x4_1A x4_1l.length x4_1c,.slice x4_2A x4_2l.length x4_2c,.slice x4_3A x4_3l.length x4_3c,.string x4_4,.slice x4_5A x4_5l.length x4_5c,.int .i64 x4_6,.slice x4_7A x4_7l.length x4_7c,.int .i64 x4_8,.int .i64 x4_9,.int .i64 x4_10,.int .i64 x4_11,.bool x4_12] 42 (0,0))) rfl;have z7_2_3:w7.cell? ⟨g2,3,none⟩=some (.slice x4_3A x4_3l.length x4_3c):=za (by exact (by repeat (first|(with_reducible assumption)|(with_reducible refine zl ?_)|(with_reducible refine zh ?_)|(with_reducible refine zf ?_ ?_)|(refine zg (by with_reducible assumption) ?_ ?_)|omega|(·simp)|(·(simp;omega)))):w7.heap[g2]? = some (.cells #[.slice x4_0A x4_0l.length x4_0c,.slice x4_1A x4_1l.length x4_1c,.slice x4_2A x4_2l.length x4_2c,.slice x4_3A x4_3l.length x4_3c,.string x4_4,.slice x4_5A x4_5l.length x4_5c,.int .i64 x4_6,.slice x4_7A x4_7l.length x4_7c,.int .i64 x4_8,.int .i64 x4_9,.int .i64 x4_10,.int .i64 x4_11,.bool x4_12] 42 (0,0))) rfl;have z7_2_4:w7.cell? ⟨g2,4,none⟩=some (.string x4_4):=za (by exact (by repeat (first|(with_reducible assumption)|(with_reducible refine zl ?_)|(with_reducible refine zh ?_)|(with_reducible refine zf ?_ ?_)|(refine zg (by with_reducible assumption) ?_ ?_)|omega|(·simp)|(·(simp;omega)))):w7.heap[g2]? = some (.cells #[.slice x4_0A x4_0l.length x4_0c,.slice x4_1A x4_1l.length x4_1c,.slice x4_2A x4_2l.length x4_2c,.slice x4_3A x4_3l.length x4_3c,.string x4_4,.slice x4_5A x4_5l.length x4_5c,.int .i64 x4_6,.slice x4_7A x4_7l.length x4_7c,.int .i64 x4_8,.int .i64 x4_9,.int .i64 x4_10,.int .i64 x4_11,.bool x4_12] 42 (0,0))) rfl;have z7_2_5:w7.cell? ⟨g2,5,none⟩=some (.slice x4_5A x4_5l.length x4_5c):=za (by exact (by repeat (first|(with_reducible assumption)|(with_reducible refine zl ?_)|(with_reducible refine zh ?_)|(with_reducible refine zf ?_ ?_)|(refine zg (by with_reducible assumption) ?_ ?_)|omega|(·simp)|(·(simp;omega)))):w7.heap[g2]? = some (.cells #[.slice x4_0A x4_0l.length x4_0c,.slice x4_1A x4_1l.length x4_1c,.slice x4_2A x4_2l.length x4_2c,.slice x4_3A x4_3l.length x4_3c,.string x4_4,.slice x4_5A x4_5l.length x4_5c,.int .i64 x4_6,.slice x4_7A x4_7l.length x4_7c,.int .i64 x4_8,.int .i64 x4_9,.int .i64 x4_10,.int .i64 x4_11,.bool x4_12] 42 (0,0))) rfl;have z7_2_6:w7.cell? ⟨g2,6,none⟩=some (.int .i64 x4_6):=za (by exact (by repeat (first|(with_reducible assumption)|(with_reducible refine zl ?_)|(with_reducible refine zh ?_)|(with_reducible refine zf ?_ ?_)|(refine zg (by with_reducible assumption) ?_ ?_)|omega|(·simp)|(·(simp;omega)))):w7.heap[g2]? = some (.cells #[.slice x4_0A x4_0l.length x4_0c,.slice x4_1A x4_1l.length x4_1c,.slice x4_2A x4_2l.length x4_2c,.slice x4_3A x4_3l.length x4_3c,.string x4_4,.slice x4_5A x4_5l.length x4_5c,.int .i64 x4_6,.slice x4_7A x4_7l.length x4_7c,.int .i64 x4_8,.int .i64 x4_9,.int .i64 x4_10,.int .i64 x4_11,.bool x4_12] 42 (0,0))) rfl;have z7_2_7:w7.cell? ⟨g2,7,none⟩=some (.slice x4_7A x4_7l.length x4_7c):=za (by exact (by repeat (first|(with_reducible assumption)|(with_reducible refine zl ?_)|(with_reducible refine zh ?_)|(with_reducible refine zf ?_ ?_)|(refine zg (by with_reducible assumption) ?_ ?_)|omega|(·simp)|(·(simp;omega)))):w7.heap[g2]? = some (.cells #[.slice x4_0A x4_0l.length x4_0c,.slice x4_1A x4_1l.length x4_1c,.slice x4_2A x4_2l.length x4_2c,.slice x4_3A x4_3l.length x4_3c,.string x4_4,.slice x4_5A x4_5l.length x4_5c,.int .i64 x4_6,.slice x4_7A x4_7l.length x4_7c,.int .i64 x4_8,.int .i64 x4_9,.int .i64 x4_10,.int .i64 x4_11,.bool x4_12] 42 (0,0))) rfl;have z7_2_8:w7.cell? ⟨g2,8,none⟩=some (.int .i64 x4_8):=za (by exact (by repeat (first|(with_reducible assumption)|(with_reducible refine zl ?_)|(with_reducible refine zh ?_)|(with_reducible refine zf ?_ ?_)|(refine zg (by with_reducible assumption) ?_ ?_)|omega|(·simp)|(·(simp;omega)))):w7.heap[g2]? = some (.cells #[.slice x4_0A x4_0l.length x4_0c,.slice x4_1A x4_1l.length x4_1c,.slice x4_2A x4_2l.length x4_2c,.slice x4_3A x4_3l.length x4_3c,.string x4_4,.slice x4_5A x4_5l.length x4_5c,.int .i64 x4_6,.slice x4_7A x4_7l.length x4_7c,.int .i64 x4_8,.int .i64 x4_9,.int .i64 x4_10,.int .i64 x4_11,.bool x4_12] 42 (0,0))) rfl;have z7_2_9:w7.cell? ⟨g2,9,none⟩=some (.int .i64 x4_9):=za (by exact (by repeat (first|(with_reducible assumption)|(with_reducible refine zl ?_)|(with_reducible refine zh ?_)|(with_reducible refine zf ?_ ?_)|(refine zg (by with_reducible assumption) ?_ ?_)|omega|(·simp)|(·(simp;omega)))):w7.heap[g2]? = some (.cells #[.slice x4_0A x4_0l.length x4_0c,.slice x4_1A x4_1l.length x4_1c,.slice x4_2A x4_2l.length x4_2c,.slice x4_3A x4_3l.length x4_3c,.string x4_4,.slice x4_5A x4_5l.length x4_5c,.int .i64 x4_6,.slice x4_7A x4_7l.length x4_7c,.int .i64 x4_8,.int .i64 x4_9,.int .i64 x4_10,.int .i64 x4_11,.bool x4_12] 42 (0,0))) rfl;have z7_2_10:w7.cell? ⟨g2,10,none⟩=some (.int .i64 x4_10):=za (by exact (by repeat (first|(with_reducible assumption)|(with_reducible refine zl ?_)|(with_reducible refine zh ?_)|(with_reducible refine zf ?_ ?_)|(refine zg (by with_reducible assumption) ?_ ?_)|omega|(·simp)|(·(simp;omega)))):w7.heap[g2]? = some (.cells #[.slice x4_0A x4_0l.length x4_0c,.slice x4_1A x4_1l.length x4_1c,.slice x4_2A x4_2l.length x4_2c,.slice x4_3A x4_3l.length x4_3c,.string x4_4,.slice x4_5A x4_5l.length x4_5c,.int .i64 x4_6,.slice x4_7A x4_7l.length x4_7c,.int .i64 x4_8,.int .i64 x4_9,.int .i64 x4_10,.int .i64 x4_11,.bool x4_12] 42 (0,0))) rfl;have z7_2_11:w7.cell? ⟨g2,11,none⟩=some (.int .i64 x4_11):=za (by exact (by repeat (first|(with_reducible assumption)|(with_reducible refine zl ?_)|(with_reducible refine zh ?_)|(with_reducible refine zf ?_ ?_)|(refine zg (by with_reducible assumption) ?_ ?_)|omega|(·simp)|(·(simp;omega)))):w7.heap[g2]? = some (.cells #[.slice x4_0A x4_0l.length x4_0c,.slice x4_1A x4_1l.length x4_1c,.slice x4_2A x4_2l.length x4_2c,.slice x4_3A x4_3l.length x4_3c,.string x4_4,.slice x4_5A x4_5l.length x4_5c,.int .i64 x4_6,.slice x4_7A x4_7l.length x4_7c,.int .i64 x4_8,.int .i64 x4_9,.int .i64 x4_10,.int .i64 x4_11,.bool x4_12] 42 (0,0))) rfl;have z7_2_12:w7.cell? ⟨g2,12,none⟩=some (.bool x4_12):=za (by exact (by repeat (first|(with_reducible assumption)|(with_reducible refine zl ?_)|(with_reducible refine zh ?_)|(with_reducible refine zf ?_ ?_)|(refine zg (by with_reducible assumption) ?_ ?_)|omega|(·simp)|(·(simp;omega)))):w7.heap[g2]? = some (.cells #[.slice x4_0A x4_0l.length x4_0c,.slice x4_1A x4_1l.length x4_1c,.slice x4_2A x4_2l.length x4_2c,.slice x4_3A x4_3l.length x4_3c,.string x4_4,.slice x4_5A x4_5l.length x4_5c,.int .i64 x4_6,.slice x4_7A x4_7l.length x4_7c,.int .i64 x4_8,.int .i64 x4_9,.int .i64 x4_10,.int .i64 x4_11,.bool x4_12] 42 (0,0))) rfl;have z7_0_0:w7.cell? ⟨g0,0,none⟩=some (.slice a0_0A a0_0l.length a0_0c):=za (by exact (by repeat (first|(with_reducible assumption)|(with_reducible refine zl ?_)|(with_reducible refine zh ?_)|(with_reducible refine zf ?_ ?_)|(refine zg (by with_reducible assumption) ?_ ?_)|omega|(·simp)|(·(simp;omega)))):w7.heap[g0]? = some (.cells #[.slice a0_0A a0_0l.length a0_0c,.slice a0_1A a0_1l.length a0_1c,.slice a0_2A a0_2l.length a0_2c,.slice a0_3A a0_3l.length a0_3c,.string a0_4,.slice a0_5A a0_5l.length a0_5c,.int .i64 a0_6,.slice a0_7A a0_7l.length a0_7c,.int .i64 a0_8,.int .i64 a0_9,.int .i64 a0_10,.int .i64 a0_11,.bool a0_12] 33 (0,0))) rfl;have z7_0_1:w7.cell? ⟨g0,1,none⟩=some (.slice a0_1A a0_1l.length a0_1c):=za (by exact (by repeat (first|(with_reducible assumption)|(with_reducible refine zl ?_)|(with_reducible refine zh ?_)|(with_reducible refine zf ?_ ?_)|(refine zg (by with_reducible assumption) ?_ ?_)|omega|(·simp)|(·(simp;omega)))):w7.heap[g0]? = some (.cells #[.slice a0_0A a0_0l.length a0_0c,.slice a0_1A a0_1l.length a0_1c,.slice a0_2A a0_2l.length a0_2c,.slice a0_3A a0_3l.length a0_3c,.string a0_4,.slice a0_5A a0_5l.length a0_5c,.int .i64 a0_6,.slice a0_7A a0_7l.length a0_7c,.int .i64 a0_8,.int .i64 a0_9,.int .i64 a0_10,.int .i64 a0_11,.bool a0_12] 33 (0,0))) rfl;have z7_0_2:w7.cell? ⟨g0,2,none⟩=some (.slice a0_2A a0_2l.length a0_2c):=za (by exact (by repeat (first|(with_reducible assumption)|(with_reducible refine zl ?_)|(with_reducible refine zh ?_)|(with_reducible refine zf ?_ ?_)|(refine zg (by with_reducible assumption) ?_ ?_)|omega|(·simp)|(·(simp;omega)))):w7.heap[g0]? = some (.cells #[.slice a0_0A a0_0l.length a0_0c,.slice a0_1A a0_1l.length a0_1c,.slice a0_2A a0_2l.length a0_2c,.slice a0_3A a0_3l.length a0_3c,.string a0_4,.slice a0_5A a0_5l.length a0_5c,.int .i64 a0_6,.slice a0_7A a0_7l.length a0_7c,.int .i64 a0_8,.int .i64 a0_9,.int .i64 a0_10,.int .i64 a0_11,.bool a0_12] 33 (0,0))) rfl;have z7_0_3:w7.cell? ⟨g0,3,none⟩=some (.slice a0_3A a0_3l.length a0_3c):=za (by exact (by repeat (first|(with_reducible assumption)|(with_reducible refine zl ?_)|(with_reducible refine zh ?_)|(with_reducible refine zf ?_ ?_)|(refine zg (by with_reducible assumption) ?_ ?_)|omega|(·simp)|(·(simp;omega)))):w7.heap[g0]? = some (.cells #[.slice a0_0A a0_0l.length a0_0c,.slice a0_1A a0_1l.length a0_1c,.slice a0_2A a0_2l.length a0_2c,.slice a0_3A a0_3l.length a0_3c,.string a0_4,.slice a0_5A a0_5l.length a0_5c,.int .i64 a0_6,.slice a0_7A a0_7l.length a0_7c,.int .i64 a0_8,.int .i64 a0_9,.int .i64 a0_10,.int .i64 a0_11,.bool a0_12] 33 (0,0))) rfl;have z7_0_4:w7.cell? ⟨g0,4,none⟩=some (.string a0_4):=za (by exact (by repeat (first|(with_reducible assumption)|(with_reducible refine zl ?_)|(with_reducible refine zh ?_)|(with_reducible refine zf ?_ ?_)|(refine zg (by with_reducible assumption) ?_ ?_)|omega|(·simp)|(·(simp;omega)))):w7.heap[g0]? = some (.cells #[.slice a0_0A a0_0l.length a0_0c,.slice a0_1A a0_1l.length a0_1c,.slice a0_2A a0_2l.length a0_2c,.slice a0_3A a0_3l.length a0_3c,.string a0_4,.slice a0_5A a0_5l.length a0_5c,.int .i64 a0_6,.slice a0_7A a0_7l.length a0_7c,.int .i64 a0_8,.int .i64 a0_9,.int .i64 a0_10,.int .i64 a0_11,.bool a0_12] 33 (0,0))) rfl;have z7_0_5:w7.cell? ⟨g0,5,none⟩=some (.slice a0_5A a0_5l.length a0_5c):=za (by exact (by repeat (first|(with_reducible assumption)|(with_reducible refine zl ?_)|(with_reducible refine zh ?_)|(with_reducible refine zf ?_ ?_)|(refine zg (by with_reducible assumption) ?_ ?_)|omega|(·simp)|(·(simp;omega)))):w7.heap[g0]? = some (.cells #[.slice a0_0A a0_0l.length a0_0c,.slice a0_1A a0_1l.length a0_1c,.slice a0_2A a0_2l.length a0_2c,.slice a0_3A a0_3l.length a0_3c,.string a0_4,.slice a0_5A a0_5l.length a0_5c,.int .i64 a0_6,.slice a0_7A a0_7l.length a0_7c,.int .i64 a0_8,.int .i64 a0_9,.int .i64 a0_10,.int .i64 a0_11,.bool a0_12] 33 (0,0))) rfl;have z7_0_6:w7.cell? ⟨g0,6,none⟩=some (.int .i64 a0_6):=za (by exact (by repeat (first|(with_reducible assumption)|(with_reducible refine zl ?_)|(with_reducible refine zh ?_)|(with_reducible refine zf ?_ ?_)|(refine zg (by with_reducible assumption) ?_ ?_)|omega|(·simp)|(·(simp;omega)))):w7.heap[g0]? = some (.cells #[.slice a0_0A a0_0l.length a0_0c,.slice a0_1A a0_1l.length a0_1c,.slice a0_2A a0_2l.length a0_2c,.slice a0_3A a0_3l.length a0_3c,.string a0_4,.slice a0_5A a0_5l.length a0_5c,.int .i64 a0_6,.slice a0_7A a0_7l.length a0_7c,.int .i64 a0_8,.int .i64 a0_9,.int .i64 a0_10,.int .i64 a0_11,.bool a0_12] 33 (0,0))) rfl;have z7_0_7:w7.cell? ⟨g0,7,none⟩=some (.slice a0_7A a0_7l.length a0_7c):=za (by exact (by repeat (first|(with_reducible assumption)|(with_reducible refine zl ?_)|(with_reducible refine zh ?_)|(with_reducible refine zf ?_ ?_)|(refine zg (by with_reducible assumption) ?_ ?_)|omega|(·simp)|(·(simp;omega)))):w7.heap[g0]? = some (.cells #[.slice a0_0A a0_0l.length a0_0c,.slice a0_1A a0_1l.length a0_1c,.slice a0_2A a0_2l.length a0_2c,.slice a0_3A a0_3l.length a0_3c,.string a0_4,.slice a0_5A a0_5l.length a0_5c,.int .i64 a0_6,.slice a0_7A a0_7l.length a0_7c,.int .i64 a0_8,.int .i64 a0_9,.int .i64 a0_10,.int .i64 a0_11,.bool a0_12] 33 (0,0))) rfl;have z7_0_8:w7.cell? ⟨g0,8,none⟩=some (.int .i64 a0_8):=za (by exact (by repeat (first|(with_reducible assumption)|(with_reducible refine zl ?_)|(with_reducible refine zh ?_)|(with_reducible refine zf ?_ ?_)|(refine zg (by with_reducible assumption) ?_ ?_)|omega|(·simp)|(·(simp;omega)))):w7.heap[g0]? = some (.cells #[.slice a0_0A a0_0l.length a0_0c,.slice a0_1A a0_1l.length a0_1c,.slice a0_2A a0_2l.length a0_2c,.slice a0_3A a0_3l.length a0_3c,.string a0_4,.slice a0_5A a0_5l.length a0_5c,.int .i64 a0_6,.slice a0_7A a0_7l.length a0_7c,.int .i64 a0_8,.int .i64 a0_9,.int .i64 a0_10,.int .i64 a0_11,.bool a0_12] 33 (0,0))) rfl;have z7_0_9:w7.cell? ⟨g0,9,none⟩=some (.int .i64 a0_9):=za (by exact (by repeat (first|(with_reducible assumption)|(with_reducible refine zl ?_)|(with_reducible refine zh ?_)|(with_reducible refine zf ?_ ?_)|(refine zg (by with_reducible assumption) ?_ ?_)|omega|(·simp)|(·(simp;omega)))):w7.heap[g0]? = some (.cells #[.slice a0_0A a0_0l.length a0_0c,.slice a0_1A a0_1l.length a0_1c,.slice a0_2A a0_2l.length a0_2c,.slice a0_3A a0_3l.length a0_3c,.string a0_4,.slice a0_5A a0_5l.length a0_5c,.int .i64 a0_6,.slice a0_7A a0_7l.length a0_7c,.int .i64 a0_8,.int .i64 a0_9,.int .i64 a0_10,.int .i64 a0_11,.bool a0_12] 33 (0,0))) rfl;have z7_0_10:w7.cell? ⟨g0,10,none⟩=some (.int .i64 a0_10):=za (by exact (by repeat (first|(with_reducible assumption)|(with_reducible refine zl ?_)|(with_reducible refine zh ?_)|(with_reducible refine zf ?_ ?_)|(refine zg (by with_reducible assumption) ?_ ?_)|omega|(·simp)|(·(simp;omega)))):w7.heap[g0]? = some (.cells #[.slice a0_0A a0_0l.length a0_0c,.slice a0_1A a0_1l.length a0_1c,.slice a0_2A a0_2l.length a0_2c,.slice a0_3A a0_3l.length a0_3c,.string a0_4,.slice a0_5A a0_5l.length a0_5c,.int .i64 a0_6,.slice a0_7A a0_7l.length a0_7c,.int .i64 a0_8,.int .i64 a0_9,.int .i64 a0_10,.int .i64 a0_11,.bool a0_12] 33 (0,0))) rfl;have z7_0_11:w7.cell? ⟨g0,11,none⟩=some (.int .i64 a0_11):=za (by exact (by repeat (first|(with_reducible assumption)|(with_reducible refine zl ?_)|(with_reducible refine zh ?_)|(with_reducible refine zf ?_ ?_)|(refine zg (by with_reducible assumption) ?_ ?_)|omega|(·simp)|(·(simp;omega)))):w7.heap[g0]? = some (.cells #[.slice a0_0A a0_0l.length a0_0c,.slice a0_1A a0_1l.length a0_1c,.slice a0_2A a0_2l.length a0_2c,.slice a0_3A a0_3l.length a0_3c,.string a0_4,.slice a0_5A a0_5l.length a0_5c,.int .i64 a0_6,.slice a0_7A a0_7l.length a0_7c,.int .i64 a0_8,.int .i64 a0_9,.int .i64 a0_10,.int .i64 a0_11,.bool a0_12] 33 (0,0))) rfl;have z7_0_12:w7.cell? ⟨g0,12,none⟩=some (.bool a0_12):=za (by exact (by repeat (first|(with_reducible assumption)|(with_reducible refine zl ?_)|(with_reducible refine zh ?_)|(with_reducible refine zf ?_ ?_)|(refine zg (by with_reducible assumption) ?_ ?_)|omega|(·simp)|(·(simp;omega)))):w7.heap[g0]? = some (.cells #[.slice a0_0A a0_0l.length a0_0c,.slice a0_1A a0_1l.length a0_1c,.slice a0_2A a0_2l.length a0_2c,.slice a0_3A a0_3l.length a0_3c,.string a0_4,.slice a0_5A a0_5l.length a0_5c,.int .i64 a0_6,.slice a0_7A a0_7l.length a0_7c,.int .i64 a0_8,.int .i64 a0_9,.int .i64 a0_10,.int .i64 a0_11,.bool a0_12] 33 (0,0))) rfl)
           | (go_at_call 8;refine (ze5 HT4.out HT7.out ((show (E.agg [(.agg [.lst 4 110 x4_0A x4_0c x4_0l]),.lst 1 3 x4_1A x4_1c x4_1l,.lst 1 65 x4_2A x4_2c x4_2l,.lst 6 60 x4_3A x4_3c x4_3l,(.agg [.str x4_4,.lst 1 9 x4_5A x4_5c x4_5l]),.int .i64 x4_6,.lst 1 5 x4_7A x4_7c x4_7l,.int .i64 x4_8,.int .i64 x4_9,.int .i64 x4_10,.int .i64 x4_11,.bool x4_12]).d=D0 from HD4.out).trans (show (E.agg [(.agg [.lst 4 110 x7_0A x7_0c x7_0l]),.lst 1 3 x7_1A x7_1c x7_1l,.lst 1 65 x7_2A x7_2c x7_2l,.lst 6 60 x7_3A x7_3c x7_3l,(.agg [.str x7_4,.lst 1 9 x7_5A x7_5c x7_5l]),.int .i64 x7_6,.lst 1 5 x7_7A x7_7c x7_7l,.int .i64 x7_8,.int .i64 x7_9,.int .i64 x7_10,.int .i64 x7_11,.bool x7_12]).d=D0 from HD7.out).symm) _ (by have h:(E.agg [(.agg [.lst 4 110 x4_0A x4_0c x4_0l]),.lst 1 3 x4_1A x4_1c x4_1l,.lst 1 65 x4_2A x4_2c x4_2l,.lst 6 60 x4_3A x4_3c x4_3l,(.agg [.str x4_4,.lst 1 9 x4_5A x4_5c x4_5l]),.int .i64 x4_6,.lst 1 5 x4_7A x4_7c x4_7l,.int .i64 x4_8,.int .i64 x4_9,.int .i64 x4_10,.int .i64 x4_11,.bool x4_12]).In W6:=HO6_4.out.inn;exact by2) (by have h:=HO7.out.inn;exact by2)).mono ?_;rintro e w8 ⟨rfl,hb8⟩;have hz8:=hb8.size;(try simp only [World.size_alloc,World.size_drew,World.heap_drewN,World.size_setCell] at hz8);have z8_2_0:w8.cell? ⟨g2,0,none⟩=some (.slice x4_0A x4_0l.length x4_0c):=za (by exact (by repeat (first|(with_reducible assumption)|(with_reducible refine zl ?_)|(with_reducible refine zh ?_)|(with_reducible refine zf ?_ ?_)|(refine zg (by with_reducible assumption) ?_ ?_)|omega|(·simp)|(·(simp;omega)))):w8.heap[g2]? = some (.cells #[.slice x4_0A x4_0l.length x4_0c,.slice x4_1A x4_1l.length x4_1c,.slice x4_2A x4_2l.length x4_2c,.slice x4_3A x4_3l.length x4_3c,.string x4_4,.slice x4_5A x4_5l.length x4_5c,.int .i64 x4_6,.slice x4_7A x4_7l.length x4_7c,.int .i64 x4_8,.int .i64 x4_9,.int .i64 x4_10,.int .i64 x4_11,.bool x4_12] 42 (0,0))) rfl;have z8_2_1:w8.cell? ⟨g2,1,none⟩=some (.slice x4_1A x4_1l.length x4_1c):=za (by exact (by repeat (first|(with_reducible assumption)|(with_reducible refine zl ?_)|(with_reducible refine zh ?_)|(with_reducible refine zf ?_ ?_)|(refine zg (by with_reducible assumption) ?_ ?_)|omega|(·simp)|(·(simp;omega)))):w8.heap[g2]? = some (.cells #[.slice x4_0A x4_0l.length x4_0c,.slice x4_1A x4_1l.length x4_1c,.slice x4_2A x4_2l.length x4_2c,.slice x4_3A x4_3l.length x4_3c,.string x4_4,.slice x4_5A x4_5l.length x4_5c,.int .i64 x4_6,.slice x4_7A x4_7l.length x4_7c,.int .i64 x4_8,.int .i64 x4_9,.int .i64 x4_10,.int .i64 x4_11,.bool x4_12] 42 (0,0))) rfl;have z8_2_2:w8.cell? ⟨g2,2,none⟩=some (.slice x4_2A x4_2l.length x4_2c):=za (by exact (by repeat (first|(with_reducible assumption)|(with_reducible refine zl ?_)|(with_reducible refine zh ?_)|(with_reducible refine zf ?_ ?_)|(refine zg (by with_reducible assumption) ?_ ?_)|omega|(·simp)|(·(simp;omega)))):w8.heap[g2]? = some (.cells #[.slice x4_0A x4_0l.length x4_0c,.slice x4_1A x4_1l.length x4_1c,.slice x4_2A x4_2l.length x4_2c,.slice x4_3A x4_3l.length x4_3c,.string x4_4,.slice x4_5A x4_5l.length x4_5c,.int .i64 x4_6,.slice x4_7A x4_7l.length x4_7c,.int .i64 x4_8,.int .i64 x4_9,.int .i64 x4_10,.int .i64 x4_11,.bool x4_12] 42 (0,0))) rfl;have z8_2_3:w8.cell? ⟨g2,3,none⟩=some (.slice x4_3A x4_3l.length x4_3c):=za (by exact (by repeat (first|(with_reducible assumption)|(with_reducible refine zl ?_)|(with_reducible refine zh ?_)|(with_reducible refine zf ?_ ?_)|(refine zg (by with_reducible assumption) ?_ ?_)|omega|(·simp)|(·(simp;omega)))):w8.heap[g2]? = some (.cells #[.slice x4_0A x4_0l.length x4_0c,.slice x4_1A x4_1l.length x4_1c,.slice x4_2A x4_2l.length x4_2c,.slice x4_3A x4_3l.length x4_3c,.string x4_4,.slice x4_5A x4_5l.length x4_5c,.int .i64 x4_6,.slice x4_7A x4_7l.length x4_7c,.int .i64 x4_8,.int .i64 x4_9,.int .i64 x4_10,.int .i64 x4_11,.bool x4_12] 42 (0,0))) rfl;have z8_2_4:w8.cell? ⟨g2,4,none⟩=some (.string x4_4):=za (by exact (by repeat (first|(with_reducible assumption)|(with_reducible refine zl ?_)|(with_reducible refine zh ?_)|(with_reducible refine zf ?_ ?_)|(refine zg (by with_reducible assumption) ?_ ?_)|omega|(·simp)|(·(simp;omega)))):w8.heap[g2]? = some (.cells #[.slice x4_0A x4_0l.length x4_0c,.slice x4_1A x4_1l.length x4_1c,.slice x4_2A x4_2l.length x4_2c,.slice x4_3A x4_3l.length x4_3c,.string x4_4,.slice x4_5A x4_5l.length x4_5c,.int .i64 x4_6,.slice x4_7A x4_7l.length x4_7c,.int .i64 x4_8,.int .i64 x4_9,.int .i64 x4_10,.int .i64 x4_11,.bool x4_12] 42 (0,0))) rfl;have z8_2_5:w8.cell? ⟨g2,5,none⟩=some (.slice x4_5A x4_5l.length x4_5c):=za (by exact (by repeat (first|(with_reducible assumption)|(with_reducible refine zl ?_)|(with_reducible refine zh ?_)|(with_reducible refine zf ?_ ?_)|(refine zg (by with_reducible assumption) ?_ ?_)|omega|(·simp)|(·(simp;omega)))):w8.heap[g2]? = some (.cells #[.slice x4_0A x4_0l.length x4_0c,.slice x4_1A x4_1l.length x4_1c,.slice x4_2A x4_2l.length x4_2c,.slice x4_3A x4_3l.length x4_3c,.string x4_4,.slice x4_5A x4_5l.length x4_5c,.int .i64 x4_6,.slice x4_7A x4_7l.length x4_7c,.int .i64 x4_8,.int .i64 x4_9,.int .i64 x4_10,.int .i64 x4_11,.bool x4_12] 42 (0,0))) rfl;have z8_2_6:w8.cell? ⟨g2,6,none⟩=some (.int .i64 x4_6):=za (by exact (by repeat (first|(with_reducible assumption)|(with_reducible refine zl ?_)|(with_reducible refine zh ?_)|(with_reducible refine zf ?_ ?_)|(refine zg (by with_reducible assumption) ?_ ?_)|omega|(·simp)|(·(simp;omega)))):w8.heap[g2]? = some (.cells #[.slice x4_0A x4_0l.length x4_0c,.slice x4_1A x4_1l.length x4_1c,.slice x4_2A x4_2l.length x4_2c,.slice x4_3A x4_3l.length x4_3c,.string x4_4,.slice x4_5A x4_5l.length x4_5c,.int .i64 x4_6,.slice x4_7A x4_7l.length x4_7c,.int .i64 x4_8,.int .i64 x4_9,.int .i64 x4_10,.int .i64 x4_11,.bool x4_12] 42 (0,0))) rfl;have z8_2_7:w8.cell? ⟨g2,7,none⟩=some (.slice x4_7A x4_7l.length x4_7c):=za (by exact (by repeat (first|(with_reducible assumption)|(with_reducible refine zl ?_)|(with_reducible refine zh ?_)|(with_reducible refine zf ?_ ?_)|(refine zg (by with_reducible assumption) ?_ ?_)|omega|(·simp)|(·(simp;omega)))):w8.heap[g2]? = some (.cells #[.slice x4_0A x4_0l.length x4_0c,.slice x4_1A x4_1l.length x4_1c,.slice x4_2A x4_2l.length x4_2c,.slice x4_3A x4_3l.length x4_3c,.string x4_4,.slice x4_5A x4_5l.length x4_5c,.int .i64 x4_6,.slice x4_7A x4_7l.length x4_7c,.int .i64 x4_8,.int .i64 x4_9,.int .i64 x4_10,.int .i64 x4_11,.bool x4_12] 42 (0,0))) rfl;have z8_2_8:w8.cell? ⟨g2,8,none⟩=some (.int .i64 x4_8):=za (by exact (by repeat (first|(with_reducible assumption)|(with_reducible refine zl ?_)|(with_reducible refine zh ?_)|(with_reducible refine zf ?_ ?_)|(refine zg (by with_reducible assumption) ?_ ?_)|omega|(·simp)|(·(simp;omega)))):w8.heap[g2]? = some (.cells #[.slice x4_0A x4_0l.length x4_0c,.slice x4_1A x4_1l.length x4_1c,.slice x4_2A x4_2l.length x4_2c,.slice x4_3A x4_3l.length x4_3c,.string x4_4,.slice x4_5A x4_5l.length x4_5c,.int .i64 x4_6,.slice x4_7A x4_7l.length x4_7c,.int .i64 x4_8,.int .i64 x4_9,.int .i64 x4_10,.int .i64 x4_11,.bool x4_12] 42 (0,0))) rfl;have z8_2_9:w8.cell? ⟨g2,9,none⟩=some (.int .i64 x4_9):=za (by exact (by repeat (first|(with_reducible assumption)|(with_reducible refine zl ?_)|(with_reducible refine zh ?_)|(with_reducible refine zf ?_ ?_)|(refine zg (by with_reducible assumption) ?_ ?_)|omega|(·simp)|(·(simp;omega)))):w8.heap[g2]? = some (.cells #[.slice x4_0A x4_0l.length x4_0c,.slice x4_1A x4_1l.length x4_1c,.slice x4_2A x4_2l.length x4_2c,.slice x4_3A x4_3l.length x4_3c,.string x4_4,.slice x4_5A x4_5l.length x4_5c,.int .i64 x4_6,.slice x4_7A x4_7l.length x4_7c,.int .i64 x4_8,.int .i64 x4_9,.int .i64 x4_10,.int .i64 x4_11,.bool x4_12] 42 (0,0))) rfl;have z8_2_10:w8.cell? ⟨g2,10,none⟩=some (.int .i64 x4_10):=za (by exact (by repeat (first|(with_reducible assumption)|(with_reducible refine zl ?_)|(with_reducible refine zh ?_)|(with_reducible refine zf ?_ ?_)|(refine zg (by with_reducible assumption) ?_ ?_)|omega|(·simp)|(·(simp;omega)))):w8.heap[g2]? = some (.cells #[.slice x4_0A x4_0l.length x4_0c,.slice x4_1A x4_1l.length x4_1c,.slice x4_2A x4_2l.length x4_2c,.slice x4_3A x4_3l.length x4_3c,.string x4_4,.slice x4_5A x4_5l.length x4_5c,.int .i64 x4_6,.slice x4_7A x4_7l.length x4_7c,.int .i64 x4_8,.int .i64 x4_9,.int .i64 x4_10,.int .i64 x4_11,.bool x4_12] 42 (0,0))) rfl;have z8_2_11:w8.cell? ⟨g2,11,none⟩=some (.int .i64 x4_11):=za (by exact (by repeat (first|(with_reducible assumption)|(with_reducible refine zl ?_)|(with_reducible refine zh ?_)|(with_reducible refine zf ?_ ?_)|(refine zg (by with_reducible assumption) ?_ ?_)|omega|(·simp)|(·(simp;omega)))):w8.heap[g2]? = some (.cells #[.slice x4_0A x4_0l.length x4_0c,.slice x4_1A x4_1l.length x4_1c,.slice x4_2A x4_2l.length x4_2c,.slice x4_3A x4_3l.length x4_3c,.string x4_4,.slice x4_5A x4_5l.length x4_5c,.int .i64 x4_6,.slice x4_7A x4_7l.length x4_7c,.int .i64 x4_8,.int .i64 x4_9,.int .i64 x4_10,.int .i64 x4_11,.bool x4_12] 42 (0,0))) rfl;have z8_2_12:w8.cell? ⟨g2,12,none⟩=some (.bool x4_12):=za (by exact (by repeat (first|(with_reducible assumption)|(with_reducible refine zl ?_)|(with_reducible refine zh ?_)|(with_reducible refine zf ?_ ?_)|(refine zg (by with_reducible assumption) ?_ ?_)|omega|(·simp)|(·(simp;omega)))):w8.heap[g2]? = some (.cells #[.slice x4_0A x4_0l.length x4_0c,.slice x4_1A x4_1l.length x4_1c,.slice x4_2A x4_2l.length x4_2c,.slice x4_3A x4_3l.length x4_3c,.string x4_4,.slice x4_5A x4_5l.length x4_5c,.int .i64 x4_6,.slice x4_7A x4_7l.length x4_7c,.int .i64 x4_8,.int .i64 x4_9,.int .i64 x4_10,.int .i64 x4_11,.bool x4_12] 42 (0,0))) rfl;have z8_0_0:w8.cell? ⟨g0,0,none⟩=some (.slice a0_0A a0_0l.length a0_0c):=za (by exact (by repeat (first|(with_reducible assumption)|(with_reducible refine zl ?_)|(with_reducible refine zh ?_)|(with_reducible refine zf ?_ ?_)|(refine zg (by with_reducible assumption) ?_ ?_)|omega|(·simp)|(·(simp;omega)))):w8.heap[g0]? = some (.cells #[.slice a0_0A a0_0l.length a0_0c,.slice a0_1A a0_1l.length a0_1c,.slice a0_2A a0_2l.length a0_2c,.slice a0_3A a0_3l.length a0_3c,.string a0_4,.slice a0_5A a0_5l.length a0_5c,.int .i64 a0_6,.slice a0_7A a0_7l.length a0_7c,.int .i64 a0_8,.int .i64 a0_9,.int .i64 a0_10,.int .i64 a0_11,.bool a0_12] 33 (0,0))) rfl;have z8_0_1:w8.cell? ⟨g0,1,none⟩=some (.slice a0_1A a0_1l.length a0_1c):=za (by exact (by repeat (first|(with_reducible assumption)|(with_reducible refine zl ?_)|(with_reducible refine zh ?_)|(with_reducible refine zf ?_ ?_)|(refine zg (by with_reducible assumption) ?_ ?_)|omega|(·simp)|(·(simp;omega)))):w8.heap[g0]? = some (.cells #[.slice a0_0A a0_0l.length a0_0c,.slice a0_1A a0_1l.length a0_1c,.slice a0_2A a0_2l.length a0_2c,.slice a0_3A a0_3l.length a0_3c,.string a0_4,.slice a0_5A a0_5l.length a0_5c,.int .i64 a0_6,.slice a0_7A a0_7l.length a0_7c,.int .i64 a0_8,.int .i64 a0_9,.int .i64 a0_10,.int .i64 a0_11,.bool a0_12] 33 (0,0))) rfl;have z8_0_2:w8.cell? ⟨g0,2,none⟩=some (.slice a0_2A a0_2l.length a0_2c):=za (by exact (by repeat (first|(with_reducible assumption)|(with_reducible refine zl ?_)|(with_reducible refine zh ?_)|(with_reducible refine zf ?_ ?_)|(refine zg (by with_reducible assumption) ?_ ?_)|omega|(·simp)|(·(simp;omega)))):w8.heap[g0]? = some (.cells #[.slice a0_0A a0_0l.length a0_0c,.slice a0_1A a0_1l.length a0_1c,.slice a0_2A a0_2l.length a0_2c,.slice a0_3A a0_3l.length a0_3c,.string a0_4,.slice a0_5A a0_5l.length a0_5c,.int .i64 a0_6,.slice a0_7A a0_7l.length a0_7c,.int .i64 a0_8,.int .i64 a0_9,.int .i64 a0_10,.int .i64 a0_11,.bool a0_12] 33 (0,0))) rfl;have z8_0_3:w8.cell? ⟨g0,3,none⟩=some (.slice a0_3A a0_3l.length a0_3c):=za (by exact (by repeat (first|(with_reducible assumption)|(with_reducible refine zl ?_)|(with_reducible refine zh ?_)|(with_reducible refine zf ?_ ?_)|(refine zg (by with_reducible assumption) ?_ ?_)|omega|(·simp)|(·(simp;omega)))):w8.heap[g0]? = some (.cells #[.slice a0_0A a0_0l.length a0_0c,.slice a0_1A a0_1l.length a0_1c,.slice a0_2A a0_2l.length a0_2c,.slice a0_3A a0_3l.length a0_3c,.string a0_4,.slice a0_5A a0_5l.length a0_5c,.int .i64 a0_6,.slice a0_7A a0_7l.length a0_7c,.int .i64 a0_8,.int .i64 a0_9,.int .i64 a0_10,.int .i64 a0_11,.bool a0_12] 33 (0,0))) rfl;have z8_0_4:w8.cell? ⟨g0,4,none⟩=some (.string a0_4):=za (by exact (by repeat (first|(with_reducible assumption)|(with_reducible refine zl ?_)|(with_reducible refine zh ?_)|(with_reducible refine zf ?_ ?_)|(refine zg (by with_reducible assumption) ?_ ?_)|omega|(·simp)|(·(simp;omega)))):w8.heap[g0]? = some (.cells #[.slice a0_0A a0_0l.length a0_0c,.slice a0_1A a0_1l.length a0_1c,.slice a0_2A a0_2l.length a0_2c,.slice a0_3A a0_3l.length a0_3c,.string a0_4,.slice a0_5A a0_5l.length a0_5c,.int .i64 a0_6,.slice a0_7A a0_7l.length a0_7c,.int .i64 a0_8,.int .i64 a0_9,.int .i64 a0_10,.int .i64 a0_11,.bool a0_12] 33 (0,0))) rfl;have z8_0_5:w8.cell? ⟨g0,5,none⟩=some (.slice a0_5A a0_5l.length a0_5c):=za (by exact (by repeat (first|(with_reducible assumption)|(with_reducible refine zl ?_)|(with_reducible refine zh ?_)|(with_reducible refine zf ?_ ?_)|(refine zg (by with_reducible assumption) ?_ ?_)|omega|(·simp)|(·(simp;omega)))):w8.heap[g0]? = some (.cells #[.slice a0_0A a0_0l.length a0_0c,.slice a0_1A a0_1l.length a0_1c,.slice a0_2A a0_2l.length a0_2c,.slice a0_3A a0_3l.length a0_3c,.string a0_4,.slice a0_5A a0_5l.length a0_5c,.int .i64 a0_6,.slice a0_7A a0_7l.length a0_7c,.int .i64 a0_8,.int .i64 a0_9,.int .i64 a0_10,.int .i64 a0_11,.bool a0_12] 33 (0,0))) rfl;have z8_0_6:w8.cell? ⟨g0,6,none⟩=some (.int .i64 a0_6):=za (by exact (by repeat (first|(with_reducible assumption)|(with_reducible refine zl ?_)|(with_reducible refine zh ?_)|(with_reducible refine zf ?_ ?_)|(refine zg (by with_reducible assumption) ?_ ?_)|omega|(·simp)|(·(simp;omega)))):w8.heap[g0]? = some (.cells #[.slice a0_0A a0_0l.length a0_0c,.slice a0_1A a0_1l.length a0_1c,.slice a0_2A a0_2l.length a0_2c,.slice a0_3A a0_3l.length a0_3c,.string a0_4,.slice a0_5A a0_5l.length a0_5c,.int .i64 a0_6,.slice a0_7A a0_7l.length a0_7c,.int .i64 a0_8,.int .i64 a0_9,.int .i64 a0_10,.int .i64 a0_11,.bool a0_12] 33 (0,0))) rfl;have z8_0_7:w8.cell? ⟨g0,7,none⟩=some (.slice a0_7A a0_7l.length a0_7c):=za (by exact (by repeat (first|(with_reducible assumption)|(with_reducible refine zl ?_)|(with_reducible refine zh ?_)|(with_reducible refine zf ?_ ?_)|(refine zg (by with_reducible assumption) ?_ ?_)|omega|(·simp)|(·(simp;omega)))):w8.heap[g0]? = some (.cells #[.slice a0_0A a0_0l.length a0_0c,.slice a0_1A a0_1l.length a0_1c,.slice a0_2A a0_2l.length a0_2c,.slice a0_3A a0_3l.length a0_3c,.string a0_4,.slice a0_5A a0_5l.length a0_5c,.int .i64 a0_6,.slice a0_7A a0_7l.length a0_7c,.int .i64 a0_8,.int .i64 a0_9,.int .i64 a0_10,.int .i64 a0_11,.bool a0_12] 33 (0,0))) rfl;have z8_0_8:w8.cell? ⟨g0,8,none⟩=some (.int .i64 a0_8):=za (by exact (by repeat (first|(with_reducible assumption)|(with_reducible refine zl ?_)|(with_reducible refine zh ?_)|(with_reducible refine zf ?_ ?_)|(refine zg (by with_reducible assumption) ?_ ?_)|omega|(·simp)|(·(simp;omega)))):w8.heap[g0]? = some (.cells #[.slice a0_0A a0_0l.length a0_0c,.slice a0_1A a0_1l.length a0_1c,.slice a0_2A a0_2l.length a0_2c,.slice a0_3A a0_3l.length a0_3c,.string a0_4,.slice a0_5A a0_5l.length a0_5c,.int .i64 a0_6,.slice a0_7A a0_7l.length a0_7c,.int .i64 a0_8,.int .i64 a0_9,.int .i64 a0_10,.int .i64 a0_11,.bool a0_12] 33 (0,0))) rfl;have z8_0_9:w8.cell? ⟨g0,9,none⟩=some (.int .i64 a0_9):=za (by exact (by repeat (first|(with_reducible assumption)|(with_reducible refine zl ?_)|(with_reducible refine zh ?_)|(with_reducible refine zf ?_ ?_)|(refine zg (by with_reducible assumption) ?_ ?_)|omega|(·simp)|(·(simp;omega)))):w8.heap[g0]? = some (.cells #[.slice a0_0A a0_0l.length a0_0c,.slice a0_1A a0_1l.length a0_1c,.slice a0_2A a0_2l.length a0_2c,.slice a0_3A a0_3l.length a0_3c,.string a0_4,.slice a0_5A a0_5l.length a0_5c,.int .i64 a0_6,.slice a0_7A a0_7l.length a0_7c,.int .i64 a0_8,.int .i64 a0_9,.int .i64 a0_10,.int .i64 a0_11,.bool a0_12] 33 (0,0))) rfl;have z8_0_10:w8.cell? ⟨g0,10,none⟩=some (.int .i64 a0_10):=za (by exact (by repeat (first|(with_reducible assumption)|(with_reducible refine zl ?_)|(with_reducible refine zh ?_)|(with_reducible refine zf ?_ ?_)|(refine zg (by with_reducible assumption) ?_ ?_)|omega|(·simp)|(·(simp;omega)))):w8.heap[g0]? = some (.cells #[.slice a0_0A a0_0l.length a0_0c,.slice a0_1A a0_1l.length a0_1c,.slice a0_2A a0_2l.length a0_2c,.slice a0_3A a0_3l.length a0_3c,.string a0_4,.slice a0_5A a0_5l.length a0_5c,.int .i64 a0_6,.slice a0_7A a0_7l.length a0_7c,.int .i64 a0_8,.int .i64 a0_9,.int .i64 a0_10,.int .i64 a0_11,.bool a0_12] 33 (0,0))) rfl;have z8_0_11:w8.cell? ⟨g0,11,none⟩=some (.int .i64 a0_11):=za (by exact (by repeat (first|(with_reducible assumption)|(with_reducible refine zl ?_)|(with_reducible refine zh ?_)|(with_reducible refine zf ?_ ?_)|(refine zg (by with_reducible assumption) ?_ ?_)|omega|(·simp)|(·(simp;omega)))):w8.heap[g0]? = some (.cells #[.slice a0_0A a0_0l.length a0_0c,.slice a0_1A a0_1l.length a0_1c,.slice a0_2A a0_2l.length a0_2c,.slice a0_3A a0_3l.length a0_3c,.string a0_4,.slice a0_5A a0_5l.length a0_5c,.int .i64 a0_6,.slice a0_7A a0_7l.length a0_7c,.int .i64 a0_8,.int .i64 a0_9,.int .i64 a0_10,.int .i64 a0_11,.bool a0_12] 33 (0,0))) rfl;have z8_0_12:w8.cell? ⟨g0,12,none⟩=some (.bool a0_12):=za (by exact (by repeat (first|(with_reducible assumption)|(with_reducible refine zl ?_)|(with_reducible refine zh ?_)|(with_reducible refine zf ?_ ?_)|(refine zg (by with_reducible assumption) ?_ ?_)|omega|(·simp)|(·(simp;omega)))):w8.heap[g0]? = some (.cells #[.slice a0_0A a0_0l.length a0_0c,.slice a0_1A a0_1l.length a0_1c,.slice a0_2A a0_2l.length a0_2c,.slice a0_3A a0_3l.length a0_3c,.string a0_4,.slice a0_5A a0_5l.length a0_5c,.int .i64 a0_6,.slice a0_7A a0_7l.length a0_7c,.int .i64 a0_8,.int .i64 a0_9,.int .i64 a0_10,.int .i64 a0_11,.bool a0_12] 33 (0,0))) rfl)))
        all_goals
         go_wp2_with fail
         go_meet
         refine⟨rfl,?_⟩
         ·exact by0
       case rest =>
        obtain⟨rfl,hb7⟩:=hcut
        obtain⟨W7,hWeq⟩:∃W:World,W=wc:=⟨_,rfl⟩
        subst hWeq
        have hs7:=hb7.size
        have B7_0:=(hb7.block g0 (by omega)).trans B6_0
        clear B6_0
        have B7_1:=(hb7.block g1 (by omega)).trans B6_1
        clear B6_1
        have B7_2:=(hb7.block g2 (by omega)).trans B6_2
        clear B6_2
        have B7_3:=(hb7.block g3 (by omega)).trans B6_3
        clear B6_3
        have RA7_0:(E.agg [(.agg [.lst 4 129 a0_0A a0_0c a0_0l]),.lst 1 3 a0_1A a0_1c a0_1l,.lst 1 90 a0_2A a0_2c a0_2l,.lst 6 96 a0_3A a0_3c a0_3l,(.agg [.str a0_4,.lst 1 9 a0_5A a0_5c a0_5l]),.int .i64 a0_6,.lst 1 5 a0_7A a0_7c a0_7l,.int .i64 a0_8,.int .i64 a0_9,.int .i64 a0_10,.int .i64 a0_11,.bool a0_12]).Re W7 0 w.heap.size:=RA6_0.below hb7 (by omega)
        clear RA6_0
        have I7_3:=I6_3.below hb7 (by omega)
        clear I6_3
        have HO7_4:=Lib.hid (HO6_4.out.below hb7 (by omega))
        clear HO6_4
        have HO7_5:=Lib.hid (HO6_5.out.below hb7 (by omega))
        clear HO6_5
        have hB7:Below w.heap.size w W7:=hB6.trans (hb7.mono (by omega))
        go_upto_region 13 with fail
        go_cut [7] (fun s7 wx=>s7=.int .i64 (1+((E.agg [(.agg [.lst 4 110 x4_0A x4_0c x4_0l]),.lst 1 3 x4_1A x4_1c x4_1l,.lst 1 65 x4_2A x4_2c x4_2l,.lst 6 60 x4_3A x4_3c x4_3l,(.agg [.str x4_4,.lst 1 9 x4_5A x4_5c x4_5l]),.int .i64 x4_6,.lst 1 5 x4_7A x4_7c x4_7l,.int .i64 x4_8,.int .i64 x4_9,.int .i64 x4_10,.int .i64 x4_11,.bool x4_12]).cnt:Int))∧Hid (((E.agg [(.agg [.lst 4 110 x4_0A x4_0c x4_0l]),.lst 1 3 x4_1A x4_1c x4_1l,.lst 1 65 x4_2A x4_2c x4_2l,.lst 6 60 x4_3A x4_3c x4_3l,(.agg [.str x4_4,.lst 1 9 x4_5A x4_5c x4_5l]),.int .i64 x4_6,.lst 1 5 x4_7A x4_7c x4_7l,.int .i64 x4_8,.int .i64 x4_9,.int .i64 x4_10,.int .i64 x4_11,.bool x4_12]).mk0 1).Ho wx W3.heap.size W4.heap.size)∧Hid (Fr (E.agg [(.agg [.lst 4 110 x4_0A x4_0c x4_0l]),.lst 1 3 x4_1A x4_1c x4_1l,.lst 1 65 x4_2A x4_2c x4_2l,.lst 6 60 x4_3A x4_3c x4_3l,(.agg [.str x4_4,.lst 1 9 x4_5A x4_5c x4_5l]),.int .i64 x4_6,.lst 1 5 x4_7A x4_7c x4_7l,.int .i64 x4_8,.int .i64 x4_9,.int .i64 x4_10,.int .i64 x4_11,.bool x4_12]).fp W7 wx))
        case first =>
         have hwW:=hB7.size
         have ltW2:g2<W7.heap.size:=by omega
         have hiW4:W4.heap.size≤W7.heap.size:=by omega
         clear hs1 lu0 lb0 hs2 hs3 lu1 lb1 lu2 lb2 nb2_4 hs5 lu3 lb3 nb3_5 hs6 hs7
         clear B7_0 B7_1 B7_3 I7_3 HO7_5
         have z0_2_0:W7.cell? ⟨g2,0,none⟩=some (.slice x4_0A x4_0l.length x4_0c):=za B7_2 rfl
         have z0_2_1:W7.cell? ⟨g2,1,none⟩=some (.slice x4_1A x4_1l.length x4_1c):=za B7_2 rfl
         have z0_2_2:W7.cell? ⟨g2,2,none⟩=some (.slice x4_2A x4_2l.length x4_2c):=za B7_2 rfl
         have z0_2_3:W7.cell? ⟨g2,3,none⟩=some (.slice x4_3A x4_3l.length x4_3c):=za B7_2 rfl
         have z0_2_4:W7.cell? ⟨g2,4,none⟩=some (.string x4_4):=za B7_2 rfl
         have z0_2_5:W7.cell? ⟨g2,5,none⟩=some (.slice x4_5A x4_5l.length x4_5c):=za B7_2 rfl
         have z0_2_6:W7.cell? ⟨g2,6,none⟩=some (.int .i64 x4_6):=za B7_2 rfl
         have z0_2_7:W7.cell? ⟨g2,7,none⟩=some (.slice x4_7A x4_7l.length x4_7c):=za B7_2 rfl
         have z0_2_8:W7.cell? ⟨g2,8,none⟩=some (.int .i64 x4_8):=za B7_2 rfl
         have z0_2_9:W7.cell? ⟨g2,9,none⟩=some (.int .i64 x4_9):=za B7_2 rfl
         have z0_2_10:W7.cell? ⟨g2,10,none⟩=some (.int .i64 x4_10):=za B7_2 rfl
         have z0_2_11:W7.cell? ⟨g2,11,none⟩=some (.int .i64 x4_11):=za B7_2 rfl
         have z0_2_12:W7.cell? ⟨g2,12,none⟩=some (.bool x4_12):=za B7_2 rfl
         go_wp2_with fail
         go_at_call 9
         refine (zz5 HT4.out _ _ _ _ HO7_4.out HN4.out (by omega) (by omega) (by have:=zh13 HT4.out HD4 (by omega);omega)).mono ?_;rintro e w9 ⟨rfl,HOm9,hf9⟩
         go_wp2_with fail
         go_meet
         refine⟨rfl,?_,?_⟩
         ·exact HOm9
         ·exact hf9
        case rest =>
         obtain⟨rfl,HOm8_4,hF8⟩:=hcut
         obtain⟨W8,hWeq⟩:∃W:World,W=wc:=⟨_,rfl⟩
         subst hWeq
         have hs8:=hF8.out.size
         have B8_0:=(hF8.out.block g0 (by omega) (fun hm=>by have:=HO7_4.out.lt _ hm;omega)).trans B7_0
         clear B7_0
         have B8_1:=(hF8.out.block g1 (by omega) (fun hm=>by have:=HO7_4.out.lt _ hm;omega)).trans B7_1
         clear B7_1
         have B8_2:=(hF8.out.block g2 (by omega) (nb2_4)).trans B7_2
         clear B7_2
         have B8_3:=(hF8.out.block g3 (by omega) (fun hm=>by have:=HO7_4.out.lt _ hm;omega)).trans B7_3
         clear B7_3
         have RA8_0:(E.agg [(.agg [.lst 4 129 a0_0A a0_0c a0_0l]),.lst 1 3 a0_1A a0_1c a0_1l,.lst 1 90 a0_2A a0_2c a0_2l,.lst 6 96 a0_3A a0_3c a0_3l,(.agg [.str a0_4,.lst 1 9 a0_5A a0_5c a0_5l]),.int .i64 a0_6,.lst 1 5 a0_7A a0_7c a0_7l,.int .i64 a0_8,.int .i64 a0_9,.int .i64 a0_10,.int .i64 a0_11,.bool a0_12]).Re W8 0 w.heap.size:=RA7_0.kp (lo':=w.heap.size) (hi':=W7.heap.size) (hF8.out.kp (fun b hb=>by have:=HO7_4.out.lt b hb;omega)) (.inl (Nat.le_refl _))
         clear RA7_0
         have I8_3:=I7_3.kp (lo':=W3.heap.size) (hi':=W4.heap.size) (hF8.out.kp (fun b hb=>by have:=HO7_4.out.lt b hb;omega)) (.inl (by omega))
         clear I7_3
         have HO8_5:=Lib.hid (HO7_5.out.fr hF8.out (fun b hb hm=>by have h1:=HO7_5.out.lt b hb;have h2:=HO7_4.out.lt b hm;omega))
         clear HO7_5
         have hB8:Below w.heap.size w W8:=hB7.trans (hF8.out.below (fun b hb=>by have:=HO7_4.out.lt b hb;omega) (by omega))
         go_upto_region 14 with fail
         go_cut [42] (fun s42 wx=>s42=.bool false∧Below W8.heap.size W8 wx)
         case first =>
          have hwW:=hB8.size
          have ltW3:g3<W8.heap.size:=by omega
          have ltW1:g1<W8.heap.size:=by omega
          have hiW3:W3.heap.size≤W8.heap.size:=by omega
          have hiW5:W5.heap.size≤W8.heap.size:=by omega
          clear hs1 lu0 lb0 hs2 lu1 lb1 hs4 lu2 lb2 nb2_4 lu3 lb3 nb3_5 hs6 hs7 hs8
          clear B8_0 B8_2 HOm8_4
          have z0_3_0:W8.cell? ⟨g3,0,none⟩=some (.slice x5_0A x5_0l.length x5_0c):=za B8_3 rfl
          have z0_3_1:W8.cell? ⟨g3,1,none⟩=some (.slice x5_1A x5_1l.length x5_1c):=za B8_3 rfl
          have z0_3_2:W8.cell? ⟨g3,2,none⟩=some (.slice x5_2A x5_2l.length x5_2c):=za B8_3 rfl
          have z0_3_3:W8.cell? ⟨g3,3,none⟩=some (.slice x5_3A x5_3l.length x5_3c):=za B8_3 rfl
          have z0_3_4:W8.cell? ⟨g3,4,none⟩=some (.string x5_4):=za B8_3 rfl
          have z0_3_5:W8.cell? ⟨g3,5,none⟩=some (.slice x5_5A x5_5l.length x5_5c):=za B8_3 rfl
          have z0_3_6:W8.cell? ⟨g3,6,none⟩=some (.int .i64 x5_6):=za B8_3 rfl
          have z0_3_7:W8.cell? ⟨g3,7,none⟩=some (.slice x5_7A x5_7l.length x5_7c):=za B8_3 rfl
          have z0_3_8:W8.cell? ⟨g3,8,none⟩=some (.int .i64 x5_8):=za B8_3 rfl
          have z0_3_9:W8.cell? ⟨g3,9,none⟩=some (.int .i64 x5_9):=za B8_3 rfl
          have z0_3_10:W8.cell? ⟨g3,10,none⟩=some (.int .i64 x5_10):=za B8_3 rfl
          have z0_3_11:W8.cell? ⟨g3,11,none⟩=some (.int .i64 x5_11):=za B8_3 rfl
          have z0_3_12:W8.cell? ⟨g3,12,none⟩=some (.bool x5_12):=za B8_3 rfl
          have z0_1_0:W8.cell? ⟨g1,0,none⟩=some (.slice x3_0A x3_0l.length x3_0c):=za B8_1 rfl
          have z0_1_1:W8.cell? ⟨g1,1,none⟩=some (.slice x3_1A x3_1l.length x3_1c):=za B8_1 rfl
          have z0_1_2:W8.cell? ⟨g1,2,none⟩=some (.slice x3_2A x3_2l.length x3_2c):=za B8_1 rfl
          have z0_1_3:W8.cell? ⟨g1,3,none⟩=some (.slice x3_3A x3_3l.length x3_3c):=za B8_1 rfl
          have z0_1_4:W8.cell? ⟨g1,4,none⟩=some (.string x3_4):=za B8_1 rfl
          have z0_1_5:W8.cell? ⟨g1,5,none⟩=some (.slice x3_5A x3_5l.length x3_5c):=za B8_1 rfl
          have z0_1_6:W8.cell? ⟨g1,6,none⟩=some (.int .i64 x3_6):=za B8_1 rfl
          have z0_1_7:W8.cell? ⟨g1,7,none⟩=some (.slice x3_7A x3_7l.length x3_7c):=za B8_1 rfl
          have z0_1_8:W8.cell? ⟨g1,8,none⟩=some (.int .i64 x3_8):=za B8_1 rfl
          have z0_1_9:W8.cell? ⟨g1,9,none⟩=some (.int .i64 x3_9):=za B8_1 rfl
          have z0_1_10:W8.cell? ⟨g1,10,none⟩=some (.int .i64 x3_10):=za B8_1 rfl
          have z0_1_11:W8.cell? ⟨g1,11,none⟩=some (.int .i64 x3_11):=za B8_1 rfl
          have z0_1_12:W8.cell? ⟨g1,12,none⟩=some (.bool x3_12):=za B8_1 rfl
          go_wp2_with fail
          go_at_call 8
          refine (ze5 HT5.out HT3.out ((show (E.agg [(.agg [.lst 4 110 x5_0A x5_0c x5_0l]),.lst 1 3 x5_1A x5_1c x5_1l,.lst 1 65 x5_2A x5_2c x5_2l,.lst 6 60 x5_3A x5_3c x5_3l,(.agg [.str x5_4,.lst 1 9 x5_5A x5_5c x5_5l]),.int .i64 x5_6,.lst 1 5 x5_7A x5_7c x5_7l,.int .i64 x5_8,.int .i64 x5_9,.int .i64 x5_10,.int .i64 x5_11,.bool x5_12]).d=clrD D0 from HD5.out).trans (show (E.agg [(.agg [.lst 4 110 x3_0A x3_0c x3_0l]),.lst 1 3 x3_1A x3_1c x3_1l,.lst 1 65 x3_2A x3_2c x3_2l,.lst 6 60 x3_3A x3_3c x3_3l,(.agg [.str x3_4,.lst 1 9 x3_5A x3_5c x3_5l]),.int .i64 x3_6,.lst 1 5 x3_7A x3_7c x3_7l,.int .i64 x3_8,.int .i64 x3_9,.int .i64 x3_10,.int .i64 x3_11,.bool x3_12]).d=clrD D0 from HD3.out).symm) _ (by have h:(E.agg [(.agg [.lst 4 110 x5_0A x5_0c x5_0l]),.lst 1 3 x5_1A x5_1c x5_1l,.lst 1 65 x5_2A x5_2c x5_2l,.lst 6 60 x5_3A x5_3c x5_3l,(.agg [.str x5_4,.lst 1 9 x5_5A x5_5c x5_5l]),.int .i64 x5_6,.lst 1 5 x5_7A x5_7c x5_7l,.int .i64 x5_8,.int .i64 x5_9,.int .i64 x5_10,.int .i64 x5_11,.bool x5_12]).In W8:=HO8_5.out.inn;exact by2) (by have h:(E.agg [(.agg [.lst 4 110 x3_0A x3_0c x3_0l]),.lst 1 3 x3_1A x3_1c x3_1l,.lst 1 65 x3_2A x3_2c x3_2l,.lst 6 60 x3_3A x3_3c x3_3l,(.agg [.str x3_4,.lst 1 9 x3_5A x3_5c x3_5l]),.int .i64 x3_6,.lst 1 5 x3_7A x3_7c x3_7l,.int .i64 x3_8,.int .i64 x3_9,.int .i64 x3_10,.int .i64 x3_11,.bool x3_12]).In W8:=I8_3.inn (by omega);exact by2)).mono ?_;rintro e w10 ⟨rfl,hb10⟩;have hz10:=hb10.size;(try simp only [World.size_alloc,World.size_drew,World.heap_drewN,World.size_setCell] at hz10)
          go_wp2_with fail
          go_meet
          refine⟨rfl,?_⟩
          ·exact by0
         case rest =>
          obtain⟨rfl,hb9⟩:=hcut
          obtain⟨W9,hWeq⟩:∃W:World,W=wc:=⟨_,rfl⟩
          subst hWeq
          have hs9:=hb9.size
          have B9_0:=(hb9.block g0 (by omega)).trans B8_0
          clear B8_0
          have B9_1:=(hb9.block g1 (by omega)).trans B8_1
          clear B8_1
          have B9_2:=(hb9.block g2 (by omega)).trans B8_2
          clear B8_2
          have B9_3:=(hb9.block g3 (by omega)).trans B8_3
          clear B8_3
          have RA9_0:(E.agg [(.agg [.lst 4 129 a0_0A a0_0c a0_0l]),.lst 1 3 a0_1A a0_1c a0_1l,.lst 1 90 a0_2A a0_2c a0_2l,.lst 6 96 a0_3A a0_3c a0_3l,(.agg [.str a0_4,.lst 1 9 a0_5A a0_5c a0_5l]),.int .i64 a0_6,.lst 1 5 a0_7A a0_7c a0_7l,.int .i64 a0_8,.int .i64 a0_9,.int .i64 a0_10,.int .i64 a0_11,.bool a0_12]).Re W9 0 w.heap.size:=RA8_0.below hb9 (by omega)
          clear RA8_0
          have I9_3:=I8_3.below hb9 (by omega)
          clear I8_3
          have HOm9_4:=Lib.hid (HOm8_4.out.below hb9 (by omega))
          clear HOm8_4
          have HO9_5:=Lib.hid (HO8_5.out.below hb9 (by omega))
          clear HO8_5
          have hB9:Below w.heap.size w W9:=hB8.trans (hb9.mono (by omega))
          go_upto_region 17 with fail
          go_cut [8] (fun s8 wx=>s8=.int .i64 (1+((E.agg [(.agg [.lst 4 110 x5_0A x5_0c x5_0l]),.lst 1 3 x5_1A x5_1c x5_1l,.lst 1 65 x5_2A x5_2c x5_2l,.lst 6 60 x5_3A x5_3c x5_3l,(.agg [.str x5_4,.lst 1 9 x5_5A x5_5c x5_5l]),.int .i64 x5_6,.lst 1 5 x5_7A x5_7c x5_7l,.int .i64 x5_8,.int .i64 x5_9,.int .i64 x5_10,.int .i64 x5_11,.bool x5_12]).cnt:Int))∧Hid (((E.agg [(.agg [.lst 4 110 x5_0A x5_0c x5_0l]),.lst 1 3 x5_1A x5_1c x5_1l,.lst 1 65 x5_2A x5_2c x5_2l,.lst 6 60 x5_3A x5_3c x5_3l,(.agg [.str x5_4,.lst 1 9 x5_5A x5_5c x5_5l]),.int .i64 x5_6,.lst 1 5 x5_7A x5_7c x5_7l,.int .i64 x5_8,.int .i64 x5_9,.int .i64 x5_10,.int .i64 x5_11,.bool x5_12]).mk0 1).Ho wx W4.heap.size W5.heap.size)∧Hid (Fr (E.agg [(.agg [.lst 4 110 x5_0A x5_0c x5_0l]),.lst 1 3 x5_1A x5_1c x5_1l,.lst 1 65 x5_2A x5_2c x5_2l,.lst 6 60 x5_3A x5_3c x5_3l,(.agg [.str x5_4,.lst 1 9 x5_5A x5_5c x5_5l]),.int .i64 x5_6,.lst 1 5 x5_7A x5_7c x5_7l,.int .i64 x5_8,.int .i64 x5_9,.int .i64 x5_10,.int .i64 x5_11,.bool x5_12]).fp W9 wx))
          case first =>
           have hwW:=hB9.size
           have ltW3:g3<W9.heap.size:=by omega
           have hiW5:W5.heap.size≤W9.heap.size:=by omega
           clear hs1 lu0 lb0 hs2 hs3 lu1 lb1 hs4 lu2 lb2 nb2_4 lu3 lb3 nb3_5 hs6 hs7 hs8 hs9
           clear B9_0 B9_1 B9_2 I9_3 HOm9_4
           have z0_3_0:W9.cell? ⟨g3,0,none⟩=some (.slice x5_0A x5_0l.length x5_0c):=za B9_3 rfl
           have z0_3_1:W9.cell? ⟨g3,1,none⟩=some (.slice x5_1A x5_1l.length x5_1c):=za B9_3 rfl
           have z0_3_2:W9.cell? ⟨g3,2,none⟩=some (.slice x5_2A x5_2l.length x5_2c):=za B9_3 rfl
           have z0_3_3:W9.cell? ⟨g3,3,none⟩=some (.slice x5_3A x5_3l.length x5_3c):=za B9_3 rfl
           have z0_3_4:W9.cell? ⟨g3,4,none⟩=some (.string x5_4):=za B9_3 rfl
           have z0_3_5:W9.cell? ⟨g3,5,none⟩=some (.slice x5_5A x5_5l.length x5_5c):=za B9_3 rfl
           have z0_3_6:W9.cell? ⟨g3,6,none⟩=some (.int .i64 x5_6):=za B9_3 rfl
           have z0_3_7:W9.cell? ⟨g3,7,none⟩=some (.slice x5_7A x5_7l.length x5_7c):=za B9_3 rfl
           have z0_3_8:W9.cell? ⟨g3,8,none⟩=some (.int .i64 x5_8):=za B9_3 rfl
           have z0_3_9:W9.cell? ⟨g3,9,none⟩=some (.int .i64 x5_9):=za B9_3 rfl
           have z0_3_10:W9.cell? ⟨g3,10,none⟩=some (.int .i64 x5_10):=za B9_3 rfl
           have z0_3_11:W9.cell? ⟨g3,11,none⟩=some (.int .i64 x5_11):=za B9_3 rfl
           have z0_3_12:W9.cell? ⟨g3,12,none⟩=some (.bool x5_12):=za B9_3 rfl
           go_wp2_with fail
           go_at_call 9
           refine (zz5 HT5.out _ _ _ _ HO9_5.out HN5.out (by omega) (by omega) (by have:=zh13 HT5.out HD5 (ze13 hD0);omega)).mono ?_;rintro e w11 ⟨rfl,HOm11,hf11⟩
           go_wp2_with fail
           go_meet
           refine⟨rfl,?_,?_⟩
           ·exact HOm11
           ·exact hf11
          case rest =>
           obtain⟨rfl,HOm10_5,hF10⟩:=hcut
           obtain⟨W10,hWeq⟩:∃W:World,W=wc:=⟨_,rfl⟩
           subst hWeq
           have hs10:=hF10.out.size
           have B10_0:=(hF10.out.block g0 (by omega) (fun hm=>by have:=HO9_5.out.lt _ hm;omega)).trans B9_0
           clear B9_0
           have B10_1:=(hF10.out.block g1 (by omega) (fun hm=>by have:=HO9_5.out.lt _ hm;omega)).trans B9_1
           clear B9_1
           have B10_2:=(hF10.out.block g2 (by omega) (fun hm=>by have:=HO9_5.out.lt _ hm;omega)).trans B9_2
           clear B9_2
           have B10_3:=(hF10.out.block g3 (by omega) (nb3_5)).trans B9_3
           clear B9_3
           have RA10_0:(E.agg [(.agg [.lst 4 129 a0_0A a0_0c a0_0l]),.lst 1 3 a0_1A a0_1c a0_1l,.lst 1 90 a0_2A a0_2c a0_2l,.lst 6 96 a0_3A a0_3c a0_3l,(.agg [.str a0_4,.lst 1 9 a0_5A a0_5c a0_5l]),.int .i64 a0_6,.lst 1 5 a0_7A a0_7c a0_7l,.int .i64 a0_8,.int .i64 a0_9,.int .i64 a0_10,.int .i64 a0_11,.bool a0_12]).Re W10 0 w.heap.size:=RA9_0.kp (lo':=w.heap.size) (hi':=W9.heap.size) (hF10.out.kp (fun b hb=>by have:=HO9_5.out.lt b hb;omega)) (.inl (Nat.le_refl _))
           clear RA9_0
           have I10_3:=I9_3.kp (lo':=W4.heap.size) (hi':=W5.heap.size) (hF10.out.kp (fun b hb=>by have:=HO9_5.out.lt b hb;omega)) (.inl (by omega))
           clear I9_3
           have hB10:Below w.heap.size w W10:=hB9.trans (hF10.out.below (fun b hb=>by have:=HO9_5.out.lt b hb;omega) (by omega))
           go_upto_region 19 with fail
           go_cut [9] (fun s9 wx=>s9=.int .i64 (1+((E.agg [(.agg [.lst 4 110 x5_0A x5_0c x5_0l]),.lst 1 3 x5_1A x5_1c x5_1l,.lst 1 65 x5_2A x5_2c x5_2l,.lst 6 60 x5_3A x5_3c x5_3l,(.agg [.str x5_4,.lst 1 9 x5_5A x5_5c x5_5l]),.int .i64 x5_6,.lst 1 5 x5_7A x5_7c x5_7l,.int .i64 x5_8,.int .i64 x5_9,.int .i64 x5_10,.int .i64 x5_11,.bool x5_12]).cnt:Int))∧Below W10.heap.size W10 wx)
           case first =>
            have hwW:=hB10.size
            have ltW3:g3<W10.heap.size:=by omega
            have hiW5:W5.heap.size≤W10.heap.size:=by omega
            clear hs1 lu0 lb0 hs2 hs3 lu1 lb1 hs4 lu2 lb2 nb2_4 lu3 lb3 nb3_5 hs6 hs7 hs8 hs9 hs10
            clear B10_0 B10_1 B10_2 I10_3
            have z0_3_0:W10.cell? ⟨g3,0,none⟩=some (.slice x5_0A x5_0l.length x5_0c):=za B10_3 rfl
            have z0_3_1:W10.cell? ⟨g3,1,none⟩=some (.slice x5_1A x5_1l.length x5_1c):=za B10_3 rfl
            have z0_3_2:W10.cell? ⟨g3,2,none⟩=some (.slice x5_2A x5_2l.length x5_2c):=za B10_3 rfl
            have z0_3_3:W10.cell? ⟨g3,3,none⟩=some (.slice x5_3A x5_3l.length x5_3c):=za B10_3 rfl
            have z0_3_4:W10.cell? ⟨g3,4,none⟩=some (.string x5_4):=za B10_3 rfl
            have z0_3_5:W10.cell? ⟨g3,5,none⟩=some (.slice x5_5A x5_5l.length x5_5c):=za B10_3 rfl
            have z0_3_6:W10.cell? ⟨g3,6,none⟩=some (.int .i64 x5_6):=za B10_3 rfl
            have z0_3_7:W10.cell? ⟨g3,7,none⟩=some (.slice x5_7A x5_7l.length x5_7c):=za B10_3 rfl
            have z0_3_8:W10.cell? ⟨g3,8,none⟩=some (.int .i64 x5_8):=za B10_3 rfl
            have z0_3_9:W10.cell? ⟨g3,9,none⟩=some (.int .i64 x5_9):=za B10_3 rfl
            have z0_3_10:W10.cell? ⟨g3,10,none⟩=some (.int .i64 x5_10):=za B10_3 rfl
            have z0_3_11:W10.cell? ⟨g3,11,none⟩=some (.int .i64 x5_11):=za B10_3 rfl
            have z0_3_12:W10.cell? ⟨g3,12,none⟩=some (.bool x5_12):=za B10_3 rfl
            go_wp2_with fail
            go_at_call 10
            refine (za6 HT5.out _ _ (by have h:((E.agg [(.agg [.lst 4 110 x5_0A x5_0c x5_0l]),.lst 1 3 x5_1A x5_1c x5_1l,.lst 1 65 x5_2A x5_2c x5_2l,.lst 6 60 x5_3A x5_3c x5_3l,(.agg [.str x5_4,.lst 1 9 x5_5A x5_5c x5_5l]),.int .i64 x5_6,.lst 1 5 x5_7A x5_7c x5_7l,.int .i64 x5_8,.int .i64 x5_9,.int .i64 x5_10,.int .i64 x5_11,.bool x5_12]).mk0 1).In W10:=HOm10_5.out.inn;exact by2) (by omega) (by have:=zh13 HT5.out HD5 (ze13 hD0);omega)).mono ?_;rintro e w12 ⟨rfl,hb12⟩
            go_wp2_with fail
            go_meet
            refine⟨rfl,?_⟩
            ·exact by0
           case rest =>
            obtain⟨rfl,hb11⟩:=hcut
            obtain⟨W11,hWeq⟩:∃W:World,W=wc:=⟨_,rfl⟩
            subst hWeq
            have hs11:=hb11.size
            have B11_0:=(hb11.block g0 (by omega)).trans B10_0
            clear B10_0
            have B11_1:=(hb11.block g1 (by omega)).trans B10_1
            clear B10_1
            have B11_2:=(hb11.block g2 (by omega)).trans B10_2
            clear B10_2
            have B11_3:=(hb11.block g3 (by omega)).trans B10_3
            clear B10_3
            have RA11_0:(E.agg [(.agg [.lst 4 129 a0_0A a0_0c a0_0l]),.lst 1 3 a0_1A a0_1c a0_1l,.lst 1 90 a0_2A a0_2c a0_2l,.lst 6 96 a0_3A a0_3c a0_3l,(.agg [.str a0_4,.lst 1 9 a0_5A a0_5c a0_5l]),.int .i64 a0_6,.lst 1 5 a0_7A a0_7c a0_7l,.int .i64 a0_8,.int .i64 a0_9,.int .i64 a0_10,.int .i64 a0_11,.bool a0_12]).Re W11 0 w.heap.size:=RA10_0.below hb11 (by omega)
            clear RA10_0
            have I11_3:=I10_3.below hb11 (by omega)
            clear I10_3
            have HOm11_5:=Lib.hid (HOm10_5.out.below hb11 (by omega))
            clear HOm10_5
            have hB11:Below w.heap.size w W11:=hB10.trans (hb11.mono (by omega))
            go_upto_region 24 with fail
            go_cut [10] (fun s10 wx=>∃(g4:Nat) (x14_0A:Option Addr) (x14_0c:Nat) (x14_0l:List E) (x14_1A:Option Addr) (x14_1c:Nat) (x14_1l:List E) (x14_2A:Option Addr) (x14_2c:Nat) (x14_2l:List E) (x14_3A:Option Addr) (x14_3c:Nat) (x14_3l:List E) (x14_4:ByteArray) (x14_5A:Option Addr) (x14_5c:Nat) (x14_5l:List E) (x14_6:Int) (x14_7A:Option Addr) (x14_7c:Nat) (x14_7l:List E) (x14_8:Int) (x14_9:Int) (x14_10:Int) (x14_11:Int) (x14_12:Bool),s10=.pointer (some ⟨g4,0,none⟩)∧wx.heap[g4]? = some (.cells #[.slice x14_0A x14_0l.length x14_0c,.slice x14_1A x14_1l.length x14_1c,.slice x14_2A x14_2l.length x14_2c,.slice x14_3A x14_3l.length x14_3c,.string x14_4,.slice x14_5A x14_5l.length x14_5c,.int .i64 x14_6,.slice x14_7A x14_7l.length x14_7c,.int .i64 x14_8,.int .i64 x14_9,.int .i64 x14_10,.int .i64 x14_11,.bool x14_12] 42 (0,0))∧W11.heap.size≤g4∧g4∉(E.agg [(.agg [.lst 4 110 x14_0A x14_0c x14_0l]),.lst 1 3 x14_1A x14_1c x14_1l,.lst 1 65 x14_2A x14_2c x14_2l,.lst 6 60 x14_3A x14_3c x14_3l,(.agg [.str x14_4,.lst 1 9 x14_5A x14_5c x14_5l]),.int .i64 x14_6,.lst 1 5 x14_7A x14_7c x14_7l,.int .i64 x14_8,.int .i64 x14_9,.int .i64 x14_10,.int .i64 x14_11,.bool x14_12]).fp∧Hid ((E.agg [(.agg [.lst 4 110 x14_0A x14_0c x14_0l]),.lst 1 3 x14_1A x14_1c x14_1l,.lst 1 65 x14_2A x14_2c x14_2l,.lst 6 60 x14_3A x14_3c x14_3l,(.agg [.str x14_4,.lst 1 9 x14_5A x14_5c x14_5l]),.int .i64 x14_6,.lst 1 5 x14_7A x14_7c x14_7l,.int .i64 x14_8,.int .i64 x14_9,.int .i64 x14_10,.int .i64 x14_11,.bool x14_12]).Ty Tryz.prog 42)∧Hid ((E.agg [(.agg [.lst 4 110 x14_0A x14_0c x14_0l]),.lst 1 3 x14_1A x14_1c x14_1l,.lst 1 65 x14_2A x14_2c x14_2l,.lst 6 60 x14_3A x14_3c x14_3l,(.agg [.str x14_4,.lst 1 9 x14_5A x14_5c x14_5l]),.int .i64 x14_6,.lst 1 5 x14_7A x14_7c x14_7l,.int .i64 x14_8,.int .i64 x14_9,.int .i64 x14_10,.int .i64 x14_11,.bool x14_12]).d=clrD D0)∧Hid ((E.agg [(.agg [.lst 4 110 x14_0A x14_0c x14_0l]),.lst 1 3 x14_1A x14_1c x14_1l,.lst 1 65 x14_2A x14_2c x14_2l,.lst 6 60 x14_3A x14_3c x14_3l,(.agg [.str x14_4,.lst 1 9 x14_5A x14_5c x14_5l]),.int .i64 x14_6,.lst 1 5 x14_7A x14_7c x14_7l,.int .i64 x14_8,.int .i64 x14_9,.int .i64 x14_10,.int .i64 x14_11,.bool x14_12]).Ho wx W11.heap.size wx.heap.size)∧Hid (E.agg [(.agg [.lst 4 110 x14_0A x14_0c x14_0l]),.lst 1 3 x14_1A x14_1c x14_1l,.lst 1 65 x14_2A x14_2c x14_2l,.lst 6 60 x14_3A x14_3c x14_3l,(.agg [.str x14_4,.lst 1 9 x14_5A x14_5c x14_5l]),.int .i64 x14_6,.lst 1 5 x14_7A x14_7c x14_7l,.int .i64 x14_8,.int .i64 x14_9,.int .i64 x14_10,.int .i64 x14_11,.bool x14_12]).fp.Nodup∧Below W11.heap.size W11 wx)
            case first =>
             have hwW:=hB11.size
             have ltW0:g0<W11.heap.size:=by omega
             clear hs1 lu0 lb0 hs2 hs3 lu1 lb1 hs4 lu2 lb2 nb2_4 hs5 lu3 lb3 nb3_5 hs6 hs7 hs8 hs9 hs10 hs11
             clear B11_1 B11_2 B11_3 I11_3 HOm11_5
             have z0_0_0:W11.cell? ⟨g0,0,none⟩=some (.slice a0_0A a0_0l.length a0_0c):=za B11_0 rfl
             have z0_0_1:W11.cell? ⟨g0,1,none⟩=some (.slice a0_1A a0_1l.length a0_1c):=za B11_0 rfl
             have z0_0_2:W11.cell? ⟨g0,2,none⟩=some (.slice a0_2A a0_2l.length a0_2c):=za B11_0 rfl
             have z0_0_3:W11.cell? ⟨g0,3,none⟩=some (.slice a0_3A a0_3l.length a0_3c):=za B11_0 rfl
             have z0_0_4:W11.cell? ⟨g0,4,none⟩=some (.string a0_4):=za B11_0 rfl
             have z0_0_5:W11.cell? ⟨g0,5,none⟩=some (.slice a0_5A a0_5l.length a0_5c):=za B11_0 rfl
             have z0_0_6:W11.cell? ⟨g0,6,none⟩=some (.int .i64 a0_6):=za B11_0 rfl
             have z0_0_7:W11.cell? ⟨g0,7,none⟩=some (.slice a0_7A a0_7l.length a0_7c):=za B11_0 rfl
             have z0_0_8:W11.cell? ⟨g0,8,none⟩=some (.int .i64 a0_8):=za B11_0 rfl
             have z0_0_9:W11.cell? ⟨g0,9,none⟩=some (.int .i64 a0_9):=za B11_0 rfl
             have z0_0_10:W11.cell? ⟨g0,10,none⟩=some (.int .i64 a0_10):=za B11_0 rfl
             have z0_0_11:W11.cell? ⟨g0,11,none⟩=some (.int .i64 a0_11):=za B11_0 rfl
             have z0_0_12:W11.cell? ⟨g0,12,none⟩=some (.bool a0_12):=za B11_0 rfl
             go_wp2_with fail
             go_at_call 6
             (with_reducible change Calls _ _ #[.agg #[.slice a0_0A a0_0l.length a0_0c,.slice a0_1A a0_1l.length a0_1c,.slice a0_2A a0_2l.length a0_2c,.slice a0_3A a0_3l.length a0_3c,.string a0_4,.slice a0_5A a0_5l.length a0_5c,.int .i64 a0_6,.slice a0_7A a0_7l.length a0_7c,.int .i64 a0_8,.int .i64 a0_9,.int .i64 a0_10,.int .i64 a0_11,.bool a0_12]] _ _);refine (zd5 TA0.out _ (by have h:(E.agg [(.agg [.lst 4 129 a0_0A a0_0c a0_0l]),.lst 1 3 a0_1A a0_1c a0_1l,.lst 1 90 a0_2A a0_2c a0_2l,.lst 6 96 a0_3A a0_3c a0_3l,(.agg [.str a0_4,.lst 1 9 a0_5A a0_5c a0_5l]),.int .i64 a0_6,.lst 1 5 a0_7A a0_7c a0_7l,.int .i64 a0_8,.int .i64 a0_9,.int .i64 a0_10,.int .i64 a0_11,.bool a0_12]).In W11:=E.Re.inn RA11_0 (by omega);exact by2) (by omega)).mono ?_;rintro e13 w13 ⟨x13,e13h,HD13,ht13,ho13,hn13,hb13⟩;have HT13:=Lib.hid ht13;have HD13:=Lib.hid (HD13.out.trans HDa0.out);obtain⟨x13_0A,x13_0c,x13_0l,x13_1A,x13_1c,x13_1l,x13_2A,x13_2c,x13_2l,x13_3A,x13_3c,x13_3l,x13_4,x13_5A,x13_5c,x13_5l,x13_6,x13_7A,x13_7c,x13_7l,x13_8,x13_9,x13_10,x13_11,x13_12,rfl,-,-,-,-,-,-,-,-,-,-,-,-,-⟩:=zb1 ht13;obtain rfl:e13=.returned (.agg #[.slice x13_0A x13_0l.length x13_0c,.slice x13_1A x13_1l.length x13_1c,.slice x13_2A x13_2l.length x13_2c,.slice x13_3A x13_3l.length x13_3c,.string x13_4,.slice x13_5A x13_5l.length x13_5c,.int .i64 x13_6,.slice x13_7A x13_7l.length x13_7c,.int .i64 x13_8,.int .i64 x13_9,.int .i64 x13_10,.int .i64 x13_11,.bool x13_12]):=e13h;have HO13:=Lib.hid ho13;have HN13:=Lib.hid hn13;clear ht13 ho13 hn13;have hz13:=hb13.size;(try simp only [World.size_alloc,World.size_drew,World.heap_drewN,World.size_setCell] at hz13)
             have z13_0_0:w13.cell? ⟨g0,0,none⟩=some (.slice a0_0A a0_0l.length a0_0c):=za (by exact (by repeat (first|(with_reducible assumption)|(with_reducible refine zl ?_)|(with_reducible refine zh ?_)|(with_reducible refine zf ?_ ?_)|(refine zg (by with_reducible assumption) ?_ ?_)|omega|(·simp)|(·(simp;omega)))):w13.heap[g0]? = some (.cells #[.slice a0_0A a0_0l.length a0_0c,.slice a0_1A a0_1l.length a0_1c,.slice a0_2A a0_2l.length a0_2c,.slice a0_3A a0_3l.length a0_3c,.string a0_4,.slice a0_5A a0_5l.length a0_5c,.int .i64 a0_6,.slice a0_7A a0_7l.length a0_7c,.int .i64 a0_8,.int .i64 a0_9,.int .i64 a0_10,.int .i64 a0_11,.bool a0_12] 33 (0,0))) rfl
             have z13_0_1:w13.cell? ⟨g0,1,none⟩=some (.slice a0_1A a0_1l.length a0_1c):=za (by exact (by repeat (first|(with_reducible assumption)|(with_reducible refine zl ?_)|(with_reducible refine zh ?_)|(with_reducible refine zf ?_ ?_)|(refine zg (by with_reducible assumption) ?_ ?_)|omega|(·simp)|(·(simp;omega)))):w13.heap[g0]? = some (.cells #[.slice a0_0A a0_0l.length a0_0c,.slice a0_1A a0_1l.length a0_1c,.slice a0_2A a0_2l.length a0_2c,.slice a0_3A a0_3l.length a0_3c,.string a0_4,.slice a0_5A a0_5l.length a0_5c,.int .i64 a0_6,.slice a0_7A a0_7l.length a0_7c,.int .i64 a0_8,.int .i64 a0_9,.int .i64 a0_10,.int .i64 a0_11,.bool a0_12] 33 (0,0))) rfl
             have z13_0_2:w13.cell? ⟨g0,2,none⟩=some (.slice a0_2A a0_2l.length a0_2c):=za (by exact (by repeat (first|(with_reducible assumption)|(with_reducible refine zl ?_)|(with_reducible refine zh ?_)|(with_reducible refine zf ?_ ?_)|(refine zg (by with_reducible assumption) ?_ ?_)|omega|(·simp)|(·(simp;omega)))):w13.heap[g0]? = some (.cells #[.slice a0_0A a0_0l.length a0_0c,.slice a0_1A a0_1l.length a0_1c,.slice a0_2A a0_2l.length a0_2c,.slice a0_3A a0_3l.length a0_3c,.string a0_4,.slice a0_5A a0_5l.length a0_5c,.int .i64 a0_6,.slice a0_7A a0_7l.length a0_7c,.int .i64 a0_8,.int .i64 a0_9,.int .i64 a0_10,.int .i64 a0_11,.bool a0_12] 33 (0,0))) rfl
             have z13_0_3:w13.cell? ⟨g0,3,none⟩=some (.slice a0_3A a0_3l.length a0_3c):=za (by exact (by repeat (first|(with_reducible assumption)|(with_reducible refine zl ?_)|(with_reducible refine zh ?_)|(with_reducible refine zf ?_ ?_)|(refine zg (by with_reducible assumption) ?_ ?_)|omega|(·simp)|(·(simp;omega)))):w13.heap[g0]? = some (.cells #[.slice a0_0A a0_0l.length a0_0c,.slice a0_1A a0_1l.length a0_1c,.slice a0_2A a0_2l.length a0_2c,.slice a0_3A a0_3l.length a0_3c,.string a0_4,.slice a0_5A a0_5l.length a0_5c,.int .i64 a0_6,.slice a0_7A a0_7l.length a0_7c,.int .i64 a0_8,.int .i64 a0_9,.int .i64 a0_10,.int .i64 a0_11,.bool a0_12] 33 (0,0))) rfl
             have z13_0_4:w13.cell? ⟨g0,4,none⟩=some (.string a0_4):=za (by exact (by repeat (first|(with_reducible assumption)|(with_reducible refine zl ?_)|(with_reducible refine zh ?_)|(with_reducible refine zf ?_ ?_)|(refine zg (by with_reducible assumption) ?_ ?_)|omega|(·simp)|(·(simp;omega)))):w13.heap[g0]? = some (.cells #[.slice a0_0A a0_0l.length a0_0c,.slice a0_1A a0_1l.length a0_1c,.slice a0_2A a0_2l.length a0_2c,.slice a0_3A a0_3l.length a0_3c,.string a0_4,.slice a0_5A a0_5l.length a0_5c,.int .i64 a0_6,.slice a0_7A a0_7l.length a0_7c,.int .i64 a0_8,.int .i64 a0_9,.int .i64 a0_10,.int .i64 a0_11,.bool a0_12] 33 (0,0))) rfl
             have z13_0_5:w13.cell? ⟨g0,5,none⟩=some (.slice a0_5A a0_5l.length a0_5c):=za (by exact (by repeat (first|(with_reducible assumption)|(with_reducible refine zl ?_)|(with_reducible refine zh ?_)|(with_reducible refine zf ?_ ?_)|(refine zg (by with_reducible assumption) ?_ ?_)|omega|(·simp)|(·(simp;omega)))):w13.heap[g0]? = some (.cells #[.slice a0_0A a0_0l.length a0_0c,.slice a0_1A a0_1l.length a0_1c,.slice a0_2A a0_2l.length a0_2c,.slice a0_3A a0_3l.length a0_3c,.string a0_4,.slice a0_5A a0_5l.length a0_5c,.int .i64 a0_6,.slice a0_7A a0_7l.length a0_7c,.int .i64 a0_8,.int .i64 a0_9,.int .i64 a0_10,.int .i64 a0_11,.bool a0_12] 33 (0,0))) rfl
             have z13_0_6:w13.cell? ⟨g0,6,none⟩=some (.int .i64 a0_6):=za (by exact (by repeat (first|(with_reducible assumption)|(with_reducible refine zl ?_)|(with_reducible refine zh ?_)|(with_reducible refine zf ?_ ?_)|(refine zg (by with_reducible assumption) ?_ ?_)|omega|(·simp)|(·(simp;omega)))):w13.heap[g0]? = some (.cells #[.slice a0_0A a0_0l.length a0_0c,.slice a0_1A a0_1l.length a0_1c,.slice a0_2A a0_2l.length a0_2c,.slice a0_3A a0_3l.length a0_3c,.string a0_4,.slice a0_5A a0_5l.length a0_5c,.int .i64 a0_6,.slice a0_7A a0_7l.length a0_7c,.int .i64 a0_8,.int .i64 a0_9,.int .i64 a0_10,.int .i64 a0_11,.bool a0_12] 33 (0,0))) rfl
             have z13_0_7:w13.cell? ⟨g0,7,none⟩=some (.slice a0_7A a0_7l.length a0_7c):=za (by exact (by repeat (first|(with_reducible assumption)|(with_reducible refine zl ?_)|(with_reducible refine zh ?_)|(with_reducible refine zf ?_ ?_)|(refine zg (by with_reducible assumption) ?_ ?_)|omega|(·simp)|(·(simp;omega)))):w13.heap[g0]? = some (.cells #[.slice a0_0A a0_0l.length a0_0c,.slice a0_1A a0_1l.length a0_1c,.slice a0_2A a0_2l.length a0_2c,.slice a0_3A a0_3l.length a0_3c,.string a0_4,.slice a0_5A a0_5l.length a0_5c,.int .i64 a0_6,.slice a0_7A a0_7l.length a0_7c,.int .i64 a0_8,.int .i64 a0_9,.int .i64 a0_10,.int .i64 a0_11,.bool a0_12] 33 (0,0))) rfl
             have z13_0_8:w13.cell? ⟨g0,8,none⟩=some (.int .i64 a0_8):=za (by exact (by repeat (first|(with_reducible assumption)|(with_reducible refine zl ?_)|(with_reducible refine zh ?_)|(with_reducible refine zf ?_ ?_)|(refine zg (by with_reducible assumption) ?_ ?_)|omega|(·simp)|(·(simp;omega)))):w13.heap[g0]? = some (.cells #[.slice a0_0A a0_0l.length a0_0c,.slice a0_1A a0_1l.length a0_1c,.slice a0_2A a0_2l.length a0_2c,.slice a0_3A a0_3l.length a0_3c,.string a0_4,.slice a0_5A a0_5l.length a0_5c,.int .i64 a0_6,.slice a0_7A a0_7l.length a0_7c,.int .i64 a0_8,.int .i64 a0_9,.int .i64 a0_10,.int .i64 a0_11,.bool a0_12] 33 (0,0))) rfl
             have z13_0_9:w13.cell? ⟨g0,9,none⟩=some (.int .i64 a0_9):=za (by exact (by repeat (first|(with_reducible assumption)|(with_reducible refine zl ?_)|(with_reducible refine zh ?_)|(with_reducible refine zf ?_ ?_)|(refine zg (by with_reducible assumption) ?_ ?_)|omega|(·simp)|(·(simp;omega)))):w13.heap[g0]? = some (.cells #[.slice a0_0A a0_0l.length a0_0c,.slice a0_1A a0_1l.length a0_1c,.slice a0_2A a0_2l.length a0_2c,.slice a0_3A a0_3l.length a0_3c,.string a0_4,.slice a0_5A a0_5l.length a0_5c,.int .i64 a0_6,.slice a0_7A a0_7l.length a0_7c,.int .i64 a0_8,.int .i64 a0_9,.int .i64 a0_10,.int .i64 a0_11,.bool a0_12] 33 (0,0))) rfl
             have z13_0_10:w13.cell? ⟨g0,10,none⟩=some (.int .i64 a0_10):=za (by exact (by repeat (first|(with_reducible assumption)|(with_reducible refine zl ?_)|(with_reducible refine zh ?_)|(with_reducible refine zf ?_ ?_)|(refine zg (by with_reducible assumption) ?_ ?_)|omega|(·simp)|(·(simp;omega)))):w13.heap[g0]? = some (.cells #[.slice a0_0A a0_0l.length a0_0c,.slice a0_1A a0_1l.length a0_1c,.slice a0_2A a0_2l.length a0_2c,.slice a0_3A a0_3l.length a0_3c,.string a0_4,.slice a0_5A a0_5l.length a0_5c,.int .i64 a0_6,.slice a0_7A a0_7l.length a0_7c,.int .i64 a0_8,.int .i64 a0_9,.int .i64 a0_10,.int .i64 a0_11,.bool a0_12] 33 (0,0))) rfl
             have z13_0_11:w13.cell? ⟨g0,11,none⟩=some (.int .i64 a0_11):=za (by exact (by repeat (first|(with_reducible assumption)|(with_reducible refine zl ?_)|(with_reducible refine zh ?_)|(with_reducible refine zf ?_ ?_)|(refine zg (by with_reducible assumption) ?_ ?_)|omega|(·simp)|(·(simp;omega)))):w13.heap[g0]? = some (.cells #[.slice a0_0A a0_0l.length a0_0c,.slice a0_1A a0_1l.length a0_1c,.slice a0_2A a0_2l.length a0_2c,.slice a0_3A a0_3l.length a0_3c,.string a0_4,.slice a0_5A a0_5l.length a0_5c,.int .i64 a0_6,.slice a0_7A a0_7l.length a0_7c,.int .i64 a0_8,.int .i64 a0_9,.int .i64 a0_10,.int .i64 a0_11,.bool a0_12] 33 (0,0))) rfl
             have z13_0_12:w13.cell? ⟨g0,12,none⟩=some (.bool a0_12):=za (by exact (by repeat (first|(with_reducible assumption)|(with_reducible refine zl ?_)|(with_reducible refine zh ?_)|(with_reducible refine zf ?_ ?_)|(refine zg (by with_reducible assumption) ?_ ?_)|omega|(·simp)|(·(simp;omega)))):w13.heap[g0]? = some (.cells #[.slice a0_0A a0_0l.length a0_0c,.slice a0_1A a0_1l.length a0_1c,.slice a0_2A a0_2l.length a0_2c,.slice a0_3A a0_3l.length a0_3c,.string a0_4,.slice a0_5A a0_5l.length a0_5c,.int .i64 a0_6,.slice a0_7A a0_7l.length a0_7c,.int .i64 a0_8,.int .i64 a0_9,.int .i64 a0_10,.int .i64 a0_11,.bool a0_12] 33 (0,0))) rfl
             go_wp2_with fail
             go_at_call 7
             refine (zm7 HT13.out _ (by have h:=HO13.out.inn;exact by2) (zs18 HD13 hD0)).mono ?_;rintro e14 w14 ⟨x14,e14h,HD14,ht14,ho14,hn14,hb14⟩;have HD14:Hid (x14.d=clrD D0):=(by have h:=HD14.out;rw [HD13.out] at h;exact h);have HT14:=Lib.hid ht14;obtain⟨x14_0A,x14_0c,x14_0l,x14_1A,x14_1c,x14_1l,x14_2A,x14_2c,x14_2l,x14_3A,x14_3c,x14_3l,x14_4,x14_5A,x14_5c,x14_5l,x14_6,x14_7A,x14_7c,x14_7l,x14_8,x14_9,x14_10,x14_11,x14_12,rfl,-,-,-,-,-,-,-,-,-,-,-,-,-⟩:=zb1 ht14;obtain rfl:e14=.returned (.agg #[.slice x14_0A x14_0l.length x14_0c,.slice x14_1A x14_1l.length x14_1c,.slice x14_2A x14_2l.length x14_2c,.slice x14_3A x14_3l.length x14_3c,.string x14_4,.slice x14_5A x14_5l.length x14_5c,.int .i64 x14_6,.slice x14_7A x14_7l.length x14_7c,.int .i64 x14_8,.int .i64 x14_9,.int .i64 x14_10,.int .i64 x14_11,.bool x14_12]):=e14h;have HO14:=Lib.hid ho14;have HN14:=Lib.hid hn14;clear ho14 hn14 ht14;have hz14:=hb14.size;(try simp only [World.size_alloc,World.size_drew,World.heap_drewN,World.size_setCell] at hz14)
             have z14_0_0:w14.cell? ⟨g0,0,none⟩=some (.slice a0_0A a0_0l.length a0_0c):=za (by exact (by repeat (first|(with_reducible assumption)|(with_reducible refine zl ?_)|(with_reducible refine zh ?_)|(with_reducible refine zf ?_ ?_)|(refine zg (by with_reducible assumption) ?_ ?_)|omega|(·simp)|(·(simp;omega)))):w14.heap[g0]? = some (.cells #[.slice a0_0A a0_0l.length a0_0c,.slice a0_1A a0_1l.length a0_1c,.slice a0_2A a0_2l.length a0_2c,.slice a0_3A a0_3l.length a0_3c,.string a0_4,.slice a0_5A a0_5l.length a0_5c,.int .i64 a0_6,.slice a0_7A a0_7l.length a0_7c,.int .i64 a0_8,.int .i64 a0_9,.int .i64 a0_10,.int .i64 a0_11,.bool a0_12] 33 (0,0))) rfl
             have z14_0_1:w14.cell? ⟨g0,1,none⟩=some (.slice a0_1A a0_1l.length a0_1c):=za (by exact (by repeat (first|(with_reducible assumption)|(with_reducible refine zl ?_)|(with_reducible refine zh ?_)|(with_reducible refine zf ?_ ?_)|(refine zg (by with_reducible assumption) ?_ ?_)|omega|(·simp)|(·(simp;omega)))):w14.heap[g0]? = some (.cells #[.slice a0_0A a0_0l.length a0_0c,.slice a0_1A a0_1l.length a0_1c,.slice a0_2A a0_2l.length a0_2c,.slice a0_3A a0_3l.length a0_3c,.string a0_4,.slice a0_5A a0_5l.length a0_5c,.int .i64 a0_6,.slice a0_7A a0_7l.length a0_7c,.int .i64 a0_8,.int .i64 a0_9,.int .i64 a0_10,.int .i64 a0_11,.bool a0_12] 33 (0,0))) rfl
             have z14_0_2:w14.cell? ⟨g0,2,none⟩=some (.slice a0_2A a0_2l.length a0_2c):=za (by exact (by repeat (first|(with_reducible assumption)|(with_reducible refine zl ?_)|(with_reducible refine zh ?_)|(with_reducible refine zf ?_ ?_)|(refine zg (by with_reducible assumption) ?_ ?_)|omega|(·simp)|(·(simp;omega)))):w14.heap[g0]? = some (.cells #[.slice a0_0A a0_0l.length a0_0c,.slice a0_1A a0_1l.length a0_1c,.slice a0_2A a0_2l.length a0_2c,.slice a0_3A a0_3l.length a0_3c,.string a0_4,.slice a0_5A a0_5l.length a0_5c,.int .i64 a0_6,.slice a0_7A a0_7l.length a0_7c,.int .i64 a0_8,.int .i64 a0_9,.int .i64 a0_10,.int .i64 a0_11,.bool a0_12] 33 (0,0))) rfl
             have z14_0_3:w14.cell? ⟨g0,3,none⟩=some (.slice a0_3A a0_3l.length a0_3c):=za (by exact (by repeat (first|(with_reducible assumption)|(with_reducible refine zl ?_)|(with_reducible refine zh ?_)|(with_reducible refine zf ?_ ?_)|(refine zg (by with_reducible assumption) ?_ ?_)|omega|(·simp)|(·(simp;omega)))):w14.heap[g0]? = some (.cells #[.slice a0_0A a0_0l.length a0_0c,.slice a0_1A a0_1l.length a0_1c,.slice a0_2A a0_2l.length a0_2c,.slice a0_3A a0_3l.length a0_3c,.string a0_4,.slice a0_5A a0_5l.length a0_5c,.int .i64 a0_6,.slice a0_7A a0_7l.length a0_7c,.int .i64 a0_8,.int .i64 a0_9,.int .i64 a0_10,.int .i64 a0_11,.bool a0_12] 33 (0,0))) rfl
             have z14_0_4:w14.cell? ⟨g0,4,none⟩=some (.string a0_4):=za (by exact (by repeat (first|(with_reducible assumption)|(with_reducible refine zl ?_)|(with_reducible refine zh ?_)|(with_reducible refine zf ?_ ?_)|(refine zg (by with_reducible assumption) ?_ ?_)|omega|(·simp)|(·(simp;omega)))):w14.heap[g0]? = some (.cells #[.slice a0_0A a0_0l.length a0_0c,.slice a0_1A a0_1l.length a0_1c,.slice a0_2A a0_2l.length a0_2c,.slice a0_3A a0_3l.length a0_3c,.string a0_4,.slice a0_5A a0_5l.length a0_5c,.int .i64 a0_6,.slice a0_7A a0_7l.length a0_7c,.int .i64 a0_8,.int .i64 a0_9,.int .i64 a0_10,.int .i64 a0_11,.bool a0_12] 33 (0,0))) rfl
             have z14_0_5:w14.cell? ⟨g0,5,none⟩=some (.slice a0_5A a0_5l.length a0_5c):=za (by exact (by repeat (first|(with_reducible assumption)|(with_reducible refine zl ?_)|(with_reducible refine zh ?_)|(with_reducible refine zf ?_ ?_)|(refine zg (by with_reducible assumption) ?_ ?_)|omega|(·simp)|(·(simp;omega)))):w14.heap[g0]? = some (.cells #[.slice a0_0A a0_0l.length a0_0c,.slice a0_1A a0_1l.length a0_1c,.slice a0_2A a0_2l.length a0_2c,.slice a0_3A a0_3l.length a0_3c,.string a0_4,.slice a0_5A a0_5l.length a0_5c,.int .i64 a0_6,.slice a0_7A a0_7l.length a0_7c,.int .i64 a0_8,.int .i64 a0_9,.int .i64 a0_10,.int .i64 a0_11,.bool a0_12] 33 (0,0))) rfl
             have z14_0_6:w14.cell? ⟨g0,6,none⟩=some (.int .i64 a0_6):=za (by exact (by repeat (first|(with_reducible assumption)|(with_reducible refine zl ?_)|(with_reducible refine zh ?_)|(with_reducible refine zf ?_ ?_)|(refine zg (by with_reducible assumption) ?_ ?_)|omega|(·simp)|(·(simp;omega)))):w14.heap[g0]? = some (.cells #[.slice a0_0A a0_0l.length a0_0c,.slice a0_1A a0_1l.length a0_1c,.slice a0_2A a0_2l.length a0_2c,.slice a0_3A a0_3l.length a0_3c,.string a0_4,.slice a0_5A a0_5l.length a0_5c,.int .i64 a0_6,.slice a0_7A a0_7l.length a0_7c,.int .i64 a0_8,.int .i64 a0_9,.int .i64 a0_10,.int .i64 a0_11,.bool a0_12] 33 (0,0))) rfl
             have z14_0_7:w14.cell? ⟨g0,7,none⟩=some (.slice a0_7A a0_7l.length a0_7c):=za (by exact (by repeat (first|(with_reducible assumption)|(with_reducible refine zl ?_)|(with_reducible refine zh ?_)|(with_reducible refine zf ?_ ?_)|(refine zg (by with_reducible assumption) ?_ ?_)|omega|(·simp)|(·(simp;omega)))):w14.heap[g0]? = some (.cells #[.slice a0_0A a0_0l.length a0_0c,.slice a0_1A a0_1l.length a0_1c,.slice a0_2A a0_2l.length a0_2c,.slice a0_3A a0_3l.length a0_3c,.string a0_4,.slice a0_5A a0_5l.length a0_5c,.int .i64 a0_6,.slice a0_7A a0_7l.length a0_7c,.int .i64 a0_8,.int .i64 a0_9,.int .i64 a0_10,.int .i64 a0_11,.bool a0_12] 33 (0,0))) rfl
             have z14_0_8:w14.cell? ⟨g0,8,none⟩=some (.int .i64 a0_8):=za (by exact (by repeat (first|(with_reducible assumption)|(with_reducible refine zl ?_)|(with_reducible refine zh ?_)|(with_reducible refine zf ?_ ?_)|(refine zg (by with_reducible assumption) ?_ ?_)|omega|(·simp)|(·(simp;omega)))):w14.heap[g0]? = some (.cells #[.slice a0_0A a0_0l.length a0_0c,.slice a0_1A a0_1l.length a0_1c,.slice a0_2A a0_2l.length a0_2c,.slice a0_3A a0_3l.length a0_3c,.string a0_4,.slice a0_5A a0_5l.length a0_5c,.int .i64 a0_6,.slice a0_7A a0_7l.length a0_7c,.int .i64 a0_8,.int .i64 a0_9,.int .i64 a0_10,.int .i64 a0_11,.bool a0_12] 33 (0,0))) rfl
             have z14_0_9:w14.cell? ⟨g0,9,none⟩=some (.int .i64 a0_9):=za (by exact (by repeat (first|(with_reducible assumption)|(with_reducible refine zl ?_)|(with_reducible refine zh ?_)|(with_reducible refine zf ?_ ?_)|(refine zg (by with_reducible assumption) ?_ ?_)|omega|(·simp)|(·(simp;omega)))):w14.heap[g0]? = some (.cells #[.slice a0_0A a0_0l.length a0_0c,.slice a0_1A a0_1l.length a0_1c,.slice a0_2A a0_2l.length a0_2c,.slice a0_3A a0_3l.length a0_3c,.string a0_4,.slice a0_5A a0_5l.length a0_5c,.int .i64 a0_6,.slice a0_7A a0_7l.length a0_7c,.int .i64 a0_8,.int .i64 a0_9,.int .i64 a0_10,.int .i64 a0_11,.bool a0_12] 33 (0,0))) rfl
             have z14_0_10:w14.cell? ⟨g0,10,none⟩=some (.int .i64 a0_10):=za (by exact (by repeat (first|(with_reducible assumption)|(with_reducible refine zl ?_)|(with_reducible refine zh ?_)|(with_reducible refine zf ?_ ?_)|(refine zg (by with_reducible assumption) ?_ ?_)|omega|(·simp)|(·(simp;omega)))):w14.heap[g0]? = some (.cells #[.slice a0_0A a0_0l.length a0_0c,.slice a0_1A a0_1l.length a0_1c,.slice a0_2A a0_2l.length a0_2c,.slice a0_3A a0_3l.length a0_3c,.string a0_4,.slice a0_5A a0_5l.length a0_5c,.int .i64 a0_6,.slice a0_7A a0_7l.length a0_7c,.int .i64 a0_8,.int .i64 a0_9,.int .i64 a0_10,.int .i64 a0_11,.bool a0_12] 33 (0,0))) rfl
             have z14_0_11:w14.cell? ⟨g0,11,none⟩=some (.int .i64 a0_11):=za (by exact (by repeat (first|(with_reducible assumption)|(with_reducible refine zl ?_)|(with_reducible refine zh ?_)|(with_reducible refine zf ?_ ?_)|(refine zg (by with_reducible assumption) ?_ ?_)|omega|(·simp)|(·(simp;omega)))):w14.heap[g0]? = some (.cells #[.slice a0_0A a0_0l.length a0_0c,.slice a0_1A a0_1l.length a0_1c,.slice a0_2A a0_2l.length a0_2c,.slice a0_3A a0_3l.length a0_3c,.string a0_4,.slice a0_5A a0_5l.length a0_5c,.int .i64 a0_6,.slice a0_7A a0_7l.length a0_7c,.int .i64 a0_8,.int .i64 a0_9,.int .i64 a0_10,.int .i64 a0_11,.bool a0_12] 33 (0,0))) rfl
             have z14_0_12:w14.cell? ⟨g0,12,none⟩=some (.bool a0_12):=za (by exact (by repeat (first|(with_reducible assumption)|(with_reducible refine zl ?_)|(with_reducible refine zh ?_)|(with_reducible refine zf ?_ ?_)|(refine zg (by with_reducible assumption) ?_ ?_)|omega|(·simp)|(·(simp;omega)))):w14.heap[g0]? = some (.cells #[.slice a0_0A a0_0l.length a0_0c,.slice a0_1A a0_1l.length a0_1c,.slice a0_2A a0_2l.length a0_2c,.slice a0_3A a0_3l.length a0_3c,.string a0_4,.slice a0_5A a0_5l.length a0_5c,.int .i64 a0_6,.slice a0_7A a0_7l.length a0_7c,.int .i64 a0_8,.int .i64 a0_9,.int .i64 a0_10,.int .i64 a0_11,.bool a0_12] 33 (0,0))) rfl
             go_wp2_with fail
             go_meet
             refine⟨_,x14_0A,x14_0c,x14_0l,x14_1A,x14_1c,x14_1l,x14_2A,x14_2c,x14_2l,x14_3A,x14_3c,x14_3l,x14_4,x14_5A,x14_5c,x14_5l,x14_6,x14_7A,x14_7c,x14_7l,x14_8,x14_9,x14_10,x14_11,x14_12,rfl,?_,?_,?_,?_,?_,?_,?_,?_⟩
             ·(repeat (first|(with_reducible assumption)|(with_reducible refine zl ?_)|(with_reducible refine zh ?_)|(refine zz9 ?_;first|rfl|(simp;done))|(with_reducible refine zf ?_ ?_)|(refine zg (by with_reducible assumption) ?_ ?_)|omega|(·simp)|(·(simp;omega))))
             ·first|omega|(simp;done)|(simp;omega)
             ·(intro hm;have h:=HO14.out.lt _ hm;(try simp only [World.size_alloc,World.size_drew,World.heap_drewN,World.size_setCell] at h);omega)
             ·exact HT14
             ·exact HD14
             ·refine E.Ho.fin HO14.out (fun hh=>?_) ?_ ?_
              ·(repeat (first|(with_reducible assumption)|(with_reducible refine E.Ho.drew ?_)|(with_reducible refine E.Ho.drewN ?_ _)|(with_reducible refine E.Ho.alloc ?_ ?_ _)|(with_reducible refine E.Ho.setAny ?_ ?_ _)|(refine E.Ho.below ?_ (by with_reducible assumption) ?_)|(first|omega|(dsimp only;omega)|(simp only [World.size_alloc,World.size_drew,World.heap_drewN,World.size_setCell];omega)|(simp;done)|(simp;omega))))
              ·(first|omega|(dsimp only;omega)|(simp only [World.size_alloc,World.size_drew,World.heap_drewN,World.size_setCell];omega)|(simp;done)|(simp;omega))
              ·(first|omega|(dsimp only;omega)|(simp only [World.size_alloc,World.size_drew,World.heap_drewN,World.size_setCell];omega)|(simp;done)|(simp;omega))
             ·exact HN14
             ·exact by0
            case rest =>
             obtain⟨g4,x14_0A,x14_0c,x14_0l,x14_1A,x14_1c,x14_1l,x14_2A,x14_2c,x14_2l,x14_3A,x14_3c,x14_3l,x14_4,x14_5A,x14_5c,x14_5l,x14_6,x14_7A,x14_7c,x14_7l,x14_8,x14_9,x14_10,x14_11,x14_12,rfl,B12_4,lb4,nb4_14,HT14,HD14,HO12_14,HN14,hb12⟩:=hcut
             obtain⟨W12,hWeq⟩:∃W:World,W=wc:=⟨_,rfl⟩
             subst hWeq
             have hs12:=hb12.size
             have lu4:=zy9 B12_4
             have B12_0:=(hb12.block g0 (by omega)).trans B11_0
             clear B11_0
             have B12_1:=(hb12.block g1 (by omega)).trans B11_1
             clear B11_1
             have B12_2:=(hb12.block g2 (by omega)).trans B11_2
             clear B11_2
             have B12_3:=(hb12.block g3 (by omega)).trans B11_3
             clear B11_3
             have RA12_0:(E.agg [(.agg [.lst 4 129 a0_0A a0_0c a0_0l]),.lst 1 3 a0_1A a0_1c a0_1l,.lst 1 90 a0_2A a0_2c a0_2l,.lst 6 96 a0_3A a0_3c a0_3l,(.agg [.str a0_4,.lst 1 9 a0_5A a0_5c a0_5l]),.int .i64 a0_6,.lst 1 5 a0_7A a0_7c a0_7l,.int .i64 a0_8,.int .i64 a0_9,.int .i64 a0_10,.int .i64 a0_11,.bool a0_12]).Re W12 0 w.heap.size:=RA11_0.below hb12 (by omega)
             clear RA11_0
             have I12_3:=I11_3.below hb12 (by omega)
             clear I11_3
             have HOm12_5:=Lib.hid (HOm11_5.out.below hb12 (by omega))
             clear HOm11_5
             have hB12:Below w.heap.size w W12:=hB11.trans (hb12.mono (by omega))
             go_upto_region 25 with fail
             go_cut [60] (fun s60 wx=>s60=.bool false∧Below W12.heap.size W12 wx)
             case first =>
              have hwW:=hB12.size
              have ltW4:g4<W12.heap.size:=by omega
              have ltW1:g1<W12.heap.size:=by omega
              have hiW3:W3.heap.size≤W12.heap.size:=by omega
              have hiW14:W12.heap.size≤W12.heap.size:=by omega
              clear hs1 lu0 lb0 hs2 lu1 lb1 hs4 lu2 lb2 nb2_4 hs5 lu3 lb3 nb3_5 hs6 hs7 hs8 hs9 hs10 hs11 lu4 lb4 nb4_14
              clear B12_0 B12_2 B12_3 HOm12_5
              have z0_4_0:W12.cell? ⟨g4,0,none⟩=some (.slice x14_0A x14_0l.length x14_0c):=za B12_4 rfl
              have z0_4_1:W12.cell? ⟨g4,1,none⟩=some (.slice x14_1A x14_1l.length x14_1c):=za B12_4 rfl
              have z0_4_2:W12.cell? ⟨g4,2,none⟩=some (.slice x14_2A x14_2l.length x14_2c):=za B12_4 rfl
              have z0_4_3:W12.cell? ⟨g4,3,none⟩=some (.slice x14_3A x14_3l.length x14_3c):=za B12_4 rfl
              have z0_4_4:W12.cell? ⟨g4,4,none⟩=some (.string x14_4):=za B12_4 rfl
              have z0_4_5:W12.cell? ⟨g4,5,none⟩=some (.slice x14_5A x14_5l.length x14_5c):=za B12_4 rfl
              have z0_4_6:W12.cell? ⟨g4,6,none⟩=some (.int .i64 x14_6):=za B12_4 rfl
              have z0_4_7:W12.cell? ⟨g4,7,none⟩=some (.slice x14_7A x14_7l.length x14_7c):=za B12_4 rfl
              have z0_4_8:W12.cell? ⟨g4,8,none⟩=some (.int .i64 x14_8):=za B12_4 rfl
              have z0_4_9:W12.cell? ⟨g4,9,none⟩=some (.int .i64 x14_9):=za B12_4 rfl
              have z0_4_10:W12.cell? ⟨g4,10,none⟩=some (.int .i64 x14_10):=za B12_4 rfl
              have z0_4_11:W12.cell? ⟨g4,11,none⟩=some (.int .i64 x14_11):=za B12_4 rfl
              have z0_4_12:W12.cell? ⟨g4,12,none⟩=some (.bool x14_12):=za B12_4 rfl
              have z0_1_0:W12.cell? ⟨g1,0,none⟩=some (.slice x3_0A x3_0l.length x3_0c):=za B12_1 rfl
              have z0_1_1:W12.cell? ⟨g1,1,none⟩=some (.slice x3_1A x3_1l.length x3_1c):=za B12_1 rfl
              have z0_1_2:W12.cell? ⟨g1,2,none⟩=some (.slice x3_2A x3_2l.length x3_2c):=za B12_1 rfl
              have z0_1_3:W12.cell? ⟨g1,3,none⟩=some (.slice x3_3A x3_3l.length x3_3c):=za B12_1 rfl
              have z0_1_4:W12.cell? ⟨g1,4,none⟩=some (.string x3_4):=za B12_1 rfl
              have z0_1_5:W12.cell? ⟨g1,5,none⟩=some (.slice x3_5A x3_5l.length x3_5c):=za B12_1 rfl
              have z0_1_6:W12.cell? ⟨g1,6,none⟩=some (.int .i64 x3_6):=za B12_1 rfl
              have z0_1_7:W12.cell? ⟨g1,7,none⟩=some (.slice x3_7A x3_7l.length x3_7c):=za B12_1 rfl
              have z0_1_8:W12.cell? ⟨g1,8,none⟩=some (.int .i64 x3_8):=za B12_1 rfl
              have z0_1_9:W12.cell? ⟨g1,9,none⟩=some (.int .i64 x3_9):=za B12_1 rfl
              have z0_1_10:W12.cell? ⟨g1,10,none⟩=some (.int .i64 x3_10):=za B12_1 rfl
              have z0_1_11:W12.cell? ⟨g1,11,none⟩=some (.int .i64 x3_11):=za B12_1 rfl
              have z0_1_12:W12.cell? ⟨g1,12,none⟩=some (.bool x3_12):=za B12_1 rfl
              go_wp2_with fail
              go_at_call 8
              refine (ze5 HT14.out HT3.out ((show (E.agg [(.agg [.lst 4 110 x14_0A x14_0c x14_0l]),.lst 1 3 x14_1A x14_1c x14_1l,.lst 1 65 x14_2A x14_2c x14_2l,.lst 6 60 x14_3A x14_3c x14_3l,(.agg [.str x14_4,.lst 1 9 x14_5A x14_5c x14_5l]),.int .i64 x14_6,.lst 1 5 x14_7A x14_7c x14_7l,.int .i64 x14_8,.int .i64 x14_9,.int .i64 x14_10,.int .i64 x14_11,.bool x14_12]).d=clrD D0 from HD14.out).trans (show (E.agg [(.agg [.lst 4 110 x3_0A x3_0c x3_0l]),.lst 1 3 x3_1A x3_1c x3_1l,.lst 1 65 x3_2A x3_2c x3_2l,.lst 6 60 x3_3A x3_3c x3_3l,(.agg [.str x3_4,.lst 1 9 x3_5A x3_5c x3_5l]),.int .i64 x3_6,.lst 1 5 x3_7A x3_7c x3_7l,.int .i64 x3_8,.int .i64 x3_9,.int .i64 x3_10,.int .i64 x3_11,.bool x3_12]).d=clrD D0 from HD3.out).symm) _ (by have h:(E.agg [(.agg [.lst 4 110 x14_0A x14_0c x14_0l]),.lst 1 3 x14_1A x14_1c x14_1l,.lst 1 65 x14_2A x14_2c x14_2l,.lst 6 60 x14_3A x14_3c x14_3l,(.agg [.str x14_4,.lst 1 9 x14_5A x14_5c x14_5l]),.int .i64 x14_6,.lst 1 5 x14_7A x14_7c x14_7l,.int .i64 x14_8,.int .i64 x14_9,.int .i64 x14_10,.int .i64 x14_11,.bool x14_12]).In W12:=HO12_14.out.inn;exact by2) (by have h:(E.agg [(.agg [.lst 4 110 x3_0A x3_0c x3_0l]),.lst 1 3 x3_1A x3_1c x3_1l,.lst 1 65 x3_2A x3_2c x3_2l,.lst 6 60 x3_3A x3_3c x3_3l,(.agg [.str x3_4,.lst 1 9 x3_5A x3_5c x3_5l]),.int .i64 x3_6,.lst 1 5 x3_7A x3_7c x3_7l,.int .i64 x3_8,.int .i64 x3_9,.int .i64 x3_10,.int .i64 x3_11,.bool x3_12]).In W12:=I12_3.inn (by omega);exact by2)).mono ?_;rintro e w15 ⟨rfl,hb15⟩;have hz15:=hb15.size;(try simp only [World.size_alloc,World.size_drew,World.heap_drewN,World.size_setCell] at hz15)
              go_wp2_with fail
              go_meet
              refine⟨rfl,?_⟩
              ·exact by0
             case rest =>
              obtain⟨rfl,hb13⟩:=hcut
              obtain⟨W13,hWeq⟩:∃W:World,W=wc:=⟨_,rfl⟩
              subst hWeq
              have hs13:=hb13.size
              have B13_0:=(hb13.block g0 (by omega)).trans B12_0
              clear B12_0
              have B13_1:=(hb13.block g1 (by omega)).trans B12_1
              clear B12_1
              have B13_2:=(hb13.block g2 (by omega)).trans B12_2
              clear B12_2
              have B13_3:=(hb13.block g3 (by omega)).trans B12_3
              clear B12_3
              have B13_4:=(hb13.block g4 (by omega)).trans B12_4
              clear B12_4
              have RA13_0:(E.agg [(.agg [.lst 4 129 a0_0A a0_0c a0_0l]),.lst 1 3 a0_1A a0_1c a0_1l,.lst 1 90 a0_2A a0_2c a0_2l,.lst 6 96 a0_3A a0_3c a0_3l,(.agg [.str a0_4,.lst 1 9 a0_5A a0_5c a0_5l]),.int .i64 a0_6,.lst 1 5 a0_7A a0_7c a0_7l,.int .i64 a0_8,.int .i64 a0_9,.int .i64 a0_10,.int .i64 a0_11,.bool a0_12]).Re W13 0 w.heap.size:=RA12_0.below hb13 (by omega)
              clear RA12_0
              have I13_3:=I12_3.below hb13 (by omega)
              clear I12_3
              have HOm13_5:=Lib.hid (HOm12_5.out.below hb13 (by omega))
              clear HOm12_5
              have HO13_14:=Lib.hid (HO12_14.out.below hb13 (by omega))
              clear HO12_14
              have hB13:Below w.heap.size w W13:=hB12.trans (hb13.mono (by omega))
              go_upto_region 28 with fail
              go_cut [9] (fun s9 wx=>s9=.int .i64 (1+((E.agg [(.agg [.lst 4 110 x5_0A x5_0c x5_0l]),.lst 1 3 x5_1A x5_1c x5_1l,.lst 1 65 x5_2A x5_2c x5_2l,.lst 6 60 x5_3A x5_3c x5_3l,(.agg [.str x5_4,.lst 1 9 x5_5A x5_5c x5_5l]),.int .i64 x5_6,.lst 1 5 x5_7A x5_7c x5_7l,.int .i64 x5_8,.int .i64 x5_9,.int .i64 x5_10,.int .i64 x5_11,.bool x5_12]).cnt:Int))∧Below W13.heap.size W13 wx)
              case first =>
               have hwW:=hB13.size
               have ltW3:g3<W13.heap.size:=by omega
               have hiW5:W5.heap.size≤W13.heap.size:=by omega
               clear hs1 lu0 lb0 hs2 hs3 lu1 lb1 hs4 lu2 lb2 nb2_4 lu3 lb3 nb3_5 hs6 hs7 hs8 hs9 hs10 hs11 hs12 lu4 lb4 nb4_14 hs13
               clear B13_0 B13_1 B13_2 B13_4 I13_3 HO13_14
               have z0_3_0:W13.cell? ⟨g3,0,none⟩=some (.slice x5_0A x5_0l.length x5_0c):=za B13_3 rfl
               have z0_3_1:W13.cell? ⟨g3,1,none⟩=some (.slice x5_1A x5_1l.length x5_1c):=za B13_3 rfl
               have z0_3_2:W13.cell? ⟨g3,2,none⟩=some (.slice x5_2A x5_2l.length x5_2c):=za B13_3 rfl
               have z0_3_3:W13.cell? ⟨g3,3,none⟩=some (.slice x5_3A x5_3l.length x5_3c):=za B13_3 rfl
               have z0_3_4:W13.cell? ⟨g3,4,none⟩=some (.string x5_4):=za B13_3 rfl
               have z0_3_5:W13.cell? ⟨g3,5,none⟩=some (.slice x5_5A x5_5l.length x5_5c):=za B13_3 rfl
               have z0_3_6:W13.cell? ⟨g3,6,none⟩=some (.int .i64 x5_6):=za B13_3 rfl
               have z0_3_7:W13.cell? ⟨g3,7,none⟩=some (.slice x5_7A x5_7l.length x5_7c):=za B13_3 rfl
               have z0_3_8:W13.cell? ⟨g3,8,none⟩=some (.int .i64 x5_8):=za B13_3 rfl
               have z0_3_9:W13.cell? ⟨g3,9,none⟩=some (.int .i64 x5_9):=za B13_3 rfl
               have z0_3_10:W13.cell? ⟨g3,10,none⟩=some (.int .i64 x5_10):=za B13_3 rfl
               have z0_3_11:W13.cell? ⟨g3,11,none⟩=some (.int .i64 x5_11):=za B13_3 rfl
               have z0_3_12:W13.cell? ⟨g3,12,none⟩=some (.bool x5_12):=za B13_3 rfl
               go_wp2_with fail
               go_at_call 10
               refine (za6 HT5.out _ _ (by have h:((E.agg [(.agg [.lst 4 110 x5_0A x5_0c x5_0l]),.lst 1 3 x5_1A x5_1c x5_1l,.lst 1 65 x5_2A x5_2c x5_2l,.lst 6 60 x5_3A x5_3c x5_3l,(.agg [.str x5_4,.lst 1 9 x5_5A x5_5c x5_5l]),.int .i64 x5_6,.lst 1 5 x5_7A x5_7c x5_7l,.int .i64 x5_8,.int .i64 x5_9,.int .i64 x5_10,.int .i64 x5_11,.bool x5_12]).mk0 1).In W13:=HOm13_5.out.inn;exact by2) (by omega) (by have:=zh13 HT5.out HD5 (ze13 hD0);omega)).mono ?_;rintro e w16 ⟨rfl,hb16⟩
               go_wp2_with fail
               go_meet
               refine⟨rfl,?_⟩
               ·exact by0
              case rest =>
               obtain⟨rfl,hb14⟩:=hcut
               obtain⟨W14,hWeq⟩:∃W:World,W=wc:=⟨_,rfl⟩
               subst hWeq
               have hs14:=hb14.size
               have B14_0:=(hb14.block g0 (by omega)).trans B13_0
               clear B13_0
               have B14_1:=(hb14.block g1 (by omega)).trans B13_1
               clear B13_1
               have B14_2:=(hb14.block g2 (by omega)).trans B13_2
               clear B13_2
               have B14_3:=(hb14.block g3 (by omega)).trans B13_3
               clear B13_3
               have B14_4:=(hb14.block g4 (by omega)).trans B13_4
               clear B13_4
               have RA14_0:(E.agg [(.agg [.lst 4 129 a0_0A a0_0c a0_0l]),.lst 1 3 a0_1A a0_1c a0_1l,.lst 1 90 a0_2A a0_2c a0_2l,.lst 6 96 a0_3A a0_3c a0_3l,(.agg [.str a0_4,.lst 1 9 a0_5A a0_5c a0_5l]),.int .i64 a0_6,.lst 1 5 a0_7A a0_7c a0_7l,.int .i64 a0_8,.int .i64 a0_9,.int .i64 a0_10,.int .i64 a0_11,.bool a0_12]).Re W14 0 w.heap.size:=RA13_0.below hb14 (by omega)
               clear RA13_0
               have I14_3:=I13_3.below hb14 (by omega)
               clear I13_3
               have HOm14_5:=Lib.hid (HOm13_5.out.below hb14 (by omega))
               clear HOm13_5
               have HO14_14:=Lib.hid (HO13_14.out.below hb14 (by omega))
               clear HO13_14
               have hB14:Below w.heap.size w W14:=hB13.trans (hb14.mono (by omega))
               go_wp2
               go_ret
               exact⟨rfl,hB14⟩
end Go.Proofs.YtfemkmnkofgaaaaGreat
