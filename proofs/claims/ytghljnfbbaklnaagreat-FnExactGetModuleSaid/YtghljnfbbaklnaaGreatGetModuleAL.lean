/- The law FnExactGetModule, walked. -/
import Derived.Deep.DeepCutAuto
import Derived.Test.YtghljnfbbaklnaaGreatGetModuleAK
namespace Go.Proofs.YtghljnfbbaklnaaGreat
open Go.RowKit
set_option maxRecDepth 100000 in
set_option maxHeartbeats 8000000 in
theorem zu14 (w:World){a0:E}(ta0:a0.Ty Tryz.prog 28)(ra0:a0.In w) :
 Calls Tryz.prog 5 #[a0.val] w fun e w'=>e=.returned (.bool true)∧Below w.heap.size w w':=by
 have TA0:=Lib.hid ta0
 obtain⟨D0,HDa0⟩:∃D:E,Hid (a0.d=D):=⟨_,rfl⟩
 obtain⟨a0_A,a0_c,a0_l,rfl,a0_h,a0_h'⟩:=ta0.lst_ Tryz.underlying28 (k:=1) (by kernel_rfl)
 change Calls _ _ #[.slice a0_A a0_l.length a0_c] w _
 by_cases hsz0:(1048576:Int)<a0_l.length
 ·go_enter Tryz.func5,Tryz.ntmps5
  go_wp2
  go_ret
  exact⟨rfl,by exact by0⟩
 have hz0b:(E.lst 1 5 a0_A a0_c a0_l).sz≤1048576:=by simp only [E.sz,szL_u8 a0_h];omega
 have hD0:D0.sz≤1048576:=by rw [←HDa0.out,E.sz_d];exact hz0b
 go_enter Tryz.func5,Tryz.ntmps5
 go_upto_region 3 with fail
 go_cut [3,4] (fun s3 s4 wx=>∃(g0:Nat) (x2a_0A:Option Addr) (x2a_0c:Nat) (x2a_0l:List E) (x2a_1A:Option Addr) (x2a_1c:Nat) (x2a_1l:List E) (x2a_2:Int) (x2a_3:Int) (x2a_4A:Option Addr) (x2a_4c:Nat) (x2a_4l:List E),s3=.pointer (some ⟨g0,0,none⟩)∧s4=.bool (getMoD1 D0)∧wx.heap[g0]? = some (.cells #[.slice x2a_0A x2a_0l.length x2a_0c,.slice x2a_1A x2a_1l.length x2a_1c,.int .i64 x2a_2,.int .i64 x2a_3,.slice x2a_4A x2a_4l.length x2a_4c] 33 (0,0))∧w.heap.size≤g0∧Hid ((E.agg [.lst 3 75 x2a_0A x2a_0c x2a_0l,.lst 1 9 x2a_1A x2a_1c x2a_1l,.int .i64 x2a_2,.int .i64 x2a_3,.lst 2 79 x2a_4A x2a_4c x2a_4l]).Ty Tryz.prog 33)∧Hid ((E.agg [.lst 3 75 x2a_0A x2a_0c x2a_0l,.lst 1 9 x2a_1A x2a_1c x2a_1l,.int .i64 x2a_2,.int .i64 x2a_3,.lst 2 79 x2a_4A x2a_4c x2a_4l]).d=getMoD D0)∧(E.agg [.lst 3 75 x2a_0A x2a_0c x2a_0l,.lst 1 9 x2a_1A x2a_1c x2a_1l,.int .i64 x2a_2,.int .i64 x2a_3,.lst 2 79 x2a_4A x2a_4c x2a_4l]).Re wx w.heap.size wx.heap.size∧Below w.heap.size w wx)
 case first =>
  go_wp2_with fail
  go_at_call 23
  (with_reducible change Calls _ _ #[.slice a0_A a0_l.length a0_c] _ _);refine (zz5 TA0.out _ (by have h:(E.lst 1 5 a0_A a0_c a0_l).In w:=ra0;exact by2) (by omega)).mono ?_;rintro e1 w1 ⟨x1,e1h,HD1,ht1,ho1,hn1,hb1⟩;have HT1:=Lib.hid ht1;have HD1:=Lib.hid (HD1.out.trans HDa0.out);obtain⟨x1_A,x1_c,x1_l,rfl,-,-⟩:=ht1.lst_ Tryz.underlying28 (k:=1) (by kernel_rfl);obtain rfl:e1=.returned (.slice x1_A x1_l.length x1_c):=e1h;have HO1:=Lib.hid ho1;have HN1:=Lib.hid hn1;clear ht1 ho1 hn1;have hz1:=hb1.size;(try simp only [World.size_alloc,World.size_drew,World.heap_drewN,World.size_setCell] at hz1)
  go_wp2_with fail
  go_at_call 22
  refine (zw11 HT1.out _ (by have h:=HO1.out.inn;exact by2) (sz_le HD1 hD0)).mono ?_;rintro e2 w2 ⟨x2a,e2h,HD2a,ht2a,hi2a,hb2⟩;have HD2a:Hid (x2a.d=getMoD D0):=(by have h:=HD2a.out;rw [HD1.out] at h;exact h);have HT2a:=Lib.hid ht2a;obtain⟨x2a_0A,x2a_0c,x2a_0l,x2a_1A,x2a_1c,x2a_1l,x2a_2,x2a_3,x2a_4A,x2a_4c,x2a_4l,rfl,-,-,-,-,-,-⟩:=zn2 ht2a;rw [HD1.out] at e2h;obtain rfl:e2=.returned (.tuple #[.agg #[.slice x2a_0A x2a_0l.length x2a_0c,.slice x2a_1A x2a_1l.length x2a_1c,.int .i64 x2a_2,.int .i64 x2a_3,.slice x2a_4A x2a_4l.length x2a_4c],.bool (getMoD1 D0)]):=e2h;clear ht2a;have hz2:=hb2.size;(try simp only [World.size_alloc,World.size_drew,World.heap_drewN,World.size_setCell] at hz2)
  go_wp2_with fail
  go_meet
  refine⟨_,x2a_0A,x2a_0c,x2a_0l,x2a_1A,x2a_1c,x2a_1l,x2a_2,x2a_3,x2a_4A,x2a_4c,x2a_4l,rfl,rfl,?_,?_,?_,?_,?_,?_⟩
  ·(repeat (first|(with_reducible assumption)|(with_reducible refine zx16 ?_)|(with_reducible refine zh13 ?_)|(refine zw21 ?_;first|rfl|(simp;done))|(with_reducible refine zf13 ?_ ?_)|(refine zg13 (by with_reducible assumption) ?_ ?_)|omega|(·simp)|(·(simp;omega))))
  ·first|omega|(simp;done)|(simp;omega)
  ·exact HT2a
  ·exact HD2a
  ·refine E.Re.fin hi2a (fun hh=>?_) ?_ ?_
   ·(repeat (first|(with_reducible assumption)|(with_reducible refine E.Re.drew ?_)|(with_reducible refine E.Re.drewN ?_ _)|(with_reducible refine E.Re.alloc ?_ ?_ _)|(with_reducible refine E.Re.setAny ?_ ?_ _)|(refine E.Re.below ?_ (by with_reducible assumption) ?_)|(first|omega|(dsimp only;omega)|(simp only [World.size_alloc,World.size_drew,World.heap_drewN,World.size_setCell];omega)|(simp;done)|(simp;omega))))
   ·(first|omega|(dsimp only;omega)|(simp only [World.size_alloc,World.size_drew,World.heap_drewN,World.size_setCell];omega)|(simp;done)|(simp;omega))
   ·(first|omega|(dsimp only;omega)|(simp only [World.size_alloc,World.size_drew,World.heap_drewN,World.size_setCell];omega)|(simp;done)|(simp;omega))
  ·exact by0
 case rest =>
  obtain⟨g0,x2a_0A,x2a_0c,x2a_0l,x2a_1A,x2a_1c,x2a_1l,x2a_2,x2a_3,x2a_4A,x2a_4c,x2a_4l,rfl,rfl,B1_0,lb0,HT2a,HD2a,I1_2a,hb1⟩:=hcut
  obtain⟨W1,hWeq⟩:∃W:World,W=wc:=⟨_,rfl⟩
  subst hWeq
  have hs1:=hb1.size
  have lu0:=zv21 B1_0
  have RA1_0:(E.lst 1 5 a0_A a0_c a0_l).Re W1 0 w.heap.size:=(show (E.lst 1 5 a0_A a0_c a0_l).Re w 0 w.heap.size from ra0).below hb1 (by omega)
  have hB1:Below w.heap.size w W1:=hb1
  go_upto_region 4 with fail
  go_cut [5] (fun s5 wx=>∃(x3_A:Option Addr) (x3_c:Nat) (x3_l:List E),s5=.slice x3_A x3_l.length x3_c∧Hid ((E.lst 1 5 x3_A x3_c x3_l).Ty Tryz.prog 28)∧Hid ((E.lst 1 5 x3_A x3_c x3_l).d=D0)∧Hid ((E.lst 1 5 x3_A x3_c x3_l).Ho wx W1.heap.size wx.heap.size)∧Hid (E.lst 1 5 x3_A x3_c x3_l).fp.Nodup∧Below W1.heap.size W1 wx)
  case first =>
   have hwW:=hB1.size
   clear hs1 lu0 lb0
   clear B1_0 I1_2a
   go_wp2_with fail
   go_at_call 23
   (with_reducible change Calls _ _ #[.slice a0_A a0_l.length a0_c] _ _);refine (zz5 TA0.out _ (by have h:(E.lst 1 5 a0_A a0_c a0_l).In W1:=E.Re.inn RA1_0 (by omega);exact by2) (by omega)).mono ?_;rintro e3 w3 ⟨x3,e3h,HD3,ht3,ho3,hn3,hb3⟩;have HT3:=Lib.hid ht3;have HD3:=Lib.hid (HD3.out.trans HDa0.out);obtain⟨x3_A,x3_c,x3_l,rfl,-,-⟩:=ht3.lst_ Tryz.underlying28 (k:=1) (by kernel_rfl);obtain rfl:e3=.returned (.slice x3_A x3_l.length x3_c):=e3h;have HO3:=Lib.hid ho3;have HN3:=Lib.hid hn3;clear ht3 ho3 hn3;have hz3:=hb3.size;(try simp only [World.size_alloc,World.size_drew,World.heap_drewN,World.size_setCell] at hz3)
   go_wp2_with fail
   go_meet
   refine⟨x3_A,x3_c,x3_l,rfl,?_,?_,?_,?_,?_⟩
   ·exact HT3
   ·exact HD3
   ·refine E.Ho.fin HO3.out (fun hh=>?_) ?_ ?_
    ·(repeat (first|(with_reducible assumption)|(with_reducible refine E.Ho.drew ?_)|(with_reducible refine E.Ho.drewN ?_ _)|(with_reducible refine E.Ho.alloc ?_ ?_ _)|(with_reducible refine E.Ho.setAny ?_ ?_ _)|(refine E.Ho.below ?_ (by with_reducible assumption) ?_)|(first|omega|(dsimp only;omega)|(simp only [World.size_alloc,World.size_drew,World.heap_drewN,World.size_setCell];omega)|(simp;done)|(simp;omega))))
    ·(first|omega|(dsimp only;omega)|(simp only [World.size_alloc,World.size_drew,World.heap_drewN,World.size_setCell];omega)|(simp;done)|(simp;omega))
    ·(first|omega|(dsimp only;omega)|(simp only [World.size_alloc,World.size_drew,World.heap_drewN,World.size_setCell];omega)|(simp;done)|(simp;omega))
   ·exact HN3
   ·exact by0
  case rest =>
   obtain⟨x3_A,x3_c,x3_l,rfl,HT3,HD3,HO2_3,HN3,hb2⟩:=hcut
   obtain⟨W2,hWeq⟩:∃W:World,W=wc:=⟨_,rfl⟩
   subst hWeq
   have hs2:=hb2.size
   have B2_0:=(hb2.block g0 (by omega)).trans B1_0
   clear B1_0
   have RA2_0:(E.lst 1 5 a0_A a0_c a0_l).Re W2 0 w.heap.size:=RA1_0.below hb2 (by omega)
   clear RA1_0
   have I2_2a:=I1_2a.below hb2 (by omega)
   clear I1_2a
   have hB2:Below w.heap.size w W2:=hB1.trans (hb2.mono (by omega))
   go_upto_region 5 with fail
   go_cut [6,7] (fun s6 s7 wx=>∃(g1:Nat) (x4a_0A:Option Addr) (x4a_0c:Nat) (x4a_0l:List E) (x4a_1A:Option Addr) (x4a_1c:Nat) (x4a_1l:List E) (x4a_2:Int) (x4a_3:Int) (x4a_4A:Option Addr) (x4a_4c:Nat) (x4a_4l:List E),s6=.pointer (some ⟨g1,0,none⟩)∧s7=.bool (getMoD1 D0)∧wx.heap[g1]? = some (.cells #[.slice x4a_0A x4a_0l.length x4a_0c,.slice x4a_1A x4a_1l.length x4a_1c,.int .i64 x4a_2,.int .i64 x4a_3,.slice x4a_4A x4a_4l.length x4a_4c] 33 (0,0))∧W2.heap.size≤g1∧g1∉(E.agg [.lst 3 75 x4a_0A x4a_0c x4a_0l,.lst 1 9 x4a_1A x4a_1c x4a_1l,.int .i64 x4a_2,.int .i64 x4a_3,.lst 2 79 x4a_4A x4a_4c x4a_4l]).fp∧Hid ((E.agg [.lst 3 75 x4a_0A x4a_0c x4a_0l,.lst 1 9 x4a_1A x4a_1c x4a_1l,.int .i64 x4a_2,.int .i64 x4a_3,.lst 2 79 x4a_4A x4a_4c x4a_4l]).Ty Tryz.prog 33)∧Hid ((E.agg [.lst 3 75 x4a_0A x4a_0c x4a_0l,.lst 1 9 x4a_1A x4a_1c x4a_1l,.int .i64 x4a_2,.int .i64 x4a_3,.lst 2 79 x4a_4A x4a_4c x4a_4l]).d=getMoD D0)∧Hid ((E.agg [.lst 3 75 x4a_0A x4a_0c x4a_0l,.lst 1 9 x4a_1A x4a_1c x4a_1l,.int .i64 x4a_2,.int .i64 x4a_3,.lst 2 79 x4a_4A x4a_4c x4a_4l]).Ho wx W2.heap.size wx.heap.size)∧Hid (E.agg [.lst 3 75 x4a_0A x4a_0c x4a_0l,.lst 1 9 x4a_1A x4a_1c x4a_1l,.int .i64 x4a_2,.int .i64 x4a_3,.lst 2 79 x4a_4A x4a_4c x4a_4l]).fp.Nodup∧Below W2.heap.size W2 wx)
   case first =>
    have hwW:=hB2.size
    have hiW3:W2.heap.size≤W2.heap.size:=by omega
    clear hs1 lu0 lb0
    clear B2_0 I2_2a
    go_wp2_with fail
    go_at_call 24
    refine (zp6 HT3.out _ (by have h:(E.lst 1 5 x3_A x3_c x3_l).In W2:=HO2_3.out.inn;exact by2) (sz_le HD3 hD0)).mono ?_;rintro e4 w4 ⟨x4a,e4h,HD4a,ht4a,ho4a,hn4a,hb4⟩;have HD4a:Hid (x4a.d=getMoD D0):=(by have h:=HD4a.out;rw [HD3.out] at h;exact h);have HT4a:=Lib.hid ht4a;obtain⟨x4a_0A,x4a_0c,x4a_0l,x4a_1A,x4a_1c,x4a_1l,x4a_2,x4a_3,x4a_4A,x4a_4c,x4a_4l,rfl,-,-,-,-,-,-⟩:=zn2 ht4a;rw [HD3.out] at e4h;obtain rfl:e4=.returned (.tuple #[.agg #[.slice x4a_0A x4a_0l.length x4a_0c,.slice x4a_1A x4a_1l.length x4a_1c,.int .i64 x4a_2,.int .i64 x4a_3,.slice x4a_4A x4a_4l.length x4a_4c],.bool (getMoD1 D0)]):=e4h;have HO4a:=Lib.hid ho4a;have HN4a:=Lib.hid hn4a;clear ho4a hn4a ht4a;have hz4:=hb4.size;(try simp only [World.size_alloc,World.size_drew,World.heap_drewN,World.size_setCell] at hz4)
    go_wp2_with fail
    go_meet
    refine⟨_,x4a_0A,x4a_0c,x4a_0l,x4a_1A,x4a_1c,x4a_1l,x4a_2,x4a_3,x4a_4A,x4a_4c,x4a_4l,rfl,rfl,?_,?_,?_,?_,?_,?_,?_,?_⟩
    ·(repeat (first|(with_reducible assumption)|(with_reducible refine zx16 ?_)|(with_reducible refine zh13 ?_)|(refine zw21 ?_;first|rfl|(simp;done))|(with_reducible refine zf13 ?_ ?_)|(refine zg13 (by with_reducible assumption) ?_ ?_)|omega|(·simp)|(·(simp;omega))))
    ·first|omega|(simp;done)|(simp;omega)
    ·(intro hm;have h:=HO4a.out.lt _ hm;(try simp only [World.size_alloc,World.size_drew,World.heap_drewN,World.size_setCell] at h);omega)
    ·exact HT4a
    ·exact HD4a
    ·refine E.Ho.fin HO4a.out (fun hh=>?_) ?_ ?_
     ·(repeat (first|(with_reducible assumption)|(with_reducible refine E.Ho.drew ?_)|(with_reducible refine E.Ho.drewN ?_ _)|(with_reducible refine E.Ho.alloc ?_ ?_ _)|(with_reducible refine E.Ho.setAny ?_ ?_ _)|(refine E.Ho.below ?_ (by with_reducible assumption) ?_)|(first|omega|(dsimp only;omega)|(simp only [World.size_alloc,World.size_drew,World.heap_drewN,World.size_setCell];omega)|(simp;done)|(simp;omega))))
     ·(first|omega|(dsimp only;omega)|(simp only [World.size_alloc,World.size_drew,World.heap_drewN,World.size_setCell];omega)|(simp;done)|(simp;omega))
     ·(first|omega|(dsimp only;omega)|(simp only [World.size_alloc,World.size_drew,World.heap_drewN,World.size_setCell];omega)|(simp;done)|(simp;omega))
    ·exact HN4a
    ·exact by0
   case rest =>
    obtain⟨g1,x4a_0A,x4a_0c,x4a_0l,x4a_1A,x4a_1c,x4a_1l,x4a_2,x4a_3,x4a_4A,x4a_4c,x4a_4l,rfl,rfl,B3_1,lb1,nb1_4a,HT4a,HD4a,HO3_4a,HN4a,hb3⟩:=hcut
    obtain⟨W3,hWeq⟩:∃W:World,W=wc:=⟨_,rfl⟩
    subst hWeq
    have hs3:=hb3.size
    have lu1:=zv21 B3_1
    have B3_0:=(hb3.block g0 (by omega)).trans B2_0
    clear B2_0
    have RA3_0:(E.lst 1 5 a0_A a0_c a0_l).Re W3 0 w.heap.size:=RA2_0.below hb3 (by omega)
    clear RA2_0
    have I3_2a:=I2_2a.below hb3 (by omega)
    clear I2_2a
    have HO3_3:=Lib.hid (HO2_3.out.below hb3 (by omega))
    clear HO2_3
    have hB3:Below w.heap.size w W3:=hB2.trans (hb3.mono (by omega))
    go_upto_region 6 with fail
    go_cut [37] (fun s37 wx=>s37=.bool false∧Below W3.heap.size W3 wx)
    case first =>
     have hwW:=hB3.size
     have ltW1:g1<W3.heap.size:=by omega
     have ltW0:g0<W3.heap.size:=by omega
     have hiW2a:W1.heap.size≤W3.heap.size:=by omega
     have hiW4a:W3.heap.size≤W3.heap.size:=by omega
     clear lu0 lb0 hs2 lu1 lb1 nb1_4a
     clear HO3_3
     have z0_1_0:W3.cell? ⟨g1,0,none⟩=some (.slice x4a_0A x4a_0l.length x4a_0c):=zv1 B3_1 rfl
     have z0_1_1:W3.cell? ⟨g1,1,none⟩=some (.slice x4a_1A x4a_1l.length x4a_1c):=zv1 B3_1 rfl
     have z0_1_2:W3.cell? ⟨g1,2,none⟩=some (.int .i64 x4a_2):=zv1 B3_1 rfl
     have z0_1_3:W3.cell? ⟨g1,3,none⟩=some (.int .i64 x4a_3):=zv1 B3_1 rfl
     have z0_1_4:W3.cell? ⟨g1,4,none⟩=some (.slice x4a_4A x4a_4l.length x4a_4c):=zv1 B3_1 rfl
     have z0_0_0:W3.cell? ⟨g0,0,none⟩=some (.slice x2a_0A x2a_0l.length x2a_0c):=zv1 B3_0 rfl
     have z0_0_1:W3.cell? ⟨g0,1,none⟩=some (.slice x2a_1A x2a_1l.length x2a_1c):=zv1 B3_0 rfl
     have z0_0_2:W3.cell? ⟨g0,2,none⟩=some (.int .i64 x2a_2):=zv1 B3_0 rfl
     have z0_0_3:W3.cell? ⟨g0,3,none⟩=some (.int .i64 x2a_3):=zv1 B3_0 rfl
     have z0_0_4:W3.cell? ⟨g0,4,none⟩=some (.slice x2a_4A x2a_4l.length x2a_4c):=zv1 B3_0 rfl
     go_wp2_with fail
     go_at_call 11
     refine (zo6 HT4a.out HT2a.out ((show (E.agg [.lst 3 75 x4a_0A x4a_0c x4a_0l,.lst 1 9 x4a_1A x4a_1c x4a_1l,.int .i64 x4a_2,.int .i64 x4a_3,.lst 2 79 x4a_4A x4a_4c x4a_4l]).d=getMoD D0 from HD4a.out).trans (show (E.agg [.lst 3 75 x2a_0A x2a_0c x2a_0l,.lst 1 9 x2a_1A x2a_1c x2a_1l,.int .i64 x2a_2,.int .i64 x2a_3,.lst 2 79 x2a_4A x2a_4c x2a_4l]).d=getMoD D0 from HD2a.out).symm) _ (by have h:(E.agg [.lst 3 75 x4a_0A x4a_0c x4a_0l,.lst 1 9 x4a_1A x4a_1c x4a_1l,.int .i64 x4a_2,.int .i64 x4a_3,.lst 2 79 x4a_4A x4a_4c x4a_4l]).In W3:=HO3_4a.out.inn;exact by2) (by have h:(E.agg [.lst 3 75 x2a_0A x2a_0c x2a_0l,.lst 1 9 x2a_1A x2a_1c x2a_1l,.int .i64 x2a_2,.int .i64 x2a_3,.lst 2 79 x2a_4A x2a_4c x2a_4l]).In W3:=I3_2a.inn (by omega);exact by2)).mono ?_;rintro e w5 ⟨rfl,hb5⟩;have hz5:=hb5.size;(try simp only [World.size_alloc,World.size_drew,World.heap_drewN,World.size_setCell] at hz5)
     go_wp2_with fail
     go_meet
     refine⟨rfl,?_⟩
     ·exact by0
    case rest =>
     obtain⟨rfl,hb4⟩:=hcut
     obtain⟨W4,hWeq⟩:∃W:World,W=wc:=⟨_,rfl⟩
     subst hWeq
     have hs4:=hb4.size
     have B4_0:=(hb4.block g0 (by omega)).trans B3_0
     clear B3_0
     have B4_1:=(hb4.block g1 (by omega)).trans B3_1
     clear B3_1
     have RA4_0:(E.lst 1 5 a0_A a0_c a0_l).Re W4 0 w.heap.size:=RA3_0.below hb4 (by omega)
     clear RA3_0
     have I4_2a:=I3_2a.below hb4 (by omega)
     clear I3_2a
     have HO4_3:=Lib.hid (HO3_3.out.below hb4 (by omega))
     clear HO3_3
     have HO4_4a:=Lib.hid (HO3_4a.out.below hb4 (by omega))
     clear HO3_4a
     have hB4:Below w.heap.size w W4:=hB3.trans (hb4.mono (by omega))
     go_upto_region 8 with fail
     go_cut [42] (fun s42 wx=>s42=.bool false∧Below W4.heap.size W4 wx)
     case first =>
      have hwW:=hB4.size
      have hiW3:W2.heap.size≤W4.heap.size:=by omega
      clear hs1 lu0 lb0 hs3 lu1 lb1 nb1_4a hs4
      clear B4_0 B4_1 I4_2a HO4_4a
      go_wp2_with fail
      go_at_call 23
      (with_reducible change Calls _ _ #[.slice a0_A a0_l.length a0_c] _ _);refine (zz5 TA0.out _ (by have h:(E.lst 1 5 a0_A a0_c a0_l).In W4:=E.Re.inn RA4_0 (by omega);exact by2) (by omega)).mono ?_;rintro e6 w6 ⟨x6,e6h,HD6,ht6,ho6,hn6,hb6⟩;have HT6:=Lib.hid ht6;have HD6:=Lib.hid (HD6.out.trans HDa0.out);obtain⟨x6_A,x6_c,x6_l,rfl,-,-⟩:=ht6.lst_ Tryz.underlying28 (k:=1) (by kernel_rfl);obtain rfl:e6=.returned (.slice x6_A x6_l.length x6_c):=e6h;have HO6:=Lib.hid ho6;have HN6:=Lib.hid hn6;clear ht6 ho6 hn6;have hz6:=hb6.size;(try simp only [World.size_alloc,World.size_drew,World.heap_drewN,World.size_setCell] at hz6)
      go_wp2_with fail
      go_at_call 10
      refine (zm17 HT3.out HT6.out ((show (E.lst 1 5 x3_A x3_c x3_l).d=D0 from HD3.out).trans (show (E.lst 1 5 x6_A x6_c x6_l).d=D0 from HD6.out).symm) _ (by have h:(E.lst 1 5 x3_A x3_c x3_l).In W4:=HO4_3.out.inn;exact by2) (by have h:=HO6.out.inn;exact by2)).mono ?_;rintro e w7 ⟨rfl,hb7⟩;have hz7:=hb7.size;(try simp only [World.size_alloc,World.size_drew,World.heap_drewN,World.size_setCell] at hz7)
      go_wp2_with fail
      go_meet
      refine⟨rfl,?_⟩
      ·exact by0
     case rest =>
      obtain⟨rfl,hb5⟩:=hcut
      obtain⟨W5,hWeq⟩:∃W:World,W=wc:=⟨_,rfl⟩
      subst hWeq
      have hs5:=hb5.size
      have B5_0:=(hb5.block g0 (by omega)).trans B4_0
      clear B4_0
      have B5_1:=(hb5.block g1 (by omega)).trans B4_1
      clear B4_1
      have RA5_0:(E.lst 1 5 a0_A a0_c a0_l).Re W5 0 w.heap.size:=RA4_0.below hb5 (by omega)
      clear RA4_0
      have I5_2a:=I4_2a.below hb5 (by omega)
      clear I4_2a
      have HO5_3:=Lib.hid (HO4_3.out.below hb5 (by omega))
      clear HO4_3
      have HO5_4a:=Lib.hid (HO4_4a.out.below hb5 (by omega))
      clear HO4_4a
      have hB5:Below w.heap.size w W5:=hB4.trans (hb5.mono (by omega))
      go_upto_region 11 with fail
      go_cut [8] (fun s8 wx=>s8=.int .i64 (1+((E.lst 1 5 x3_A x3_c x3_l).cnt:Int))∧Hid (((E.lst 1 5 x3_A x3_c x3_l).mk0 1).Ho wx W1.heap.size W2.heap.size)∧Hid (Fr (E.lst 1 5 x3_A x3_c x3_l).fp W5 wx))
      case first =>
       have hwW:=hB5.size
       have hiW3:W2.heap.size≤W5.heap.size:=by omega
       clear hs1 lu0 lb0 hs3 lu1 lb1 nb1_4a hs4 hs5
       clear B5_0 B5_1 I5_2a HO5_4a
       go_wp2_with fail
       go_at_call 13
       refine (zy13 HT3.out _ _ _ _ HO5_3.out HN3.out (by omega) (by omega) (by have:=zh18 HT3.out HD3 (by omega);omega)).mono ?_;rintro e w8 ⟨rfl,HOm8,hf8⟩
       go_wp2_with fail
       go_meet
       refine⟨rfl,?_,?_⟩
       ·exact HOm8
       ·exact hf8
      case rest =>
       obtain⟨rfl,HOm6_3,hF6⟩:=hcut
       obtain⟨W6,hWeq⟩:∃W:World,W=wc:=⟨_,rfl⟩
       subst hWeq
       have hs6:=hF6.out.size
       have B6_0:=(hF6.out.block g0 (by omega) (fun hm=>by have:=HO5_3.out.lt _ hm;omega)).trans B5_0
       clear B5_0
       have B6_1:=(hF6.out.block g1 (by omega) (fun hm=>by have:=HO5_3.out.lt _ hm;omega)).trans B5_1
       clear B5_1
       have RA6_0:(E.lst 1 5 a0_A a0_c a0_l).Re W6 0 w.heap.size:=RA5_0.kp (lo':=w.heap.size) (hi':=W5.heap.size) (hF6.out.kp (fun b hb=>by have:=HO5_3.out.lt b hb;omega)) (.inl (Nat.le_refl _))
       clear RA5_0
       have I6_2a:=I5_2a.kp (lo':=W1.heap.size) (hi':=W2.heap.size) (hF6.out.kp (fun b hb=>by have:=HO5_3.out.lt b hb;omega)) (.inl (by omega))
       clear I5_2a
       have HO6_4a:=Lib.hid (HO5_4a.out.fr hF6.out (fun b hb hm=>by have h1:=HO5_4a.out.lt b hb;have h2:=HO5_3.out.lt b hm;omega))
       clear HO5_4a
       have hB6:Below w.heap.size w W6:=hB5.trans (hF6.out.below (fun b hb=>by have:=HO5_3.out.lt b hb;omega) (by omega))
       go_upto_region 12 with fail
       go_cut [58] (fun s58 wx=>s58=.bool false∧Below W6.heap.size W6 wx)
       case first =>
        have hwW:=hB6.size
        have ltW1:g1<W6.heap.size:=by omega
        have ltW0:g0<W6.heap.size:=by omega
        have hiW2a:W1.heap.size≤W6.heap.size:=by omega
        have hiW4a:W3.heap.size≤W6.heap.size:=by omega
        clear lu0 lb0 hs2 lu1 lb1 nb1_4a hs4 hs5 hs6
        clear HOm6_3
        have z0_1_0:W6.cell? ⟨g1,0,none⟩=some (.slice x4a_0A x4a_0l.length x4a_0c):=zv1 B6_1 rfl
        have z0_1_1:W6.cell? ⟨g1,1,none⟩=some (.slice x4a_1A x4a_1l.length x4a_1c):=zv1 B6_1 rfl
        have z0_1_2:W6.cell? ⟨g1,2,none⟩=some (.int .i64 x4a_2):=zv1 B6_1 rfl
        have z0_1_3:W6.cell? ⟨g1,3,none⟩=some (.int .i64 x4a_3):=zv1 B6_1 rfl
        have z0_1_4:W6.cell? ⟨g1,4,none⟩=some (.slice x4a_4A x4a_4l.length x4a_4c):=zv1 B6_1 rfl
        have z0_0_0:W6.cell? ⟨g0,0,none⟩=some (.slice x2a_0A x2a_0l.length x2a_0c):=zv1 B6_0 rfl
        have z0_0_1:W6.cell? ⟨g0,1,none⟩=some (.slice x2a_1A x2a_1l.length x2a_1c):=zv1 B6_0 rfl
        have z0_0_2:W6.cell? ⟨g0,2,none⟩=some (.int .i64 x2a_2):=zv1 B6_0 rfl
        have z0_0_3:W6.cell? ⟨g0,3,none⟩=some (.int .i64 x2a_3):=zv1 B6_0 rfl
        have z0_0_4:W6.cell? ⟨g0,4,none⟩=some (.slice x2a_4A x2a_4l.length x2a_4c):=zv1 B6_0 rfl
        go_wp2_with fail
        go_at_call 11
        refine (zo6 HT4a.out HT2a.out ((show (E.agg [.lst 3 75 x4a_0A x4a_0c x4a_0l,.lst 1 9 x4a_1A x4a_1c x4a_1l,.int .i64 x4a_2,.int .i64 x4a_3,.lst 2 79 x4a_4A x4a_4c x4a_4l]).d=getMoD D0 from HD4a.out).trans (show (E.agg [.lst 3 75 x2a_0A x2a_0c x2a_0l,.lst 1 9 x2a_1A x2a_1c x2a_1l,.int .i64 x2a_2,.int .i64 x2a_3,.lst 2 79 x2a_4A x2a_4c x2a_4l]).d=getMoD D0 from HD2a.out).symm) _ (by have h:(E.agg [.lst 3 75 x4a_0A x4a_0c x4a_0l,.lst 1 9 x4a_1A x4a_1c x4a_1l,.int .i64 x4a_2,.int .i64 x4a_3,.lst 2 79 x4a_4A x4a_4c x4a_4l]).In W6:=HO6_4a.out.inn;exact by2) (by have h:(E.agg [.lst 3 75 x2a_0A x2a_0c x2a_0l,.lst 1 9 x2a_1A x2a_1c x2a_1l,.int .i64 x2a_2,.int .i64 x2a_3,.lst 2 79 x2a_4A x2a_4c x2a_4l]).In W6:=I6_2a.inn (by omega);exact by2)).mono ?_;rintro e w9 ⟨rfl,hb9⟩;have hz9:=hb9.size;(try simp only [World.size_alloc,World.size_drew,World.heap_drewN,World.size_setCell] at hz9)
        go_wp2_with fail
        go_meet
        refine⟨rfl,?_⟩
        ·exact by0
       case rest =>
        obtain⟨rfl,hb7⟩:=hcut
        obtain⟨W7,hWeq⟩:∃W:World,W=wc:=⟨_,rfl⟩
        subst hWeq
        have hs7:=hb7.size
        have B7_0:=(hb7.block g0 (by omega)).trans B6_0
        clear B6_0
        have B7_1:=(hb7.block g1 (by omega)).trans B6_1
        clear B6_1
        have RA7_0:(E.lst 1 5 a0_A a0_c a0_l).Re W7 0 w.heap.size:=RA6_0.below hb7 (by omega)
        clear RA6_0
        have I7_2a:=I6_2a.below hb7 (by omega)
        clear I6_2a
        have HOm7_3:=Lib.hid (HOm6_3.out.below hb7 (by omega))
        clear HOm6_3
        have HO7_4a:=Lib.hid (HO6_4a.out.below hb7 (by omega))
        clear HO6_4a
        have hB7:Below w.heap.size w W7:=hB6.trans (hb7.mono (by omega))
        go_upto_region 15 with fail
        go_cut [9] (fun s9 wx=>s9=.int .i64 (1+((E.agg [.lst 3 75 x4a_0A x4a_0c x4a_0l,.lst 1 9 x4a_1A x4a_1c x4a_1l,.int .i64 x4a_2,.int .i64 x4a_3,.lst 2 79 x4a_4A x4a_4c x4a_4l]).cnt:Int))∧Hid (((E.agg [.lst 3 75 x4a_0A x4a_0c x4a_0l,.lst 1 9 x4a_1A x4a_1c x4a_1l,.int .i64 x4a_2,.int .i64 x4a_3,.lst 2 79 x4a_4A x4a_4c x4a_4l]).mk0 1).Ho wx W2.heap.size W3.heap.size)∧Hid (Fr (E.agg [.lst 3 75 x4a_0A x4a_0c x4a_0l,.lst 1 9 x4a_1A x4a_1c x4a_1l,.int .i64 x4a_2,.int .i64 x4a_3,.lst 2 79 x4a_4A x4a_4c x4a_4l]).fp W7 wx))
        case first =>
         have hwW:=hB7.size
         have ltW1:g1<W7.heap.size:=by omega
         have hiW4a:W3.heap.size≤W7.heap.size:=by omega
         clear hs1 lu0 lb0 hs2 lu1 lb1 nb1_4a hs4 hs5 hs6 hs7
         clear B7_0 I7_2a HOm7_3
         have z0_1_0:W7.cell? ⟨g1,0,none⟩=some (.slice x4a_0A x4a_0l.length x4a_0c):=zv1 B7_1 rfl
         have z0_1_1:W7.cell? ⟨g1,1,none⟩=some (.slice x4a_1A x4a_1l.length x4a_1c):=zv1 B7_1 rfl
         have z0_1_2:W7.cell? ⟨g1,2,none⟩=some (.int .i64 x4a_2):=zv1 B7_1 rfl
         have z0_1_3:W7.cell? ⟨g1,3,none⟩=some (.int .i64 x4a_3):=zv1 B7_1 rfl
         have z0_1_4:W7.cell? ⟨g1,4,none⟩=some (.slice x4a_4A x4a_4l.length x4a_4c):=zv1 B7_1 rfl
         go_wp2_with fail
         go_at_call 12
         refine (zg12 HT4a.out _ _ _ _ HO7_4a.out HN4a.out (by omega) (by omega) (by have:=zh18 HT4a.out HD4a (zv11 hD0);omega)).mono ?_;rintro e w10 ⟨rfl,HOm10,hf10⟩
         go_wp2_with fail
         go_meet
         refine⟨rfl,?_,?_⟩
         ·exact HOm10
         ·exact hf10
        case rest =>
         obtain⟨rfl,HOm8_4a,hF8⟩:=hcut
         obtain⟨W8,hWeq⟩:∃W:World,W=wc:=⟨_,rfl⟩
         subst hWeq
         have hs8:=hF8.out.size
         have B8_0:=(hF8.out.block g0 (by omega) (fun hm=>by have:=HO7_4a.out.lt _ hm;omega)).trans B7_0
         clear B7_0
         have B8_1:=(hF8.out.block g1 (by omega) (nb1_4a)).trans B7_1
         clear B7_1
         have RA8_0:(E.lst 1 5 a0_A a0_c a0_l).Re W8 0 w.heap.size:=RA7_0.kp (lo':=w.heap.size) (hi':=W7.heap.size) (hF8.out.kp (fun b hb=>by have:=HO7_4a.out.lt b hb;omega)) (.inl (Nat.le_refl _))
         clear RA7_0
         have I8_2a:=I7_2a.kp (lo':=W2.heap.size) (hi':=W3.heap.size) (hF8.out.kp (fun b hb=>by have:=HO7_4a.out.lt b hb;omega)) (.inl (by omega))
         clear I7_2a
         have hB8:Below w.heap.size w W8:=hB7.trans (hF8.out.below (fun b hb=>by have:=HO7_4a.out.lt b hb;omega) (by omega))
         go_upto_region 17 with fail
         go_cut [10] (fun s10 wx=>s10=.int .i64 (1+((E.agg [.lst 3 75 x4a_0A x4a_0c x4a_0l,.lst 1 9 x4a_1A x4a_1c x4a_1l,.int .i64 x4a_2,.int .i64 x4a_3,.lst 2 79 x4a_4A x4a_4c x4a_4l]).cnt:Int))∧Below W8.heap.size W8 wx)
         case first =>
          have hwW:=hB8.size
          have ltW1:g1<W8.heap.size:=by omega
          have hiW4a:W3.heap.size≤W8.heap.size:=by omega
          clear hs1 lu0 lb0 hs2 lu1 lb1 nb1_4a hs4 hs5 hs6 hs7 hs8
          clear B8_0 I8_2a
          have z0_1_0:W8.cell? ⟨g1,0,none⟩=some (.slice x4a_0A x4a_0l.length x4a_0c):=zv1 B8_1 rfl
          have z0_1_1:W8.cell? ⟨g1,1,none⟩=some (.slice x4a_1A x4a_1l.length x4a_1c):=zv1 B8_1 rfl
          have z0_1_2:W8.cell? ⟨g1,2,none⟩=some (.int .i64 x4a_2):=zv1 B8_1 rfl
          have z0_1_3:W8.cell? ⟨g1,3,none⟩=some (.int .i64 x4a_3):=zv1 B8_1 rfl
          have z0_1_4:W8.cell? ⟨g1,4,none⟩=some (.slice x4a_4A x4a_4l.length x4a_4c):=zv1 B8_1 rfl
          go_wp2_with fail
          go_at_call 25
          refine (zb7 HT4a.out _ _ (by have h:((E.agg [.lst 3 75 x4a_0A x4a_0c x4a_0l,.lst 1 9 x4a_1A x4a_1c x4a_1l,.int .i64 x4a_2,.int .i64 x4a_3,.lst 2 79 x4a_4A x4a_4c x4a_4l]).mk0 1).In W8:=HOm8_4a.out.inn;exact by2) (by omega) (by have:=zh18 HT4a.out HD4a (zv11 hD0);omega)).mono ?_;rintro e w11 ⟨rfl,hb11⟩
          go_wp2_with fail
          go_meet
          refine⟨rfl,?_⟩
          ·exact by0
         case rest =>
          obtain⟨rfl,hb9⟩:=hcut
          obtain⟨W9,hWeq⟩:∃W:World,W=wc:=⟨_,rfl⟩
          subst hWeq
          have hs9:=hb9.size
          have B9_0:=(hb9.block g0 (by omega)).trans B8_0
          clear B8_0
          have B9_1:=(hb9.block g1 (by omega)).trans B8_1
          clear B8_1
          have RA9_0:(E.lst 1 5 a0_A a0_c a0_l).Re W9 0 w.heap.size:=RA8_0.below hb9 (by omega)
          clear RA8_0
          have I9_2a:=I8_2a.below hb9 (by omega)
          clear I8_2a
          have HOm9_4a:=Lib.hid (HOm8_4a.out.below hb9 (by omega))
          clear HOm8_4a
          have hB9:Below w.heap.size w W9:=hB8.trans (hb9.mono (by omega))
          go_upto_region 22 with fail
          go_cut [11,12] (fun s11 s12 wx=>∃(g2:Nat) (x13a_0A:Option Addr) (x13a_0c:Nat) (x13a_0l:List E) (x13a_1A:Option Addr) (x13a_1c:Nat) (x13a_1l:List E) (x13a_2:Int) (x13a_3:Int) (x13a_4A:Option Addr) (x13a_4c:Nat) (x13a_4l:List E),s11=.pointer (some ⟨g2,0,none⟩)∧s12=.bool (getMoD1 D0)∧wx.heap[g2]? = some (.cells #[.slice x13a_0A x13a_0l.length x13a_0c,.slice x13a_1A x13a_1l.length x13a_1c,.int .i64 x13a_2,.int .i64 x13a_3,.slice x13a_4A x13a_4l.length x13a_4c] 33 (0,0))∧W9.heap.size≤g2∧g2∉(E.agg [.lst 3 75 x13a_0A x13a_0c x13a_0l,.lst 1 9 x13a_1A x13a_1c x13a_1l,.int .i64 x13a_2,.int .i64 x13a_3,.lst 2 79 x13a_4A x13a_4c x13a_4l]).fp∧Hid ((E.agg [.lst 3 75 x13a_0A x13a_0c x13a_0l,.lst 1 9 x13a_1A x13a_1c x13a_1l,.int .i64 x13a_2,.int .i64 x13a_3,.lst 2 79 x13a_4A x13a_4c x13a_4l]).Ty Tryz.prog 33)∧Hid ((E.agg [.lst 3 75 x13a_0A x13a_0c x13a_0l,.lst 1 9 x13a_1A x13a_1c x13a_1l,.int .i64 x13a_2,.int .i64 x13a_3,.lst 2 79 x13a_4A x13a_4c x13a_4l]).d=getMoD D0)∧Hid ((E.agg [.lst 3 75 x13a_0A x13a_0c x13a_0l,.lst 1 9 x13a_1A x13a_1c x13a_1l,.int .i64 x13a_2,.int .i64 x13a_3,.lst 2 79 x13a_4A x13a_4c x13a_4l]).Ho wx W9.heap.size wx.heap.size)∧Hid (E.agg [.lst 3 75 x13a_0A x13a_0c x13a_0l,.lst 1 9 x13a_1A x13a_1c x13a_1l,.int .i64 x13a_2,.int .i64 x13a_3,.lst 2 79 x13a_4A x13a_4c x13a_4l]).fp.Nodup∧Below W9.heap.size W9 wx)
          case first =>
           have hwW:=hB9.size
           clear hs1 lu0 lb0 hs2 hs3 lu1 lb1 nb1_4a hs4 hs5 hs6 hs7 hs8 hs9
           clear B9_0 B9_1 I9_2a HOm9_4a
           go_wp2_with fail
           go_at_call 23
           (with_reducible change Calls _ _ #[.slice a0_A a0_l.length a0_c] _ _);refine (zz5 TA0.out _ (by have h:(E.lst 1 5 a0_A a0_c a0_l).In W9:=E.Re.inn RA9_0 (by omega);exact by2) (by omega)).mono ?_;rintro e12 w12 ⟨x12,e12h,HD12,ht12,ho12,hn12,hb12⟩;have HT12:=Lib.hid ht12;have HD12:=Lib.hid (HD12.out.trans HDa0.out);obtain⟨x12_A,x12_c,x12_l,rfl,-,-⟩:=ht12.lst_ Tryz.underlying28 (k:=1) (by kernel_rfl);obtain rfl:e12=.returned (.slice x12_A x12_l.length x12_c):=e12h;have HO12:=Lib.hid ho12;have HN12:=Lib.hid hn12;clear ht12 ho12 hn12;have hz12:=hb12.size;(try simp only [World.size_alloc,World.size_drew,World.heap_drewN,World.size_setCell] at hz12)
           go_wp2_with fail
           go_at_call 24
           refine (zp6 HT12.out _ (by have h:=HO12.out.inn;exact by2) (sz_le HD12 hD0)).mono ?_;rintro e13 w13 ⟨x13a,e13h,HD13a,ht13a,ho13a,hn13a,hb13⟩;have HD13a:Hid (x13a.d=getMoD D0):=(by have h:=HD13a.out;rw [HD12.out] at h;exact h);have HT13a:=Lib.hid ht13a;obtain⟨x13a_0A,x13a_0c,x13a_0l,x13a_1A,x13a_1c,x13a_1l,x13a_2,x13a_3,x13a_4A,x13a_4c,x13a_4l,rfl,-,-,-,-,-,-⟩:=zn2 ht13a;rw [HD12.out] at e13h;obtain rfl:e13=.returned (.tuple #[.agg #[.slice x13a_0A x13a_0l.length x13a_0c,.slice x13a_1A x13a_1l.length x13a_1c,.int .i64 x13a_2,.int .i64 x13a_3,.slice x13a_4A x13a_4l.length x13a_4c],.bool (getMoD1 D0)]):=e13h;have HO13a:=Lib.hid ho13a;have HN13a:=Lib.hid hn13a;clear ho13a hn13a ht13a;have hz13:=hb13.size;(try simp only [World.size_alloc,World.size_drew,World.heap_drewN,World.size_setCell] at hz13)
           go_wp2_with fail
           go_meet
           refine⟨_,x13a_0A,x13a_0c,x13a_0l,x13a_1A,x13a_1c,x13a_1l,x13a_2,x13a_3,x13a_4A,x13a_4c,x13a_4l,rfl,rfl,?_,?_,?_,?_,?_,?_,?_,?_⟩
           ·(repeat (first|(with_reducible assumption)|(with_reducible refine zx16 ?_)|(with_reducible refine zh13 ?_)|(refine zw21 ?_;first|rfl|(simp;done))|(with_reducible refine zf13 ?_ ?_)|(refine zg13 (by with_reducible assumption) ?_ ?_)|omega|(·simp)|(·(simp;omega))))
           ·first|omega|(simp;done)|(simp;omega)
           ·(intro hm;have h:=HO13a.out.lt _ hm;(try simp only [World.size_alloc,World.size_drew,World.heap_drewN,World.size_setCell] at h);omega)
           ·exact HT13a
           ·exact HD13a
           ·refine E.Ho.fin HO13a.out (fun hh=>?_) ?_ ?_
            ·(repeat (first|(with_reducible assumption)|(with_reducible refine E.Ho.drew ?_)|(with_reducible refine E.Ho.drewN ?_ _)|(with_reducible refine E.Ho.alloc ?_ ?_ _)|(with_reducible refine E.Ho.setAny ?_ ?_ _)|(refine E.Ho.below ?_ (by with_reducible assumption) ?_)|(first|omega|(dsimp only;omega)|(simp only [World.size_alloc,World.size_drew,World.heap_drewN,World.size_setCell];omega)|(simp;done)|(simp;omega))))
            ·(first|omega|(dsimp only;omega)|(simp only [World.size_alloc,World.size_drew,World.heap_drewN,World.size_setCell];omega)|(simp;done)|(simp;omega))
            ·(first|omega|(dsimp only;omega)|(simp only [World.size_alloc,World.size_drew,World.heap_drewN,World.size_setCell];omega)|(simp;done)|(simp;omega))
           ·exact HN13a
           ·exact by0
          case rest =>
           obtain⟨g2,x13a_0A,x13a_0c,x13a_0l,x13a_1A,x13a_1c,x13a_1l,x13a_2,x13a_3,x13a_4A,x13a_4c,x13a_4l,rfl,rfl,B10_2,lb2,nb2_13a,HT13a,HD13a,HO10_13a,HN13a,hb10⟩:=hcut
           obtain⟨W10,hWeq⟩:∃W:World,W=wc:=⟨_,rfl⟩
           subst hWeq
           have hs10:=hb10.size
           have lu2:=zv21 B10_2
           have B10_0:=(hb10.block g0 (by omega)).trans B9_0
           clear B9_0
           have B10_1:=(hb10.block g1 (by omega)).trans B9_1
           clear B9_1
           have RA10_0:(E.lst 1 5 a0_A a0_c a0_l).Re W10 0 w.heap.size:=RA9_0.below hb10 (by omega)
           clear RA9_0
           have I10_2a:=I9_2a.below hb10 (by omega)
           clear I9_2a
           have HOm10_4a:=Lib.hid (HOm9_4a.out.below hb10 (by omega))
           clear HOm9_4a
           have hB10:Below w.heap.size w W10:=hB9.trans (hb10.mono (by omega))
           go_upto_region 23 with fail
           go_cut [84] (fun s84 wx=>s84=.bool false∧Below W10.heap.size W10 wx)
           case first =>
            have hwW:=hB10.size
            have ltW2:g2<W10.heap.size:=by omega
            have ltW0:g0<W10.heap.size:=by omega
            have hiW2a:W1.heap.size≤W10.heap.size:=by omega
            have hiW13a:W10.heap.size≤W10.heap.size:=by omega
            clear lu0 lb0 hs2 hs3 lu1 lb1 nb1_4a hs4 hs5 hs6 hs7 hs8 hs9 lu2 lb2 nb2_13a
            clear B10_1 HOm10_4a
            have z0_2_0:W10.cell? ⟨g2,0,none⟩=some (.slice x13a_0A x13a_0l.length x13a_0c):=zv1 B10_2 rfl
            have z0_2_1:W10.cell? ⟨g2,1,none⟩=some (.slice x13a_1A x13a_1l.length x13a_1c):=zv1 B10_2 rfl
            have z0_2_2:W10.cell? ⟨g2,2,none⟩=some (.int .i64 x13a_2):=zv1 B10_2 rfl
            have z0_2_3:W10.cell? ⟨g2,3,none⟩=some (.int .i64 x13a_3):=zv1 B10_2 rfl
            have z0_2_4:W10.cell? ⟨g2,4,none⟩=some (.slice x13a_4A x13a_4l.length x13a_4c):=zv1 B10_2 rfl
            have z0_0_0:W10.cell? ⟨g0,0,none⟩=some (.slice x2a_0A x2a_0l.length x2a_0c):=zv1 B10_0 rfl
            have z0_0_1:W10.cell? ⟨g0,1,none⟩=some (.slice x2a_1A x2a_1l.length x2a_1c):=zv1 B10_0 rfl
            have z0_0_2:W10.cell? ⟨g0,2,none⟩=some (.int .i64 x2a_2):=zv1 B10_0 rfl
            have z0_0_3:W10.cell? ⟨g0,3,none⟩=some (.int .i64 x2a_3):=zv1 B10_0 rfl
            have z0_0_4:W10.cell? ⟨g0,4,none⟩=some (.slice x2a_4A x2a_4l.length x2a_4c):=zv1 B10_0 rfl
            go_wp2_with fail
            go_at_call 11
            refine (zo6 HT13a.out HT2a.out ((show (E.agg [.lst 3 75 x13a_0A x13a_0c x13a_0l,.lst 1 9 x13a_1A x13a_1c x13a_1l,.int .i64 x13a_2,.int .i64 x13a_3,.lst 2 79 x13a_4A x13a_4c x13a_4l]).d=getMoD D0 from HD13a.out).trans (show (E.agg [.lst 3 75 x2a_0A x2a_0c x2a_0l,.lst 1 9 x2a_1A x2a_1c x2a_1l,.int .i64 x2a_2,.int .i64 x2a_3,.lst 2 79 x2a_4A x2a_4c x2a_4l]).d=getMoD D0 from HD2a.out).symm) _ (by have h:(E.agg [.lst 3 75 x13a_0A x13a_0c x13a_0l,.lst 1 9 x13a_1A x13a_1c x13a_1l,.int .i64 x13a_2,.int .i64 x13a_3,.lst 2 79 x13a_4A x13a_4c x13a_4l]).In W10:=HO10_13a.out.inn;exact by2) (by have h:(E.agg [.lst 3 75 x2a_0A x2a_0c x2a_0l,.lst 1 9 x2a_1A x2a_1c x2a_1l,.int .i64 x2a_2,.int .i64 x2a_3,.lst 2 79 x2a_4A x2a_4c x2a_4l]).In W10:=I10_2a.inn (by omega);exact by2)).mono ?_;rintro e w14 ⟨rfl,hb14⟩;have hz14:=hb14.size;(try simp only [World.size_alloc,World.size_drew,World.heap_drewN,World.size_setCell] at hz14)
            go_wp2_with fail
            go_meet
            refine⟨rfl,?_⟩
            ·exact by0
           case rest =>
            obtain⟨rfl,hb11⟩:=hcut
            obtain⟨W11,hWeq⟩:∃W:World,W=wc:=⟨_,rfl⟩
            subst hWeq
            have hs11:=hb11.size
            have B11_0:=(hb11.block g0 (by omega)).trans B10_0
            clear B10_0
            have B11_1:=(hb11.block g1 (by omega)).trans B10_1
            clear B10_1
            have B11_2:=(hb11.block g2 (by omega)).trans B10_2
            clear B10_2
            have RA11_0:(E.lst 1 5 a0_A a0_c a0_l).Re W11 0 w.heap.size:=RA10_0.below hb11 (by omega)
            clear RA10_0
            have I11_2a:=I10_2a.below hb11 (by omega)
            clear I10_2a
            have HOm11_4a:=Lib.hid (HOm10_4a.out.below hb11 (by omega))
            clear HOm10_4a
            have HO11_13a:=Lib.hid (HO10_13a.out.below hb11 (by omega))
            clear HO10_13a
            have hB11:Below w.heap.size w W11:=hB10.trans (hb11.mono (by omega))
            go_upto_region 26 with fail
            go_cut [10] (fun s10 wx=>s10=.int .i64 (1+((E.agg [.lst 3 75 x4a_0A x4a_0c x4a_0l,.lst 1 9 x4a_1A x4a_1c x4a_1l,.int .i64 x4a_2,.int .i64 x4a_3,.lst 2 79 x4a_4A x4a_4c x4a_4l]).cnt:Int))∧Below W11.heap.size W11 wx)
            case first =>
             have hwW:=hB11.size
             have ltW1:g1<W11.heap.size:=by omega
             have hiW4a:W3.heap.size≤W11.heap.size:=by omega
             clear hs1 lu0 lb0 hs2 lu1 lb1 nb1_4a hs4 hs5 hs6 hs7 hs8 hs9 hs10 lu2 lb2 nb2_13a hs11
             clear B11_0 B11_2 I11_2a HO11_13a
             have z0_1_0:W11.cell? ⟨g1,0,none⟩=some (.slice x4a_0A x4a_0l.length x4a_0c):=zv1 B11_1 rfl
             have z0_1_1:W11.cell? ⟨g1,1,none⟩=some (.slice x4a_1A x4a_1l.length x4a_1c):=zv1 B11_1 rfl
             have z0_1_2:W11.cell? ⟨g1,2,none⟩=some (.int .i64 x4a_2):=zv1 B11_1 rfl
             have z0_1_3:W11.cell? ⟨g1,3,none⟩=some (.int .i64 x4a_3):=zv1 B11_1 rfl
             have z0_1_4:W11.cell? ⟨g1,4,none⟩=some (.slice x4a_4A x4a_4l.length x4a_4c):=zv1 B11_1 rfl
             go_wp2_with fail
             go_at_call 25
             refine (zb7 HT4a.out _ _ (by have h:((E.agg [.lst 3 75 x4a_0A x4a_0c x4a_0l,.lst 1 9 x4a_1A x4a_1c x4a_1l,.int .i64 x4a_2,.int .i64 x4a_3,.lst 2 79 x4a_4A x4a_4c x4a_4l]).mk0 1).In W11:=HOm11_4a.out.inn;exact by2) (by omega) (by have:=zh18 HT4a.out HD4a (zv11 hD0);omega)).mono ?_;rintro e w15 ⟨rfl,hb15⟩
             go_wp2_with fail
             go_meet
             refine⟨rfl,?_⟩
             ·exact by0
            case rest =>
             obtain⟨rfl,hb12⟩:=hcut
             obtain⟨W12,hWeq⟩:∃W:World,W=wc:=⟨_,rfl⟩
             subst hWeq
             have hs12:=hb12.size
             have B12_0:=(hb12.block g0 (by omega)).trans B11_0
             clear B11_0
             have B12_1:=(hb12.block g1 (by omega)).trans B11_1
             clear B11_1
             have B12_2:=(hb12.block g2 (by omega)).trans B11_2
             clear B11_2
             have RA12_0:(E.lst 1 5 a0_A a0_c a0_l).Re W12 0 w.heap.size:=RA11_0.below hb12 (by omega)
             clear RA11_0
             have I12_2a:=I11_2a.below hb12 (by omega)
             clear I11_2a
             have HOm12_4a:=Lib.hid (HOm11_4a.out.below hb12 (by omega))
             clear HOm11_4a
             have HO12_13a:=Lib.hid (HO11_13a.out.below hb12 (by omega))
             clear HO11_13a
             have hB12:Below w.heap.size w W12:=hB11.trans (hb12.mono (by omega))
             go_wp2
             go_ret
             exact⟨rfl,hB12⟩
end Go.Proofs.YtghljnfbbaklnaaGreat
