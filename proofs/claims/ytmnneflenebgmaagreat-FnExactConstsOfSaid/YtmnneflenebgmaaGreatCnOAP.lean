/- T -/
import Derived.Deep.DeepCutAuto
import Derived.Test.YtmnneflenebgmaaGreatCnOAO
set_option maxHeartbeats 0
set_option maxRecDepth 100000
namespace Go.Proofs.YtmnneflenebgmaaGreat
open Go.RowKit Go.Proofs.Tryz
theorem oQ (w:World){a0:E}(ta0:a0.Ty prog 47)(ra0:a0.In w) :
 Calls prog 5 #[a0.val] w fun e w'=>e=.returned (.bool true)∧Below w.heap.size w w':=by
 have TA0:=Lib.hid ta0
 obtain⟨D0,HDa0⟩:∃D:E,Hid (a0.d=D):=⟨_,rfl⟩
 obtain⟨a0_0A,a0_0c,a0_0l,a0_1A,a0_1c,a0_1l,rfl,ga0_0,ga0_1,-⟩:=eP ta0
 change Calls _ _ #[.agg #[.slice a0_0A a0_0l.length a0_0c,.slice a0_1A a0_1l.length a0_1c]] w _
 go_enter func5,Tryz.ntmps5
 go_upto_region 0 with fail
 go_cut [1,2] (fun s1 s2 wx=>∃(g0:Nat),s1=.pointer (some ⟨g0,0,none⟩)∧s2=.bool false∧wx.heap[g0]? = some (.cells #[.slice a0_0A a0_0l.length a0_0c,.slice a0_1A a0_1l.length a0_1c] 47 (0,0))∧w.heap.size≤g0∧Below w.heap.size w wx)
 case first =>
  go_wp2_with fail
  go_meet
  refine⟨_,rfl,rfl,?_,?_,?_⟩
  ·(repeat (first|(with_reducible assumption)|(with_reducible refine dj ?_)|(with_reducible refine hp_drewN ?_)|(refine yM ?_;first|rfl|(simp;done))|(with_reducible refine hp_alloc ?_ ?_)|(refine cL (by with_reducible assumption) ?_ ?_)|omega|(·simp)|(·(simp;omega))))
  ·first|omega|(simp;done)|(simp;omega)
  ·exact by0
 case rest =>
  obtain⟨g0,rfl,rfl,B1_0,lb0,hb1⟩:=hcut
  obtain⟨W1,hWeq⟩:∃W:World,W=wc:=⟨_,rfl⟩
  subst hWeq
  have hs1:=hb1.size
  have lu0:=yL B1_0
  have RA1_0:(E.agg [.lst 6 155 a0_0A a0_0c a0_0l,.lst 3 158 a0_1A a0_1c a0_1l]).Re W1 0 w.heap.size:=(show (E.agg [.lst 6 155 a0_0A a0_0c a0_0l,.lst 3 158 a0_1A a0_1c a0_1l]).Re w 0 w.heap.size from ra0).below hb1 omq
  have hB1:Below w.heap.size w W1:=hb1
  go_upto_region 2 with fail
  go_cut [3] (fun s3 wx=>∃(r1:Int),s3=.int .i64 r1∧(r1<0∨Hid (r1+(E.agg [.lst 6 155 a0_0A a0_0c a0_0l,.lst 3 158 a0_1A a0_1c a0_1l]).sz=1048576))∧r1≤1048576∧Below W1.heap.size W1 wx)
  case first =>
   have hwW:=hB1.size
   have ltW0:g0<W1.heap.size:=by omega
   clear hs1 lu0 lb0
   have z0_0_0:W1.cell? ⟨g0,0,none⟩=some (.slice a0_0A a0_0l.length a0_0c):=aw B1_0 rfl
   have z0_0_1:W1.cell? ⟨g0,1,none⟩=some (.slice a0_1A a0_1l.length a0_1c):=aw B1_0 rfl
   go_wp2_with fail
   go_at_call 22
   refine (sf TA0.out _ _ (by have h:(E.agg [.lst 6 155 a0_0A a0_0c a0_0l,.lst 3 158 a0_1A a0_1c a0_1l]).In W1:=E.Re.inn RA1_0 omq;exact by2) omq omq).mono ?_;rintro e w1 ⟨r1,rfl,hr1,hl1,hb1⟩
   go_wp2_with fail
   go_meet
   refine⟨r1,rfl,?_,?_,?_⟩
   ·exact hr1
   ·exact hl1
   ·exact by0
  case rest =>
   obtain⟨r1,rfl,hr1,hl1,hb2⟩:=hcut
   obtain⟨W2,hWeq⟩:∃W:World,W=wc:=⟨_,rfl⟩
   subst hWeq
   have hs2:=hb2.size
   have B2_0:=(hb2.block g0 omq).trans B1_0
   clear B1_0
   have RA2_0:(E.agg [.lst 6 155 a0_0A a0_0c a0_0l,.lst 3 158 a0_1A a0_1c a0_1l]).Re W2 0 w.heap.size:=RA1_0.below hb2 omq
   clear RA1_0
   have hB2:Below w.heap.size w W2:=hB1.trans (hb2.mono omq)
   by_cases hn1:r1<0
   ·go_wp2
    go_ret
    exact⟨rfl,hB2⟩
   have HR1:=hr1.resolve_left hn1
   clear hr1
   have hz1:(E.agg [.lst 6 155 a0_0A a0_0c a0_0l,.lst 3 158 a0_1A a0_1c a0_1l]).sz≤1048576:=by have:=HR1.out;omega
   have hD0:D0.sz≤1048576:=by rw [←HDa0.out,E.sz_d];exact hz1
   go_upto_region 5 with fail
   go_cut [4] (fun s4 wx=>∃(x3_A:Option Addr) (x3_c:Nat) (x3_l:List E),s4=.slice x3_A x3_l.length x3_c∧Hid ((E.lst 3 36 x3_A x3_c x3_l).Ty prog 29)∧Hid ((E.lst 3 36 x3_A x3_c x3_l).d=dX D0)∧(E.lst 3 36 x3_A x3_c x3_l).Re wx W2.heap.size wx.heap.size∧Below W2.heap.size W2 wx)
   case first =>
    have hwW:=hB2.size
    have ltW0:g0<W2.heap.size:=by omega
    clear hs1 lu0 lb0 hs2
    have z0_0_0:W2.cell? ⟨g0,0,none⟩=some (.slice a0_0A a0_0l.length a0_0c):=aw B2_0 rfl
    have z0_0_1:W2.cell? ⟨g0,1,none⟩=some (.slice a0_1A a0_1l.length a0_1c):=aw B2_0 rfl
    go_wp2_with fail
    go_at_call 23
    (with_reducible change Calls _ _ #[.agg #[.slice a0_0A a0_0l.length a0_0c,.slice a0_1A a0_1l.length a0_1c]] _ _);refine (gJ TA0.out _ (by have h:(E.agg [.lst 6 155 a0_0A a0_0c a0_0l,.lst 3 158 a0_1A a0_1c a0_1l]).In W2:=E.Re.inn RA2_0 omq;exact by2) omq).mono ?_;rintro e2 w2 ⟨x2,e2h,HD2,ht2,ho2,hn2,hb2⟩;have HT2:=Lib.hid ht2;have HD2:=Lib.hid (HD2.out.trans HDa0.out);obtain⟨x2_0A,x2_0c,x2_0l,x2_1A,x2_1c,x2_1l,rfl,-,-,-⟩:=b8 ht2;obtain rfl:e2=.returned (.agg #[.slice x2_0A x2_0l.length x2_0c,.slice x2_1A x2_1l.length x2_1c]):=e2h;have HO2:=Lib.hid ho2;have HN2:=Lib.hid hn2;clear ht2 ho2 hn2;have hz2:=hb2.size;(try simp only [World.size_alloc,World.size_drew,World.heap_drewN,World.size_setCell] at hz2)
    have z2_0_0:w2.cell? ⟨g0,0,none⟩=some (.slice a0_0A a0_0l.length a0_0c):=aw (by exact (by repeat (first|(with_reducible assumption)|(with_reducible refine dj ?_)|(with_reducible refine hp_drewN ?_)|(with_reducible refine hp_alloc ?_ ?_)|(refine cL (by with_reducible assumption) ?_ ?_)|omega|(·simp)|(·(simp;omega)))):w2.heap[g0]? = some (.cells #[.slice a0_0A a0_0l.length a0_0c,.slice a0_1A a0_1l.length a0_1c] 47 (0,0))) rfl
    have z2_0_1:w2.cell? ⟨g0,1,none⟩=some (.slice a0_1A a0_1l.length a0_1c):=aw (by exact (by repeat (first|(with_reducible assumption)|(with_reducible refine dj ?_)|(with_reducible refine hp_drewN ?_)|(with_reducible refine hp_alloc ?_ ?_)|(refine cL (by with_reducible assumption) ?_ ?_)|omega|(·simp)|(·(simp;omega)))):w2.heap[g0]? = some (.cells #[.slice a0_0A a0_0l.length a0_0c,.slice a0_1A a0_1l.length a0_1c] 47 (0,0))) rfl
    go_wp2_with fail
    go_at_call 16
    refine (lD HT2.out _ (by have h:=HO2.out.inn;exact by2) (wH HD2 hD0)).mono ?_;rintro e3 w3 ⟨x3,e3h,HD3,ht3,hi3,hb3⟩;have HD3:Hid (x3.d=dX D0):=(by have h:=HD3.out;rw [HD2.out] at h;exact h);have HT3:=Lib.hid ht3;obtain⟨x3_A,x3_c,x3_l,rfl,-,-⟩:=ht3.lst_ underlying29 (k:=3) (by kernel_rfl);obtain rfl:e3=.returned (.slice x3_A x3_l.length x3_c):=e3h;clear ht3;have hz3:=hb3.size;(try simp only [World.size_alloc,World.size_drew,World.heap_drewN,World.size_setCell] at hz3)
    have z3_0_0:w3.cell? ⟨g0,0,none⟩=some (.slice a0_0A a0_0l.length a0_0c):=aw (by exact (by repeat (first|(with_reducible assumption)|(with_reducible refine dj ?_)|(with_reducible refine hp_drewN ?_)|(with_reducible refine hp_alloc ?_ ?_)|(refine cL (by with_reducible assumption) ?_ ?_)|omega|(·simp)|(·(simp;omega)))):w3.heap[g0]? = some (.cells #[.slice a0_0A a0_0l.length a0_0c,.slice a0_1A a0_1l.length a0_1c] 47 (0,0))) rfl
    have z3_0_1:w3.cell? ⟨g0,1,none⟩=some (.slice a0_1A a0_1l.length a0_1c):=aw (by exact (by repeat (first|(with_reducible assumption)|(with_reducible refine dj ?_)|(with_reducible refine hp_drewN ?_)|(with_reducible refine hp_alloc ?_ ?_)|(refine cL (by with_reducible assumption) ?_ ?_)|omega|(·simp)|(·(simp;omega)))):w3.heap[g0]? = some (.cells #[.slice a0_0A a0_0l.length a0_0c,.slice a0_1A a0_1l.length a0_1c] 47 (0,0))) rfl
    go_wp2_with fail
    go_meet
    refine⟨x3_A,x3_c,x3_l,rfl,?_,?_,?_,?_⟩
    ·exact HT3
    ·exact HD3
    ·refine E.Re.fin hi3 (fun hh=>?_) ?_ ?_
     ·(repeat (first|(with_reducible assumption)|(with_reducible refine E.Re.drew ?_)|(with_reducible refine E.Re.drewN ?_ _)|(with_reducible refine E.Re.alloc ?_ ?_ _)|(with_reducible refine E.Re.setAny ?_ ?_ _)|(refine E.Re.below ?_ (by with_reducible assumption) ?_)|(first|omega|(dsimp only;omega)|(simp only [World.size_alloc,World.size_drew,World.heap_drewN,World.size_setCell];omega)|(simp;done)|(simp;omega))))
     ·(first|omega|(dsimp only;omega)|(simp only [World.size_alloc,World.size_drew,World.heap_drewN,World.size_setCell];omega)|(simp;done)|(simp;omega))
     ·(first|omega|(dsimp only;omega)|(simp only [World.size_alloc,World.size_drew,World.heap_drewN,World.size_setCell];omega)|(simp;done)|(simp;omega))
    ·exact by0
   case rest =>
    obtain⟨x3_A,x3_c,x3_l,rfl,HT3,HD3,I3_3,hb3⟩:=hcut
    obtain⟨W3,hWeq⟩:∃W:World,W=wc:=⟨_,rfl⟩
    subst hWeq
    have hs3:=hb3.size
    have B3_0:=(hb3.block g0 omq).trans B2_0
    clear B2_0
    have RA3_0:(E.agg [.lst 6 155 a0_0A a0_0c a0_0l,.lst 3 158 a0_1A a0_1c a0_1l]).Re W3 0 w.heap.size:=RA2_0.below hb3 omq
    clear RA2_0
    have hB3:Below w.heap.size w W3:=hB2.trans (hb3.mono omq)
    go_upto_region 6 with fail
    go_cut [5] (fun s5 wx=>∃(g1:Nat) (x4_0A:Option Addr) (x4_0c:Nat) (x4_0l:List E) (x4_1A:Option Addr) (x4_1c:Nat) (x4_1l:List E),s5=.pointer (some ⟨g1,0,none⟩)∧wx.heap[g1]? = some (.cells #[.slice x4_0A x4_0l.length x4_0c,.slice x4_1A x4_1l.length x4_1c] 27 (0,0))∧W3.heap.size≤g1∧g1∉(E.agg [.lst 6 87 x4_0A x4_0c x4_0l,.lst 3 89 x4_1A x4_1c x4_1l]).fp∧Hid ((E.agg [.lst 6 87 x4_0A x4_0c x4_0l,.lst 3 89 x4_1A x4_1c x4_1l]).Ty prog 27)∧Hid ((E.agg [.lst 6 87 x4_0A x4_0c x4_0l,.lst 3 89 x4_1A x4_1c x4_1l]).d=D0)∧Hid ((E.agg [.lst 6 87 x4_0A x4_0c x4_0l,.lst 3 89 x4_1A x4_1c x4_1l]).Ho wx W3.heap.size wx.heap.size)∧Hid (E.agg [.lst 6 87 x4_0A x4_0c x4_0l,.lst 3 89 x4_1A x4_1c x4_1l]).fp.Nodup∧Below W3.heap.size W3 wx)
    case first =>
     have hwW:=hB3.size
     have ltW0:g0<W3.heap.size:=by omega
     clear hs1 lu0 lb0 hs2 hs3
     clear I3_3
     have z0_0_0:W3.cell? ⟨g0,0,none⟩=some (.slice a0_0A a0_0l.length a0_0c):=aw B3_0 rfl
     have z0_0_1:W3.cell? ⟨g0,1,none⟩=some (.slice a0_1A a0_1l.length a0_1c):=aw B3_0 rfl
     go_wp2_with fail
     go_at_call 23
     (with_reducible change Calls _ _ #[.agg #[.slice a0_0A a0_0l.length a0_0c,.slice a0_1A a0_1l.length a0_1c]] _ _);refine (gJ TA0.out _ (by have h:(E.agg [.lst 6 155 a0_0A a0_0c a0_0l,.lst 3 158 a0_1A a0_1c a0_1l]).In W3:=E.Re.inn RA3_0 omq;exact by2) omq).mono ?_;rintro e4 w4 ⟨x4,e4h,HD4,ht4,ho4,hn4,hb4⟩;have HT4:=Lib.hid ht4;have HD4:=Lib.hid (HD4.out.trans HDa0.out);obtain⟨x4_0A,x4_0c,x4_0l,x4_1A,x4_1c,x4_1l,rfl,-,-,-⟩:=b8 ht4;obtain rfl:e4=.returned (.agg #[.slice x4_0A x4_0l.length x4_0c,.slice x4_1A x4_1l.length x4_1c]):=e4h;have HO4:=Lib.hid ho4;have HN4:=Lib.hid hn4;clear ht4 ho4 hn4;have hz4:=hb4.size;(try simp only [World.size_alloc,World.size_drew,World.heap_drewN,World.size_setCell] at hz4)
     go_wp2_with fail
     go_meet
     refine⟨_,x4_0A,x4_0c,x4_0l,x4_1A,x4_1c,x4_1l,rfl,?_,?_,?_,?_,?_,?_,?_,?_⟩
     ·(repeat (first|(with_reducible assumption)|(with_reducible refine dj ?_)|(with_reducible refine hp_drewN ?_)|(refine yM ?_;first|rfl|(simp;done))|(with_reducible refine hp_alloc ?_ ?_)|(refine cL (by with_reducible assumption) ?_ ?_)|omega|(·simp)|(·(simp;omega))))
     ·first|omega|(simp;done)|(simp;omega)
     ·(intro hm;have h:=HO4.out.lt _ hm;(try simp only [World.size_alloc,World.size_drew,World.heap_drewN,World.size_setCell] at h);omega)
     ·exact HT4
     ·exact HD4
     ·refine E.Ho.fin HO4.out (fun hh=>?_) ?_ ?_
      ·(repeat (first|(with_reducible assumption)|(with_reducible refine E.Ho.drew ?_)|(with_reducible refine E.Ho.drewN ?_ _)|(with_reducible refine E.Ho.alloc ?_ ?_ _)|(with_reducible refine E.Ho.setAny ?_ ?_ _)|(refine E.Ho.below ?_ (by with_reducible assumption) ?_)|(first|omega|(dsimp only;omega)|(simp only [World.size_alloc,World.size_drew,World.heap_drewN,World.size_setCell];omega)|(simp;done)|(simp;omega))))
      ·(first|omega|(dsimp only;omega)|(simp only [World.size_alloc,World.size_drew,World.heap_drewN,World.size_setCell];omega)|(simp;done)|(simp;omega))
      ·(first|omega|(dsimp only;omega)|(simp only [World.size_alloc,World.size_drew,World.heap_drewN,World.size_setCell];omega)|(simp;done)|(simp;omega))
     ·exact HN4
     ·exact by0
    case rest =>
     obtain⟨g1,x4_0A,x4_0c,x4_0l,x4_1A,x4_1c,x4_1l,rfl,B4_1,lb1,nb1_4,HT4,HD4,HO4_4,HN4,hb4⟩:=hcut
     obtain⟨W4,hWeq⟩:∃W:World,W=wc:=⟨_,rfl⟩
     subst hWeq
     have hs4:=hb4.size
     have lu1:=yL B4_1
     have B4_0:=(hb4.block g0 omq).trans B3_0
     clear B3_0
     have RA4_0:(E.agg [.lst 6 155 a0_0A a0_0c a0_0l,.lst 3 158 a0_1A a0_1c a0_1l]).Re W4 0 w.heap.size:=RA3_0.below hb4 omq
     clear RA3_0
     have I4_3:=I3_3.below hb4 omq
     clear I3_3
     have hB4:Below w.heap.size w W4:=hB3.trans (hb4.mono omq)
     go_upto_region 7 with fail
     go_cut [6] (fun s6 wx=>∃(x5_A:Option Addr) (x5_c:Nat) (x5_l:List E),s6=.slice x5_A x5_l.length x5_c∧Hid ((E.lst 3 36 x5_A x5_c x5_l).Ty prog 29)∧Hid ((E.lst 3 36 x5_A x5_c x5_l).d=dX D0)∧Hid ((E.lst 3 36 x5_A x5_c x5_l).Ho wx W4.heap.size wx.heap.size)∧Hid (E.lst 3 36 x5_A x5_c x5_l).fp.Nodup∧Below W4.heap.size W4 wx)
     case first =>
      have hwW:=hB4.size
      have ltW1:g1<W4.heap.size:=by omega
      have hiW4:W4.heap.size≤W4.heap.size:=by omega
      clear hs1 lu0 lb0 hs2 hs3 lu1 lb1 nb1_4
      clear B4_0 I4_3
      have z0_1_0:W4.cell? ⟨g1,0,none⟩=some (.slice x4_0A x4_0l.length x4_0c):=aw B4_1 rfl
      have z0_1_1:W4.cell? ⟨g1,1,none⟩=some (.slice x4_1A x4_1l.length x4_1c):=aw B4_1 rfl
      go_wp2_with fail
      go_at_call 13
      refine (gS HT4.out _ (by have h:(E.agg [.lst 6 87 x4_0A x4_0c x4_0l,.lst 3 89 x4_1A x4_1c x4_1l]).In W4:=HO4_4.out.inn;exact by2) (wH HD4 hD0)).mono ?_;rintro e5 w5 ⟨x5,e5h,HD5,ht5,ho5,hn5,hb5⟩;have HD5:Hid (x5.d=dX D0):=(by have h:=HD5.out;rw [HD4.out] at h;exact h);have HT5:=Lib.hid ht5;obtain⟨x5_A,x5_c,x5_l,rfl,-,-⟩:=ht5.lst_ underlying29 (k:=3) (by kernel_rfl);obtain rfl:e5=.returned (.slice x5_A x5_l.length x5_c):=e5h;have HO5:=Lib.hid ho5;have HN5:=Lib.hid hn5;clear ho5 hn5 ht5;have hz5:=hb5.size;(try simp only [World.size_alloc,World.size_drew,World.heap_drewN,World.size_setCell] at hz5)
      go_wp2_with fail
      go_meet
      refine⟨x5_A,x5_c,x5_l,rfl,?_,?_,?_,?_,?_⟩
      ·exact HT5
      ·exact HD5
      ·refine E.Ho.fin HO5.out (fun hh=>?_) ?_ ?_
       ·(repeat (first|(with_reducible assumption)|(with_reducible refine E.Ho.drew ?_)|(with_reducible refine E.Ho.drewN ?_ _)|(with_reducible refine E.Ho.alloc ?_ ?_ _)|(with_reducible refine E.Ho.setAny ?_ ?_ _)|(refine E.Ho.below ?_ (by with_reducible assumption) ?_)|(first|omega|(dsimp only;omega)|(simp only [World.size_alloc,World.size_drew,World.heap_drewN,World.size_setCell];omega)|(simp;done)|(simp;omega))))
       ·(first|omega|(dsimp only;omega)|(simp only [World.size_alloc,World.size_drew,World.heap_drewN,World.size_setCell];omega)|(simp;done)|(simp;omega))
       ·(first|omega|(dsimp only;omega)|(simp only [World.size_alloc,World.size_drew,World.heap_drewN,World.size_setCell];omega)|(simp;done)|(simp;omega))
      ·exact HN5
      ·exact by0
     case rest =>
      obtain⟨x5_A,x5_c,x5_l,rfl,HT5,HD5,HO5_5,HN5,hb5⟩:=hcut
      obtain⟨W5,hWeq⟩:∃W:World,W=wc:=⟨_,rfl⟩
      subst hWeq
      have hs5:=hb5.size
      have B5_0:=(hb5.block g0 omq).trans B4_0
      clear B4_0
      have B5_1:=(hb5.block g1 omq).trans B4_1
      clear B4_1
      have RA5_0:(E.agg [.lst 6 155 a0_0A a0_0c a0_0l,.lst 3 158 a0_1A a0_1c a0_1l]).Re W5 0 w.heap.size:=RA4_0.below hb5 omq
      clear RA4_0
      have I5_3:=I4_3.below hb5 omq
      clear I4_3
      have HO5_4:=Lib.hid (HO4_4.out.below hb5 omq)
      clear HO4_4
      have hB5:Below w.heap.size w W5:=hB4.trans (hb5.mono omq)
      go_upto_region 8 with fail
      go_cut [26] (fun s26 wx=>s26=.bool false∧Below W5.heap.size W5 wx)
      case first =>
       have hwW:=hB5.size
       have hiW3:W3.heap.size≤W5.heap.size:=by omega
       have hiW5:W5.heap.size≤W5.heap.size:=by omega
       clear hs1 lu0 lb0 hs2 hs4 lu1 lb1 nb1_4
       clear B5_0 B5_1 HO5_4
       go_wp2_with fail
       go_at_call 29
       refine (je HT5.out HT3.out ((show (E.lst 3 36 x5_A x5_c x5_l).d=dX D0 from HD5.out).trans (show (E.lst 3 36 x3_A x3_c x3_l).d=dX D0 from HD3.out).symm) _ (by have h:(E.lst 3 36 x5_A x5_c x5_l).In W5:=HO5_5.out.inn;exact by2) (by have h:(E.lst 3 36 x3_A x3_c x3_l).In W5:=I5_3.inn omq;exact by2)).mono ?_;rintro e w6 ⟨rfl,hb6⟩;have hz6:=hb6.size;(try simp only [World.size_alloc,World.size_drew,World.heap_drewN,World.size_setCell] at hz6)
       go_wp2_with fail
       go_meet
       refine⟨rfl,?_⟩
       ·exact by0
      case rest =>
       obtain⟨rfl,hb6⟩:=hcut
       obtain⟨W6,hWeq⟩:∃W:World,W=wc:=⟨_,rfl⟩
       subst hWeq
       have hs6:=hb6.size
       have B6_0:=(hb6.block g0 omq).trans B5_0
       clear B5_0
       have B6_1:=(hb6.block g1 omq).trans B5_1
       clear B5_1
       have RA6_0:(E.agg [.lst 6 155 a0_0A a0_0c a0_0l,.lst 3 158 a0_1A a0_1c a0_1l]).Re W6 0 w.heap.size:=RA5_0.below hb6 omq
       clear RA5_0
       have I6_3:=I5_3.below hb6 omq
       clear I5_3
       have HO6_4:=Lib.hid (HO5_4.out.below hb6 omq)
       clear HO5_4
       have HO6_5:=Lib.hid (HO5_5.out.below hb6 omq)
       clear HO5_5
       have hB6:Below w.heap.size w W6:=hB5.trans (hb6.mono omq)
       go_upto_region 10 with fail
       go_cut [31] (fun s31 wx=>s31=.bool false∧Below W6.heap.size W6 wx)
       case first =>
        have hwW:=hB6.size
        have ltW1:g1<W6.heap.size:=by omega
        have ltW0:g0<W6.heap.size:=by omega
        have hiW4:W4.heap.size≤W6.heap.size:=by omega
        clear hs1 lu0 lb0 hs2 hs3 lu1 lb1 nb1_4 hs5 hs6
        clear I6_3 HO6_5
        have z0_1_0:W6.cell? ⟨g1,0,none⟩=some (.slice x4_0A x4_0l.length x4_0c):=aw B6_1 rfl
        have z0_1_1:W6.cell? ⟨g1,1,none⟩=some (.slice x4_1A x4_1l.length x4_1c):=aw B6_1 rfl
        have z0_0_0:W6.cell? ⟨g0,0,none⟩=some (.slice a0_0A a0_0l.length a0_0c):=aw B6_0 rfl
        have z0_0_1:W6.cell? ⟨g0,1,none⟩=some (.slice a0_1A a0_1l.length a0_1c):=aw B6_0 rfl
        go_region_held3 (fun w'=>w'.cell? ⟨g1,0,none⟩=some (.slice x4_0A x4_0l.length x4_0c)∧w'.cell? ⟨g1,1,none⟩=some (.slice x4_1A x4_1l.length x4_1c)∧w'.cell? ⟨g0,0,none⟩=some (.slice a0_0A a0_0l.length a0_0c)∧w'.cell? ⟨g0,1,none⟩=some (.slice a0_1A a0_1l.length a0_1c))
         (first|exact⟨z0_1_0,z0_1_1,z0_0_0,z0_0_1⟩|(refine⟨?_,?_,?_,?_⟩<;>(repeat (first|(with_reducible assumption)|(with_reducible refine cell_set_ne ?_ ?_)|(with_reducible refine cell_drew ?_)|(with_reducible refine cell_drewN ?_)|(with_reducible refine cQ ?_ ?_)|omega|(simp;done)|(simp;omega))))|skip)
         ((first
           | (go_at_call 23;(with_reducible change Calls _ _ #[.agg #[.slice a0_0A a0_0l.length a0_0c,.slice a0_1A a0_1l.length a0_1c]] _ _);refine (gJ TA0.out _ (by have h:(E.agg [.lst 6 155 a0_0A a0_0c a0_0l,.lst 3 158 a0_1A a0_1c a0_1l]).In W6:=E.Re.inn RA6_0 omq;exact by2) omq).mono ?_;rintro e7 w7 ⟨x7,e7h,HD7,ht7,ho7,hn7,hb7⟩;have HT7:=Lib.hid ht7;have HD7:=Lib.hid (HD7.out.trans HDa0.out);obtain⟨x7_0A,x7_0c,x7_0l,x7_1A,x7_1c,x7_1l,rfl,-,-,-⟩:=b8 ht7;obtain rfl:e7=.returned (.agg #[.slice x7_0A x7_0l.length x7_0c,.slice x7_1A x7_1l.length x7_1c]):=e7h;have HO7:=Lib.hid ho7;have HN7:=Lib.hid hn7;clear ht7 ho7 hn7;have hz7:=hb7.size;(try simp only [World.size_alloc,World.size_drew,World.heap_drewN,World.size_setCell] at hz7);have z7_1_0:w7.cell? ⟨g1,0,none⟩=some (.slice x4_0A x4_0l.length x4_0c):=aw (by exact (by repeat (first|(with_reducible assumption)|(with_reducible refine dj ?_)|(with_reducible refine hp_drewN ?_)|(with_reducible refine hp_alloc ?_ ?_)|(refine cL (by with_reducible assumption) ?_ ?_)|omega|(·simp)|(·(simp;omega)))):w7.heap[g1]? = some (.cells #[.slice x4_0A x4_0l.length x4_0c,.slice x4_1A x4_1l.length x4_1c] 27 (0,0))) rfl;have z7_1_1:w7.cell? ⟨g1,1,none⟩=some (.slice x4_1A x4_1l.length x4_1c):=aw (by exact (by repeat (first|(with_reducible assumption)|(with_reducible refine dj ?_)|(with_reducible refine hp_drewN ?_)|(with_reducible refine hp_alloc ?_ ?_)|(refine cL (by with_reducible assumption) ?_ ?_)|omega|(·simp)|(·(simp;omega)))):w7.heap[g1]? = some (.cells #[.slice x4_0A x4_0l.length x4_0c,.slice x4_1A x4_1l.length x4_1c] 27 (0,0))) rfl;have z7_0_0:w7.cell? ⟨g0,0,none⟩=some (.slice a0_0A a0_0l.length a0_0c):=aw (by exact (by repeat (first|(with_reducible assumption)|(with_reducible refine dj ?_)|(with_reducible refine hp_drewN ?_)|(with_reducible refine hp_alloc ?_ ?_)|(refine cL (by with_reducible assumption) ?_ ?_)|omega|(·simp)|(·(simp;omega)))):w7.heap[g0]? = some (.cells #[.slice a0_0A a0_0l.length a0_0c,.slice a0_1A a0_1l.length a0_1c] 47 (0,0))) rfl;have z7_0_1:w7.cell? ⟨g0,1,none⟩=some (.slice a0_1A a0_1l.length a0_1c):=aw (by exact (by repeat (first|(with_reducible assumption)|(with_reducible refine dj ?_)|(with_reducible refine hp_drewN ?_)|(with_reducible refine hp_alloc ?_ ?_)|(refine cL (by with_reducible assumption) ?_ ?_)|omega|(·simp)|(·(simp;omega)))):w7.heap[g0]? = some (.cells #[.slice a0_0A a0_0l.length a0_0c,.slice a0_1A a0_1l.length a0_1c] 47 (0,0))) rfl)
           | (go_at_call 25;refine (sg HT4.out HT7.out ((show (E.agg [.lst 6 87 x4_0A x4_0c x4_0l,.lst 3 89 x4_1A x4_1c x4_1l]).d=D0 from HD4.out).trans (show (E.agg [.lst 6 87 x7_0A x7_0c x7_0l,.lst 3 89 x7_1A x7_1c x7_1l]).d=D0 from HD7.out).symm) _ (by have h:(E.agg [.lst 6 87 x4_0A x4_0c x4_0l,.lst 3 89 x4_1A x4_1c x4_1l]).In W6:=HO6_4.out.inn;exact by2) (by have h:=HO7.out.inn;exact by2)).mono ?_;rintro e w8 ⟨rfl,hb8⟩;have hz8:=hb8.size;(try simp only [World.size_alloc,World.size_drew,World.heap_drewN,World.size_setCell] at hz8);have z8_1_0:w8.cell? ⟨g1,0,none⟩=some (.slice x4_0A x4_0l.length x4_0c):=aw (by exact (by repeat (first|(with_reducible assumption)|(with_reducible refine dj ?_)|(with_reducible refine hp_drewN ?_)|(with_reducible refine hp_alloc ?_ ?_)|(refine cL (by with_reducible assumption) ?_ ?_)|omega|(·simp)|(·(simp;omega)))):w8.heap[g1]? = some (.cells #[.slice x4_0A x4_0l.length x4_0c,.slice x4_1A x4_1l.length x4_1c] 27 (0,0))) rfl;have z8_1_1:w8.cell? ⟨g1,1,none⟩=some (.slice x4_1A x4_1l.length x4_1c):=aw (by exact (by repeat (first|(with_reducible assumption)|(with_reducible refine dj ?_)|(with_reducible refine hp_drewN ?_)|(with_reducible refine hp_alloc ?_ ?_)|(refine cL (by with_reducible assumption) ?_ ?_)|omega|(·simp)|(·(simp;omega)))):w8.heap[g1]? = some (.cells #[.slice x4_0A x4_0l.length x4_0c,.slice x4_1A x4_1l.length x4_1c] 27 (0,0))) rfl;have z8_0_0:w8.cell? ⟨g0,0,none⟩=some (.slice a0_0A a0_0l.length a0_0c):=aw (by exact (by repeat (first|(with_reducible assumption)|(with_reducible refine dj ?_)|(with_reducible refine hp_drewN ?_)|(with_reducible refine hp_alloc ?_ ?_)|(refine cL (by with_reducible assumption) ?_ ?_)|omega|(·simp)|(·(simp;omega)))):w8.heap[g0]? = some (.cells #[.slice a0_0A a0_0l.length a0_0c,.slice a0_1A a0_1l.length a0_1c] 47 (0,0))) rfl;have z8_0_1:w8.cell? ⟨g0,1,none⟩=some (.slice a0_1A a0_1l.length a0_1c):=aw (by exact (by repeat (first|(with_reducible assumption)|(with_reducible refine dj ?_)|(with_reducible refine hp_drewN ?_)|(with_reducible refine hp_alloc ?_ ?_)|(refine cL (by with_reducible assumption) ?_ ?_)|omega|(·simp)|(·(simp;omega)))):w8.heap[g0]? = some (.cells #[.slice a0_0A a0_0l.length a0_0c,.slice a0_1A a0_1l.length a0_1c] 47 (0,0))) rfl)))
        all_goals
         go_wp2_with fail
         go_meet
         refine⟨rfl,?_⟩
         ·exact by0
       case rest =>
        obtain⟨rfl,hb7⟩:=hcut
        obtain⟨W7,hWeq⟩:∃W:World,W=wc:=⟨_,rfl⟩
        subst hWeq
        have hs7:=hb7.size
        have B7_0:=(hb7.block g0 omq).trans B6_0
        clear B6_0
        have B7_1:=(hb7.block g1 omq).trans B6_1
        clear B6_1
        have RA7_0:(E.agg [.lst 6 155 a0_0A a0_0c a0_0l,.lst 3 158 a0_1A a0_1c a0_1l]).Re W7 0 w.heap.size:=RA6_0.below hb7 omq
        clear RA6_0
        have I7_3:=I6_3.below hb7 omq
        clear I6_3
        have HO7_4:=Lib.hid (HO6_4.out.below hb7 omq)
        clear HO6_4
        have HO7_5:=Lib.hid (HO6_5.out.below hb7 omq)
        clear HO6_5
        have hB7:Below w.heap.size w W7:=hB6.trans (hb7.mono omq)
        go_upto_region 13 with fail
        go_cut [7] (fun s7 wx=>s7=.int .i64 (1+((E.agg [.lst 6 87 x4_0A x4_0c x4_0l,.lst 3 89 x4_1A x4_1c x4_1l]).cnt:Int))∧Hid (((E.agg [.lst 6 87 x4_0A x4_0c x4_0l,.lst 3 89 x4_1A x4_1c x4_1l]).mk0 1).Ho wx W3.heap.size W4.heap.size)∧Hid (Fr (E.agg [.lst 6 87 x4_0A x4_0c x4_0l,.lst 3 89 x4_1A x4_1c x4_1l]).fp W7 wx))
        case first =>
         have hwW:=hB7.size
         have ltW1:g1<W7.heap.size:=by omega
         have hiW4:W4.heap.size≤W7.heap.size:=by omega
         clear hs1 lu0 lb0 hs2 hs3 lu1 lb1 nb1_4 hs5 hs6 hs7
         clear B7_0 I7_3 HO7_5
         have z0_1_0:W7.cell? ⟨g1,0,none⟩=some (.slice x4_0A x4_0l.length x4_0c):=aw B7_1 rfl
         have z0_1_1:W7.cell? ⟨g1,1,none⟩=some (.slice x4_1A x4_1l.length x4_1c):=aw B7_1 rfl
         go_wp2_with fail
         go_at_call 26
         refine (om HT4.out _ _ _ _ HO7_4.out HN4.out omq omq (by have:=qj HT4.out HD4 omq;omega)).mono ?_;rintro e w9 ⟨rfl,HOm9,hf9⟩
         go_wp2_with fail
         go_meet
         refine⟨rfl,?_,?_⟩
         ·exact HOm9
         ·exact hf9
        case rest =>
         obtain⟨rfl,HOm8_4,hF8⟩:=hcut
         obtain⟨W8,hWeq⟩:∃W:World,W=wc:=⟨_,rfl⟩
         subst hWeq
         have hs8:=hF8.out.size
         have B8_0:=(hF8.out.block g0 omq (fun hm=>by have:=HO7_4.out.lt _ hm;omega)).trans B7_0
         clear B7_0
         have B8_1:=(hF8.out.block g1 omq (nb1_4)).trans B7_1
         clear B7_1
         have RA8_0:(E.agg [.lst 6 155 a0_0A a0_0c a0_0l,.lst 3 158 a0_1A a0_1c a0_1l]).Re W8 0 w.heap.size:=RA7_0.kp (lo':=w.heap.size) (hi':=W7.heap.size) (hF8.out.kp (fun b hb=>by have:=HO7_4.out.lt b hb;omega)) (.inl (Nat.le_refl _))
         clear RA7_0
         have I8_3:=I7_3.kp (lo':=W3.heap.size) (hi':=W4.heap.size) (hF8.out.kp (fun b hb=>by have:=HO7_4.out.lt b hb;omega)) (.inl omq)
         clear I7_3
         have HO8_5:=Lib.hid (HO7_5.out.fr hF8.out (fun b hb hm=>by have h1:=HO7_5.out.lt b hb;have h2:=HO7_4.out.lt b hm;omega))
         clear HO7_5
         have hB8:Below w.heap.size w W8:=hB7.trans (hF8.out.below (fun b hb=>by have:=HO7_4.out.lt b hb;omega) omq)
         go_upto_region 14 with fail
         go_cut [42] (fun s42 wx=>s42=.bool false∧Below W8.heap.size W8 wx)
         case first =>
          have hwW:=hB8.size
          have hiW3:W3.heap.size≤W8.heap.size:=by omega
          have hiW5:W5.heap.size≤W8.heap.size:=by omega
          clear hs1 lu0 lb0 hs2 hs4 lu1 lb1 nb1_4 hs6 hs7 hs8
          clear B8_0 B8_1 HOm8_4
          go_wp2_with fail
          go_at_call 29
          refine (je HT5.out HT3.out ((show (E.lst 3 36 x5_A x5_c x5_l).d=dX D0 from HD5.out).trans (show (E.lst 3 36 x3_A x3_c x3_l).d=dX D0 from HD3.out).symm) _ (by have h:(E.lst 3 36 x5_A x5_c x5_l).In W8:=HO8_5.out.inn;exact by2) (by have h:(E.lst 3 36 x3_A x3_c x3_l).In W8:=I8_3.inn omq;exact by2)).mono ?_;rintro e w10 ⟨rfl,hb10⟩;have hz10:=hb10.size;(try simp only [World.size_alloc,World.size_drew,World.heap_drewN,World.size_setCell] at hz10)
          go_wp2_with fail
          go_meet
          refine⟨rfl,?_⟩
          ·exact by0
         case rest =>
          obtain⟨rfl,hb9⟩:=hcut
          obtain⟨W9,hWeq⟩:∃W:World,W=wc:=⟨_,rfl⟩
          subst hWeq
          have hs9:=hb9.size
          have B9_0:=(hb9.block g0 omq).trans B8_0
          clear B8_0
          have B9_1:=(hb9.block g1 omq).trans B8_1
          clear B8_1
          have RA9_0:(E.agg [.lst 6 155 a0_0A a0_0c a0_0l,.lst 3 158 a0_1A a0_1c a0_1l]).Re W9 0 w.heap.size:=RA8_0.below hb9 omq
          clear RA8_0
          have I9_3:=I8_3.below hb9 omq
          clear I8_3
          have HOm9_4:=Lib.hid (HOm8_4.out.below hb9 omq)
          clear HOm8_4
          have HO9_5:=Lib.hid (HO8_5.out.below hb9 omq)
          clear HO8_5
          have hB9:Below w.heap.size w W9:=hB8.trans (hb9.mono omq)
          go_upto_region 17 with fail
          go_cut [8] (fun s8 wx=>s8=.int .i64 (1+((E.lst 3 36 x5_A x5_c x5_l).cnt:Int))∧Hid (((E.lst 3 36 x5_A x5_c x5_l).mk0 1).Ho wx W4.heap.size W5.heap.size)∧Hid (Fr (E.lst 3 36 x5_A x5_c x5_l).fp W9 wx))
          case first =>
           have hwW:=hB9.size
           have hiW5:W5.heap.size≤W9.heap.size:=by omega
           clear hs1 lu0 lb0 hs2 hs3 hs4 lu1 lb1 nb1_4 hs6 hs7 hs8 hs9
           clear B9_0 B9_1 I9_3 HOm9_4
           go_wp2_with fail
           go_at_call 30
           refine (oF HT5.out _ _ _ _ HO9_5.out HN5.out omq omq (by have:=qj HT5.out HD5 (kY hD0);omega)).mono ?_;rintro e w11 ⟨rfl,HOm11,hf11⟩
           go_wp2_with fail
           go_meet
           refine⟨rfl,?_,?_⟩
           ·exact HOm11
           ·exact hf11
          case rest =>
           obtain⟨rfl,HOm10_5,hF10⟩:=hcut
           obtain⟨W10,hWeq⟩:∃W:World,W=wc:=⟨_,rfl⟩
           subst hWeq
           have hs10:=hF10.out.size
           have B10_0:=(hF10.out.block g0 omq (fun hm=>by have:=HO9_5.out.lt _ hm;omega)).trans B9_0
           clear B9_0
           have B10_1:=(hF10.out.block g1 omq (fun hm=>by have:=HO9_5.out.lt _ hm;omega)).trans B9_1
           clear B9_1
           have RA10_0:(E.agg [.lst 6 155 a0_0A a0_0c a0_0l,.lst 3 158 a0_1A a0_1c a0_1l]).Re W10 0 w.heap.size:=RA9_0.kp (lo':=w.heap.size) (hi':=W9.heap.size) (hF10.out.kp (fun b hb=>by have:=HO9_5.out.lt b hb;omega)) (.inl (Nat.le_refl _))
           clear RA9_0
           have I10_3:=I9_3.kp (lo':=W4.heap.size) (hi':=W5.heap.size) (hF10.out.kp (fun b hb=>by have:=HO9_5.out.lt b hb;omega)) (.inl omq)
           clear I9_3
           have hB10:Below w.heap.size w W10:=hB9.trans (hF10.out.below (fun b hb=>by have:=HO9_5.out.lt b hb;omega) omq)
           go_upto_region 19 with fail
           go_cut [9] (fun s9 wx=>s9=.int .i64 (1+((E.lst 3 36 x5_A x5_c x5_l).cnt:Int))∧Below W10.heap.size W10 wx)
           case first =>
            have hwW:=hB10.size
            have hiW5:W5.heap.size≤W10.heap.size:=by omega
            clear hs1 lu0 lb0 hs2 hs3 hs4 lu1 lb1 nb1_4 hs6 hs7 hs8 hs9 hs10
            clear B10_0 B10_1 I10_3
            go_wp2_with fail
            go_at_call 31
            refine (jz HT5.out _ _ (by have h:((E.lst 3 36 x5_A x5_c x5_l).mk0 1).In W10:=HOm10_5.out.inn;exact by2) omq (by have:=qj HT5.out HD5 (kY hD0);omega)).mono ?_;rintro e w12 ⟨rfl,hb12⟩
            go_wp2_with fail
            go_meet
            refine⟨rfl,?_⟩
            ·exact by0
           case rest =>
            obtain⟨rfl,hb11⟩:=hcut
            obtain⟨W11,hWeq⟩:∃W:World,W=wc:=⟨_,rfl⟩
            subst hWeq
            have hs11:=hb11.size
            have B11_0:=(hb11.block g0 omq).trans B10_0
            clear B10_0
            have B11_1:=(hb11.block g1 omq).trans B10_1
            clear B10_1
            have RA11_0:(E.agg [.lst 6 155 a0_0A a0_0c a0_0l,.lst 3 158 a0_1A a0_1c a0_1l]).Re W11 0 w.heap.size:=RA10_0.below hb11 omq
            clear RA10_0
            have I11_3:=I10_3.below hb11 omq
            clear I10_3
            have HOm11_5:=Lib.hid (HOm10_5.out.below hb11 omq)
            clear HOm10_5
            have hB11:Below w.heap.size w W11:=hB10.trans (hb11.mono omq)
            go_upto_region 24 with fail
            go_cut [10] (fun s10 wx=>∃(x14_A:Option Addr) (x14_c:Nat) (x14_l:List E),s10=.slice x14_A x14_l.length x14_c∧Hid ((E.lst 3 36 x14_A x14_c x14_l).Ty prog 29)∧Hid ((E.lst 3 36 x14_A x14_c x14_l).d=dX D0)∧Hid ((E.lst 3 36 x14_A x14_c x14_l).Ho wx W11.heap.size wx.heap.size)∧Hid (E.lst 3 36 x14_A x14_c x14_l).fp.Nodup∧Below W11.heap.size W11 wx)
            case first =>
             have hwW:=hB11.size
             have ltW0:g0<W11.heap.size:=by omega
             clear hs1 lu0 lb0 hs2 hs3 hs4 lu1 lb1 nb1_4 hs5 hs6 hs7 hs8 hs9 hs10 hs11
             clear B11_1 I11_3 HOm11_5
             have z0_0_0:W11.cell? ⟨g0,0,none⟩=some (.slice a0_0A a0_0l.length a0_0c):=aw B11_0 rfl
             have z0_0_1:W11.cell? ⟨g0,1,none⟩=some (.slice a0_1A a0_1l.length a0_1c):=aw B11_0 rfl
             go_wp2_with fail
             go_at_call 23
             (with_reducible change Calls _ _ #[.agg #[.slice a0_0A a0_0l.length a0_0c,.slice a0_1A a0_1l.length a0_1c]] _ _);refine (gJ TA0.out _ (by have h:(E.agg [.lst 6 155 a0_0A a0_0c a0_0l,.lst 3 158 a0_1A a0_1c a0_1l]).In W11:=E.Re.inn RA11_0 omq;exact by2) omq).mono ?_;rintro e13 w13 ⟨x13,e13h,HD13,ht13,ho13,hn13,hb13⟩;have HT13:=Lib.hid ht13;have HD13:=Lib.hid (HD13.out.trans HDa0.out);obtain⟨x13_0A,x13_0c,x13_0l,x13_1A,x13_1c,x13_1l,rfl,-,-,-⟩:=b8 ht13;obtain rfl:e13=.returned (.agg #[.slice x13_0A x13_0l.length x13_0c,.slice x13_1A x13_1l.length x13_1c]):=e13h;have HO13:=Lib.hid ho13;have HN13:=Lib.hid hn13;clear ht13 ho13 hn13;have hz13:=hb13.size;(try simp only [World.size_alloc,World.size_drew,World.heap_drewN,World.size_setCell] at hz13)
             have z13_0_0:w13.cell? ⟨g0,0,none⟩=some (.slice a0_0A a0_0l.length a0_0c):=aw (by exact (by repeat (first|(with_reducible assumption)|(with_reducible refine dj ?_)|(with_reducible refine hp_drewN ?_)|(with_reducible refine hp_alloc ?_ ?_)|(refine cL (by with_reducible assumption) ?_ ?_)|omega|(·simp)|(·(simp;omega)))):w13.heap[g0]? = some (.cells #[.slice a0_0A a0_0l.length a0_0c,.slice a0_1A a0_1l.length a0_1c] 47 (0,0))) rfl
             have z13_0_1:w13.cell? ⟨g0,1,none⟩=some (.slice a0_1A a0_1l.length a0_1c):=aw (by exact (by repeat (first|(with_reducible assumption)|(with_reducible refine dj ?_)|(with_reducible refine hp_drewN ?_)|(with_reducible refine hp_alloc ?_ ?_)|(refine cL (by with_reducible assumption) ?_ ?_)|omega|(·simp)|(·(simp;omega)))):w13.heap[g0]? = some (.cells #[.slice a0_0A a0_0l.length a0_0c,.slice a0_1A a0_1l.length a0_1c] 47 (0,0))) rfl
             go_wp2_with fail
             go_at_call 13
             refine (gS HT13.out _ (by have h:=HO13.out.inn;exact by2) (wH HD13 hD0)).mono ?_;rintro e14 w14 ⟨x14,e14h,HD14,ht14,ho14,hn14,hb14⟩;have HD14:Hid (x14.d=dX D0):=(by have h:=HD14.out;rw [HD13.out] at h;exact h);have HT14:=Lib.hid ht14;obtain⟨x14_A,x14_c,x14_l,rfl,-,-⟩:=ht14.lst_ underlying29 (k:=3) (by kernel_rfl);obtain rfl:e14=.returned (.slice x14_A x14_l.length x14_c):=e14h;have HO14:=Lib.hid ho14;have HN14:=Lib.hid hn14;clear ho14 hn14 ht14;have hz14:=hb14.size;(try simp only [World.size_alloc,World.size_drew,World.heap_drewN,World.size_setCell] at hz14)
             have z14_0_0:w14.cell? ⟨g0,0,none⟩=some (.slice a0_0A a0_0l.length a0_0c):=aw (by exact (by repeat (first|(with_reducible assumption)|(with_reducible refine dj ?_)|(with_reducible refine hp_drewN ?_)|(with_reducible refine hp_alloc ?_ ?_)|(refine cL (by with_reducible assumption) ?_ ?_)|omega|(·simp)|(·(simp;omega)))):w14.heap[g0]? = some (.cells #[.slice a0_0A a0_0l.length a0_0c,.slice a0_1A a0_1l.length a0_1c] 47 (0,0))) rfl
             have z14_0_1:w14.cell? ⟨g0,1,none⟩=some (.slice a0_1A a0_1l.length a0_1c):=aw (by exact (by repeat (first|(with_reducible assumption)|(with_reducible refine dj ?_)|(with_reducible refine hp_drewN ?_)|(with_reducible refine hp_alloc ?_ ?_)|(refine cL (by with_reducible assumption) ?_ ?_)|omega|(·simp)|(·(simp;omega)))):w14.heap[g0]? = some (.cells #[.slice a0_0A a0_0l.length a0_0c,.slice a0_1A a0_1l.length a0_1c] 47 (0,0))) rfl
             go_wp2_with fail
             go_meet
             refine⟨x14_A,x14_c,x14_l,rfl,?_,?_,?_,?_,?_⟩
             ·exact HT14
             ·exact HD14
             ·refine E.Ho.fin HO14.out (fun hh=>?_) ?_ ?_
              ·(repeat (first|(with_reducible assumption)|(with_reducible refine E.Ho.drew ?_)|(with_reducible refine E.Ho.drewN ?_ _)|(with_reducible refine E.Ho.alloc ?_ ?_ _)|(with_reducible refine E.Ho.setAny ?_ ?_ _)|(refine E.Ho.below ?_ (by with_reducible assumption) ?_)|(first|omega|(dsimp only;omega)|(simp only [World.size_alloc,World.size_drew,World.heap_drewN,World.size_setCell];omega)|(simp;done)|(simp;omega))))
              ·(first|omega|(dsimp only;omega)|(simp only [World.size_alloc,World.size_drew,World.heap_drewN,World.size_setCell];omega)|(simp;done)|(simp;omega))
              ·(first|omega|(dsimp only;omega)|(simp only [World.size_alloc,World.size_drew,World.heap_drewN,World.size_setCell];omega)|(simp;done)|(simp;omega))
             ·exact HN14
             ·exact by0
            case rest =>
             obtain⟨x14_A,x14_c,x14_l,rfl,HT14,HD14,HO12_14,HN14,hb12⟩:=hcut
             obtain⟨W12,hWeq⟩:∃W:World,W=wc:=⟨_,rfl⟩
             subst hWeq
             have hs12:=hb12.size
             have B12_0:=(hb12.block g0 omq).trans B11_0
             clear B11_0
             have B12_1:=(hb12.block g1 omq).trans B11_1
             clear B11_1
             have RA12_0:(E.agg [.lst 6 155 a0_0A a0_0c a0_0l,.lst 3 158 a0_1A a0_1c a0_1l]).Re W12 0 w.heap.size:=RA11_0.below hb12 omq
             clear RA11_0
             have I12_3:=I11_3.below hb12 omq
             clear I11_3
             have HOm12_5:=Lib.hid (HOm11_5.out.below hb12 omq)
             clear HOm11_5
             have hB12:Below w.heap.size w W12:=hB11.trans (hb12.mono omq)
             go_upto_region 25 with fail
             go_cut [60] (fun s60 wx=>s60=.bool false∧Below W12.heap.size W12 wx)
             case first =>
              have hwW:=hB12.size
              have hiW3:W3.heap.size≤W12.heap.size:=by omega
              have hiW14:W12.heap.size≤W12.heap.size:=by omega
              clear hs1 lu0 lb0 hs2 hs4 lu1 lb1 nb1_4 hs5 hs6 hs7 hs8 hs9 hs10 hs11
              clear B12_0 B12_1 HOm12_5
              go_wp2_with fail
              go_at_call 29
              refine (je HT14.out HT3.out ((show (E.lst 3 36 x14_A x14_c x14_l).d=dX D0 from HD14.out).trans (show (E.lst 3 36 x3_A x3_c x3_l).d=dX D0 from HD3.out).symm) _ (by have h:(E.lst 3 36 x14_A x14_c x14_l).In W12:=HO12_14.out.inn;exact by2) (by have h:(E.lst 3 36 x3_A x3_c x3_l).In W12:=I12_3.inn omq;exact by2)).mono ?_;rintro e w15 ⟨rfl,hb15⟩;have hz15:=hb15.size;(try simp only [World.size_alloc,World.size_drew,World.heap_drewN,World.size_setCell] at hz15)
              go_wp2_with fail
              go_meet
              refine⟨rfl,?_⟩
              ·exact by0
             case rest =>
              obtain⟨rfl,hb13⟩:=hcut
              obtain⟨W13,hWeq⟩:∃W:World,W=wc:=⟨_,rfl⟩
              subst hWeq
              have hs13:=hb13.size
              have B13_0:=(hb13.block g0 omq).trans B12_0
              clear B12_0
              have B13_1:=(hb13.block g1 omq).trans B12_1
              clear B12_1
              have RA13_0:(E.agg [.lst 6 155 a0_0A a0_0c a0_0l,.lst 3 158 a0_1A a0_1c a0_1l]).Re W13 0 w.heap.size:=RA12_0.below hb13 omq
              clear RA12_0
              have I13_3:=I12_3.below hb13 omq
              clear I12_3
              have HOm13_5:=Lib.hid (HOm12_5.out.below hb13 omq)
              clear HOm12_5
              have HO13_14:=Lib.hid (HO12_14.out.below hb13 omq)
              clear HO12_14
              have hB13:Below w.heap.size w W13:=hB12.trans (hb13.mono omq)
              go_upto_region 28 with fail
              go_cut [9] (fun s9 wx=>s9=.int .i64 (1+((E.lst 3 36 x5_A x5_c x5_l).cnt:Int))∧Below W13.heap.size W13 wx)
              case first =>
               have hwW:=hB13.size
               have hiW5:W5.heap.size≤W13.heap.size:=by omega
               clear hs1 lu0 lb0 hs2 hs3 hs4 lu1 lb1 nb1_4 hs6 hs7 hs8 hs9 hs10 hs11 hs12 hs13
               clear B13_0 B13_1 I13_3 HO13_14
               go_wp2_with fail
               go_at_call 31
               refine (jz HT5.out _ _ (by have h:((E.lst 3 36 x5_A x5_c x5_l).mk0 1).In W13:=HOm13_5.out.inn;exact by2) omq (by have:=qj HT5.out HD5 (kY hD0);omega)).mono ?_;rintro e w16 ⟨rfl,hb16⟩
               go_wp2_with fail
               go_meet
               refine⟨rfl,?_⟩
               ·exact by0
              case rest =>
               obtain⟨rfl,hb14⟩:=hcut
               obtain⟨W14,hWeq⟩:∃W:World,W=wc:=⟨_,rfl⟩
               subst hWeq
               have hs14:=hb14.size
               have B14_0:=(hb14.block g0 omq).trans B13_0
               clear B13_0
               have B14_1:=(hb14.block g1 omq).trans B13_1
               clear B13_1
               have RA14_0:(E.agg [.lst 6 155 a0_0A a0_0c a0_0l,.lst 3 158 a0_1A a0_1c a0_1l]).Re W14 0 w.heap.size:=RA13_0.below hb14 omq
               clear RA13_0
               have I14_3:=I13_3.below hb14 omq
               clear I13_3
               have HOm14_5:=Lib.hid (HOm13_5.out.below hb14 omq)
               clear HOm13_5
               have HO14_14:=Lib.hid (HO13_14.out.below hb14 omq)
               clear HO13_14
               have hB14:Below w.heap.size w W14:=hB13.trans (hb14.mono omq)
               go_wp2
               go_ret
               exact⟨rfl,hB14⟩
end Go.Proofs.YtmnneflenebgmaaGreat
