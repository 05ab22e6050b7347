/- The law FnExactProgText, walked. -/
import Derived.Deep.DeepCutAuto
import Derived.Test.YtnjfnhoipnbpeaaGreatDoorTxtPAN
namespace Go.Proofs.YtnjfnhoipnbpeaaGreatDoor
open Go.RowKit
set_option maxRecDepth 100000 in
set_option maxHeartbeats 8000000 in
theorem zs16 (w:World){a0:E}(ta0:a0.Ty Tryz.prog 25)(ra0:a0.In w)(gl0:Gl w) :
 Calls Tryz.prog 3 #[a0.val] w fun e w'=>e=.returned (.bool true)∧Below w.heap.size w w':=by
 have TA0:=Lib.hid ta0
 obtain⟨D0,HDa0⟩:∃D:E,Hid (a0.d=D):=⟨_,rfl⟩
 obtain⟨a0_0A,a0_0c,a0_0l,a0_1A,a0_1c,a0_1l,rfl,ga0_0,ga0_1,-⟩:=zg5 ta0
 change Calls _ _ #[.agg #[.slice a0_0A a0_0l.length a0_0c,.slice a0_1A a0_1l.length a0_1c]] w _
 go_enter Tryz.func3,Tryz.ntmps3
 go_upto_region 0 with fail
 go_cut [1,2] (fun s1 s2 wx=>∃(g0:Nat),s1=.pointer (some ⟨g0,0,none⟩)∧s2=.bool false∧wx.heap[g0]? = some (.cells #[.slice a0_0A a0_0l.length a0_0c,.slice a0_1A a0_1l.length a0_1c] 25 (0,0))∧w.heap.size≤g0∧Below w.heap.size w wx)
 case first =>
  go_wp2_with fail
  go_meet
  refine⟨_,rfl,rfl,?_,?_,?_⟩
  ·(repeat (first|(with_reducible assumption)|(with_reducible refine zm4 ?_)|(with_reducible refine zx3 ?_)|(refine hp_new ?_;first|rfl|(simp;done))|(with_reducible refine zv3 ?_ ?_)|(refine zw3 (by with_reducible assumption) ?_ ?_)|omega|(·simp)|(·(simp;omega))))
  ·first|omega|(simp;done)|(simp;omega)
  ·exact by0
 case rest =>
  obtain⟨g0,rfl,rfl,B1_0,lb0,hb1⟩:=hcut
  obtain⟨W1,hWeq⟩:∃W:World,W=wc:=⟨_,rfl⟩
  subst hWeq
  have hs1:=hb1.size
  have lu0:=blk_lt B1_0
  have RA1_0:(E.agg [.lst 6 60 a0_0A a0_0c a0_0l,.lst 3 63 a0_1A a0_1c a0_1l]).Re W1 0 w.heap.size:=(show (E.agg [.lst 6 60 a0_0A a0_0c a0_0l,.lst 3 63 a0_1A a0_1c a0_1l]).Re w 0 w.heap.size from ra0).below hb1 (by omega)
  have hB1:Below w.heap.size w W1:=hb1
  go_upto_region 2 with fail
  go_cut [3] (fun s3 wx=>∃(r1:Int),s3=.int .i64 r1∧(r1<0∨Hid (r1+(E.agg [.lst 6 60 a0_0A a0_0c a0_0l,.lst 3 63 a0_1A a0_1c a0_1l]).sz=1048576))∧r1≤1048576∧Below W1.heap.size W1 wx)
  case first =>
   have hwW:=hB1.size
   have ltW0:g0<W1.heap.size:=by omega
   clear hs1 lu0 lb0
   have z0_0_0:W1.cell? ⟨g0,0,none⟩=some (.slice a0_0A a0_0l.length a0_0c):=zi1 B1_0 rfl
   have z0_0_1:W1.cell? ⟨g0,1,none⟩=some (.slice a0_1A a0_1l.length a0_1c):=zi1 B1_0 rfl
   go_wp2_with fail
   go_at_call 4
   refine (zy21 TA0.out _ _ (by have h:(E.agg [.lst 6 60 a0_0A a0_0c a0_0l,.lst 3 63 a0_1A a0_1c a0_1l]).In W1:=E.Re.inn RA1_0 (by omega);exact by2) (by omega) (by omega)).mono ?_;rintro e w1 ⟨r1,rfl,hr1,hl1,hb1⟩
   go_wp2_with fail
   go_meet
   refine⟨r1,rfl,?_,?_,?_⟩
   ·exact hr1
   ·exact hl1
   ·exact by0
  case rest =>
   obtain⟨r1,rfl,hr1,hl1,hb2⟩:=hcut
   obtain⟨W2,hWeq⟩:∃W:World,W=wc:=⟨_,rfl⟩
   subst hWeq
   have hs2:=hb2.size
   have B2_0:=(hb2.block g0 (by omega)).trans B1_0
   clear B1_0
   have RA2_0:(E.agg [.lst 6 60 a0_0A a0_0c a0_0l,.lst 3 63 a0_1A a0_1c a0_1l]).Re W2 0 w.heap.size:=RA1_0.below hb2 (by omega)
   clear RA1_0
   have hB2:Below w.heap.size w W2:=hB1.trans (hb2.mono (by omega))
   by_cases hn1:r1<0
   ·go_wp2
    go_ret
    exact⟨rfl,hB2⟩
   have HR1:=hr1.resolve_left hn1
   clear hr1
   have hz1:(E.agg [.lst 6 60 a0_0A a0_0c a0_0l,.lst 3 63 a0_1A a0_1c a0_1l]).sz≤1048576:=by have:=HR1.out;omega
   have hD0:D0.sz≤1048576:=by rw [←HDa0.out,E.sz_d];exact hz1
   go_upto_region 5 with fail
   go_cut [4] (fun s4 wx=>s4=.string (prTxD D0)∧Below W2.heap.size W2 wx)
   case first =>
    have hwW:=hB2.size
    have ltW0:g0<W2.heap.size:=by omega
    clear hs1 lu0 lb0 hs2
    have z0_0_0:W2.cell? ⟨g0,0,none⟩=some (.slice a0_0A a0_0l.length a0_0c):=zi1 B2_0 rfl
    have z0_0_1:W2.cell? ⟨g0,1,none⟩=some (.slice a0_1A a0_1l.length a0_1c):=zi1 B2_0 rfl
    go_wp2_with fail
    go_at_call 6
    (with_reducible change Calls _ _ #[.agg #[.slice a0_0A a0_0l.length a0_0c,.slice a0_1A a0_1l.length a0_1c]] _ _);refine (zy8 TA0.out _ (by have h:(E.agg [.lst 6 60 a0_0A a0_0c a0_0l,.lst 3 63 a0_1A a0_1c a0_1l]).In W2:=E.Re.inn RA2_0 (by omega);exact by2) (by omega)).mono ?_;rintro e2 w2 ⟨x2,e2h,HD2,ht2,ho2,hn2,hb2⟩;have HT2:=Lib.hid ht2;have HD2:=Lib.hid (HD2.out.trans HDa0.out);obtain⟨x2_0A,x2_0c,x2_0l,x2_1A,x2_1c,x2_1l,rfl,-,-,-⟩:=zh3 ht2;obtain rfl:e2=.returned (.agg #[.slice x2_0A x2_0l.length x2_0c,.slice x2_1A x2_1l.length x2_1c]):=e2h;have HO2:=Lib.hid ho2;have HN2:=Lib.hid hn2;clear ht2 ho2 hn2;have hz2:=hb2.size;(try simp only [World.size_alloc,World.size_drew,World.heap_drewN,World.size_setCell] at hz2)
    have z2_0_0:w2.cell? ⟨g0,0,none⟩=some (.slice a0_0A a0_0l.length a0_0c):=zi1 (by exact (by repeat (first|(with_reducible assumption)|(with_reducible refine zm4 ?_)|(with_reducible refine zx3 ?_)|(with_reducible refine zv3 ?_ ?_)|(refine zw3 (by with_reducible assumption) ?_ ?_)|omega|(·simp)|(·(simp;omega)))):w2.heap[g0]? = some (.cells #[.slice a0_0A a0_0l.length a0_0c,.slice a0_1A a0_1l.length a0_1c] 25 (0,0))) rfl
    have z2_0_1:w2.cell? ⟨g0,1,none⟩=some (.slice a0_1A a0_1l.length a0_1c):=zi1 (by exact (by repeat (first|(with_reducible assumption)|(with_reducible refine zm4 ?_)|(with_reducible refine zx3 ?_)|(with_reducible refine zv3 ?_ ?_)|(refine zw3 (by with_reducible assumption) ?_ ?_)|omega|(·simp)|(·(simp;omega)))):w2.heap[g0]? = some (.cells #[.slice a0_0A a0_0l.length a0_0c,.slice a0_1A a0_1l.length a0_1c] 25 (0,0))) rfl
    go_wp2_with fail
    go_at_call 5
    refine (zh12 HT2.out _ (by have h:=HO2.out.inn;exact by2) (sz_le HD2 hD0)).mono ?_;rintro e3 w3 ⟨e3h,hb3⟩;rw [HD2.out] at e3h;obtain rfl:e3=.returned (.string (prTxD D0)):=e3h;have hz3:=hb3.size;(try simp only [World.size_alloc,World.size_drew,World.heap_drewN,World.size_setCell] at hz3)
    have z3_0_0:w3.cell? ⟨g0,0,none⟩=some (.slice a0_0A a0_0l.length a0_0c):=zi1 (by exact (by repeat (first|(with_reducible assumption)|(with_reducible refine zm4 ?_)|(with_reducible refine zx3 ?_)|(with_reducible refine zv3 ?_ ?_)|(refine zw3 (by with_reducible assumption) ?_ ?_)|omega|(·simp)|(·(simp;omega)))):w3.heap[g0]? = some (.cells #[.slice a0_0A a0_0l.length a0_0c,.slice a0_1A a0_1l.length a0_1c] 25 (0,0))) rfl
    have z3_0_1:w3.cell? ⟨g0,1,none⟩=some (.slice a0_1A a0_1l.length a0_1c):=zi1 (by exact (by repeat (first|(with_reducible assumption)|(with_reducible refine zm4 ?_)|(with_reducible refine zx3 ?_)|(with_reducible refine zv3 ?_ ?_)|(refine zw3 (by with_reducible assumption) ?_ ?_)|omega|(·simp)|(·(simp;omega)))):w3.heap[g0]? = some (.cells #[.slice a0_0A a0_0l.length a0_0c,.slice a0_1A a0_1l.length a0_1c] 25 (0,0))) rfl
    go_wp2_with fail
    go_meet
    refine⟨rfl,?_⟩
    ·exact by0
   case rest =>
    obtain⟨rfl,hb3⟩:=hcut
    obtain⟨W3,hWeq⟩:∃W:World,W=wc:=⟨_,rfl⟩
    subst hWeq
    have hs3:=hb3.size
    have B3_0:=(hb3.block g0 (by omega)).trans B2_0
    clear B2_0
    have RA3_0:(E.agg [.lst 6 60 a0_0A a0_0c a0_0l,.lst 3 63 a0_1A a0_1c a0_1l]).Re W3 0 w.heap.size:=RA2_0.below hb3 (by omega)
    clear RA2_0
    have hB3:Below w.heap.size w W3:=hB2.trans (hb3.mono (by omega))
    go_upto_region 6 with fail
    go_cut [5] (fun s5 wx=>∃(g1:Nat) (x4_0A:Option Addr) (x4_0c:Nat) (x4_0l:List E) (x4_1A:Option Addr) (x4_1c:Nat) (x4_1l:List E),s5=.pointer (some ⟨g1,0,none⟩)∧wx.heap[g1]? = some (.cells #[.slice x4_0A x4_0l.length x4_0c,.slice x4_1A x4_1l.length x4_1c] 31 (0,0))∧W3.heap.size≤g1∧g1∉(E.agg [.lst 6 47 x4_0A x4_0c x4_0l,.lst 3 41 x4_1A x4_1c x4_1l]).fp∧Hid ((E.agg [.lst 6 47 x4_0A x4_0c x4_0l,.lst 3 41 x4_1A x4_1c x4_1l]).Ty Tryz.prog 31)∧Hid ((E.agg [.lst 6 47 x4_0A x4_0c x4_0l,.lst 3 41 x4_1A x4_1c x4_1l]).d=D0)∧Hid ((E.agg [.lst 6 47 x4_0A x4_0c x4_0l,.lst 3 41 x4_1A x4_1c x4_1l]).Ho wx W3.heap.size wx.heap.size)∧Hid (E.agg [.lst 6 47 x4_0A x4_0c x4_0l,.lst 3 41 x4_1A x4_1c x4_1l]).fp.Nodup∧Below W3.heap.size W3 wx)
    case first =>
     have hwW:=hB3.size
     have ltW0:g0<W3.heap.size:=by omega
     clear hs1 lu0 lb0 hs2 hs3
     have z0_0_0:W3.cell? ⟨g0,0,none⟩=some (.slice a0_0A a0_0l.length a0_0c):=zi1 B3_0 rfl
     have z0_0_1:W3.cell? ⟨g0,1,none⟩=some (.slice a0_1A a0_1l.length a0_1c):=zi1 B3_0 rfl
     go_wp2_with fail
     go_at_call 6
     (with_reducible change Calls _ _ #[.agg #[.slice a0_0A a0_0l.length a0_0c,.slice a0_1A a0_1l.length a0_1c]] _ _);refine (zy8 TA0.out _ (by have h:(E.agg [.lst 6 60 a0_0A a0_0c a0_0l,.lst 3 63 a0_1A a0_1c a0_1l]).In W3:=E.Re.inn RA3_0 (by omega);exact by2) (by omega)).mono ?_;rintro e4 w4 ⟨x4,e4h,HD4,ht4,ho4,hn4,hb4⟩;have HT4:=Lib.hid ht4;have HD4:=Lib.hid (HD4.out.trans HDa0.out);obtain⟨x4_0A,x4_0c,x4_0l,x4_1A,x4_1c,x4_1l,rfl,-,-,-⟩:=zh3 ht4;obtain rfl:e4=.returned (.agg #[.slice x4_0A x4_0l.length x4_0c,.slice x4_1A x4_1l.length x4_1c]):=e4h;have HO4:=Lib.hid ho4;have HN4:=Lib.hid hn4;clear ht4 ho4 hn4;have hz4:=hb4.size;(try simp only [World.size_alloc,World.size_drew,World.heap_drewN,World.size_setCell] at hz4)
     go_wp2_with fail
     go_meet
     refine⟨_,x4_0A,x4_0c,x4_0l,x4_1A,x4_1c,x4_1l,rfl,?_,?_,?_,?_,?_,?_,?_,?_⟩
     ·(repeat (first|(with_reducible assumption)|(with_reducible refine zm4 ?_)|(with_reducible refine zx3 ?_)|(refine hp_new ?_;first|rfl|(simp;done))|(with_reducible refine zv3 ?_ ?_)|(refine zw3 (by with_reducible assumption) ?_ ?_)|omega|(·simp)|(·(simp;omega))))
     ·first|omega|(simp;done)|(simp;omega)
     ·(intro hm;have h:=HO4.out.lt _ hm;(try simp only [World.size_alloc,World.size_drew,World.heap_drewN,World.size_setCell] at h);omega)
     ·exact HT4
     ·exact HD4
     ·refine E.Ho.fin HO4.out (fun hh=>?_) ?_ ?_
      ·(repeat (first|(with_reducible assumption)|(with_reducible refine E.Ho.drew ?_)|(with_reducible refine E.Ho.drewN ?_ _)|(with_reducible refine E.Ho.alloc ?_ ?_ _)|(with_reducible refine E.Ho.setAny ?_ ?_ _)|(refine E.Ho.below ?_ (by with_reducible assumption) ?_)|(first|omega|(dsimp only;omega)|(simp only [World.size_alloc,World.size_drew,World.heap_drewN,World.size_setCell];omega)|(simp;done)|(simp;omega))))
      ·(first|omega|(dsimp only;omega)|(simp only [World.size_alloc,World.size_drew,World.heap_drewN,World.size_setCell];omega)|(simp;done)|(simp;omega))
      ·(first|omega|(dsimp only;omega)|(simp only [World.size_alloc,World.size_drew,World.heap_drewN,World.size_setCell];omega)|(simp;done)|(simp;omega))
     ·exact HN4
     ·exact by0
    case rest =>
     obtain⟨g1,x4_0A,x4_0c,x4_0l,x4_1A,x4_1c,x4_1l,rfl,B4_1,lb1,nb1_4,HT4,HD4,HO4_4,HN4,hb4⟩:=hcut
     obtain⟨W4,hWeq⟩:∃W:World,W=wc:=⟨_,rfl⟩
     subst hWeq
     have hs4:=hb4.size
     have lu1:=blk_lt B4_1
     have B4_0:=(hb4.block g0 (by omega)).trans B3_0
     clear B3_0
     have RA4_0:(E.agg [.lst 6 60 a0_0A a0_0c a0_0l,.lst 3 63 a0_1A a0_1c a0_1l]).Re W4 0 w.heap.size:=RA3_0.below hb4 (by omega)
     clear RA3_0
     have hB4:Below w.heap.size w W4:=hB3.trans (hb4.mono (by omega))
     go_upto_region 7 with fail
     go_cut [6] (fun s6 wx=>s6=.string (prTxD D0)∧Below W4.heap.size W4 wx)
     case first =>
      have hwW:=hB4.size
      have ltW1:g1<W4.heap.size:=by omega
      have hiW4:W4.heap.size≤W4.heap.size:=by omega
      clear hs1 lu0 lb0 hs2 hs3 lu1 lb1 nb1_4
      clear B4_0
      have z0_1_0:W4.cell? ⟨g1,0,none⟩=some (.slice x4_0A x4_0l.length x4_0c):=zi1 B4_1 rfl
      have z0_1_1:W4.cell? ⟨g1,1,none⟩=some (.slice x4_1A x4_1l.length x4_1c):=zi1 B4_1 rfl
      go_wp2_with fail
      go_at_call 7
      refine (zi12 HT4.out _ (by have h:(E.agg [.lst 6 47 x4_0A x4_0c x4_0l,.lst 3 41 x4_1A x4_1c x4_1l]).In W4:=HO4_4.out.inn;exact by2) (sz_le HD4 hD0)).mono ?_;rintro e5 w5 ⟨e5h,hb5⟩;rw [HD4.out] at e5h;obtain rfl:e5=.returned (.string (prTxD D0)):=e5h;have hz5:=hb5.size;(try simp only [World.size_alloc,World.size_drew,World.heap_drewN,World.size_setCell] at hz5)
      go_wp2_with fail
      go_meet
      refine⟨rfl,?_⟩
      ·exact by0
     case rest =>
      obtain⟨rfl,hb5⟩:=hcut
      obtain⟨W5,hWeq⟩:∃W:World,W=wc:=⟨_,rfl⟩
      subst hWeq
      have hs5:=hb5.size
      have B5_0:=(hb5.block g0 (by omega)).trans B4_0
      clear B4_0
      have B5_1:=(hb5.block g1 (by omega)).trans B4_1
      clear B4_1
      have RA5_0:(E.agg [.lst 6 60 a0_0A a0_0c a0_0l,.lst 3 63 a0_1A a0_1c a0_1l]).Re W5 0 w.heap.size:=RA4_0.below hb5 (by omega)
      clear RA4_0
      have HO5_4:=Lib.hid (HO4_4.out.below hb5 (by omega))
      clear HO4_4
      have hB5:Below w.heap.size w W5:=hB4.trans (hb5.mono (by omega))
      go_upto_region 10 with fail
      go_cut [26] (fun s26 wx=>s26=.bool false∧Below W5.heap.size W5 wx)
      case first =>
       have hwW:=hB5.size
       have ltW1:g1<W5.heap.size:=by omega
       have ltW0:g0<W5.heap.size:=by omega
       have hiW4:W4.heap.size≤W5.heap.size:=by omega
       clear hs1 lu0 lb0 hs2 hs3 lu1 lb1 nb1_4 hs5
       have z0_1_0:W5.cell? ⟨g1,0,none⟩=some (.slice x4_0A x4_0l.length x4_0c):=zi1 B5_1 rfl
       have z0_1_1:W5.cell? ⟨g1,1,none⟩=some (.slice x4_1A x4_1l.length x4_1c):=zi1 B5_1 rfl
       have z0_0_0:W5.cell? ⟨g0,0,none⟩=some (.slice a0_0A a0_0l.length a0_0c):=zi1 B5_0 rfl
       have z0_0_1:W5.cell? ⟨g0,1,none⟩=some (.slice a0_1A a0_1l.length a0_1c):=zi1 B5_0 rfl
       go_region_held3 (fun w'=>w'.cell? ⟨g1,0,none⟩=some (.slice x4_0A x4_0l.length x4_0c)∧w'.cell? ⟨g1,1,none⟩=some (.slice x4_1A x4_1l.length x4_1c)∧w'.cell? ⟨g0,0,none⟩=some (.slice a0_0A a0_0l.length a0_0c)∧w'.cell? ⟨g0,1,none⟩=some (.slice a0_1A a0_1l.length a0_1c))
        (first|exact⟨z0_1_0,z0_1_1,z0_0_0,z0_0_1⟩|(refine⟨?_,?_,?_,?_⟩<;>(repeat (first|(with_reducible assumption)|(with_reducible refine zv16 ?_ ?_)|(with_reducible refine zb5 ?_)|(with_reducible refine zr4 ?_)|(with_reducible refine zo3 ?_ ?_)|omega|(simp;done)|(simp;omega))))|skip)
        ((first
          | (go_at_call 6;(with_reducible change Calls _ _ #[.agg #[.slice a0_0A a0_0l.length a0_0c,.slice a0_1A a0_1l.length a0_1c]] _ _);refine (zy8 TA0.out _ (by have h:(E.agg [.lst 6 60 a0_0A a0_0c a0_0l,.lst 3 63 a0_1A a0_1c a0_1l]).In W5:=E.Re.inn RA5_0 (by omega);exact by2) (by omega)).mono ?_;rintro e6 w6 ⟨x6,e6h,HD6,ht6,ho6,hn6,hb6⟩;have HT6:=Lib.hid ht6;have HD6:=Lib.hid (HD6.out.trans HDa0.out);obtain⟨x6_0A,x6_0c,x6_0l,x6_1A,x6_1c,x6_1l,rfl,-,-,-⟩:=zh3 ht6;obtain rfl:e6=.returned (.agg #[.slice x6_0A x6_0l.length x6_0c,.slice x6_1A x6_1l.length x6_1c]):=e6h;have HO6:=Lib.hid ho6;have HN6:=Lib.hid hn6;clear ht6 ho6 hn6;have hz6:=hb6.size;(try simp only [World.size_alloc,World.size_drew,World.heap_drewN,World.size_setCell] at hz6);have z6_1_0:w6.cell? ⟨g1,0,none⟩=some (.slice x4_0A x4_0l.length x4_0c):=zi1 (by exact (by repeat (first|(with_reducible assumption)|(with_reducible refine zm4 ?_)|(with_reducible refine zx3 ?_)|(with_reducible refine zv3 ?_ ?_)|(refine zw3 (by with_reducible assumption) ?_ ?_)|omega|(·simp)|(·(simp;omega)))):w6.heap[g1]? = some (.cells #[.slice x4_0A x4_0l.length x4_0c,.slice x4_1A x4_1l.length x4_1c] 31 (0,0))) rfl;have z6_1_1:w6.cell? ⟨g1,1,none⟩=some (.slice x4_1A x4_1l.length x4_1c):=zi1 (by exact (by repeat (first|(with_reducible assumption)|(with_reducible refine zm4 ?_)|(with_reducible refine zx3 ?_)|(with_reducible refine zv3 ?_ ?_)|(refine zw3 (by with_reducible assumption) ?_ ?_)|omega|(·simp)|(·(simp;omega)))):w6.heap[g1]? = some (.cells #[.slice x4_0A x4_0l.length x4_0c,.slice x4_1A x4_1l.length x4_1c] 31 (0,0))) rfl;have z6_0_0:w6.cell? ⟨g0,0,none⟩=some (.slice a0_0A a0_0l.length a0_0c):=zi1 (by exact (by repeat (first|(with_reducible assumption)|(with_reducible refine zm4 ?_)|(with_reducible refine zx3 ?_)|(with_reducible refine zv3 ?_ ?_)|(refine zw3 (by with_reducible assumption) ?_ ?_)|omega|(·simp)|(·(simp;omega)))):w6.heap[g0]? = some (.cells #[.slice a0_0A a0_0l.length a0_0c,.slice a0_1A a0_1l.length a0_1c] 25 (0,0))) rfl;have z6_0_1:w6.cell? ⟨g0,1,none⟩=some (.slice a0_1A a0_1l.length a0_1c):=zi1 (by exact (by repeat (first|(with_reducible assumption)|(with_reducible refine zm4 ?_)|(with_reducible refine zx3 ?_)|(with_reducible refine zv3 ?_ ?_)|(refine zw3 (by with_reducible assumption) ?_ ?_)|omega|(·simp)|(·(simp;omega)))):w6.heap[g0]? = some (.cells #[.slice a0_0A a0_0l.length a0_0c,.slice a0_1A a0_1l.length a0_1c] 25 (0,0))) rfl)
          | (go_at_call 8;refine (zz21 HT4.out HT6.out ((show (E.agg [.lst 6 47 x4_0A x4_0c x4_0l,.lst 3 41 x4_1A x4_1c x4_1l]).d=D0 from HD4.out).trans (show (E.agg [.lst 6 47 x6_0A x6_0c x6_0l,.lst 3 41 x6_1A x6_1c x6_1l]).d=D0 from HD6.out).symm) _ (by have h:(E.agg [.lst 6 47 x4_0A x4_0c x4_0l,.lst 3 41 x4_1A x4_1c x4_1l]).In W5:=HO5_4.out.inn;exact by2) (by have h:=HO6.out.inn;exact by2)).mono ?_;rintro e w7 ⟨rfl,hb7⟩;have hz7:=hb7.size;(try simp only [World.size_alloc,World.size_drew,World.heap_drewN,World.size_setCell] at hz7);have z7_1_0:w7.cell? ⟨g1,0,none⟩=some (.slice x4_0A x4_0l.length x4_0c):=zi1 (by exact (by repeat (first|(with_reducible assumption)|(with_reducible refine zm4 ?_)|(with_reducible refine zx3 ?_)|(with_reducible refine zv3 ?_ ?_)|(refine zw3 (by with_reducible assumption) ?_ ?_)|omega|(·simp)|(·(simp;omega)))):w7.heap[g1]? = some (.cells #[.slice x4_0A x4_0l.length x4_0c,.slice x4_1A x4_1l.length x4_1c] 31 (0,0))) rfl;have z7_1_1:w7.cell? ⟨g1,1,none⟩=some (.slice x4_1A x4_1l.length x4_1c):=zi1 (by exact (by repeat (first|(with_reducible assumption)|(with_reducible refine zm4 ?_)|(with_reducible refine zx3 ?_)|(with_reducible refine zv3 ?_ ?_)|(refine zw3 (by with_reducible assumption) ?_ ?_)|omega|(·simp)|(·(simp;omega)))):w7.heap[g1]? = some (.cells #[.slice x4_0A x4_0l.length x4_0c,.slice x4_1A x4_1l.length x4_1c] 31 (0,0))) rfl;have z7_0_0:w7.cell? ⟨g0,0,none⟩=some (.slice a0_0A a0_0l.length a0_0c):=zi1 (by exact (by repeat (first|(with_reducible assumption)|(with_reducible refine zm4 ?_)|(with_reducible refine zx3 ?_)|(with_reducible refine zv3 ?_ ?_)|(refine zw3 (by with_reducible assumption) ?_ ?_)|omega|(·simp)|(·(simp;omega)))):w7.heap[g0]? = some (.cells #[.slice a0_0A a0_0l.length a0_0c,.slice a0_1A a0_1l.length a0_1c] 25 (0,0))) rfl;have z7_0_1:w7.cell? ⟨g0,1,none⟩=some (.slice a0_1A a0_1l.length a0_1c):=zi1 (by exact (by repeat (first|(with_reducible assumption)|(with_reducible refine zm4 ?_)|(with_reducible refine zx3 ?_)|(with_reducible refine zv3 ?_ ?_)|(refine zw3 (by with_reducible assumption) ?_ ?_)|omega|(·simp)|(·(simp;omega)))):w7.heap[g0]? = some (.cells #[.slice a0_0A a0_0l.length a0_0c,.slice a0_1A a0_1l.length a0_1c] 25 (0,0))) rfl)))
       all_goals
        go_wp2_with fail
        go_meet
        refine⟨rfl,?_⟩
        ·exact by0
      case rest =>
       obtain⟨rfl,hb6⟩:=hcut
       obtain⟨W6,hWeq⟩:∃W:World,W=wc:=⟨_,rfl⟩
       subst hWeq
       have hs6:=hb6.size
       have B6_0:=(hb6.block g0 (by omega)).trans B5_0
       clear B5_0
       have B6_1:=(hb6.block g1 (by omega)).trans B5_1
       clear B5_1
       have RA6_0:(E.agg [.lst 6 60 a0_0A a0_0c a0_0l,.lst 3 63 a0_1A a0_1c a0_1l]).Re W6 0 w.heap.size:=RA5_0.below hb6 (by omega)
       clear RA5_0
       have HO6_4:=Lib.hid (HO5_4.out.below hb6 (by omega))
       clear HO5_4
       have hB6:Below w.heap.size w W6:=hB5.trans (hb6.mono (by omega))
       go_wp2
       go_ret
       exact⟨rfl,hB6⟩
end Go.Proofs.YtnjfnhoipnbpeaaGreatDoor
