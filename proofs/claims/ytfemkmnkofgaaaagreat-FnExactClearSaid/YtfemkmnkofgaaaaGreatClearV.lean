/- The type Mach, and slices of it: shape; the laws' own functions. -/
import Derived.Test.YtfemkmnkofgaaaaGreatClearU
namespace Go.Proofs.YtfemkmnkofgaaaaGreat
open Go.RowKit
theorem za4 {e:E}(h:e.Ty Tryz.prog 33):∃(x0A:Option Addr) (x0c:Nat) (x0l:List E) (x1A:Option Addr) (x1c:Nat) (x1l:List E) (x2A:Option Addr) (x2c:Nat) (x2l:List E) (x3A:Option Addr) (x3c:Nat) (x3l:List E) (x4:ByteArray) (x5A:Option Addr) (x5c:Nat) (x5l:List E) (x6:Int) (x7A:Option Addr) (x7c:Nat) (x7l:List E) (x8:Int) (x9:Int) (x10:Int) (x11:Int) (x12:Bool),e=(E.agg [(.agg [.lst 4 129 x0A x0c x0l]),.lst 1 3 x1A x1c x1l,.lst 1 90 x2A x2c x2l,.lst 6 96 x3A x3c x3l,(.agg [.str x4,.lst 1 9 x5A x5c x5l]),.int .i64 x6,.lst 1 5 x7A x7c x7l,.int .i64 x8,.int .i64 x9,.int .i64 x10,.int .i64 x11,.bool x12])∧((∀y∈x0l,y.Ty Tryz.prog 129)∧(∀y∈x0l,y.enc.length=4))∧((∀y∈x1l,y.Ty Tryz.prog 3)∧(∀y∈x1l,y.enc.length=1))∧((∀y∈x2l,y.Ty Tryz.prog 90)∧(∀y∈x2l,y.enc.length=1))∧((∀y∈x3l,y.Ty Tryz.prog 96)∧(∀y∈x3l,y.enc.length=6))∧(x4.size≤9223372036854775807)∧((∀y∈x5l,y.Ty Tryz.prog 9)∧(∀y∈x5l,y.enc.length=1))∧((Lit.int .i64 x6).wf=true)∧((∀y∈x7l,y.Ty Tryz.prog 5)∧(∀y∈x7l,y.enc.length=1))∧((Lit.int .i64 x8).wf=true)∧((Lit.int .i64 x9).wf=true)∧((Lit.int .i64 x10).wf=true)∧((Lit.int .i64 x11).wf=true)∧True:=by
 obtain⟨fs,rfl,q0⟩:=h.agg_ Tryz.underlying33
 change E.TyF _ _ [24,25,26,27,30,3,31,3,3,3,3,4] at q0
 obtain⟨e0,r0,rfl,h0,q1⟩:=q0.cons_
 obtain⟨e1,r1,rfl,h1,q2⟩:=q1.cons_
 obtain⟨e2,r2,rfl,h2,q3⟩:=q2.cons_
 obtain⟨e3,r3,rfl,h3,q4⟩:=q3.cons_
 obtain⟨e4,r4,rfl,h4,q5⟩:=q4.cons_
 obtain⟨e5,r5,rfl,h5,q6⟩:=q5.cons_
 obtain⟨e6,r6,rfl,h6,q7⟩:=q6.cons_
 obtain⟨e7,r7,rfl,h7,q8⟩:=q7.cons_
 obtain⟨e8,r8,rfl,h8,q9⟩:=q8.cons_
 obtain⟨e9,r9,rfl,h9,q10⟩:=q9.cons_
 obtain⟨e10,r10,rfl,h10,q11⟩:=q10.cons_
 obtain⟨e11,r11,rfl,h11,q12⟩:=q11.cons_
 obtain rfl:=q12.nil_
 obtain⟨x0A,x0c,x0l,rfl,gx0,-⟩:=zy3 h0
 obtain⟨x1A,x1c,x1l,rfl,gx1,gx1'⟩:=h1.lst_ Tryz.underlying25 (k:=1) (by kernel_rfl)
 obtain⟨x2A,x2c,x2l,rfl,gx2,gx2'⟩:=h2.lst_ Tryz.underlying26 (k:=1) (by kernel_rfl)
 obtain⟨x3A,x3c,x3l,rfl,gx3,gx3'⟩:=h3.lst_ Tryz.underlying27 (k:=6) (by kernel_rfl)
 obtain⟨x4,x5A,x5c,x5l,rfl,gx4,gx5,-⟩:=zj4 h4
 obtain⟨x6,rfl,gx6⟩:=h5.int_ Tryz.underlying3
 obtain⟨x7A,x7c,x7l,rfl,gx7,gx7'⟩:=h6.lst_ Tryz.underlying31 (k:=1) (by kernel_rfl)
 obtain⟨x8,rfl,gx8⟩:=h7.int_ Tryz.underlying3
 obtain⟨x9,rfl,gx9⟩:=h8.int_ Tryz.underlying3
 obtain⟨x10,rfl,gx10⟩:=h9.int_ Tryz.underlying3
 obtain⟨x11,rfl,gx11⟩:=h10.int_ Tryz.underlying3
 obtain⟨x12,rfl⟩:=h11.bool_ Tryz.underlying4
 exact⟨x0A,x0c,x0l,x1A,x1c,x1l,x2A,x2c,x2l,x3A,x3c,x3l,x4,x5A,x5c,x5l,x6,x7A,x7c,x7l,x8,x9,x10,x11,x12,rfl,gx0,⟨gx1,gx1'⟩,⟨gx2,gx2'⟩,⟨gx3,gx3'⟩,gx4,gx5,gx6,⟨gx7,gx7'⟩,gx8,gx9,gx10,gx11,trivial⟩
theorem zb1 {e:E}(h:e.Ty Tryz.prog 42):∃(x0A:Option Addr) (x0c:Nat) (x0l:List E) (x1A:Option Addr) (x1c:Nat) (x1l:List E) (x2A:Option Addr) (x2c:Nat) (x2l:List E) (x3A:Option Addr) (x3c:Nat) (x3l:List E) (x4:ByteArray) (x5A:Option Addr) (x5c:Nat) (x5l:List E) (x6:Int) (x7A:Option Addr) (x7c:Nat) (x7l:List E) (x8:Int) (x9:Int) (x10:Int) (x11:Int) (x12:Bool),e=(E.agg [(.agg [.lst 4 110 x0A x0c x0l]),.lst 1 3 x1A x1c x1l,.lst 1 65 x2A x2c x2l,.lst 6 60 x3A x3c x3l,(.agg [.str x4,.lst 1 9 x5A x5c x5l]),.int .i64 x6,.lst 1 5 x7A x7c x7l,.int .i64 x8,.int .i64 x9,.int .i64 x10,.int .i64 x11,.bool x12])∧((∀y∈x0l,y.Ty Tryz.prog 110)∧(∀y∈x0l,y.enc.length=4))∧((∀y∈x1l,y.Ty Tryz.prog 3)∧(∀y∈x1l,y.enc.length=1))∧((∀y∈x2l,y.Ty Tryz.prog 65)∧(∀y∈x2l,y.enc.length=1))∧((∀y∈x3l,y.Ty Tryz.prog 60)∧(∀y∈x3l,y.enc.length=6))∧(x4.size≤9223372036854775807)∧((∀y∈x5l,y.Ty Tryz.prog 9)∧(∀y∈x5l,y.enc.length=1))∧((Lit.int .i64 x6).wf=true)∧((∀y∈x7l,y.Ty Tryz.prog 5)∧(∀y∈x7l,y.enc.length=1))∧((Lit.int .i64 x8).wf=true)∧((Lit.int .i64 x9).wf=true)∧((Lit.int .i64 x10).wf=true)∧((Lit.int .i64 x11).wf=true)∧True:=by
 obtain⟨fs,rfl,q0⟩:=h.agg_ Tryz.underlying42
 change E.TyF _ _ [37,25,38,39,40,3,31,3,3,3,3,4] at q0
 obtain⟨e0,r0,rfl,h0,q1⟩:=q0.cons_
 obtain⟨e1,r1,rfl,h1,q2⟩:=q1.cons_
 obtain⟨e2,r2,rfl,h2,q3⟩:=q2.cons_
 obtain⟨e3,r3,rfl,h3,q4⟩:=q3.cons_
 obtain⟨e4,r4,rfl,h4,q5⟩:=q4.cons_
 obtain⟨e5,r5,rfl,h5,q6⟩:=q5.cons_
 obtain⟨e6,r6,rfl,h6,q7⟩:=q6.cons_
 obtain⟨e7,r7,rfl,h7,q8⟩:=q7.cons_
 obtain⟨e8,r8,rfl,h8,q9⟩:=q8.cons_
 obtain⟨e9,r9,rfl,h9,q10⟩:=q9.cons_
 obtain⟨e10,r10,rfl,h10,q11⟩:=q10.cons_
 obtain⟨e11,r11,rfl,h11,q12⟩:=q11.cons_
 obtain rfl:=q12.nil_
 obtain⟨x0A,x0c,x0l,rfl,gx0,-⟩:=zo1 h0
 obtain⟨x1A,x1c,x1l,rfl,gx1,gx1'⟩:=h1.lst_ Tryz.underlying25 (k:=1) (by kernel_rfl)
 obtain⟨x2A,x2c,x2l,rfl,gx2,gx2'⟩:=h2.lst_ Tryz.underlying38 (k:=1) (by kernel_rfl)
 obtain⟨x3A,x3c,x3l,rfl,gx3,gx3'⟩:=h3.lst_ Tryz.underlying39 (k:=6) (by kernel_rfl)
 obtain⟨x4,x5A,x5c,x5l,rfl,gx4,gx5,-⟩:=zg2 h4
 obtain⟨x6,rfl,gx6⟩:=h5.int_ Tryz.underlying3
 obtain⟨x7A,x7c,x7l,rfl,gx7,gx7'⟩:=h6.lst_ Tryz.underlying31 (k:=1) (by kernel_rfl)
 obtain⟨x8,rfl,gx8⟩:=h7.int_ Tryz.underlying3
 obtain⟨x9,rfl,gx9⟩:=h8.int_ Tryz.underlying3
 obtain⟨x10,rfl,gx10⟩:=h9.int_ Tryz.underlying3
 obtain⟨x11,rfl,gx11⟩:=h10.int_ Tryz.underlying3
 obtain⟨x12,rfl⟩:=h11.bool_ Tryz.underlying4
 exact⟨x0A,x0c,x0l,x1A,x1c,x1l,x2A,x2c,x2l,x3A,x3c,x3l,x4,x5A,x5c,x5l,x6,x7A,x7c,x7l,x8,x9,x10,x11,x12,rfl,gx0,⟨gx1,gx1'⟩,⟨gx2,gx2'⟩,⟨gx3,gx3'⟩,gx4,gx5,gx6,⟨gx7,gx7'⟩,gx8,gx9,gx10,gx11,trivial⟩
set_option maxRecDepth 100000 in
set_option maxHeartbeats 1000000 in
theorem zg15 {e:E}(ht:e.Ty Tryz.prog 33):Sz 4 e:=by
 obtain⟨x0A,x0c,x0l,x1A,x1c,x1l,x2A,x2c,x2l,x3A,x3c,x3l,x4,x5A,x5c,x5l,x6,x7A,x7c,x7l,x8,x9,x10,x11,x12,rfl,gx0,gx1,gx2,gx3,gx4,gx5,gx6,gx7,gx8,gx9,gx10,gx11,-⟩:=za4 ht
 intro left w hr h0 h1
 have HSZ:Hid ((E.agg [(.agg [.lst 4 129 x0A x0c x0l]),.lst 1 3 x1A x1c x1l,.lst 1 90 x2A x2c x2l,.lst 6 96 x3A x3c x3l,(.agg [.str x4,.lst 1 9 x5A x5c x5l]),.int .i64 x6,.lst 1 5 x7A x7c x7l,.int .i64 x8,.int .i64 x9,.int .i64 x10,.int .i64 x11,.bool x12]).sz=((E.agg [.lst 4 129 x0A x0c x0l]).sz+((E.lst 1 3 x1A x1c x1l).sz+((E.lst 1 90 x2A x2c x2l).sz+((E.lst 6 96 x3A x3c x3l).sz+((E.agg [.str x4,.lst 1 9 x5A x5c x5l]).sz+(0+((E.lst 1 5 x7A x7c x7l).sz+(0+(0+(0+(0+(0+0))))))))))))):=rfl
 change Calls _ _ #[.agg #[.slice x0A x0l.length x0c,.slice x1A x1l.length x1c,.slice x2A x2l.length x2c,.slice x3A x3l.length x3c,.string x4,.slice x5A x5l.length x5c,.int .i64 x6,.slice x7A x7l.length x7c,.int .i64 x8,.int .i64 x9,.int .i64 x10,.int .i64 x11,.bool x12],.int .i64 left] w _
 have hr0:=(hr.fld (i:=0) rfl).alloc (.cells #[.slice x0A x0l.length x0c,.slice x1A x1l.length x1c,.slice x2A x2l.length x2c,.slice x3A x3l.length x3c,.string x4,.slice x5A x5l.length x5c,.int .i64 x6,.slice x7A x7l.length x7c,.int .i64 x8,.int .i64 x9,.int .i64 x10,.int .i64 x11,.bool x12] 33)
 have hr1:=(hr.fld (i:=1) rfl).alloc (.cells #[.slice x0A x0l.length x0c,.slice x1A x1l.length x1c,.slice x2A x2l.length x2c,.slice x3A x3l.length x3c,.string x4,.slice x5A x5l.length x5c,.int .i64 x6,.slice x7A x7l.length x7c,.int .i64 x8,.int .i64 x9,.int .i64 x10,.int .i64 x11,.bool x12] 33)
 have hr2:=(hr.fld (i:=2) rfl).alloc (.cells #[.slice x0A x0l.length x0c,.slice x1A x1l.length x1c,.slice x2A x2l.length x2c,.slice x3A x3l.length x3c,.string x4,.slice x5A x5l.length x5c,.int .i64 x6,.slice x7A x7l.length x7c,.int .i64 x8,.int .i64 x9,.int .i64 x10,.int .i64 x11,.bool x12] 33)
 have hr3:=(hr.fld (i:=3) rfl).alloc (.cells #[.slice x0A x0l.length x0c,.slice x1A x1l.length x1c,.slice x2A x2l.length x2c,.slice x3A x3l.length x3c,.string x4,.slice x5A x5l.length x5c,.int .i64 x6,.slice x7A x7l.length x7c,.int .i64 x8,.int .i64 x9,.int .i64 x10,.int .i64 x11,.bool x12] 33)
 have hr4:=(hr.fld (i:=4) rfl).alloc (.cells #[.slice x0A x0l.length x0c,.slice x1A x1l.length x1c,.slice x2A x2l.length x2c,.slice x3A x3l.length x3c,.string x4,.slice x5A x5l.length x5c,.int .i64 x6,.slice x7A x7l.length x7c,.int .i64 x8,.int .i64 x9,.int .i64 x10,.int .i64 x11,.bool x12] 33)
 have hr6:=(hr.fld (i:=6) rfl).alloc (.cells #[.slice x0A x0l.length x0c,.slice x1A x1l.length x1c,.slice x2A x2l.length x2c,.slice x3A x3l.length x3c,.string x4,.slice x5A x5l.length x5c,.int .i64 x6,.slice x7A x7l.length x7c,.int .i64 x8,.int .i64 x9,.int .i64 x10,.int .i64 x11,.bool x12] 33)
 go_enter Tryz.func4,Tryz.ntmps4
 have tyfld0:(E.agg [.lst 4 129 x0A x0c x0l]).Ty Tryz.prog 24:=E.Ty.mk_agg Tryz.underlying24 (E.TyF.mk_cons (E.Ty.mk_lst Tryz.underlying22 (by kernel_rfl) gx0.1 gx0.2) (E.TyF.mk_nil))
 go_wp2_with fail
 go_at_call 11
 refine ((zv14 (tyfld0)) _ _ hr0 (by omega) (by omega)).mono ?_;rintro e w1 ⟨r1,rfl,hr1s,hl1,hb1⟩
 have hz1:=hb1.size;(try simp only [World.size_alloc] at hz1)
 have c1_1:w1.cell? ⟨w.heap.size,1,none⟩=some (.slice x1A x1l.length x1c):=(by repeat (first|(with_reducible assumption)|(with_reducible refine zo ?_)|(with_reducible refine zk ?_)|(with_reducible exact zi rfl)|(exact cell_new' rfl by4)|(with_reducible refine ze ?_ ?_)|(refine zb (by with_reducible assumption) ?_ ?_)|(refine zx (by with_reducible assumption) ?_ ?_)|omega|(·simp)|(·(simp;omega))))
 have c1_2:w1.cell? ⟨w.heap.size,2,none⟩=some (.slice x2A x2l.length x2c):=(by repeat (first|(with_reducible assumption)|(with_reducible refine zo ?_)|(with_reducible refine zk ?_)|(with_reducible exact zi rfl)|(exact cell_new' rfl by4)|(with_reducible refine ze ?_ ?_)|(refine zb (by with_reducible assumption) ?_ ?_)|(refine zx (by with_reducible assumption) ?_ ?_)|omega|(·simp)|(·(simp;omega))))
 have c1_3:w1.cell? ⟨w.heap.size,3,none⟩=some (.slice x3A x3l.length x3c):=(by repeat (first|(with_reducible assumption)|(with_reducible refine zo ?_)|(with_reducible refine zk ?_)|(with_reducible exact zi rfl)|(exact cell_new' rfl by4)|(with_reducible refine ze ?_ ?_)|(refine zb (by with_reducible assumption) ?_ ?_)|(refine zx (by with_reducible assumption) ?_ ?_)|omega|(·simp)|(·(simp;omega))))
 have c1_4:w1.cell? ⟨w.heap.size,4,none⟩=some (.string x4):=(by repeat (first|(with_reducible assumption)|(with_reducible refine zo ?_)|(with_reducible refine zk ?_)|(with_reducible exact zi rfl)|(exact cell_new' rfl by4)|(with_reducible refine ze ?_ ?_)|(refine zb (by with_reducible assumption) ?_ ?_)|(refine zx (by with_reducible assumption) ?_ ?_)|omega|(·simp)|(·(simp;omega))))
 have c1_5:w1.cell? ⟨w.heap.size,5,none⟩=some (.slice x5A x5l.length x5c):=(by repeat (first|(with_reducible assumption)|(with_reducible refine zo ?_)|(with_reducible refine zk ?_)|(with_reducible exact zi rfl)|(exact cell_new' rfl by4)|(with_reducible refine ze ?_ ?_)|(refine zb (by with_reducible assumption) ?_ ?_)|(refine zx (by with_reducible assumption) ?_ ?_)|omega|(·simp)|(·(simp;omega))))
 have c1_6:w1.cell? ⟨w.heap.size,6,none⟩=some (.int .i64 x6):=(by repeat (first|(with_reducible assumption)|(with_reducible refine zo ?_)|(with_reducible refine zk ?_)|(with_reducible exact zi rfl)|(exact cell_new' rfl by4)|(with_reducible refine ze ?_ ?_)|(refine zb (by with_reducible assumption) ?_ ?_)|(refine zx (by with_reducible assumption) ?_ ?_)|omega|(·simp)|(·(simp;omega))))
 have c1_7:w1.cell? ⟨w.heap.size,7,none⟩=some (.slice x7A x7l.length x7c):=(by repeat (first|(with_reducible assumption)|(with_reducible refine zo ?_)|(with_reducible refine zk ?_)|(with_reducible exact zi rfl)|(exact cell_new' rfl by4)|(with_reducible refine ze ?_ ?_)|(refine zb (by with_reducible assumption) ?_ ?_)|(refine zx (by with_reducible assumption) ?_ ?_)|omega|(·simp)|(·(simp;omega))))
 have c1_8:w1.cell? ⟨w.heap.size,8,none⟩=some (.int .i64 x8):=(by repeat (first|(with_reducible assumption)|(with_reducible refine zo ?_)|(with_reducible refine zk ?_)|(with_reducible exact zi rfl)|(exact cell_new' rfl by4)|(with_reducible refine ze ?_ ?_)|(refine zb (by with_reducible assumption) ?_ ?_)|(refine zx (by with_reducible assumption) ?_ ?_)|omega|(·simp)|(·(simp;omega))))
 have c1_9:w1.cell? ⟨w.heap.size,9,none⟩=some (.int .i64 x9):=(by repeat (first|(with_reducible assumption)|(with_reducible refine zo ?_)|(with_reducible refine zk ?_)|(with_reducible exact zi rfl)|(exact cell_new' rfl by4)|(with_reducible refine ze ?_ ?_)|(refine zb (by with_reducible assumption) ?_ ?_)|(refine zx (by with_reducible assumption) ?_ ?_)|omega|(·simp)|(·(simp;omega))))
 have c1_10:w1.cell? ⟨w.heap.size,10,none⟩=some (.int .i64 x10):=(by repeat (first|(with_reducible assumption)|(with_reducible refine zo ?_)|(with_reducible refine zk ?_)|(with_reducible exact zi rfl)|(exact cell_new' rfl by4)|(with_reducible refine ze ?_ ?_)|(refine zb (by with_reducible assumption) ?_ ?_)|(refine zx (by with_reducible assumption) ?_ ?_)|omega|(·simp)|(·(simp;omega))))
 have c1_11:w1.cell? ⟨w.heap.size,11,none⟩=some (.int .i64 x11):=(by repeat (first|(with_reducible assumption)|(with_reducible refine zo ?_)|(with_reducible refine zk ?_)|(with_reducible exact zi rfl)|(exact cell_new' rfl by4)|(with_reducible refine ze ?_ ?_)|(refine zb (by with_reducible assumption) ?_ ?_)|(refine zx (by with_reducible assumption) ?_ ?_)|omega|(·simp)|(·(simp;omega))))
 have c1_12:w1.cell? ⟨w.heap.size,12,none⟩=some (.bool x12):=(by repeat (first|(with_reducible assumption)|(with_reducible refine zo ?_)|(with_reducible refine zk ?_)|(with_reducible exact zi rfl)|(exact cell_new' rfl by4)|(with_reducible refine ze ?_ ?_)|(refine zb (by with_reducible assumption) ?_ ?_)|(refine zx (by with_reducible assumption) ?_ ?_)|omega|(·simp)|(·(simp;omega))))
 have hr1:=hr1.below hb1 by3
 have hr2:=hr2.below hb1 by3
 have hr3:=hr3.below hb1 by3
 have hr4:=hr4.below hb1 by3
 have hr6:=hr6.below hb1 by3
 by_cases hn1:r1<0
 ·go_wp2
  go_ret
  exact⟨-1,rfl,.inl (by omega),by omega,by exact by0⟩
 have hq1:=hr1s.resolve_left hn1
 go_wp2_with fail
 go_at_call 12
 refine ((zo5 (E.Ty.mk_lst Tryz.underlying25 (by kernel_rfl) gx1.1 gx1.2)) _ _ hr1 (by omega) (by omega)).mono ?_;rintro e w2 ⟨r2,rfl,hr2s,hl2,hb2⟩
 have hz2:=hb2.size;(try simp only [World.size_alloc] at hz2)
 have c2_2:w2.cell? ⟨w.heap.size,2,none⟩=some (.slice x2A x2l.length x2c):=(by repeat (first|(with_reducible assumption)|(with_reducible refine zo ?_)|(with_reducible refine zk ?_)|(with_reducible exact zi rfl)|(exact cell_new' rfl by4)|(with_reducible refine ze ?_ ?_)|(refine zb (by with_reducible assumption) ?_ ?_)|(refine zx (by with_reducible assumption) ?_ ?_)|omega|(·simp)|(·(simp;omega))))
 have c2_3:w2.cell? ⟨w.heap.size,3,none⟩=some (.slice x3A x3l.length x3c):=(by repeat (first|(with_reducible assumption)|(with_reducible refine zo ?_)|(with_reducible refine zk ?_)|(with_reducible exact zi rfl)|(exact cell_new' rfl by4)|(with_reducible refine ze ?_ ?_)|(refine zb (by with_reducible assumption) ?_ ?_)|(refine zx (by with_reducible assumption) ?_ ?_)|omega|(·simp)|(·(simp;omega))))
 have c2_4:w2.cell? ⟨w.heap.size,4,none⟩=some (.string x4):=(by repeat (first|(with_reducible assumption)|(with_reducible refine zo ?_)|(with_reducible refine zk ?_)|(with_reducible exact zi rfl)|(exact cell_new' rfl by4)|(with_reducible refine ze ?_ ?_)|(refine zb (by with_reducible assumption) ?_ ?_)|(refine zx (by with_reducible assumption) ?_ ?_)|omega|(·simp)|(·(simp;omega))))
 have c2_5:w2.cell? ⟨w.heap.size,5,none⟩=some (.slice x5A x5l.length x5c):=(by repeat (first|(with_reducible assumption)|(with_reducible refine zo ?_)|(with_reducible refine zk ?_)|(with_reducible exact zi rfl)|(exact cell_new' rfl by4)|(with_reducible refine ze ?_ ?_)|(refine zb (by with_reducible assumption) ?_ ?_)|(refine zx (by with_reducible assumption) ?_ ?_)|omega|(·simp)|(·(simp;omega))))
 have c2_6:w2.cell? ⟨w.heap.size,6,none⟩=some (.int .i64 x6):=(by repeat (first|(with_reducible assumption)|(with_reducible refine zo ?_)|(with_reducible refine zk ?_)|(with_reducible exact zi rfl)|(exact cell_new' rfl by4)|(with_reducible refine ze ?_ ?_)|(refine zb (by with_reducible assumption) ?_ ?_)|(refine zx (by with_reducible assumption) ?_ ?_)|omega|(·simp)|(·(simp;omega))))
 have c2_7:w2.cell? ⟨w.heap.size,7,none⟩=some (.slice x7A x7l.length x7c):=(by repeat (first|(with_reducible assumption)|(with_reducible refine zo ?_)|(with_reducible refine zk ?_)|(with_reducible exact zi rfl)|(exact cell_new' rfl by4)|(with_reducible refine ze ?_ ?_)|(refine zb (by with_reducible assumption) ?_ ?_)|(refine zx (by with_reducible assumption) ?_ ?_)|omega|(·simp)|(·(simp;omega))))
 have c2_8:w2.cell? ⟨w.heap.size,8,none⟩=some (.int .i64 x8):=(by repeat (first|(with_reducible assumption)|(with_reducible refine zo ?_)|(with_reducible refine zk ?_)|(with_reducible exact zi rfl)|(exact cell_new' rfl by4)|(with_reducible refine ze ?_ ?_)|(refine zb (by with_reducible assumption) ?_ ?_)|(refine zx (by with_reducible assumption) ?_ ?_)|omega|(·simp)|(·(simp;omega))))
 have c2_9:w2.cell? ⟨w.heap.size,9,none⟩=some (.int .i64 x9):=(by repeat (first|(with_reducible assumption)|(with_reducible refine zo ?_)|(with_reducible refine zk ?_)|(with_reducible exact zi rfl)|(exact cell_new' rfl by4)|(with_reducible refine ze ?_ ?_)|(refine zb (by with_reducible assumption) ?_ ?_)|(refine zx (by with_reducible assumption) ?_ ?_)|omega|(·simp)|(·(simp;omega))))
 have c2_10:w2.cell? ⟨w.heap.size,10,none⟩=some (.int .i64 x10):=(by repeat (first|(with_reducible assumption)|(with_reducible refine zo ?_)|(with_reducible refine zk ?_)|(with_reducible exact zi rfl)|(exact cell_new' rfl by4)|(with_reducible refine ze ?_ ?_)|(refine zb (by with_reducible assumption) ?_ ?_)|(refine zx (by with_reducible assumption) ?_ ?_)|omega|(·simp)|(·(simp;omega))))
 have c2_11:w2.cell? ⟨w.heap.size,11,none⟩=some (.int .i64 x11):=(by repeat (first|(with_reducible assumption)|(with_reducible refine zo ?_)|(with_reducible refine zk ?_)|(with_reducible exact zi rfl)|(exact cell_new' rfl by4)|(with_reducible refine ze ?_ ?_)|(refine zb (by with_reducible assumption) ?_ ?_)|(refine zx (by with_reducible assumption) ?_ ?_)|omega|(·simp)|(·(simp;omega))))
 have c2_12:w2.cell? ⟨w.heap.size,12,none⟩=some (.bool x12):=(by repeat (first|(with_reducible assumption)|(with_reducible refine zo ?_)|(with_reducible refine zk ?_)|(with_reducible exact zi rfl)|(exact cell_new' rfl by4)|(with_reducible refine ze ?_ ?_)|(refine zb (by with_reducible assumption) ?_ ?_)|(refine zx (by with_reducible assumption) ?_ ?_)|omega|(·simp)|(·(simp;omega))))
 have hr2:=hr2.below hb2 by3
 have hr3:=hr3.below hb2 by3
 have hr4:=hr4.below hb2 by3
 have hr6:=hr6.below hb2 by3
 by_cases hn2:r2<0
 ·go_wp2
  go_ret
  exact⟨-1,rfl,.inl (by omega),by omega,by exact by0⟩
 have hq2:=hr2s.resolve_left hn2
 go_wp2_with fail
 go_at_call 13
 refine ((zo9 (E.Ty.mk_lst Tryz.underlying26 (by kernel_rfl) gx2.1 gx2.2)) _ _ hr2 (by omega) (by omega)).mono ?_;rintro e w3 ⟨r3,rfl,hr3s,hl3,hb3⟩
 have hz3:=hb3.size;(try simp only [World.size_alloc] at hz3)
 have c3_3:w3.cell? ⟨w.heap.size,3,none⟩=some (.slice x3A x3l.length x3c):=(by repeat (first|(with_reducible assumption)|(with_reducible refine zo ?_)|(with_reducible refine zk ?_)|(with_reducible exact zi rfl)|(exact cell_new' rfl by4)|(with_reducible refine ze ?_ ?_)|(refine zb (by with_reducible assumption) ?_ ?_)|(refine zx (by with_reducible assumption) ?_ ?_)|omega|(·simp)|(·(simp;omega))))
 have c3_4:w3.cell? ⟨w.heap.size,4,none⟩=some (.string x4):=(by repeat (first|(with_reducible assumption)|(with_reducible refine zo ?_)|(with_reducible refine zk ?_)|(with_reducible exact zi rfl)|(exact cell_new' rfl by4)|(with_reducible refine ze ?_ ?_)|(refine zb (by with_reducible assumption) ?_ ?_)|(refine zx (by with_reducible assumption) ?_ ?_)|omega|(·simp)|(·(simp;omega))))
 have c3_5:w3.cell? ⟨w.heap.size,5,none⟩=some (.slice x5A x5l.length x5c):=(by repeat (first|(with_reducible assumption)|(with_reducible refine zo ?_)|(with_reducible refine zk ?_)|(with_reducible exact zi rfl)|(exact cell_new' rfl by4)|(with_reducible refine ze ?_ ?_)|(refine zb (by with_reducible assumption) ?_ ?_)|(refine zx (by with_reducible assumption) ?_ ?_)|omega|(·simp)|(·(simp;omega))))
 have c3_6:w3.cell? ⟨w.heap.size,6,none⟩=some (.int .i64 x6):=(by repeat (first|(with_reducible assumption)|(with_reducible refine zo ?_)|(with_reducible refine zk ?_)|(with_reducible exact zi rfl)|(exact cell_new' rfl by4)|(with_reducible refine ze ?_ ?_)|(refine zb (by with_reducible assumption) ?_ ?_)|(refine zx (by with_reducible assumption) ?_ ?_)|omega|(·simp)|(·(simp;omega))))
 have c3_7:w3.cell? ⟨w.heap.size,7,none⟩=some (.slice x7A x7l.length x7c):=(by repeat (first|(with_reducible assumption)|(with_reducible refine zo ?_)|(with_reducible refine zk ?_)|(with_reducible exact zi rfl)|(exact cell_new' rfl by4)|(with_reducible refine ze ?_ ?_)|(refine zb (by with_reducible assumption) ?_ ?_)|(refine zx (by with_reducible assumption) ?_ ?_)|omega|(·simp)|(·(simp;omega))))
 have c3_8:w3.cell? ⟨w.heap.size,8,none⟩=some (.int .i64 x8):=(by repeat (first|(with_reducible assumption)|(with_reducible refine zo ?_)|(with_reducible refine zk ?_)|(with_reducible exact zi rfl)|(exact cell_new' rfl by4)|(with_reducible refine ze ?_ ?_)|(refine zb (by with_reducible assumption) ?_ ?_)|(refine zx (by with_reducible assumption) ?_ ?_)|omega|(·simp)|(·(simp;omega))))
 have c3_9:w3.cell? ⟨w.heap.size,9,none⟩=some (.int .i64 x9):=(by repeat (first|(with_reducible assumption)|(with_reducible refine zo ?_)|(with_reducible refine zk ?_)|(with_reducible exact zi rfl)|(exact cell_new' rfl by4)|(with_reducible refine ze ?_ ?_)|(refine zb (by with_reducible assumption) ?_ ?_)|(refine zx (by with_reducible assumption) ?_ ?_)|omega|(·simp)|(·(simp;omega))))
 have c3_10:w3.cell? ⟨w.heap.size,10,none⟩=some (.int .i64 x10):=(by repeat (first|(with_reducible assumption)|(with_reducible refine zo ?_)|(with_reducible refine zk ?_)|(with_reducible exact zi rfl)|(exact cell_new' rfl by4)|(with_reducible refine ze ?_ ?_)|(refine zb (by with_reducible assumption) ?_ ?_)|(refine zx (by with_reducible assumption) ?_ ?_)|omega|(·simp)|(·(simp;omega))))
 have c3_11:w3.cell? ⟨w.heap.size,11,none⟩=some (.int .i64 x11):=(by repeat (first|(with_reducible assumption)|(with_reducible refine zo ?_)|(with_reducible refine zk ?_)|(with_reducible exact zi rfl)|(exact cell_new' rfl by4)|(with_reducible refine ze ?_ ?_)|(refine zb (by with_reducible assumption) ?_ ?_)|(refine zx (by with_reducible assumption) ?_ ?_)|omega|(·simp)|(·(simp;omega))))
 have c3_12:w3.cell? ⟨w.heap.size,12,none⟩=some (.bool x12):=(by repeat (first|(with_reducible assumption)|(with_reducible refine zo ?_)|(with_reducible refine zk ?_)|(with_reducible exact zi rfl)|(exact cell_new' rfl by4)|(with_reducible refine ze ?_ ?_)|(refine zb (by with_reducible assumption) ?_ ?_)|(refine zx (by with_reducible assumption) ?_ ?_)|omega|(·simp)|(·(simp;omega))))
 have hr3:=hr3.below hb3 by3
 have hr4:=hr4.below hb3 by3
 have hr6:=hr6.below hb3 by3
 by_cases hn3:r3<0
 ·go_wp2
  go_ret
  exact⟨-1,rfl,.inl (by omega),by omega,by exact by0⟩
 have hq3:=hr3s.resolve_left hn3
 go_wp2_with fail
 go_at_call 14
 refine ((zg11 (E.Ty.mk_lst Tryz.underlying27 (by kernel_rfl) gx3.1 gx3.2)) _ _ hr3 (by omega) (by omega)).mono ?_;rintro e w4 ⟨r4,rfl,hr4s,hl4,hb4⟩
 have hz4:=hb4.size;(try simp only [World.size_alloc] at hz4)
 have c4_4:w4.cell? ⟨w.heap.size,4,none⟩=some (.string x4):=(by repeat (first|(with_reducible assumption)|(with_reducible refine zo ?_)|(with_reducible refine zk ?_)|(with_reducible exact zi rfl)|(exact cell_new' rfl by4)|(with_reducible refine ze ?_ ?_)|(refine zb (by with_reducible assumption) ?_ ?_)|(refine zx (by with_reducible assumption) ?_ ?_)|omega|(·simp)|(·(simp;omega))))
 have c4_5:w4.cell? ⟨w.heap.size,5,none⟩=some (.slice x5A x5l.length x5c):=(by repeat (first|(with_reducible assumption)|(with_reducible refine zo ?_)|(with_reducible refine zk ?_)|(with_reducible exact zi rfl)|(exact cell_new' rfl by4)|(with_reducible refine ze ?_ ?_)|(refine zb (by with_reducible assumption) ?_ ?_)|(refine zx (by with_reducible assumption) ?_ ?_)|omega|(·simp)|(·(simp;omega))))
 have c4_6:w4.cell? ⟨w.heap.size,6,none⟩=some (.int .i64 x6):=(by repeat (first|(with_reducible assumption)|(with_reducible refine zo ?_)|(with_reducible refine zk ?_)|(with_reducible exact zi rfl)|(exact cell_new' rfl by4)|(with_reducible refine ze ?_ ?_)|(refine zb (by with_reducible assumption) ?_ ?_)|(refine zx (by with_reducible assumption) ?_ ?_)|omega|(·simp)|(·(simp;omega))))
 have c4_7:w4.cell? ⟨w.heap.size,7,none⟩=some (.slice x7A x7l.length x7c):=(by repeat (first|(with_reducible assumption)|(with_reducible refine zo ?_)|(with_reducible refine zk ?_)|(with_reducible exact zi rfl)|(exact cell_new' rfl by4)|(with_reducible refine ze ?_ ?_)|(refine zb (by with_reducible assumption) ?_ ?_)|(refine zx (by with_reducible assumption) ?_ ?_)|omega|(·simp)|(·(simp;omega))))
 have c4_8:w4.cell? ⟨w.heap.size,8,none⟩=some (.int .i64 x8):=(by repeat (first|(with_reducible assumption)|(with_reducible refine zo ?_)|(with_reducible refine zk ?_)|(with_reducible exact zi rfl)|(exact cell_new' rfl by4)|(with_reducible refine ze ?_ ?_)|(refine zb (by with_reducible assumption) ?_ ?_)|(refine zx (by with_reducible assumption) ?_ ?_)|omega|(·simp)|(·(simp;omega))))
 have c4_9:w4.cell? ⟨w.heap.size,9,none⟩=some (.int .i64 x9):=(by repeat (first|(with_reducible assumption)|(with_reducible refine zo ?_)|(with_reducible refine zk ?_)|(with_reducible exact zi rfl)|(exact cell_new' rfl by4)|(with_reducible refine ze ?_ ?_)|(refine zb (by with_reducible assumption) ?_ ?_)|(refine zx (by with_reducible assumption) ?_ ?_)|omega|(·simp)|(·(simp;omega))))
 have c4_10:w4.cell? ⟨w.heap.size,10,none⟩=some (.int .i64 x10):=(by repeat (first|(with_reducible assumption)|(with_reducible refine zo ?_)|(with_reducible refine zk ?_)|(with_reducible exact zi rfl)|(exact cell_new' rfl by4)|(with_reducible refine ze ?_ ?_)|(refine zb (by with_reducible assumption) ?_ ?_)|(refine zx (by with_reducible assumption) ?_ ?_)|omega|(·simp)|(·(simp;omega))))
 have c4_11:w4.cell? ⟨w.heap.size,11,none⟩=some (.int .i64 x11):=(by repeat (first|(with_reducible assumption)|(with_reducible refine zo ?_)|(with_reducible refine zk ?_)|(with_reducible exact zi rfl)|(exact cell_new' rfl by4)|(with_reducible refine ze ?_ ?_)|(refine zb (by with_reducible assumption) ?_ ?_)|(refine zx (by with_reducible assumption) ?_ ?_)|omega|(·simp)|(·(simp;omega))))
 have c4_12:w4.cell? ⟨w.heap.size,12,none⟩=some (.bool x12):=(by repeat (first|(with_reducible assumption)|(with_reducible refine zo ?_)|(with_reducible refine zk ?_)|(with_reducible exact zi rfl)|(exact cell_new' rfl by4)|(with_reducible refine ze ?_ ?_)|(refine zb (by with_reducible assumption) ?_ ?_)|(refine zx (by with_reducible assumption) ?_ ?_)|omega|(·simp)|(·(simp;omega))))
 have hr4:=hr4.below hb4 by3
 have hr6:=hr6.below hb4 by3
 by_cases hn4:r4<0
 ·go_wp2
  go_ret
  exact⟨-1,rfl,.inl (by omega),by omega,by exact by0⟩
 have hq4:=hr4s.resolve_left hn4
 have tyfld4:(E.agg [.str x4,.lst 1 9 x5A x5c x5l]).Ty Tryz.prog 30:=E.Ty.mk_agg Tryz.underlying30 (E.TyF.mk_cons (show E.Ty _ _ _ from ⟨Tryz.underlying9,by unfold maxLen;exact gx4⟩) (E.TyF.mk_cons (E.Ty.mk_lst Tryz.underlying28 (by kernel_rfl) gx5.1 gx5.2) (E.TyF.mk_nil)))
 go_wp2_with fail
 go_at_call 15
 refine ((zd18 (tyfld4)) _ _ hr4 (by omega) (by omega)).mono ?_;rintro e w5 ⟨r5,rfl,hr5s,hl5,hb5⟩
 have hz5:=hb5.size;(try simp only [World.size_alloc] at hz5)
 have c5_6:w5.cell? ⟨w.heap.size,6,none⟩=some (.int .i64 x6):=(by repeat (first|(with_reducible assumption)|(with_reducible refine zo ?_)|(with_reducible refine zk ?_)|(with_reducible exact zi rfl)|(exact cell_new' rfl by4)|(with_reducible refine ze ?_ ?_)|(refine zb (by with_reducible assumption) ?_ ?_)|(refine zx (by with_reducible assumption) ?_ ?_)|omega|(·simp)|(·(simp;omega))))
 have c5_7:w5.cell? ⟨w.heap.size,7,none⟩=some (.slice x7A x7l.length x7c):=(by repeat (first|(with_reducible assumption)|(with_reducible refine zo ?_)|(with_reducible refine zk ?_)|(with_reducible exact zi rfl)|(exact cell_new' rfl by4)|(with_reducible refine ze ?_ ?_)|(refine zb (by with_reducible assumption) ?_ ?_)|(refine zx (by with_reducible assumption) ?_ ?_)|omega|(·simp)|(·(simp;omega))))
 have c5_8:w5.cell? ⟨w.heap.size,8,none⟩=some (.int .i64 x8):=(by repeat (first|(with_reducible assumption)|(with_reducible refine zo ?_)|(with_reducible refine zk ?_)|(with_reducible exact zi rfl)|(exact cell_new' rfl by4)|(with_reducible refine ze ?_ ?_)|(refine zb (by with_reducible assumption) ?_ ?_)|(refine zx (by with_reducible assumption) ?_ ?_)|omega|(·simp)|(·(simp;omega))))
 have c5_9:w5.cell? ⟨w.heap.size,9,none⟩=some (.int .i64 x9):=(by repeat (first|(with_reducible assumption)|(with_reducible refine zo ?_)|(with_reducible refine zk ?_)|(with_reducible exact zi rfl)|(exact cell_new' rfl by4)|(with_reducible refine ze ?_ ?_)|(refine zb (by with_reducible assumption) ?_ ?_)|(refine zx (by with_reducible assumption) ?_ ?_)|omega|(·simp)|(·(simp;omega))))
 have c5_10:w5.cell? ⟨w.heap.size,10,none⟩=some (.int .i64 x10):=(by repeat (first|(with_reducible assumption)|(with_reducible refine zo ?_)|(with_reducible refine zk ?_)|(with_reducible exact zi rfl)|(exact cell_new' rfl by4)|(with_reducible refine ze ?_ ?_)|(refine zb (by with_reducible assumption) ?_ ?_)|(refine zx (by with_reducible assumption) ?_ ?_)|omega|(·simp)|(·(simp;omega))))
 have c5_11:w5.cell? ⟨w.heap.size,11,none⟩=some (.int .i64 x11):=(by repeat (first|(with_reducible assumption)|(with_reducible refine zo ?_)|(with_reducible refine zk ?_)|(with_reducible exact zi rfl)|(exact cell_new' rfl by4)|(with_reducible refine ze ?_ ?_)|(refine zb (by with_reducible assumption) ?_ ?_)|(refine zx (by with_reducible assumption) ?_ ?_)|omega|(·simp)|(·(simp;omega))))
 have c5_12:w5.cell? ⟨w.heap.size,12,none⟩=some (.bool x12):=(by repeat (first|(with_reducible assumption)|(with_reducible refine zo ?_)|(with_reducible refine zk ?_)|(with_reducible exact zi rfl)|(exact cell_new' rfl by4)|(with_reducible refine ze ?_ ?_)|(refine zb (by with_reducible assumption) ?_ ?_)|(refine zx (by with_reducible assumption) ?_ ?_)|omega|(·simp)|(·(simp;omega))))
 have hr6:=hr6.below hb5 by3
 by_cases hn5:r5<0
 ·go_wp2
  go_ret
  exact⟨-1,rfl,.inl (by omega),by omega,by exact by0⟩
 have hq5:=hr5s.resolve_left hn5
 go_wp2_with fail
 go_at_call 16
 refine ((zf12 (E.Ty.mk_lst Tryz.underlying31 (by kernel_rfl) gx7.1 gx7.2)) _ _ hr6 (by omega) (by omega)).mono ?_;rintro e w6 ⟨r6,rfl,hr6s,hl6,hb6⟩
 have hz6:=hb6.size;(try simp only [World.size_alloc] at hz6)
 have c6_8:w6.cell? ⟨w.heap.size,8,none⟩=some (.int .i64 x8):=(by repeat (first|(with_reducible assumption)|(with_reducible refine zo ?_)|(with_reducible refine zk ?_)|(with_reducible exact zi rfl)|(exact cell_new' rfl by4)|(with_reducible refine ze ?_ ?_)|(refine zb (by with_reducible assumption) ?_ ?_)|(refine zx (by with_reducible assumption) ?_ ?_)|omega|(·simp)|(·(simp;omega))))
 have c6_9:w6.cell? ⟨w.heap.size,9,none⟩=some (.int .i64 x9):=(by repeat (first|(with_reducible assumption)|(with_reducible refine zo ?_)|(with_reducible refine zk ?_)|(with_reducible exact zi rfl)|(exact cell_new' rfl by4)|(with_reducible refine ze ?_ ?_)|(refine zb (by with_reducible assumption) ?_ ?_)|(refine zx (by with_reducible assumption) ?_ ?_)|omega|(·simp)|(·(simp;omega))))
 have c6_10:w6.cell? ⟨w.heap.size,10,none⟩=some (.int .i64 x10):=(by repeat (first|(with_reducible assumption)|(with_reducible refine zo ?_)|(with_reducible refine zk ?_)|(with_reducible exact zi rfl)|(exact cell_new' rfl by4)|(with_reducible refine ze ?_ ?_)|(refine zb (by with_reducible assumption) ?_ ?_)|(refine zx (by with_reducible assumption) ?_ ?_)|omega|(·simp)|(·(simp;omega))))
 have c6_11:w6.cell? ⟨w.heap.size,11,none⟩=some (.int .i64 x11):=(by repeat (first|(with_reducible assumption)|(with_reducible refine zo ?_)|(with_reducible refine zk ?_)|(with_reducible exact zi rfl)|(exact cell_new' rfl by4)|(with_reducible refine ze ?_ ?_)|(refine zb (by with_reducible assumption) ?_ ?_)|(refine zx (by with_reducible assumption) ?_ ?_)|omega|(·simp)|(·(simp;omega))))
 have c6_12:w6.cell? ⟨w.heap.size,12,none⟩=some (.bool x12):=(by repeat (first|(with_reducible assumption)|(with_reducible refine zo ?_)|(with_reducible refine zk ?_)|(with_reducible exact zi rfl)|(exact cell_new' rfl by4)|(with_reducible refine ze ?_ ?_)|(refine zb (by with_reducible assumption) ?_ ?_)|(refine zx (by with_reducible assumption) ?_ ?_)|omega|(·simp)|(·(simp;omega))))
 by_cases hn6:r6<0
 ·go_wp2
  go_ret
  exact⟨-1,rfl,.inl (by omega),by omega,by exact by0⟩
 have hq6:=hr6s.resolve_left hn6
 go_wp2
 go_ret
 refine⟨_,rfl,.inr ?_,by omega,by exact by0⟩
 show _=_
 rw [HSZ.out]
 have e1:=hq1.out
 have e2:=hq2.out
 have e3:=hq3.out
 have e4:=hq4.out
 have e5:=hq5.out
 have e6:=hq6.out
 push_cast
 omega
set_option maxRecDepth 100000 in
set_option maxHeartbeats 1000000 in
theorem zd5 {e:E}(ht:e.Ty Tryz.prog 33):To 6 42 e:=by
 have HT0:=Lib.hid ht
 obtain⟨x0A,x0c,x0l,x1A,x1c,x1l,x2A,x2c,x2l,x3A,x3c,x3l,x4,x5A,x5c,x5l,x6,x7A,x7c,x7l,x8,x9,x10,x11,x12,rfl,gx0,gx1,gx2,gx3,gx4,gx5,gx6,gx7,gx8,gx9,gx10,gx11,-⟩:=za4 ht
 intro w hr hsz
 have hsz':((E.agg [.lst 4 129 x0A x0c x0l]).sz+((E.lst 1 3 x1A x1c x1l).sz+((E.lst 1 90 x2A x2c x2l).sz+((E.lst 6 96 x3A x3c x3l).sz+((E.agg [.str x4,.lst 1 9 x5A x5c x5l]).sz+(0+((E.lst 1 5 x7A x7c x7l).sz+(0+(0+(0+(0+(0+0))))))))))))≤1048576:=hsz
 have hs0:(E.agg [.lst 4 129 x0A x0c x0l]).sz≤1048576:=by omega
 have hs1:(E.lst 1 3 x1A x1c x1l).sz≤1048576:=by omega
 have hs2:(E.lst 1 90 x2A x2c x2l).sz≤1048576:=by omega
 have hs3:(E.lst 6 96 x3A x3c x3l).sz≤1048576:=by omega
 have hs4:(E.agg [.str x4,.lst 1 9 x5A x5c x5l]).sz≤1048576:=by omega
 have hs6:(E.lst 1 5 x7A x7c x7l).sz≤1048576:=by omega
 clear hsz hsz'
 have hr0:=hr.fld (i:=0) rfl
 have ty0:(E.agg [.lst 4 129 x0A x0c x0l]).Ty Tryz.prog 24:=E.Ty.mk_agg Tryz.underlying24 (E.TyF.mk_cons (E.Ty.mk_lst Tryz.underlying22 (by kernel_rfl) gx0.1 gx0.2) (E.TyF.mk_nil))
 have HC0:=Lib.hid (zw14 ty0)
 clear ty0
 have hr1:=hr.fld (i:=1) rfl
 have ty1:(E.lst 1 3 x1A x1c x1l).Ty Tryz.prog 25:=E.Ty.mk_lst Tryz.underlying25 (by kernel_rfl) gx1.1 gx1.2
 have HC1:=Lib.hid (zp5 ty1)
 clear ty1
 have hr2:=hr.fld (i:=2) rfl
 have ty2:(E.lst 1 90 x2A x2c x2l).Ty Tryz.prog 26:=E.Ty.mk_lst Tryz.underlying26 (by kernel_rfl) gx2.1 gx2.2
 have HC2:=Lib.hid (zp9 ty2)
 clear ty2
 have hr3:=hr.fld (i:=3) rfl
 have ty3:(E.lst 6 96 x3A x3c x3l).Ty Tryz.prog 27:=E.Ty.mk_lst Tryz.underlying27 (by kernel_rfl) gx3.1 gx3.2
 have HC3:=Lib.hid (zh11 ty3)
 clear ty3
 have hr4:=hr.fld (i:=4) rfl
 have ty4:(E.agg [.str x4,.lst 1 9 x5A x5c x5l]).Ty Tryz.prog 30:=E.Ty.mk_agg Tryz.underlying30 (E.TyF.mk_cons (show E.Ty _ _ _ from ⟨Tryz.underlying9,by unfold maxLen;exact gx4⟩) (E.TyF.mk_cons (E.Ty.mk_lst Tryz.underlying28 (by kernel_rfl) gx5.1 gx5.2) (E.TyF.mk_nil)))
 have HC4:=Lib.hid (ze18 ty4)
 clear ty4
 have hr6:=hr.fld (i:=6) rfl
 have ty6:(E.lst 1 5 x7A x7c x7l).Ty Tryz.prog 31:=E.Ty.mk_lst Tryz.underlying31 (by kernel_rfl) gx7.1 gx7.2
 have HC6:=Lib.hid (zg12 ty6)
 clear ty6
 change Calls _ _ #[.agg #[.slice x0A x0l.length x0c,.slice x1A x1l.length x1c,.slice x2A x2l.length x2c,.slice x3A x3l.length x3c,.string x4,.slice x5A x5l.length x5c,.int .i64 x6,.slice x7A x7l.length x7c,.int .i64 x8,.int .i64 x9,.int .i64 x10,.int .i64 x11,.bool x12]] w _
 go_enter Tryz.func6,Tryz.ntmps6
 go_wp2_with fail
 go_at_call 20
 refine (HC0.out _ (((hr0.alloc _).alloc _).alloc _) hs0).mono ?_;rintro e w1 ⟨v1,he,HD1,ht1,ho1,hn1,hb1⟩
 have HT1:=Lib.hid ht1
 have HN1:=Lib.hid hn1
 obtain⟨z1_0A,z1_0c,z1_0l,rfl,gz1_0,-⟩:=zo1 ht1
 obtain rfl:e=.returned (.agg #[.slice z1_0A z1_0l.length z1_0c]):=he
 clear hn1 ht1
 have B0_1:w1.heap[w.heap.size]? = some (.cells #[.slice x0A x0l.length x0c,.slice x1A x1l.length x1c,.slice x2A x2l.length x2c,.slice x3A x3l.length x3c,.string x4,.slice x5A x5l.length x5c,.int .i64 x6,.slice x7A x7l.length x7c,.int .i64 x8,.int .i64 x9,.int .i64 x10,.int .i64 x11,.bool x12] 33 (0,0)):=(hb1.block (w.heap.size) (by simp;omega)).trans zh4.1
 have B1_1:w1.heap[w.heap.size+1]? = some (.cells #[.slice none 0 0,.slice none 0 0,.slice none 0 0,.slice none 0 0,.string ByteArray.empty,.slice none 0 0,.int .i64 0,.slice none 0 0,.int .i64 0,.int .i64 0,.int .i64 0,.int .i64 0,.bool false] 42 (0,0)):=(hb1.block (w.heap.size+1) (by simp)).trans zh4.2.1
 have B2_1:w1.heap[w.heap.size+1+1]? = some (.cells #[.slice none 0 0,.slice none 0 0,.slice none 0 0,.slice none 0 0,.string ByteArray.empty,.slice none 0 0,.int .i64 0,.slice none 0 0,.int .i64 0,.int .i64 0,.int .i64 0,.int .i64 0,.bool false] 42 (0,0)):=(hb1.block (w.heap.size+1+1) (by simp)).trans zh4.2.2
 have hz1:=hb1.size;simp only [World.size_alloc] at hz1
 have hB1:Below w.heap.size w w1:=(by exact by0:Below w.heap.size w _).trans (hb1.mono (by simp;omega))
 have ho1:=ho1.wider (lo':=w.heap.size+1+1+1) (by simp) (Nat.le_refl _)
 have c1_0:w1.cell? ⟨w.heap.size,0,none⟩=some (.slice x0A x0l.length x0c):=za B0_1 rfl
 have c1_1:w1.cell? ⟨w.heap.size,1,none⟩=some (.slice x1A x1l.length x1c):=za B0_1 rfl
 have c1_2:w1.cell? ⟨w.heap.size,2,none⟩=some (.slice x2A x2l.length x2c):=za B0_1 rfl
 have c1_3:w1.cell? ⟨w.heap.size,3,none⟩=some (.slice x3A x3l.length x3c):=za B0_1 rfl
 have c1_4:w1.cell? ⟨w.heap.size,4,none⟩=some (.string x4):=za B0_1 rfl
 have c1_5:w1.cell? ⟨w.heap.size,5,none⟩=some (.slice x5A x5l.length x5c):=za B0_1 rfl
 have c1_6:w1.cell? ⟨w.heap.size,6,none⟩=some (.int .i64 x6):=za B0_1 rfl
 have c1_7:w1.cell? ⟨w.heap.size,7,none⟩=some (.slice x7A x7l.length x7c):=za B0_1 rfl
 have c1_8:w1.cell? ⟨w.heap.size,8,none⟩=some (.int .i64 x8):=za B0_1 rfl
 have c1_9:w1.cell? ⟨w.heap.size,9,none⟩=some (.int .i64 x9):=za B0_1 rfl
 have c1_10:w1.cell? ⟨w.heap.size,10,none⟩=some (.int .i64 x10):=za B0_1 rfl
 have c1_11:w1.cell? ⟨w.heap.size,11,none⟩=some (.int .i64 x11):=za B0_1 rfl
 have c1_12:w1.cell? ⟨w.heap.size,12,none⟩=some (.bool x12):=za B0_1 rfl
 have d1_0:w1.cell? ⟨w.heap.size+1+1,0,none⟩=some (.slice none 0 0):=za B2_1 rfl
 have d1_1:w1.cell? ⟨w.heap.size+1+1,1,none⟩=some (.slice none 0 0):=za B2_1 rfl
 have d1_2:w1.cell? ⟨w.heap.size+1+1,2,none⟩=some (.slice none 0 0):=za B2_1 rfl
 have d1_3:w1.cell? ⟨w.heap.size+1+1,3,none⟩=some (.slice none 0 0):=za B2_1 rfl
 have d1_4:w1.cell? ⟨w.heap.size+1+1,4,none⟩=some (.string ByteArray.empty):=za B2_1 rfl
 have d1_5:w1.cell? ⟨w.heap.size+1+1,5,none⟩=some (.slice none 0 0):=za B2_1 rfl
 have d1_6:w1.cell? ⟨w.heap.size+1+1,6,none⟩=some (.int .i64 0):=za B2_1 rfl
 have d1_7:w1.cell? ⟨w.heap.size+1+1,7,none⟩=some (.slice none 0 0):=za B2_1 rfl
 have d1_8:w1.cell? ⟨w.heap.size+1+1,8,none⟩=some (.int .i64 0):=za B2_1 rfl
 have d1_9:w1.cell? ⟨w.heap.size+1+1,9,none⟩=some (.int .i64 0):=za B2_1 rfl
 have d1_10:w1.cell? ⟨w.heap.size+1+1,10,none⟩=some (.int .i64 0):=za B2_1 rfl
 have d1_11:w1.cell? ⟨w.heap.size+1+1,11,none⟩=some (.int .i64 0):=za B2_1 rfl
 have d1_12:w1.cell? ⟨w.heap.size+1+1,12,none⟩=some (.bool false):=za B2_1 rfl
 have f1:=zt2 B2_1
 go_wp2_with fail
 have hK1:Kp (w.heap.size+1+1) (w.heap.size+1+1+1) w1 (w1.setCell ⟨w.heap.size+1+1,0,none⟩ (.slice z1_0A z1_0l.length z1_0c)):=(by repeat (first|(with_reducible exact Kp.refl _ _ _)|(refine Kp.set ?_ (by first|omega|(dsimp only;omega)|(simp;omega)) (by first|omega|(dsimp only;omega)|(simp;omega)) _)))
 have A0_1:=(hK1.block (w.heap.size) (by omega) (.inl (by omega))).trans B0_1
 have A1_1:=(hK1.block (w.heap.size+1) (by omega) (.inl (by omega))).trans B1_1
 have A2_1:(w1.setCell ⟨w.heap.size+1+1,0,none⟩ (.slice z1_0A z1_0l.length z1_0c)).heap[w.heap.size+1+1]? = some (.cells #[.slice z1_0A z1_0l.length z1_0c,.slice none 0 0,.slice none 0 0,.slice none 0 0,.string ByteArray.empty,.slice none 0 0,.int .i64 0,.slice none 0 0,.int .i64 0,.int .i64 0,.int .i64 0,.int .i64 0,.bool false] 42 (0,0)):=by simp only [zn2,B2_1];simp [setAt]
 have hW1:(w1.setCell ⟨w.heap.size+1+1,0,none⟩ (.slice z1_0A z1_0l.length z1_0c)).heap.size=w1.heap.size:=by simp
 have hBW1:Below w.heap.size w (w1.setCell ⟨w.heap.size+1+1,0,none⟩ (.slice z1_0A z1_0l.length z1_0c)):=hB1.trans (hK1.below (by omega) (by omega))
 have ho1:=ho1.kp hK1 (.inr (by omega))
 clear c1_0 c1_1 c1_2 c1_3 c1_4 c1_5 c1_6 c1_7 c1_8 c1_9 c1_10 c1_11 c1_12 d1_0 d1_1 d1_2 d1_3 d1_4 d1_5 d1_6 d1_7 d1_8 d1_9 d1_10 d1_11 d1_12 f1 B0_1 B1_1 B2_1 hK1 hB1
 generalize (w1.setCell ⟨w.heap.size+1+1,0,none⟩ (.slice z1_0A z1_0l.length z1_0c))=W1 at *
 go_at_call 21
 refine (HC1.out _ (E.In.below hr1 hBW1 (Nat.le_refl _)) hs1).mono ?_;rintro e w2 ⟨v2,he,HD2,ht2,ho2,hn2,hb2⟩
 have HT2:=Lib.hid ht2
 have HN2:=Lib.hid hn2
 obtain⟨A2,q2,l2,rfl,-,-⟩:=ht2.lst_ Tryz.underlying25 (k:=1) (by kernel_rfl)
 obtain rfl:e=.returned (.slice A2 l2.length q2):=he
 clear hn2 ht2
 have B0_2:=(hb2.block (w.heap.size) (by omega)).trans A0_1
 have B1_2:=(hb2.block (w.heap.size+1) (by omega)).trans A1_1
 have B2_2:=(hb2.block (w.heap.size+1+1) (by omega)).trans A2_1
 have hz2:=hb2.size
 have hB2:Below w.heap.size w w2:=hBW1.trans (hb2.mono (by omega))
 have ho1:=ho1.below hb2 (by omega)
 have ho2:=ho2.wider (lo':=w1.heap.size) (by omega) (Nat.le_refl _)
 clear A0_1 A1_1 A2_1
 have c2_0:w2.cell? ⟨w.heap.size,0,none⟩=some (.slice x0A x0l.length x0c):=za B0_2 rfl
 have c2_1:w2.cell? ⟨w.heap.size,1,none⟩=some (.slice x1A x1l.length x1c):=za B0_2 rfl
 have c2_2:w2.cell? ⟨w.heap.size,2,none⟩=some (.slice x2A x2l.length x2c):=za B0_2 rfl
 have c2_3:w2.cell? ⟨w.heap.size,3,none⟩=some (.slice x3A x3l.length x3c):=za B0_2 rfl
 have c2_4:w2.cell? ⟨w.heap.size,4,none⟩=some (.string x4):=za B0_2 rfl
 have c2_5:w2.cell? ⟨w.heap.size,5,none⟩=some (.slice x5A x5l.length x5c):=za B0_2 rfl
 have c2_6:w2.cell? ⟨w.heap.size,6,none⟩=some (.int .i64 x6):=za B0_2 rfl
 have c2_7:w2.cell? ⟨w.heap.size,7,none⟩=some (.slice x7A x7l.length x7c):=za B0_2 rfl
 have c2_8:w2.cell? ⟨w.heap.size,8,none⟩=some (.int .i64 x8):=za B0_2 rfl
 have c2_9:w2.cell? ⟨w.heap.size,9,none⟩=some (.int .i64 x9):=za B0_2 rfl
 have c2_10:w2.cell? ⟨w.heap.size,10,none⟩=some (.int .i64 x10):=za B0_2 rfl
 have c2_11:w2.cell? ⟨w.heap.size,11,none⟩=some (.int .i64 x11):=za B0_2 rfl
 have c2_12:w2.cell? ⟨w.heap.size,12,none⟩=some (.bool x12):=za B0_2 rfl
 have d2_0:w2.cell? ⟨w.heap.size+1+1,0,none⟩=some (.slice z1_0A z1_0l.length z1_0c):=za B2_2 rfl
 have d2_1:w2.cell? ⟨w.heap.size+1+1,1,none⟩=some (.slice none 0 0):=za B2_2 rfl
 have d2_2:w2.cell? ⟨w.heap.size+1+1,2,none⟩=some (.slice none 0 0):=za B2_2 rfl
 have d2_3:w2.cell? ⟨w.heap.size+1+1,3,none⟩=some (.slice none 0 0):=za B2_2 rfl
 have d2_4:w2.cell? ⟨w.heap.size+1+1,4,none⟩=some (.string ByteArray.empty):=za B2_2 rfl
 have d2_5:w2.cell? ⟨w.heap.size+1+1,5,none⟩=some (.slice none 0 0):=za B2_2 rfl
 have d2_6:w2.cell? ⟨w.heap.size+1+1,6,none⟩=some (.int .i64 0):=za B2_2 rfl
 have d2_7:w2.cell? ⟨w.heap.size+1+1,7,none⟩=some (.slice none 0 0):=za B2_2 rfl
 have d2_8:w2.cell? ⟨w.heap.size+1+1,8,none⟩=some (.int .i64 0):=za B2_2 rfl
 have d2_9:w2.cell? ⟨w.heap.size+1+1,9,none⟩=some (.int .i64 0):=za B2_2 rfl
 have d2_10:w2.cell? ⟨w.heap.size+1+1,10,none⟩=some (.int .i64 0):=za B2_2 rfl
 have d2_11:w2.cell? ⟨w.heap.size+1+1,11,none⟩=some (.int .i64 0):=za B2_2 rfl
 have d2_12:w2.cell? ⟨w.heap.size+1+1,12,none⟩=some (.bool false):=za B2_2 rfl
 have f2:=zt2 B2_2
 go_wp2_with fail
 have hK2:Kp (w.heap.size+1+1) (w.heap.size+1+1+1) w2 (w2.setCell ⟨w.heap.size+1+1,1,none⟩ (.slice A2 l2.length q2)):=(by repeat (first|(with_reducible exact Kp.refl _ _ _)|(refine Kp.set ?_ (by first|omega|(dsimp only;omega)|(simp;omega)) (by first|omega|(dsimp only;omega)|(simp;omega)) _)))
 have A0_2:=(hK2.block (w.heap.size) (by omega) (.inl (by omega))).trans B0_2
 have A1_2:=(hK2.block (w.heap.size+1) (by omega) (.inl (by omega))).trans B1_2
 have A2_2:(w2.setCell ⟨w.heap.size+1+1,1,none⟩ (.slice A2 l2.length q2)).heap[w.heap.size+1+1]? = some (.cells #[.slice z1_0A z1_0l.length z1_0c,.slice A2 l2.length q2,.slice none 0 0,.slice none 0 0,.string ByteArray.empty,.slice none 0 0,.int .i64 0,.slice none 0 0,.int .i64 0,.int .i64 0,.int .i64 0,.int .i64 0,.bool false] 42 (0,0)):=by simp only [zn2,B2_2];simp [setAt]
 have hW2:(w2.setCell ⟨w.heap.size+1+1,1,none⟩ (.slice A2 l2.length q2)).heap.size=w2.heap.size:=by simp
 have hBW2:Below w.heap.size w (w2.setCell ⟨w.heap.size+1+1,1,none⟩ (.slice A2 l2.length q2)):=hB2.trans (hK2.below (by omega) (by omega))
 have ho1:=ho1.kp hK2 (.inr (by omega))
 have ho2:=ho2.kp hK2 (.inr (by omega))
 clear c2_0 c2_1 c2_2 c2_3 c2_4 c2_5 c2_6 c2_7 c2_8 c2_9 c2_10 c2_11 c2_12 d2_0 d2_1 d2_2 d2_3 d2_4 d2_5 d2_6 d2_7 d2_8 d2_9 d2_10 d2_11 d2_12 f2 B0_2 B1_2 B2_2 hK2 hB2
 generalize (w2.setCell ⟨w.heap.size+1+1,1,none⟩ (.slice A2 l2.length q2))=W2 at *
 go_at_call 22
 refine (HC2.out _ (E.In.below hr2 hBW2 (Nat.le_refl _)) hs2).mono ?_;rintro e w3 ⟨v3,he,HD3,ht3,ho3,hn3,hb3⟩
 have HT3:=Lib.hid ht3
 have HN3:=Lib.hid hn3
 obtain⟨A3,q3,l3,rfl,-,-⟩:=ht3.lst_ Tryz.underlying38 (k:=1) (by kernel_rfl)
 obtain rfl:e=.returned (.slice A3 l3.length q3):=he
 clear hn3 ht3
 have B0_3:=(hb3.block (w.heap.size) (by omega)).trans A0_2
 have B1_3:=(hb3.block (w.heap.size+1) (by omega)).trans A1_2
 have B2_3:=(hb3.block (w.heap.size+1+1) (by omega)).trans A2_2
 have hz3:=hb3.size
 have hB3:Below w.heap.size w w3:=hBW2.trans (hb3.mono (by omega))
 have ho1:=ho1.below hb3 (by omega)
 have ho2:=ho2.below hb3 (by omega)
 have ho3:=ho3.wider (lo':=w2.heap.size) (by omega) (Nat.le_refl _)
 clear A0_2 A1_2 A2_2
 have c3_0:w3.cell? ⟨w.heap.size,0,none⟩=some (.slice x0A x0l.length x0c):=za B0_3 rfl
 have c3_1:w3.cell? ⟨w.heap.size,1,none⟩=some (.slice x1A x1l.length x1c):=za B0_3 rfl
 have c3_2:w3.cell? ⟨w.heap.size,2,none⟩=some (.slice x2A x2l.length x2c):=za B0_3 rfl
 have c3_3:w3.cell? ⟨w.heap.size,3,none⟩=some (.slice x3A x3l.length x3c):=za B0_3 rfl
 have c3_4:w3.cell? ⟨w.heap.size,4,none⟩=some (.string x4):=za B0_3 rfl
 have c3_5:w3.cell? ⟨w.heap.size,5,none⟩=some (.slice x5A x5l.length x5c):=za B0_3 rfl
 have c3_6:w3.cell? ⟨w.heap.size,6,none⟩=some (.int .i64 x6):=za B0_3 rfl
 have c3_7:w3.cell? ⟨w.heap.size,7,none⟩=some (.slice x7A x7l.length x7c):=za B0_3 rfl
 have c3_8:w3.cell? ⟨w.heap.size,8,none⟩=some (.int .i64 x8):=za B0_3 rfl
 have c3_9:w3.cell? ⟨w.heap.size,9,none⟩=some (.int .i64 x9):=za B0_3 rfl
 have c3_10:w3.cell? ⟨w.heap.size,10,none⟩=some (.int .i64 x10):=za B0_3 rfl
 have c3_11:w3.cell? ⟨w.heap.size,11,none⟩=some (.int .i64 x11):=za B0_3 rfl
 have c3_12:w3.cell? ⟨w.heap.size,12,none⟩=some (.bool x12):=za B0_3 rfl
 have d3_0:w3.cell? ⟨w.heap.size+1+1,0,none⟩=some (.slice z1_0A z1_0l.length z1_0c):=za B2_3 rfl
 have d3_1:w3.cell? ⟨w.heap.size+1+1,1,none⟩=some (.slice A2 l2.length q2):=za B2_3 rfl
 have d3_2:w3.cell? ⟨w.heap.size+1+1,2,none⟩=some (.slice none 0 0):=za B2_3 rfl
 have d3_3:w3.cell? ⟨w.heap.size+1+1,3,none⟩=some (.slice none 0 0):=za B2_3 rfl
 have d3_4:w3.cell? ⟨w.heap.size+1+1,4,none⟩=some (.string ByteArray.empty):=za B2_3 rfl
 have d3_5:w3.cell? ⟨w.heap.size+1+1,5,none⟩=some (.slice none 0 0):=za B2_3 rfl
 have d3_6:w3.cell? ⟨w.heap.size+1+1,6,none⟩=some (.int .i64 0):=za B2_3 rfl
 have d3_7:w3.cell? ⟨w.heap.size+1+1,7,none⟩=some (.slice none 0 0):=za B2_3 rfl
 have d3_8:w3.cell? ⟨w.heap.size+1+1,8,none⟩=some (.int .i64 0):=za B2_3 rfl
 have d3_9:w3.cell? ⟨w.heap.size+1+1,9,none⟩=some (.int .i64 0):=za B2_3 rfl
 have d3_10:w3.cell? ⟨w.heap.size+1+1,10,none⟩=some (.int .i64 0):=za B2_3 rfl
 have d3_11:w3.cell? ⟨w.heap.size+1+1,11,none⟩=some (.int .i64 0):=za B2_3 rfl
 have d3_12:w3.cell? ⟨w.heap.size+1+1,12,none⟩=some (.bool false):=za B2_3 rfl
 have f3:=zt2 B2_3
 go_wp2_with fail
 have hK3:Kp (w.heap.size+1+1) (w.heap.size+1+1+1) w3 (w3.setCell ⟨w.heap.size+1+1,2,none⟩ (.slice A3 l3.length q3)):=(by repeat (first|(with_reducible exact Kp.refl _ _ _)|(refine Kp.set ?_ (by first|omega|(dsimp only;omega)|(simp;omega)) (by first|omega|(dsimp only;omega)|(simp;omega)) _)))
 have A0_3:=(hK3.block (w.heap.size) (by omega) (.inl (by omega))).trans B0_3
 have A1_3:=(hK3.block (w.heap.size+1) (by omega) (.inl (by omega))).trans B1_3
 have A2_3:(w3.setCell ⟨w.heap.size+1+1,2,none⟩ (.slice A3 l3.length q3)).heap[w.heap.size+1+1]? = some (.cells #[.slice z1_0A z1_0l.length z1_0c,.slice A2 l2.length q2,.slice A3 l3.length q3,.slice none 0 0,.string ByteArray.empty,.slice none 0 0,.int .i64 0,.slice none 0 0,.int .i64 0,.int .i64 0,.int .i64 0,.int .i64 0,.bool false] 42 (0,0)):=by simp only [zn2,B2_3];simp [setAt]
 have hW3:(w3.setCell ⟨w.heap.size+1+1,2,none⟩ (.slice A3 l3.length q3)).heap.size=w3.heap.size:=by simp
 have hBW3:Below w.heap.size w (w3.setCell ⟨w.heap.size+1+1,2,none⟩ (.slice A3 l3.length q3)):=hB3.trans (hK3.below (by omega) (by omega))
 have ho1:=ho1.kp hK3 (.inr (by omega))
 have ho2:=ho2.kp hK3 (.inr (by omega))
 have ho3:=ho3.kp hK3 (.inr (by omega))
 clear c3_0 c3_1 c3_2 c3_3 c3_4 c3_5 c3_6 c3_7 c3_8 c3_9 c3_10 c3_11 c3_12 d3_0 d3_1 d3_2 d3_3 d3_4 d3_5 d3_6 d3_7 d3_8 d3_9 d3_10 d3_11 d3_12 f3 B0_3 B1_3 B2_3 hK3 hB3
 generalize (w3.setCell ⟨w.heap.size+1+1,2,none⟩ (.slice A3 l3.length q3))=W3 at *
 go_at_call 23
 refine (HC3.out _ (E.In.below hr3 hBW3 (Nat.le_refl _)) hs3).mono ?_;rintro e w4 ⟨v4,he,HD4,ht4,ho4,hn4,hb4⟩
 have HT4:=Lib.hid ht4
 have HN4:=Lib.hid hn4
 obtain⟨A4,q4,l4,rfl,-,-⟩:=ht4.lst_ Tryz.underlying39 (k:=6) (by kernel_rfl)
 obtain rfl:e=.returned (.slice A4 l4.length q4):=he
 clear hn4 ht4
 have B0_4:=(hb4.block (w.heap.size) (by omega)).trans A0_3
 have B1_4:=(hb4.block (w.heap.size+1) (by omega)).trans A1_3
 have B2_4:=(hb4.block (w.heap.size+1+1) (by omega)).trans A2_3
 have hz4:=hb4.size
 have hB4:Below w.heap.size w w4:=hBW3.trans (hb4.mono (by omega))
 have ho1:=ho1.below hb4 (by omega)
 have ho2:=ho2.below hb4 (by omega)
 have ho3:=ho3.below hb4 (by omega)
 have ho4:=ho4.wider (lo':=w3.heap.size) (by omega) (Nat.le_refl _)
 clear A0_3 A1_3 A2_3
 have c4_0:w4.cell? ⟨w.heap.size,0,none⟩=some (.slice x0A x0l.length x0c):=za B0_4 rfl
 have c4_1:w4.cell? ⟨w.heap.size,1,none⟩=some (.slice x1A x1l.length x1c):=za B0_4 rfl
 have c4_2:w4.cell? ⟨w.heap.size,2,none⟩=some (.slice x2A x2l.length x2c):=za B0_4 rfl
 have c4_3:w4.cell? ⟨w.heap.size,3,none⟩=some (.slice x3A x3l.length x3c):=za B0_4 rfl
 have c4_4:w4.cell? ⟨w.heap.size,4,none⟩=some (.string x4):=za B0_4 rfl
 have c4_5:w4.cell? ⟨w.heap.size,5,none⟩=some (.slice x5A x5l.length x5c):=za B0_4 rfl
 have c4_6:w4.cell? ⟨w.heap.size,6,none⟩=some (.int .i64 x6):=za B0_4 rfl
 have c4_7:w4.cell? ⟨w.heap.size,7,none⟩=some (.slice x7A x7l.length x7c):=za B0_4 rfl
 have c4_8:w4.cell? ⟨w.heap.size,8,none⟩=some (.int .i64 x8):=za B0_4 rfl
 have c4_9:w4.cell? ⟨w.heap.size,9,none⟩=some (.int .i64 x9):=za B0_4 rfl
 have c4_10:w4.cell? ⟨w.heap.size,10,none⟩=some (.int .i64 x10):=za B0_4 rfl
 have c4_11:w4.cell? ⟨w.heap.size,11,none⟩=some (.int .i64 x11):=za B0_4 rfl
 have c4_12:w4.cell? ⟨w.heap.size,12,none⟩=some (.bool x12):=za B0_4 rfl
 have d4_0:w4.cell? ⟨w.heap.size+1+1,0,none⟩=some (.slice z1_0A z1_0l.length z1_0c):=za B2_4 rfl
 have d4_1:w4.cell? ⟨w.heap.size+1+1,1,none⟩=some (.slice A2 l2.length q2):=za B2_4 rfl
 have d4_2:w4.cell? ⟨w.heap.size+1+1,2,none⟩=some (.slice A3 l3.length q3):=za B2_4 rfl
 have d4_3:w4.cell? ⟨w.heap.size+1+1,3,none⟩=some (.slice none 0 0):=za B2_4 rfl
 have d4_4:w4.cell? ⟨w.heap.size+1+1,4,none⟩=some (.string ByteArray.empty):=za B2_4 rfl
 have d4_5:w4.cell? ⟨w.heap.size+1+1,5,none⟩=some (.slice none 0 0):=za B2_4 rfl
 have d4_6:w4.cell? ⟨w.heap.size+1+1,6,none⟩=some (.int .i64 0):=za B2_4 rfl
 have d4_7:w4.cell? ⟨w.heap.size+1+1,7,none⟩=some (.slice none 0 0):=za B2_4 rfl
 have d4_8:w4.cell? ⟨w.heap.size+1+1,8,none⟩=some (.int .i64 0):=za B2_4 rfl
 have d4_9:w4.cell? ⟨w.heap.size+1+1,9,none⟩=some (.int .i64 0):=za B2_4 rfl
 have d4_10:w4.cell? ⟨w.heap.size+1+1,10,none⟩=some (.int .i64 0):=za B2_4 rfl
 have d4_11:w4.cell? ⟨w.heap.size+1+1,11,none⟩=some (.int .i64 0):=za B2_4 rfl
 have d4_12:w4.cell? ⟨w.heap.size+1+1,12,none⟩=some (.bool false):=za B2_4 rfl
 have f4:=zt2 B2_4
 go_wp2_with fail
 have hK4:Kp (w.heap.size+1+1) (w.heap.size+1+1+1) w4 (w4.setCell ⟨w.heap.size+1+1,3,none⟩ (.slice A4 l4.length q4)):=(by repeat (first|(with_reducible exact Kp.refl _ _ _)|(refine Kp.set ?_ (by first|omega|(dsimp only;omega)|(simp;omega)) (by first|omega|(dsimp only;omega)|(simp;omega)) _)))
 have A0_4:=(hK4.block (w.heap.size) (by omega) (.inl (by omega))).trans B0_4
 have A1_4:=(hK4.block (w.heap.size+1) (by omega) (.inl (by omega))).trans B1_4
 have A2_4:(w4.setCell ⟨w.heap.size+1+1,3,none⟩ (.slice A4 l4.length q4)).heap[w.heap.size+1+1]? = some (.cells #[.slice z1_0A z1_0l.length z1_0c,.slice A2 l2.length q2,.slice A3 l3.length q3,.slice A4 l4.length q4,.string ByteArray.empty,.slice none 0 0,.int .i64 0,.slice none 0 0,.int .i64 0,.int .i64 0,.int .i64 0,.int .i64 0,.bool false] 42 (0,0)):=by simp only [zn2,B2_4];simp [setAt]
 have hW4:(w4.setCell ⟨w.heap.size+1+1,3,none⟩ (.slice A4 l4.length q4)).heap.size=w4.heap.size:=by simp
 have hBW4:Below w.heap.size w (w4.setCell ⟨w.heap.size+1+1,3,none⟩ (.slice A4 l4.length q4)):=hB4.trans (hK4.below (by omega) (by omega))
 have ho1:=ho1.kp hK4 (.inr (by omega))
 have ho2:=ho2.kp hK4 (.inr (by omega))
 have ho3:=ho3.kp hK4 (.inr (by omega))
 have ho4:=ho4.kp hK4 (.inr (by omega))
 clear c4_0 c4_1 c4_2 c4_3 c4_4 c4_5 c4_6 c4_7 c4_8 c4_9 c4_10 c4_11 c4_12 d4_0 d4_1 d4_2 d4_3 d4_4 d4_5 d4_6 d4_7 d4_8 d4_9 d4_10 d4_11 d4_12 f4 B0_4 B1_4 B2_4 hK4 hB4
 generalize (w4.setCell ⟨w.heap.size+1+1,3,none⟩ (.slice A4 l4.length q4))=W4 at *
 go_at_call 24
 refine (HC4.out _ (E.In.below hr4 hBW4 (Nat.le_refl _)) hs4).mono ?_;rintro e w5 ⟨v5,he,HD5,ht5,ho5,hn5,hb5⟩
 have HT5:=Lib.hid ht5
 have HN5:=Lib.hid hn5
 obtain⟨z5_0,z5_1A,z5_1c,z5_1l,rfl,gz5_0,gz5_1,-⟩:=zg2 ht5
 obtain rfl:e=.returned (.agg #[.string z5_0,.slice z5_1A z5_1l.length z5_1c]):=he
 clear hn5 ht5
 have B0_5:=(hb5.block (w.heap.size) (by omega)).trans A0_4
 have B1_5:=(hb5.block (w.heap.size+1) (by omega)).trans A1_4
 have B2_5:=(hb5.block (w.heap.size+1+1) (by omega)).trans A2_4
 have hz5:=hb5.size
 have hB5:Below w.heap.size w w5:=hBW4.trans (hb5.mono (by omega))
 have ho1:=ho1.below hb5 (by omega)
 have ho2:=ho2.below hb5 (by omega)
 have ho3:=ho3.below hb5 (by omega)
 have ho4:=ho4.below hb5 (by omega)
 have ho5:=ho5.wider (lo':=w4.heap.size) (by omega) (Nat.le_refl _)
 clear A0_4 A1_4 A2_4
 have c5_0:w5.cell? ⟨w.heap.size,0,none⟩=some (.slice x0A x0l.length x0c):=za B0_5 rfl
 have c5_1:w5.cell? ⟨w.heap.size,1,none⟩=some (.slice x1A x1l.length x1c):=za B0_5 rfl
 have c5_2:w5.cell? ⟨w.heap.size,2,none⟩=some (.slice x2A x2l.length x2c):=za B0_5 rfl
 have c5_3:w5.cell? ⟨w.heap.size,3,none⟩=some (.slice x3A x3l.length x3c):=za B0_5 rfl
 have c5_4:w5.cell? ⟨w.heap.size,4,none⟩=some (.string x4):=za B0_5 rfl
 have c5_5:w5.cell? ⟨w.heap.size,5,none⟩=some (.slice x5A x5l.length x5c):=za B0_5 rfl
 have c5_6:w5.cell? ⟨w.heap.size,6,none⟩=some (.int .i64 x6):=za B0_5 rfl
 have c5_7:w5.cell? ⟨w.heap.size,7,none⟩=some (.slice x7A x7l.length x7c):=za B0_5 rfl
 have c5_8:w5.cell? ⟨w.heap.size,8,none⟩=some (.int .i64 x8):=za B0_5 rfl
 have c5_9:w5.cell? ⟨w.heap.size,9,none⟩=some (.int .i64 x9):=za B0_5 rfl
 have c5_10:w5.cell? ⟨w.heap.size,10,none⟩=some (.int .i64 x10):=za B0_5 rfl
 have c5_11:w5.cell? ⟨w.heap.size,11,none⟩=some (.int .i64 x11):=za B0_5 rfl
 have c5_12:w5.cell? ⟨w.heap.size,12,none⟩=some (.bool x12):=za B0_5 rfl
 have d5_0:w5.cell? ⟨w.heap.size+1+1,0,none⟩=some (.slice z1_0A z1_0l.length z1_0c):=za B2_5 rfl
 have d5_1:w5.cell? ⟨w.heap.size+1+1,1,none⟩=some (.slice A2 l2.length q2):=za B2_5 rfl
 have d5_2:w5.cell? ⟨w.heap.size+1+1,2,none⟩=some (.slice A3 l3.length q3):=za B2_5 rfl
 have d5_3:w5.cell? ⟨w.heap.size+1+1,3,none⟩=some (.slice A4 l4.length q4):=za B2_5 rfl
 have d5_4:w5.cell? ⟨w.heap.size+1+1,4,none⟩=some (.string ByteArray.empty):=za B2_5 rfl
 have d5_5:w5.cell? ⟨w.heap.size+1+1,5,none⟩=some (.slice none 0 0):=za B2_5 rfl
 have d5_6:w5.cell? ⟨w.heap.size+1+1,6,none⟩=some (.int .i64 0):=za B2_5 rfl
 have d5_7:w5.cell? ⟨w.heap.size+1+1,7,none⟩=some (.slice none 0 0):=za B2_5 rfl
 have d5_8:w5.cell? ⟨w.heap.size+1+1,8,none⟩=some (.int .i64 0):=za B2_5 rfl
 have d5_9:w5.cell? ⟨w.heap.size+1+1,9,none⟩=some (.int .i64 0):=za B2_5 rfl
 have d5_10:w5.cell? ⟨w.heap.size+1+1,10,none⟩=some (.int .i64 0):=za B2_5 rfl
 have d5_11:w5.cell? ⟨w.heap.size+1+1,11,none⟩=some (.int .i64 0):=za B2_5 rfl
 have d5_12:w5.cell? ⟨w.heap.size+1+1,12,none⟩=some (.bool false):=za B2_5 rfl
 have f5:=zt2 B2_5
 go_wp2_with fail
 have hK5:Kp (w.heap.size+1+1) (w.heap.size+1+1+1) w5 (((w5.setCell ⟨w.heap.size+1+1,4,none⟩ (.string z5_0)).setCell ⟨w.heap.size+1+1,5,none⟩ (.slice z5_1A z5_1l.length z5_1c)).setCell ⟨w.heap.size+1+1,6,none⟩ (.int .i64 x6)):=(by repeat (first|(with_reducible exact Kp.refl _ _ _)|(refine Kp.set ?_ (by first|omega|(dsimp only;omega)|(simp;omega)) (by first|omega|(dsimp only;omega)|(simp;omega)) _)))
 have A0_5:=(hK5.block (w.heap.size) (by omega) (.inl (by omega))).trans B0_5
 have A1_5:=(hK5.block (w.heap.size+1) (by omega) (.inl (by omega))).trans B1_5
 have A2_5:(((w5.setCell ⟨w.heap.size+1+1,4,none⟩ (.string z5_0)).setCell ⟨w.heap.size+1+1,5,none⟩ (.slice z5_1A z5_1l.length z5_1c)).setCell ⟨w.heap.size+1+1,6,none⟩ (.int .i64 x6)).heap[w.heap.size+1+1]? = some (.cells #[.slice z1_0A z1_0l.length z1_0c,.slice A2 l2.length q2,.slice A3 l3.length q3,.slice A4 l4.length q4,.string z5_0,.slice z5_1A z5_1l.length z5_1c,.int .i64 x6,.slice none 0 0,.int .i64 0,.int .i64 0,.int .i64 0,.int .i64 0,.bool false] 42 (0,0)):=by simp only [zn2,B2_5];simp [setAt]
 have hW5:(((w5.setCell ⟨w.heap.size+1+1,4,none⟩ (.string z5_0)).setCell ⟨w.heap.size+1+1,5,none⟩ (.slice z5_1A z5_1l.length z5_1c)).setCell ⟨w.heap.size+1+1,6,none⟩ (.int .i64 x6)).heap.size=w5.heap.size:=by simp
 have hBW5:Below w.heap.size w (((w5.setCell ⟨w.heap.size+1+1,4,none⟩ (.string z5_0)).setCell ⟨w.heap.size+1+1,5,none⟩ (.slice z5_1A z5_1l.length z5_1c)).setCell ⟨w.heap.size+1+1,6,none⟩ (.int .i64 x6)):=hB5.trans (hK5.below (by omega) (by omega))
 have ho1:=ho1.kp hK5 (.inr (by omega))
 have ho2:=ho2.kp hK5 (.inr (by omega))
 have ho3:=ho3.kp hK5 (.inr (by omega))
 have ho4:=ho4.kp hK5 (.inr (by omega))
 have ho5:=ho5.kp hK5 (.inr (by omega))
 clear c5_0 c5_1 c5_2 c5_3 c5_4 c5_5 c5_6 c5_7 c5_8 c5_9 c5_10 c5_11 c5_12 d5_0 d5_1 d5_2 d5_3 d5_4 d5_5 d5_6 d5_7 d5_8 d5_9 d5_10 d5_11 d5_12 f5 B0_5 B1_5 B2_5 hK5 hB5
 generalize (((w5.setCell ⟨w.heap.size+1+1,4,none⟩ (.string z5_0)).setCell ⟨w.heap.size+1+1,5,none⟩ (.slice z5_1A z5_1l.length z5_1c)).setCell ⟨w.heap.size+1+1,6,none⟩ (.int .i64 x6))=W5 at *
 go_at_call 25
 refine (HC6.out _ (E.In.below hr6 hBW5 (Nat.le_refl _)) hs6).mono ?_;rintro e w6 ⟨v6,he,HD6,ht6,ho6,hn6,hb6⟩
 have HT6:=Lib.hid ht6
 have HN6:=Lib.hid hn6
 obtain⟨A6,q6,l6,rfl,-,-⟩:=ht6.lst_ Tryz.underlying31 (k:=1) (by kernel_rfl)
 obtain rfl:e=.returned (.slice A6 l6.length q6):=he
 clear hn6 ht6
 have B0_6:=(hb6.block (w.heap.size) (by omega)).trans A0_5
 have B1_6:=(hb6.block (w.heap.size+1) (by omega)).trans A1_5
 have B2_6:=(hb6.block (w.heap.size+1+1) (by omega)).trans A2_5
 have hz6:=hb6.size
 have hB6:Below w.heap.size w w6:=hBW5.trans (hb6.mono (by omega))
 have ho1:=ho1.below hb6 (by omega)
 have ho2:=ho2.below hb6 (by omega)
 have ho3:=ho3.below hb6 (by omega)
 have ho4:=ho4.below hb6 (by omega)
 have ho5:=ho5.below hb6 (by omega)
 have ho6:=ho6.wider (lo':=w5.heap.size) (by omega) (Nat.le_refl _)
 clear A0_5 A1_5 A2_5
 have c6_0:w6.cell? ⟨w.heap.size,0,none⟩=some (.slice x0A x0l.length x0c):=za B0_6 rfl
 have c6_1:w6.cell? ⟨w.heap.size,1,none⟩=some (.slice x1A x1l.length x1c):=za B0_6 rfl
 have c6_2:w6.cell? ⟨w.heap.size,2,none⟩=some (.slice x2A x2l.length x2c):=za B0_6 rfl
 have c6_3:w6.cell? ⟨w.heap.size,3,none⟩=some (.slice x3A x3l.length x3c):=za B0_6 rfl
 have c6_4:w6.cell? ⟨w.heap.size,4,none⟩=some (.string x4):=za B0_6 rfl
 have c6_5:w6.cell? ⟨w.heap.size,5,none⟩=some (.slice x5A x5l.length x5c):=za B0_6 rfl
 have c6_6:w6.cell? ⟨w.heap.size,6,none⟩=some (.int .i64 x6):=za B0_6 rfl
 have c6_7:w6.cell? ⟨w.heap.size,7,none⟩=some (.slice x7A x7l.length x7c):=za B0_6 rfl
 have c6_8:w6.cell? ⟨w.heap.size,8,none⟩=some (.int .i64 x8):=za B0_6 rfl
 have c6_9:w6.cell? ⟨w.heap.size,9,none⟩=some (.int .i64 x9):=za B0_6 rfl
 have c6_10:w6.cell? ⟨w.heap.size,10,none⟩=some (.int .i64 x10):=za B0_6 rfl
 have c6_11:w6.cell? ⟨w.heap.size,11,none⟩=some (.int .i64 x11):=za B0_6 rfl
 have c6_12:w6.cell? ⟨w.heap.size,12,none⟩=some (.bool x12):=za B0_6 rfl
 have d6_0:w6.cell? ⟨w.heap.size+1+1,0,none⟩=some (.slice z1_0A z1_0l.length z1_0c):=za B2_6 rfl
 have d6_1:w6.cell? ⟨w.heap.size+1+1,1,none⟩=some (.slice A2 l2.length q2):=za B2_6 rfl
 have d6_2:w6.cell? ⟨w.heap.size+1+1,2,none⟩=some (.slice A3 l3.length q3):=za B2_6 rfl
 have d6_3:w6.cell? ⟨w.heap.size+1+1,3,none⟩=some (.slice A4 l4.length q4):=za B2_6 rfl
 have d6_4:w6.cell? ⟨w.heap.size+1+1,4,none⟩=some (.string z5_0):=za B2_6 rfl
 have d6_5:w6.cell? ⟨w.heap.size+1+1,5,none⟩=some (.slice z5_1A z5_1l.length z5_1c):=za B2_6 rfl
 have d6_6:w6.cell? ⟨w.heap.size+1+1,6,none⟩=some (.int .i64 x6):=za B2_6 rfl
 have d6_7:w6.cell? ⟨w.heap.size+1+1,7,none⟩=some (.slice none 0 0):=za B2_6 rfl
 have d6_8:w6.cell? ⟨w.heap.size+1+1,8,none⟩=some (.int .i64 0):=za B2_6 rfl
 have d6_9:w6.cell? ⟨w.heap.size+1+1,9,none⟩=some (.int .i64 0):=za B2_6 rfl
 have d6_10:w6.cell? ⟨w.heap.size+1+1,10,none⟩=some (.int .i64 0):=za B2_6 rfl
 have d6_11:w6.cell? ⟨w.heap.size+1+1,11,none⟩=some (.int .i64 0):=za B2_6 rfl
 have d6_12:w6.cell? ⟨w.heap.size+1+1,12,none⟩=some (.bool false):=za B2_6 rfl
 have f6:=zt2 B2_6
 have r0':=za B1_6 (o:=0) rfl;have r1':=za B1_6 (o:=1) rfl;have r2':=za B1_6 (o:=2) rfl;have r3':=za B1_6 (o:=3) rfl;have r4':=za B1_6 (o:=4) rfl;have r5':=za B1_6 (o:=5) rfl;have r6':=za B1_6 (o:=6) rfl;have r7':=za B1_6 (o:=7) rfl;have r8':=za B1_6 (o:=8) rfl;have r9':=za B1_6 (o:=9) rfl;have r10':=za B1_6 (o:=10) rfl;have r11':=za B1_6 (o:=11) rfl;have r12':=za B1_6 (o:=12) rfl
 have fr':=zt2 B1_6
 go_wp2
 have OWN:Owns w6 (w.heap.size+1+1+1) w6.heap.size [(E.agg [.lst 4 110 z1_0A z1_0c z1_0l]),(E.lst 1 3 A2 q2 l2),(E.lst 1 65 A3 q3 l3),(E.lst 6 60 A4 q4 l4),(E.agg [.str z5_0,.lst 1 9 z5_1A z5_1c z5_1l]),(E.int .i64 x6),(E.lst 1 5 A6 q6 l6),(E.int .i64 x8),(E.int .i64 x9),(E.int .i64 x10),(E.int .i64 x11),(E.bool x12)]:=(Owns.cons (mid:=w1.heap.size) ho1 HN1.out (Owns.cons (mid:=w2.heap.size) ho2 HN2.out (Owns.cons (mid:=w3.heap.size) ho3 HN3.out (Owns.cons (mid:=w4.heap.size) ho4 HN4.out (Owns.cons (mid:=w5.heap.size) ho5 HN5.out (Owns.leaf rfl (by simp only [E.Ho]) (Owns.cons (mid:=w6.heap.size) ho6 HN6.out (Owns.leaf rfl (by simp only [E.Ho]) (Owns.leaf rfl (by simp only [E.Ho]) (Owns.leaf rfl (by simp only [E.Ho]) (Owns.leaf rfl (by simp only [E.Ho]) (Owns.leaf rfl (by simp only [E.Ho]) Owns.nil))))) (by omega) (by omega))) (by omega) (by omega)) (by omega) (by omega)) (by omega) (by omega)) (by omega) (by omega)) (by omega) (by omega))
 refine bodyPost_ret (v:=.agg #[.slice z1_0A z1_0l.length z1_0c,.slice A2 l2.length q2,.slice A3 l3.length q3,.slice A4 l4.length q4,.string z5_0,.slice z5_1A z5_1l.length z5_1c,.int .i64 x6,.slice A6 l6.length q6,.int .i64 x8,.int .i64 x9,.int .i64 x10,.int .i64 x11,.bool x12]) (zp4 (t:=42) (fr:=(0,0)) rfl rfl Tryz.underlying42 (by kernel_rfl) ?_) rfl ⟨(E.agg [(E.agg [.lst 4 110 z1_0A z1_0c z1_0l]),(E.lst 1 3 A2 q2 l2),(E.lst 1 65 A3 q3 l3),(E.lst 6 60 A4 q4 l4),(E.agg [.str z5_0,.lst 1 9 z5_1A z5_1c z5_1l]),(E.int .i64 x6),(E.lst 1 5 A6 q6 l6),(E.int .i64 x8),(E.int .i64 x9),(E.int .i64 x10),(E.int .i64 x11),(E.bool x12)]),rfl,?_,E.Ty.mk_agg Tryz.underlying42 (E.TyF.mk_cons HT1.out (E.TyF.mk_cons HT2.out (E.TyF.mk_cons HT3.out (E.TyF.mk_cons HT4.out (E.TyF.mk_cons HT5.out (E.TyF.mk_cons (show E.Ty _ _ _ from ⟨Tryz.underlying3,gx6⟩) (E.TyF.mk_cons HT6.out (E.TyF.mk_cons (show E.Ty _ _ _ from ⟨Tryz.underlying3,gx8⟩) (E.TyF.mk_cons (show E.Ty _ _ _ from ⟨Tryz.underlying3,gx9⟩) (E.TyF.mk_cons (show E.Ty _ _ _ from ⟨Tryz.underlying3,gx10⟩) (E.TyF.mk_cons (show E.Ty _ _ _ from ⟨Tryz.underlying3,gx11⟩) (E.TyF.mk_cons (show E.Ty _ _ _ from Tryz.underlying4) (E.TyF.mk_nil))))))))))))),?_,?_,?_⟩
 ·simp only [zn2,B1_6,B2_6];simp [setAt]
 ·show E.d _=E.d _
  simp only [E.d,E.dL]
  have y1:=HD1.out;simp only [E.d,E.dL] at y1
  have y2:=HD2.out;simp only [E.d,E.dL] at y2
  have y3:=HD3.out;simp only [E.d,E.dL] at y3
  have y4:=HD4.out;simp only [E.d,E.dL] at y4
  have y5:=HD5.out;simp only [E.d,E.dL] at y5
  have y6:=HD6.out;simp only [E.d,E.dL] at y6
  simp only [E.agg.injEq,List.cons.injEq,E.lst.injEq,E.int.injEq,E.str.injEq,E.bool.injEq,true_and,and_true] at *
  simp [*]
 ·exact ((E.Ho.mk_agg OWN.1).kp (lo':=w.heap.size+1) (hi':=w.heap.size+1+1+1) (by repeat (first|(with_reducible exact Kp.refl _ _ _)|(refine Kp.set ?_ (by first|omega|(dsimp only;omega)|(simp;omega)) (by first|omega|(dsimp only;omega)|(simp;omega)) _))) (.inr (by omega))).wider (by omega) (by simp)
 ·exact OWN.2
 ·exact hB6.trans (Kp.below (lo:=w.heap.size+1) (hi:=w.heap.size+1+1+1) (by repeat (first|(with_reducible exact Kp.refl _ _ _)|(refine Kp.set ?_ (by first|omega|(dsimp only;omega)|(simp;omega)) (by first|omega|(dsimp only;omega)|(simp;omega)) _))) (by omega) (by omega))
set_option maxRecDepth 100000 in
set_option maxHeartbeats 1000000 in
theorem ze5 {e e':E}(ht:e.Ty Tryz.prog 42)(ht':e'.Ty Tryz.prog 42):Eq 8 e e':=by
 obtain⟨x0A,x0c,x0l,x1A,x1c,x1l,x2A,x2c,x2l,x3A,x3c,x3l,x4,x5A,x5c,x5l,x6,x7A,x7c,x7l,x8,x9,x10,x11,x12,rfl,gx0,gx1,gx2,gx3,gx4,gx5,gx6,gx7,gx8,gx9,gx10,gx11,-⟩:=zb1 ht
 obtain⟨y0A,y0c,y0l,y1A,y1c,y1l,y2A,y2c,y2l,y3A,y3c,y3l,y4,y5A,y5c,y5l,y6,y7A,y7c,y7l,y8,y9,y10,y11,y12,rfl,gy0,gy1,gy2,gy3,gy4,gy5,gy6,gy7,gy8,gy9,gy10,gy11,-⟩:=zb1 ht'
 intro hd w hr hr'
 simp only [E.d,E.dL,E.agg.injEq,List.cons.injEq,E.int.injEq,E.str.injEq,E.bool.injEq,E.lst.injEq,true_and,and_true] at hd
 obtain⟨hd0,hd1,hd2,hd3,⟨rfl,hd5⟩,rfl,hd7,rfl,rfl,rfl,rfl,rfl⟩:=hd
 have hr0:=((hr.fld (i:=0) rfl).alloc (.cells #[.slice x0A x0l.length x0c,.slice x1A x1l.length x1c,.slice x2A x2l.length x2c,.slice x3A x3l.length x3c,.string x4,.slice x5A x5l.length x5c,.int .i64 x6,.slice x7A x7l.length x7c,.int .i64 x8,.int .i64 x9,.int .i64 x10,.int .i64 x11,.bool x12] 42)).alloc (.cells #[.slice y0A y0l.length y0c,.slice y1A y1l.length y1c,.slice y2A y2l.length y2c,.slice y3A y3l.length y3c,.string x4,.slice y5A y5l.length y5c,.int .i64 x6,.slice y7A y7l.length y7c,.int .i64 x8,.int .i64 x9,.int .i64 x10,.int .i64 x11,.bool x12] 42)
 have hs0:=((hr'.fld (i:=0) rfl).alloc (.cells #[.slice x0A x0l.length x0c,.slice x1A x1l.length x1c,.slice x2A x2l.length x2c,.slice x3A x3l.length x3c,.string x4,.slice x5A x5l.length x5c,.int .i64 x6,.slice x7A x7l.length x7c,.int .i64 x8,.int .i64 x9,.int .i64 x10,.int .i64 x11,.bool x12] 42)).alloc (.cells #[.slice y0A y0l.length y0c,.slice y1A y1l.length y1c,.slice y2A y2l.length y2c,.slice y3A y3l.length y3c,.string x4,.slice y5A y5l.length y5c,.int .i64 x6,.slice y7A y7l.length y7c,.int .i64 x8,.int .i64 x9,.int .i64 x10,.int .i64 x11,.bool x12] 42)
 have t0:(E.agg [.lst 4 110 x0A x0c x0l]).Ty Tryz.prog 37:=E.Ty.mk_agg Tryz.underlying37 (E.TyF.mk_cons (E.Ty.mk_lst Tryz.underlying35 (by kernel_rfl) gx0.1 gx0.2) (E.TyF.mk_nil))
 have u0:(E.agg [.lst 4 110 y0A y0c y0l]).Ty Tryz.prog 37:=E.Ty.mk_agg Tryz.underlying37 (E.TyF.mk_cons (E.Ty.mk_lst Tryz.underlying35 (by kernel_rfl) gy0.1 gy0.2) (E.TyF.mk_nil))
 have HC0:=Lib.hid (zx14 t0 u0 (by simp only [E.d,E.dL,E.agg.injEq,List.cons.injEq,E.int.injEq,E.str.injEq,E.bool.injEq,E.lst.injEq,true_and,and_true];exact hd0))
 clear t0 u0
 have hr1:=((hr.fld (i:=1) rfl).alloc (.cells #[.slice x0A x0l.length x0c,.slice x1A x1l.length x1c,.slice x2A x2l.length x2c,.slice x3A x3l.length x3c,.string x4,.slice x5A x5l.length x5c,.int .i64 x6,.slice x7A x7l.length x7c,.int .i64 x8,.int .i64 x9,.int .i64 x10,.int .i64 x11,.bool x12] 42)).alloc (.cells #[.slice y0A y0l.length y0c,.slice y1A y1l.length y1c,.slice y2A y2l.length y2c,.slice y3A y3l.length y3c,.string x4,.slice y5A y5l.length y5c,.int .i64 x6,.slice y7A y7l.length y7c,.int .i64 x8,.int .i64 x9,.int .i64 x10,.int .i64 x11,.bool x12] 42)
 have hs1:=((hr'.fld (i:=1) rfl).alloc (.cells #[.slice x0A x0l.length x0c,.slice x1A x1l.length x1c,.slice x2A x2l.length x2c,.slice x3A x3l.length x3c,.string x4,.slice x5A x5l.length x5c,.int .i64 x6,.slice x7A x7l.length x7c,.int .i64 x8,.int .i64 x9,.int .i64 x10,.int .i64 x11,.bool x12] 42)).alloc (.cells #[.slice y0A y0l.length y0c,.slice y1A y1l.length y1c,.slice y2A y2l.length y2c,.slice y3A y3l.length y3c,.string x4,.slice y5A y5l.length y5c,.int .i64 x6,.slice y7A y7l.length y7c,.int .i64 x8,.int .i64 x9,.int .i64 x10,.int .i64 x11,.bool x12] 42)
 have t1:(E.lst 1 3 x1A x1c x1l).Ty Tryz.prog 25:=E.Ty.mk_lst Tryz.underlying25 (by kernel_rfl) gx1.1 gx1.2
 have u1:(E.lst 1 3 y1A y1c y1l).Ty Tryz.prog 25:=E.Ty.mk_lst Tryz.underlying25 (by kernel_rfl) gy1.1 gy1.2
 have HC1:=Lib.hid (zq5 t1 u1 (by simp only [E.d,E.dL,E.agg.injEq,List.cons.injEq,E.int.injEq,E.str.injEq,E.bool.injEq,E.lst.injEq,true_and,and_true];exact hd1))
 clear t1 u1
 have hr2:=((hr.fld (i:=2) rfl).alloc (.cells #[.slice x0A x0l.length x0c,.slice x1A x1l.length x1c,.slice x2A x2l.length x2c,.slice x3A x3l.length x3c,.string x4,.slice x5A x5l.length x5c,.int .i64 x6,.slice x7A x7l.length x7c,.int .i64 x8,.int .i64 x9,.int .i64 x10,.int .i64 x11,.bool x12] 42)).alloc (.cells #[.slice y0A y0l.length y0c,.slice y1A y1l.length y1c,.slice y2A y2l.length y2c,.slice y3A y3l.length y3c,.string x4,.slice y5A y5l.length y5c,.int .i64 x6,.slice y7A y7l.length y7c,.int .i64 x8,.int .i64 x9,.int .i64 x10,.int .i64 x11,.bool x12] 42)
 have hs2:=((hr'.fld (i:=2) rfl).alloc (.cells #[.slice x0A x0l.length x0c,.slice x1A x1l.length x1c,.slice x2A x2l.length x2c,.slice x3A x3l.length x3c,.string x4,.slice x5A x5l.length x5c,.int .i64 x6,.slice x7A x7l.length x7c,.int .i64 x8,.int .i64 x9,.int .i64 x10,.int .i64 x11,.bool x12] 42)).alloc (.cells #[.slice y0A y0l.length y0c,.slice y1A y1l.length y1c,.slice y2A y2l.length y2c,.slice y3A y3l.length y3c,.string x4,.slice y5A y5l.length y5c,.int .i64 x6,.slice y7A y7l.length y7c,.int .i64 x8,.int .i64 x9,.int .i64 x10,.int .i64 x11,.bool x12] 42)
 have t2:(E.lst 1 65 x2A x2c x2l).Ty Tryz.prog 38:=E.Ty.mk_lst Tryz.underlying38 (by kernel_rfl) gx2.1 gx2.2
 have u2:(E.lst 1 65 y2A y2c y2l).Ty Tryz.prog 38:=E.Ty.mk_lst Tryz.underlying38 (by kernel_rfl) gy2.1 gy2.2
 have HC2:=Lib.hid (zq9 t2 u2 (by simp only [E.d,E.dL,E.agg.injEq,List.cons.injEq,E.int.injEq,E.str.injEq,E.bool.injEq,E.lst.injEq,true_and,and_true];exact hd2))
 clear t2 u2
 have hr3:=((hr.fld (i:=3) rfl).alloc (.cells #[.slice x0A x0l.length x0c,.slice x1A x1l.length x1c,.slice x2A x2l.length x2c,.slice x3A x3l.length x3c,.string x4,.slice x5A x5l.length x5c,.int .i64 x6,.slice x7A x7l.length x7c,.int .i64 x8,.int .i64 x9,.int .i64 x10,.int .i64 x11,.bool x12] 42)).alloc (.cells #[.slice y0A y0l.length y0c,.slice y1A y1l.length y1c,.slice y2A y2l.length y2c,.slice y3A y3l.length y3c,.string x4,.slice y5A y5l.length y5c,.int .i64 x6,.slice y7A y7l.length y7c,.int .i64 x8,.int .i64 x9,.int .i64 x10,.int .i64 x11,.bool x12] 42)
 have hs3:=((hr'.fld (i:=3) rfl).alloc (.cells #[.slice x0A x0l.length x0c,.slice x1A x1l.length x1c,.slice x2A x2l.length x2c,.slice x3A x3l.length x3c,.string x4,.slice x5A x5l.length x5c,.int .i64 x6,.slice x7A x7l.length x7c,.int .i64 x8,.int .i64 x9,.int .i64 x10,.int .i64 x11,.bool x12] 42)).alloc (.cells #[.slice y0A y0l.length y0c,.slice y1A y1l.length y1c,.slice y2A y2l.length y2c,.slice y3A y3l.length y3c,.string x4,.slice y5A y5l.length y5c,.int .i64 x6,.slice y7A y7l.length y7c,.int .i64 x8,.int .i64 x9,.int .i64 x10,.int .i64 x11,.bool x12] 42)
 have t3:(E.lst 6 60 x3A x3c x3l).Ty Tryz.prog 39:=E.Ty.mk_lst Tryz.underlying39 (by kernel_rfl) gx3.1 gx3.2
 have u3:(E.lst 6 60 y3A y3c y3l).Ty Tryz.prog 39:=E.Ty.mk_lst Tryz.underlying39 (by kernel_rfl) gy3.1 gy3.2
 have HC3:=Lib.hid (zi11 t3 u3 (by simp only [E.d,E.dL,E.agg.injEq,List.cons.injEq,E.int.injEq,E.str.injEq,E.bool.injEq,E.lst.injEq,true_and,and_true];exact hd3))
 clear t3 u3
 have hr4:=((hr.fld (i:=4) rfl).alloc (.cells #[.slice x0A x0l.length x0c,.slice x1A x1l.length x1c,.slice x2A x2l.length x2c,.slice x3A x3l.length x3c,.string x4,.slice x5A x5l.length x5c,.int .i64 x6,.slice x7A x7l.length x7c,.int .i64 x8,.int .i64 x9,.int .i64 x10,.int .i64 x11,.bool x12] 42)).alloc (.cells #[.slice y0A y0l.length y0c,.slice y1A y1l.length y1c,.slice y2A y2l.length y2c,.slice y3A y3l.length y3c,.string x4,.slice y5A y5l.length y5c,.int .i64 x6,.slice y7A y7l.length y7c,.int .i64 x8,.int .i64 x9,.int .i64 x10,.int .i64 x11,.bool x12] 42)
 have hs4:=((hr'.fld (i:=4) rfl).alloc (.cells #[.slice x0A x0l.length x0c,.slice x1A x1l.length x1c,.slice x2A x2l.length x2c,.slice x3A x3l.length x3c,.string x4,.slice x5A x5l.length x5c,.int .i64 x6,.slice x7A x7l.length x7c,.int .i64 x8,.int .i64 x9,.int .i64 x10,.int .i64 x11,.bool x12] 42)).alloc (.cells #[.slice y0A y0l.length y0c,.slice y1A y1l.length y1c,.slice y2A y2l.length y2c,.slice y3A y3l.length y3c,.string x4,.slice y5A y5l.length y5c,.int .i64 x6,.slice y7A y7l.length y7c,.int .i64 x8,.int .i64 x9,.int .i64 x10,.int .i64 x11,.bool x12] 42)
 have t4:(E.agg [.str x4,.lst 1 9 x5A x5c x5l]).Ty Tryz.prog 40:=E.Ty.mk_agg Tryz.underlying40 (E.TyF.mk_cons (show E.Ty _ _ _ from ⟨Tryz.underlying9,by unfold maxLen;exact gx4⟩) (E.TyF.mk_cons (E.Ty.mk_lst Tryz.underlying28 (by kernel_rfl) gx5.1 gx5.2) (E.TyF.mk_nil)))
 have u4:(E.agg [.str x4,.lst 1 9 y5A y5c y5l]).Ty Tryz.prog 40:=E.Ty.mk_agg Tryz.underlying40 (E.TyF.mk_cons (show E.Ty _ _ _ from ⟨Tryz.underlying9,by unfold maxLen;exact gx4⟩) (E.TyF.mk_cons (E.Ty.mk_lst Tryz.underlying28 (by kernel_rfl) gy5.1 gy5.2) (E.TyF.mk_nil)))
 have HC4:=Lib.hid (zf18 t4 u4 (by simp only [E.d,E.dL,E.agg.injEq,List.cons.injEq,E.int.injEq,E.str.injEq,E.bool.injEq,E.lst.injEq,true_and,and_true];exact hd5))
 clear t4 u4
 have hr6:=((hr.fld (i:=6) rfl).alloc (.cells #[.slice x0A x0l.length x0c,.slice x1A x1l.length x1c,.slice x2A x2l.length x2c,.slice x3A x3l.length x3c,.string x4,.slice x5A x5l.length x5c,.int .i64 x6,.slice x7A x7l.length x7c,.int .i64 x8,.int .i64 x9,.int .i64 x10,.int .i64 x11,.bool x12] 42)).alloc (.cells #[.slice y0A y0l.length y0c,.slice y1A y1l.length y1c,.slice y2A y2l.length y2c,.slice y3A y3l.length y3c,.string x4,.slice y5A y5l.length y5c,.int .i64 x6,.slice y7A y7l.length y7c,.int .i64 x8,.int .i64 x9,.int .i64 x10,.int .i64 x11,.bool x12] 42)
 have hs6:=((hr'.fld (i:=6) rfl).alloc (.cells #[.slice x0A x0l.length x0c,.slice x1A x1l.length x1c,.slice x2A x2l.length x2c,.slice x3A x3l.length x3c,.string x4,.slice x5A x5l.length x5c,.int .i64 x6,.slice x7A x7l.length x7c,.int .i64 x8,.int .i64 x9,.int .i64 x10,.int .i64 x11,.bool x12] 42)).alloc (.cells #[.slice y0A y0l.length y0c,.slice y1A y1l.length y1c,.slice y2A y2l.length y2c,.slice y3A y3l.length y3c,.string x4,.slice y5A y5l.length y5c,.int .i64 x6,.slice y7A y7l.length y7c,.int .i64 x8,.int .i64 x9,.int .i64 x10,.int .i64 x11,.bool x12] 42)
 have t6:(E.lst 1 5 x7A x7c x7l).Ty Tryz.prog 31:=E.Ty.mk_lst Tryz.underlying31 (by kernel_rfl) gx7.1 gx7.2
 have u6:(E.lst 1 5 y7A y7c y7l).Ty Tryz.prog 31:=E.Ty.mk_lst Tryz.underlying31 (by kernel_rfl) gy7.1 gy7.2
 have HC6:=Lib.hid (zh12 t6 u6 (by simp only [E.d,E.dL,E.agg.injEq,List.cons.injEq,E.int.injEq,E.str.injEq,E.bool.injEq,E.lst.injEq,true_and,and_true];exact hd7))
 clear t6 u6
 clear hd0 hd1 hd2 hd3 hd5 hd7
 change Calls _ _ #[.agg #[.slice x0A x0l.length x0c,.slice x1A x1l.length x1c,.slice x2A x2l.length x2c,.slice x3A x3l.length x3c,.string x4,.slice x5A x5l.length x5c,.int .i64 x6,.slice x7A x7l.length x7c,.int .i64 x8,.int .i64 x9,.int .i64 x10,.int .i64 x11,.bool x12],.agg #[.slice y0A y0l.length y0c,.slice y1A y1l.length y1c,.slice y2A y2l.length y2c,.slice y3A y3l.length y3c,.string x4,.slice y5A y5l.length y5c,.int .i64 x6,.slice y7A y7l.length y7c,.int .i64 x8,.int .i64 x9,.int .i64 x10,.int .i64 x11,.bool x12]] w _
 go_enter Tryz.func8,Tryz.ntmps8
 go_wp2_with fail
 go_at_call 30
 refine (HC0.out _ hr0 hs0).mono ?_;rintro e w1 ⟨rfl,hb1⟩
 have hz1:=hb1.size;(try simp only [World.size_alloc] at hz1)
 have c1_1:w1.cell? ⟨w.heap.size,1,none⟩=some (.slice x1A x1l.length x1c):=zb hb1 (ze (zi rfl) (by simp)) (by simp;omega)
 have d1_1:w1.cell? ⟨w.heap.size+1,1,none⟩=some (.slice y1A y1l.length y1c):=zb hb1 (cell_new' rfl (by simp)) (by simp)
 have c1_2:w1.cell? ⟨w.heap.size,2,none⟩=some (.slice x2A x2l.length x2c):=zb hb1 (ze (zi rfl) (by simp)) (by simp;omega)
 have d1_2:w1.cell? ⟨w.heap.size+1,2,none⟩=some (.slice y2A y2l.length y2c):=zb hb1 (cell_new' rfl (by simp)) (by simp)
 have c1_3:w1.cell? ⟨w.heap.size,3,none⟩=some (.slice x3A x3l.length x3c):=zb hb1 (ze (zi rfl) (by simp)) (by simp;omega)
 have d1_3:w1.cell? ⟨w.heap.size+1,3,none⟩=some (.slice y3A y3l.length y3c):=zb hb1 (cell_new' rfl (by simp)) (by simp)
 have c1_4:w1.cell? ⟨w.heap.size,4,none⟩=some (.string x4):=zb hb1 (ze (zi rfl) (by simp)) (by simp;omega)
 have d1_4:w1.cell? ⟨w.heap.size+1,4,none⟩=some (.string x4):=zb hb1 (cell_new' rfl (by simp)) (by simp)
 have c1_5:w1.cell? ⟨w.heap.size,5,none⟩=some (.slice x5A x5l.length x5c):=zb hb1 (ze (zi rfl) (by simp)) (by simp;omega)
 have d1_5:w1.cell? ⟨w.heap.size+1,5,none⟩=some (.slice y5A y5l.length y5c):=zb hb1 (cell_new' rfl (by simp)) (by simp)
 have c1_6:w1.cell? ⟨w.heap.size,6,none⟩=some (.int .i64 x6):=zb hb1 (ze (zi rfl) (by simp)) (by simp;omega)
 have d1_6:w1.cell? ⟨w.heap.size+1,6,none⟩=some (.int .i64 x6):=zb hb1 (cell_new' rfl (by simp)) (by simp)
 have c1_7:w1.cell? ⟨w.heap.size,7,none⟩=some (.slice x7A x7l.length x7c):=zb hb1 (ze (zi rfl) (by simp)) (by simp;omega)
 have d1_7:w1.cell? ⟨w.heap.size+1,7,none⟩=some (.slice y7A y7l.length y7c):=zb hb1 (cell_new' rfl (by simp)) (by simp)
 have c1_8:w1.cell? ⟨w.heap.size,8,none⟩=some (.int .i64 x8):=zb hb1 (ze (zi rfl) (by simp)) (by simp;omega)
 have d1_8:w1.cell? ⟨w.heap.size+1,8,none⟩=some (.int .i64 x8):=zb hb1 (cell_new' rfl (by simp)) (by simp)
 have c1_9:w1.cell? ⟨w.heap.size,9,none⟩=some (.int .i64 x9):=zb hb1 (ze (zi rfl) (by simp)) (by simp;omega)
 have d1_9:w1.cell? ⟨w.heap.size+1,9,none⟩=some (.int .i64 x9):=zb hb1 (cell_new' rfl (by simp)) (by simp)
 have c1_10:w1.cell? ⟨w.heap.size,10,none⟩=some (.int .i64 x10):=zb hb1 (ze (zi rfl) (by simp)) (by simp;omega)
 have d1_10:w1.cell? ⟨w.heap.size+1,10,none⟩=some (.int .i64 x10):=zb hb1 (cell_new' rfl (by simp)) (by simp)
 have c1_11:w1.cell? ⟨w.heap.size,11,none⟩=some (.int .i64 x11):=zb hb1 (ze (zi rfl) (by simp)) (by simp;omega)
 have d1_11:w1.cell? ⟨w.heap.size+1,11,none⟩=some (.int .i64 x11):=zb hb1 (cell_new' rfl (by simp)) (by simp)
 have c1_12:w1.cell? ⟨w.heap.size,12,none⟩=some (.bool x12):=zb hb1 (ze (zi rfl) (by simp)) (by simp;omega)
 have d1_12:w1.cell? ⟨w.heap.size+1,12,none⟩=some (.bool x12):=zb hb1 (cell_new' rfl (by simp)) (by simp)
 have hr1:=hr1.below hb1 by3
 have hs1:=hs1.below hb1 by3
 have hr2:=hr2.below hb1 by3
 have hs2:=hs2.below hb1 by3
 have hr3:=hr3.below hb1 by3
 have hs3:=hs3.below hb1 by3
 have hr4:=hr4.below hb1 by3
 have hs4:=hs4.below hb1 by3
 have hr6:=hr6.below hb1 by3
 have hs6:=hs6.below hb1 by3
 go_wp2_with fail
 go_at_call 31
 refine (HC1.out _ hr1 hs1).mono ?_;rintro e w2 ⟨rfl,hb2⟩
 have hz2:=hb2.size;(try simp only [World.size_alloc] at hz2)
 have c2_2:=zb hb2 c1_2 (by omega)
 have d2_2:=zb hb2 d1_2 (by omega)
 have c2_3:=zb hb2 c1_3 (by omega)
 have d2_3:=zb hb2 d1_3 (by omega)
 have c2_4:=zb hb2 c1_4 (by omega)
 have d2_4:=zb hb2 d1_4 (by omega)
 have c2_5:=zb hb2 c1_5 (by omega)
 have d2_5:=zb hb2 d1_5 (by omega)
 have c2_6:=zb hb2 c1_6 (by omega)
 have d2_6:=zb hb2 d1_6 (by omega)
 have c2_7:=zb hb2 c1_7 (by omega)
 have d2_7:=zb hb2 d1_7 (by omega)
 have c2_8:=zb hb2 c1_8 (by omega)
 have d2_8:=zb hb2 d1_8 (by omega)
 have c2_9:=zb hb2 c1_9 (by omega)
 have d2_9:=zb hb2 d1_9 (by omega)
 have c2_10:=zb hb2 c1_10 (by omega)
 have d2_10:=zb hb2 d1_10 (by omega)
 have c2_11:=zb hb2 c1_11 (by omega)
 have d2_11:=zb hb2 d1_11 (by omega)
 have c2_12:=zb hb2 c1_12 (by omega)
 have d2_12:=zb hb2 d1_12 (by omega)
 clear c1_1 d1_1 c1_2 d1_2 c1_3 d1_3 c1_4 d1_4 c1_5 d1_5 c1_6 d1_6 c1_7 d1_7 c1_8 d1_8 c1_9 d1_9 c1_10 d1_10 c1_11 d1_11 c1_12 d1_12
 have hr2:=hr2.below hb2 by3
 have hs2:=hs2.below hb2 by3
 have hr3:=hr3.below hb2 by3
 have hs3:=hs3.below hb2 by3
 have hr4:=hr4.below hb2 by3
 have hs4:=hs4.below hb2 by3
 have hr6:=hr6.below hb2 by3
 have hs6:=hs6.below hb2 by3
 go_wp2_with fail
 go_at_call 32
 refine (HC2.out _ hr2 hs2).mono ?_;rintro e w3 ⟨rfl,hb3⟩
 have hz3:=hb3.size;(try simp only [World.size_alloc] at hz3)
 have c3_3:=zb hb3 c2_3 (by omega)
 have d3_3:=zb hb3 d2_3 (by omega)
 have c3_4:=zb hb3 c2_4 (by omega)
 have d3_4:=zb hb3 d2_4 (by omega)
 have c3_5:=zb hb3 c2_5 (by omega)
 have d3_5:=zb hb3 d2_5 (by omega)
 have c3_6:=zb hb3 c2_6 (by omega)
 have d3_6:=zb hb3 d2_6 (by omega)
 have c3_7:=zb hb3 c2_7 (by omega)
 have d3_7:=zb hb3 d2_7 (by omega)
 have c3_8:=zb hb3 c2_8 (by omega)
 have d3_8:=zb hb3 d2_8 (by omega)
 have c3_9:=zb hb3 c2_9 (by omega)
 have d3_9:=zb hb3 d2_9 (by omega)
 have c3_10:=zb hb3 c2_10 (by omega)
 have d3_10:=zb hb3 d2_10 (by omega)
 have c3_11:=zb hb3 c2_11 (by omega)
 have d3_11:=zb hb3 d2_11 (by omega)
 have c3_12:=zb hb3 c2_12 (by omega)
 have d3_12:=zb hb3 d2_12 (by omega)
 clear c2_2 d2_2 c2_3 d2_3 c2_4 d2_4 c2_5 d2_5 c2_6 d2_6 c2_7 d2_7 c2_8 d2_8 c2_9 d2_9 c2_10 d2_10 c2_11 d2_11 c2_12 d2_12
 have hr3:=hr3.below hb3 by3
 have hs3:=hs3.below hb3 by3
 have hr4:=hr4.below hb3 by3
 have hs4:=hs4.below hb3 by3
 have hr6:=hr6.below hb3 by3
 have hs6:=hs6.below hb3 by3
 go_wp2_with fail
 go_at_call 33
 refine (HC3.out _ hr3 hs3).mono ?_;rintro e w4 ⟨rfl,hb4⟩
 have hz4:=hb4.size;(try simp only [World.size_alloc] at hz4)
 have c4_4:=zb hb4 c3_4 (by omega)
 have d4_4:=zb hb4 d3_4 (by omega)
 have c4_5:=zb hb4 c3_5 (by omega)
 have d4_5:=zb hb4 d3_5 (by omega)
 have c4_6:=zb hb4 c3_6 (by omega)
 have d4_6:=zb hb4 d3_6 (by omega)
 have c4_7:=zb hb4 c3_7 (by omega)
 have d4_7:=zb hb4 d3_7 (by omega)
 have c4_8:=zb hb4 c3_8 (by omega)
 have d4_8:=zb hb4 d3_8 (by omega)
 have c4_9:=zb hb4 c3_9 (by omega)
 have d4_9:=zb hb4 d3_9 (by omega)
 have c4_10:=zb hb4 c3_10 (by omega)
 have d4_10:=zb hb4 d3_10 (by omega)
 have c4_11:=zb hb4 c3_11 (by omega)
 have d4_11:=zb hb4 d3_11 (by omega)
 have c4_12:=zb hb4 c3_12 (by omega)
 have d4_12:=zb hb4 d3_12 (by omega)
 clear c3_3 d3_3 c3_4 d3_4 c3_5 d3_5 c3_6 d3_6 c3_7 d3_7 c3_8 d3_8 c3_9 d3_9 c3_10 d3_10 c3_11 d3_11 c3_12 d3_12
 have hr4:=hr4.below hb4 by3
 have hs4:=hs4.below hb4 by3
 have hr6:=hr6.below hb4 by3
 have hs6:=hs6.below hb4 by3
 go_wp2_with fail
 go_at_call 34
 refine (HC4.out _ hr4 hs4).mono ?_;rintro e w5 ⟨rfl,hb5⟩
 have hz5:=hb5.size;(try simp only [World.size_alloc] at hz5)
 have c5_6:=zb hb5 c4_6 (by omega)
 have d5_6:=zb hb5 d4_6 (by omega)
 have c5_7:=zb hb5 c4_7 (by omega)
 have d5_7:=zb hb5 d4_7 (by omega)
 have c5_8:=zb hb5 c4_8 (by omega)
 have d5_8:=zb hb5 d4_8 (by omega)
 have c5_9:=zb hb5 c4_9 (by omega)
 have d5_9:=zb hb5 d4_9 (by omega)
 have c5_10:=zb hb5 c4_10 (by omega)
 have d5_10:=zb hb5 d4_10 (by omega)
 have c5_11:=zb hb5 c4_11 (by omega)
 have d5_11:=zb hb5 d4_11 (by omega)
 have c5_12:=zb hb5 c4_12 (by omega)
 have d5_12:=zb hb5 d4_12 (by omega)
 clear c4_4 d4_4 c4_5 d4_5 c4_6 d4_6 c4_7 d4_7 c4_8 d4_8 c4_9 d4_9 c4_10 d4_10 c4_11 d4_11 c4_12 d4_12
 have hr6:=hr6.below hb5 by3
 have hs6:=hs6.below hb5 by3
 go_wp2_with fail
 go_at_call 35
 refine (HC6.out _ hr6 hs6).mono ?_;rintro e w6 ⟨rfl,hb6⟩
 have hz6:=hb6.size;(try simp only [World.size_alloc] at hz6)
 have c6_8:=zb hb6 c5_8 (by omega)
 have d6_8:=zb hb6 d5_8 (by omega)
 have c6_9:=zb hb6 c5_9 (by omega)
 have d6_9:=zb hb6 d5_9 (by omega)
 have c6_10:=zb hb6 c5_10 (by omega)
 have d6_10:=zb hb6 d5_10 (by omega)
 have c6_11:=zb hb6 c5_11 (by omega)
 have d6_11:=zb hb6 d5_11 (by omega)
 have c6_12:=zb hb6 c5_12 (by omega)
 have d6_12:=zb hb6 d5_12 (by omega)
 clear c5_6 d5_6 c5_7 d5_7 c5_8 d5_8 c5_9 d5_9 c5_10 d5_10 c5_11 d5_11 c5_12 d5_12
 go_wp2
 go_ret
 exact⟨rfl,by0⟩
set_option maxRecDepth 100000 in
set_option maxHeartbeats 1000000 in
theorem zz5 {e:E}(ht:e.Ty Tryz.prog 42):Mar 9 e:=by
 obtain⟨x0A,x0c,x0l,x1A,x1c,x1l,x2A,x2c,x2l,x3A,x3c,x3l,x4,x5A,x5c,x5l,x6,x7A,x7c,x7l,x8,x9,x10,x11,x12,rfl,gx0,gx1,gx2,gx3,gx4,gx5,gx6,gx7,gx8,gx9,gx10,gx11,-⟩:=zb1 ht
 have ty0:(E.agg [.lst 4 110 x0A x0c x0l]).Ty Tryz.prog 37:=E.Ty.mk_agg Tryz.underlying37 (E.TyF.mk_cons (E.Ty.mk_lst Tryz.underlying35 (by kernel_rfl) gx0.1 gx0.2) (E.TyF.mk_nil))
 have HC0:=Lib.hid (zu10 ty0)
 clear ty0
 have ty1:(E.lst 1 3 x1A x1c x1l).Ty Tryz.prog 25:=E.Ty.mk_lst Tryz.underlying25 (by kernel_rfl) gx1.1 gx1.2
 have HC1:=Lib.hid (zy4 ty1)
 clear ty1
 have ty2:(E.lst 1 65 x2A x2c x2l).Ty Tryz.prog 38:=E.Ty.mk_lst Tryz.underlying38 (by kernel_rfl) gx2.1 gx2.2
 have HC2:=Lib.hid (zh7 ty2)
 clear ty2
 have ty3:(E.lst 6 60 x3A x3c x3l).Ty Tryz.prog 39:=E.Ty.mk_lst Tryz.underlying39 (by kernel_rfl) gx3.1 gx3.2
 have HC3:=Lib.hid (zy7 ty3)
 clear ty3
 have ty4:(E.agg [.str x4,.lst 1 9 x5A x5c x5l]).Ty Tryz.prog 40:=E.Ty.mk_agg Tryz.underlying40 (E.TyF.mk_cons (show E.Ty _ _ _ from ⟨Tryz.underlying9,by unfold maxLen;exact gx4⟩) (E.TyF.mk_cons (E.Ty.mk_lst Tryz.underlying28 (by kernel_rfl) gx5.1 gx5.2) (E.TyF.mk_nil)))
 have HC4:=Lib.hid (zz12 ty4)
 clear ty4
 have ty6:(E.lst 1 5 x7A x7c x7l).Ty Tryz.prog 31:=E.Ty.mk_lst Tryz.underlying31 (by kernel_rfl) gx7.1 gx7.2
 have HC6:=Lib.hid (zc9 ty6)
 clear ty6
 intro lo hi k0 w ho hnd hhi h0 h1
 have HCN:Hid ((E.agg [(.agg [.lst 4 110 x0A x0c x0l]),.lst 1 3 x1A x1c x1l,.lst 1 65 x2A x2c x2l,.lst 6 60 x3A x3c x3l,(.agg [.str x4,.lst 1 9 x5A x5c x5l]),.int .i64 x6,.lst 1 5 x7A x7c x7l,.int .i64 x8,.int .i64 x9,.int .i64 x10,.int .i64 x11,.bool x12]).cnt=((E.agg [.lst 4 110 x0A x0c x0l]).cnt+((E.lst 1 3 x1A x1c x1l).cnt+((E.lst 1 65 x2A x2c x2l).cnt+((E.lst 6 60 x3A x3c x3l).cnt+((E.agg [.str x4,.lst 1 9 x5A x5c x5l]).cnt+(0+((E.lst 1 5 x7A x7c x7l).cnt+(0+(0+(0+(0+(0+0))))))))))))):=rfl
 have h1':=h1
 rw [HCN.out] at h1'
 clear h1
 change (E.fpL [(E.agg [.lst 4 110 x0A x0c x0l]),(E.lst 1 3 x1A x1c x1l),(E.lst 1 65 x2A x2c x2l),(E.lst 6 60 x3A x3c x3l),(E.agg [.str x4,.lst 1 9 x5A x5c x5l]),(E.int .i64 x6),(E.lst 1 5 x7A x7c x7l),(E.int .i64 x8),(E.int .i64 x9),(E.int .i64 x10),(E.int .i64 x11),(E.bool x12)]).Nodup at hnd
 have ho0:=(ho.fld (i:=0) rfl).alloc hhi (.cells #[.slice x0A x0l.length x0c,.slice x1A x1l.length x1c,.slice x2A x2l.length x2c,.slice x3A x3l.length x3c,.string x4,.slice x5A x5l.length x5c,.int .i64 x6,.slice x7A x7l.length x7c,.int .i64 x8,.int .i64 x9,.int .i64 x10,.int .i64 x11,.bool x12] 42)
 have HN0:=Lib.hid (zi1 hnd (show (E.agg [.lst 4 110 x0A x0c x0l])∈[(E.agg [.lst 4 110 x0A x0c x0l]),(E.lst 1 3 x1A x1c x1l),(E.lst 1 65 x2A x2c x2l),(E.lst 6 60 x3A x3c x3l),(E.agg [.str x4,.lst 1 9 x5A x5c x5l]),(E.int .i64 x6),(E.lst 1 5 x7A x7c x7l),(E.int .i64 x8),(E.int .i64 x9),(E.int .i64 x10),(E.int .i64 x11),(E.bool x12)] by simp))
 have HS0:=Lib.hid (fun b (hb:b∈(E.agg [.lst 4 110 x0A x0c x0l]).fp)=>(E.mem_fpL.2 ⟨_,(show (E.agg [.lst 4 110 x0A x0c x0l])∈[(E.agg [.lst 4 110 x0A x0c x0l]),(E.lst 1 3 x1A x1c x1l),(E.lst 1 65 x2A x2c x2l),(E.lst 6 60 x3A x3c x3l),(E.agg [.str x4,.lst 1 9 x5A x5c x5l]),(E.int .i64 x6),(E.lst 1 5 x7A x7c x7l),(E.int .i64 x8),(E.int .i64 x9),(E.int .i64 x10),(E.int .i64 x11),(E.bool x12)] by simp),hb⟩:b∈E.fpL [(E.agg [.lst 4 110 x0A x0c x0l]),(E.lst 1 3 x1A x1c x1l),(E.lst 1 65 x2A x2c x2l),(E.lst 6 60 x3A x3c x3l),(E.agg [.str x4,.lst 1 9 x5A x5c x5l]),(E.int .i64 x6),(E.lst 1 5 x7A x7c x7l),(E.int .i64 x8),(E.int .i64 x9),(E.int .i64 x10),(E.int .i64 x11),(E.bool x12)]))
 have DJ0_1:=Lib.hid (fun b (hb:b∈(E.agg [.lst 4 110 x0A x0c x0l]).fp)=>(E.fpL_apart hnd 0 1 (by simp) (by simp) (by omega) b hb:b∉(E.lst 1 3 x1A x1c x1l).fp))
 have DJ0_2:=Lib.hid (fun b (hb:b∈(E.agg [.lst 4 110 x0A x0c x0l]).fp)=>(E.fpL_apart hnd 0 2 (by simp) (by simp) (by omega) b hb:b∉(E.lst 1 65 x2A x2c x2l).fp))
 have DJ0_3:=Lib.hid (fun b (hb:b∈(E.agg [.lst 4 110 x0A x0c x0l]).fp)=>(E.fpL_apart hnd 0 3 (by simp) (by simp) (by omega) b hb:b∉(E.lst 6 60 x3A x3c x3l).fp))
 have DJ0_4:=Lib.hid (fun b (hb:b∈(E.agg [.lst 4 110 x0A x0c x0l]).fp)=>(E.fpL_apart hnd 0 4 (by simp) (by simp) (by omega) b hb:b∉(E.agg [.str x4,.lst 1 9 x5A x5c x5l]).fp))
 have DJ0_6:=Lib.hid (fun b (hb:b∈(E.agg [.lst 4 110 x0A x0c x0l]).fp)=>(E.fpL_apart hnd 0 6 (by simp) (by simp) (by omega) b hb:b∉(E.lst 1 5 x7A x7c x7l).fp))
 have ho1:=(ho.fld (i:=1) rfl).alloc hhi (.cells #[.slice x0A x0l.length x0c,.slice x1A x1l.length x1c,.slice x2A x2l.length x2c,.slice x3A x3l.length x3c,.string x4,.slice x5A x5l.length x5c,.int .i64 x6,.slice x7A x7l.length x7c,.int .i64 x8,.int .i64 x9,.int .i64 x10,.int .i64 x11,.bool x12] 42)
 have HN1:=Lib.hid (zi1 hnd (show (E.lst 1 3 x1A x1c x1l)∈[(E.agg [.lst 4 110 x0A x0c x0l]),(E.lst 1 3 x1A x1c x1l),(E.lst 1 65 x2A x2c x2l),(E.lst 6 60 x3A x3c x3l),(E.agg [.str x4,.lst 1 9 x5A x5c x5l]),(E.int .i64 x6),(E.lst 1 5 x7A x7c x7l),(E.int .i64 x8),(E.int .i64 x9),(E.int .i64 x10),(E.int .i64 x11),(E.bool x12)] by simp))
 have HS1:=Lib.hid (fun b (hb:b∈(E.lst 1 3 x1A x1c x1l).fp)=>(E.mem_fpL.2 ⟨_,(show (E.lst 1 3 x1A x1c x1l)∈[(E.agg [.lst 4 110 x0A x0c x0l]),(E.lst 1 3 x1A x1c x1l),(E.lst 1 65 x2A x2c x2l),(E.lst 6 60 x3A x3c x3l),(E.agg [.str x4,.lst 1 9 x5A x5c x5l]),(E.int .i64 x6),(E.lst 1 5 x7A x7c x7l),(E.int .i64 x8),(E.int .i64 x9),(E.int .i64 x10),(E.int .i64 x11),(E.bool x12)] by simp),hb⟩:b∈E.fpL [(E.agg [.lst 4 110 x0A x0c x0l]),(E.lst 1 3 x1A x1c x1l),(E.lst 1 65 x2A x2c x2l),(E.lst 6 60 x3A x3c x3l),(E.agg [.str x4,.lst 1 9 x5A x5c x5l]),(E.int .i64 x6),(E.lst 1 5 x7A x7c x7l),(E.int .i64 x8),(E.int .i64 x9),(E.int .i64 x10),(E.int .i64 x11),(E.bool x12)]))
 have DJ1_0:=Lib.hid (fun b (hb:b∈(E.lst 1 3 x1A x1c x1l).fp)=>(E.fpL_apart hnd 1 0 (by simp) (by simp) (by omega) b hb:b∉(E.agg [.lst 4 110 x0A x0c x0l]).fp))
 have DJ1_2:=Lib.hid (fun b (hb:b∈(E.lst 1 3 x1A x1c x1l).fp)=>(E.fpL_apart hnd 1 2 (by simp) (by simp) (by omega) b hb:b∉(E.lst 1 65 x2A x2c x2l).fp))
 have DJ1_3:=Lib.hid (fun b (hb:b∈(E.lst 1 3 x1A x1c x1l).fp)=>(E.fpL_apart hnd 1 3 (by simp) (by simp) (by omega) b hb:b∉(E.lst 6 60 x3A x3c x3l).fp))
 have DJ1_4:=Lib.hid (fun b (hb:b∈(E.lst 1 3 x1A x1c x1l).fp)=>(E.fpL_apart hnd 1 4 (by simp) (by simp) (by omega) b hb:b∉(E.agg [.str x4,.lst 1 9 x5A x5c x5l]).fp))
 have DJ1_6:=Lib.hid (fun b (hb:b∈(E.lst 1 3 x1A x1c x1l).fp)=>(E.fpL_apart hnd 1 6 (by simp) (by simp) (by omega) b hb:b∉(E.lst 1 5 x7A x7c x7l).fp))
 have ho2:=(ho.fld (i:=2) rfl).alloc hhi (.cells #[.slice x0A x0l.length x0c,.slice x1A x1l.length x1c,.slice x2A x2l.length x2c,.slice x3A x3l.length x3c,.string x4,.slice x5A x5l.length x5c,.int .i64 x6,.slice x7A x7l.length x7c,.int .i64 x8,.int .i64 x9,.int .i64 x10,.int .i64 x11,.bool x12] 42)
 have HN2:=Lib.hid (zi1 hnd (show (E.lst 1 65 x2A x2c x2l)∈[(E.agg [.lst 4 110 x0A x0c x0l]),(E.lst 1 3 x1A x1c x1l),(E.lst 1 65 x2A x2c x2l),(E.lst 6 60 x3A x3c x3l),(E.agg [.str x4,.lst 1 9 x5A x5c x5l]),(E.int .i64 x6),(E.lst 1 5 x7A x7c x7l),(E.int .i64 x8),(E.int .i64 x9),(E.int .i64 x10),(E.int .i64 x11),(E.bool x12)] by simp))
 have HS2:=Lib.hid (fun b (hb:b∈(E.lst 1 65 x2A x2c x2l).fp)=>(E.mem_fpL.2 ⟨_,(show (E.lst 1 65 x2A x2c x2l)∈[(E.agg [.lst 4 110 x0A x0c x0l]),(E.lst 1 3 x1A x1c x1l),(E.lst 1 65 x2A x2c x2l),(E.lst 6 60 x3A x3c x3l),(E.agg [.str x4,.lst 1 9 x5A x5c x5l]),(E.int .i64 x6),(E.lst 1 5 x7A x7c x7l),(E.int .i64 x8),(E.int .i64 x9),(E.int .i64 x10),(E.int .i64 x11),(E.bool x12)] by simp),hb⟩:b∈E.fpL [(E.agg [.lst 4 110 x0A x0c x0l]),(E.lst 1 3 x1A x1c x1l),(E.lst 1 65 x2A x2c x2l),(E.lst 6 60 x3A x3c x3l),(E.agg [.str x4,.lst 1 9 x5A x5c x5l]),(E.int .i64 x6),(E.lst 1 5 x7A x7c x7l),(E.int .i64 x8),(E.int .i64 x9),(E.int .i64 x10),(E.int .i64 x11),(E.bool x12)]))
 have DJ2_0:=Lib.hid (fun b (hb:b∈(E.lst 1 65 x2A x2c x2l).fp)=>(E.fpL_apart hnd 2 0 (by simp) (by simp) (by omega) b hb:b∉(E.agg [.lst 4 110 x0A x0c x0l]).fp))
 have DJ2_1:=Lib.hid (fun b (hb:b∈(E.lst 1 65 x2A x2c x2l).fp)=>(E.fpL_apart hnd 2 1 (by simp) (by simp) (by omega) b hb:b∉(E.lst 1 3 x1A x1c x1l).fp))
 have DJ2_3:=Lib.hid (fun b (hb:b∈(E.lst 1 65 x2A x2c x2l).fp)=>(E.fpL_apart hnd 2 3 (by simp) (by simp) (by omega) b hb:b∉(E.lst 6 60 x3A x3c x3l).fp))
 have DJ2_4:=Lib.hid (fun b (hb:b∈(E.lst 1 65 x2A x2c x2l).fp)=>(E.fpL_apart hnd 2 4 (by simp) (by simp) (by omega) b hb:b∉(E.agg [.str x4,.lst 1 9 x5A x5c x5l]).fp))
 have DJ2_6:=Lib.hid (fun b (hb:b∈(E.lst 1 65 x2A x2c x2l).fp)=>(E.fpL_apart hnd 2 6 (by simp) (by simp) (by omega) b hb:b∉(E.lst 1 5 x7A x7c x7l).fp))
 have ho3:=(ho.fld (i:=3) rfl).alloc hhi (.cells #[.slice x0A x0l.length x0c,.slice x1A x1l.length x1c,.slice x2A x2l.length x2c,.slice x3A x3l.length x3c,.string x4,.slice x5A x5l.length x5c,.int .i64 x6,.slice x7A x7l.length x7c,.int .i64 x8,.int .i64 x9,.int .i64 x10,.int .i64 x11,.bool x12] 42)
 have HN3:=Lib.hid (zi1 hnd (show (E.lst 6 60 x3A x3c x3l)∈[(E.agg [.lst 4 110 x0A x0c x0l]),(E.lst 1 3 x1A x1c x1l),(E.lst 1 65 x2A x2c x2l),(E.lst 6 60 x3A x3c x3l),(E.agg [.str x4,.lst 1 9 x5A x5c x5l]),(E.int .i64 x6),(E.lst 1 5 x7A x7c x7l),(E.int .i64 x8),(E.int .i64 x9),(E.int .i64 x10),(E.int .i64 x11),(E.bool x12)] by simp))
 have HS3:=Lib.hid (fun b (hb:b∈(E.lst 6 60 x3A x3c x3l).fp)=>(E.mem_fpL.2 ⟨_,(show (E.lst 6 60 x3A x3c x3l)∈[(E.agg [.lst 4 110 x0A x0c x0l]),(E.lst 1 3 x1A x1c x1l),(E.lst 1 65 x2A x2c x2l),(E.lst 6 60 x3A x3c x3l),(E.agg [.str x4,.lst 1 9 x5A x5c x5l]),(E.int .i64 x6),(E.lst 1 5 x7A x7c x7l),(E.int .i64 x8),(E.int .i64 x9),(E.int .i64 x10),(E.int .i64 x11),(E.bool x12)] by simp),hb⟩:b∈E.fpL [(E.agg [.lst 4 110 x0A x0c x0l]),(E.lst 1 3 x1A x1c x1l),(E.lst 1 65 x2A x2c x2l),(E.lst 6 60 x3A x3c x3l),(E.agg [.str x4,.lst 1 9 x5A x5c x5l]),(E.int .i64 x6),(E.lst 1 5 x7A x7c x7l),(E.int .i64 x8),(E.int .i64 x9),(E.int .i64 x10),(E.int .i64 x11),(E.bool x12)]))
 have DJ3_0:=Lib.hid (fun b (hb:b∈(E.lst 6 60 x3A x3c x3l).fp)=>(E.fpL_apart hnd 3 0 (by simp) (by simp) (by omega) b hb:b∉(E.agg [.lst 4 110 x0A x0c x0l]).fp))
 have DJ3_1:=Lib.hid (fun b (hb:b∈(E.lst 6 60 x3A x3c x3l).fp)=>(E.fpL_apart hnd 3 1 (by simp) (by simp) (by omega) b hb:b∉(E.lst 1 3 x1A x1c x1l).fp))
 have DJ3_2:=Lib.hid (fun b (hb:b∈(E.lst 6 60 x3A x3c x3l).fp)=>(E.fpL_apart hnd 3 2 (by simp) (by simp) (by omega) b hb:b∉(E.lst 1 65 x2A x2c x2l).fp))
 have DJ3_4:=Lib.hid (fun b (hb:b∈(E.lst 6 60 x3A x3c x3l).fp)=>(E.fpL_apart hnd 3 4 (by simp) (by simp) (by omega) b hb:b∉(E.agg [.str x4,.lst 1 9 x5A x5c x5l]).fp))
 have DJ3_6:=Lib.hid (fun b (hb:b∈(E.lst 6 60 x3A x3c x3l).fp)=>(E.fpL_apart hnd 3 6 (by simp) (by simp) (by omega) b hb:b∉(E.lst 1 5 x7A x7c x7l).fp))
 have ho4:=(ho.fld (i:=4) rfl).alloc hhi (.cells #[.slice x0A x0l.length x0c,.slice x1A x1l.length x1c,.slice x2A x2l.length x2c,.slice x3A x3l.length x3c,.string x4,.slice x5A x5l.length x5c,.int .i64 x6,.slice x7A x7l.length x7c,.int .i64 x8,.int .i64 x9,.int .i64 x10,.int .i64 x11,.bool x12] 42)
 have HN4:=Lib.hid (zi1 hnd (show (E.agg [.str x4,.lst 1 9 x5A x5c x5l])∈[(E.agg [.lst 4 110 x0A x0c x0l]),(E.lst 1 3 x1A x1c x1l),(E.lst 1 65 x2A x2c x2l),(E.lst 6 60 x3A x3c x3l),(E.agg [.str x4,.lst 1 9 x5A x5c x5l]),(E.int .i64 x6),(E.lst 1 5 x7A x7c x7l),(E.int .i64 x8),(E.int .i64 x9),(E.int .i64 x10),(E.int .i64 x11),(E.bool x12)] by simp))
 have HS4:=Lib.hid (fun b (hb:b∈(E.agg [.str x4,.lst 1 9 x5A x5c x5l]).fp)=>(E.mem_fpL.2 ⟨_,(show (E.agg [.str x4,.lst 1 9 x5A x5c x5l])∈[(E.agg [.lst 4 110 x0A x0c x0l]),(E.lst 1 3 x1A x1c x1l),(E.lst 1 65 x2A x2c x2l),(E.lst 6 60 x3A x3c x3l),(E.agg [.str x4,.lst 1 9 x5A x5c x5l]),(E.int .i64 x6),(E.lst 1 5 x7A x7c x7l),(E.int .i64 x8),(E.int .i64 x9),(E.int .i64 x10),(E.int .i64 x11),(E.bool x12)] by simp),hb⟩:b∈E.fpL [(E.agg [.lst 4 110 x0A x0c x0l]),(E.lst 1 3 x1A x1c x1l),(E.lst 1 65 x2A x2c x2l),(E.lst 6 60 x3A x3c x3l),(E.agg [.str x4,.lst 1 9 x5A x5c x5l]),(E.int .i64 x6),(E.lst 1 5 x7A x7c x7l),(E.int .i64 x8),(E.int .i64 x9),(E.int .i64 x10),(E.int .i64 x11),(E.bool x12)]))
 have DJ4_0:=Lib.hid (fun b (hb:b∈(E.agg [.str x4,.lst 1 9 x5A x5c x5l]).fp)=>(E.fpL_apart hnd 4 0 (by simp) (by simp) (by omega) b hb:b∉(E.agg [.lst 4 110 x0A x0c x0l]).fp))
 have DJ4_1:=Lib.hid (fun b (hb:b∈(E.agg [.str x4,.lst 1 9 x5A x5c x5l]).fp)=>(E.fpL_apart hnd 4 1 (by simp) (by simp) (by omega) b hb:b∉(E.lst 1 3 x1A x1c x1l).fp))
 have DJ4_2:=Lib.hid (fun b (hb:b∈(E.agg [.str x4,.lst 1 9 x5A x5c x5l]).fp)=>(E.fpL_apart hnd 4 2 (by simp) (by simp) (by omega) b hb:b∉(E.lst 1 65 x2A x2c x2l).fp))
 have DJ4_3:=Lib.hid (fun b (hb:b∈(E.agg [.str x4,.lst 1 9 x5A x5c x5l]).fp)=>(E.fpL_apart hnd 4 3 (by simp) (by simp) (by omega) b hb:b∉(E.lst 6 60 x3A x3c x3l).fp))
 have DJ4_6:=Lib.hid (fun b (hb:b∈(E.agg [.str x4,.lst 1 9 x5A x5c x5l]).fp)=>(E.fpL_apart hnd 4 6 (by simp) (by simp) (by omega) b hb:b∉(E.lst 1 5 x7A x7c x7l).fp))
 have ho6:=(ho.fld (i:=6) rfl).alloc hhi (.cells #[.slice x0A x0l.length x0c,.slice x1A x1l.length x1c,.slice x2A x2l.length x2c,.slice x3A x3l.length x3c,.string x4,.slice x5A x5l.length x5c,.int .i64 x6,.slice x7A x7l.length x7c,.int .i64 x8,.int .i64 x9,.int .i64 x10,.int .i64 x11,.bool x12] 42)
 have HN6:=Lib.hid (zi1 hnd (show (E.lst 1 5 x7A x7c x7l)∈[(E.agg [.lst 4 110 x0A x0c x0l]),(E.lst 1 3 x1A x1c x1l),(E.lst 1 65 x2A x2c x2l),(E.lst 6 60 x3A x3c x3l),(E.agg [.str x4,.lst 1 9 x5A x5c x5l]),(E.int .i64 x6),(E.lst 1 5 x7A x7c x7l),(E.int .i64 x8),(E.int .i64 x9),(E.int .i64 x10),(E.int .i64 x11),(E.bool x12)] by simp))
 have HS6:=Lib.hid (fun b (hb:b∈(E.lst 1 5 x7A x7c x7l).fp)=>(E.mem_fpL.2 ⟨_,(show (E.lst 1 5 x7A x7c x7l)∈[(E.agg [.lst 4 110 x0A x0c x0l]),(E.lst 1 3 x1A x1c x1l),(E.lst 1 65 x2A x2c x2l),(E.lst 6 60 x3A x3c x3l),(E.agg [.str x4,.lst 1 9 x5A x5c x5l]),(E.int .i64 x6),(E.lst 1 5 x7A x7c x7l),(E.int .i64 x8),(E.int .i64 x9),(E.int .i64 x10),(E.int .i64 x11),(E.bool x12)] by simp),hb⟩:b∈E.fpL [(E.agg [.lst 4 110 x0A x0c x0l]),(E.lst 1 3 x1A x1c x1l),(E.lst 1 65 x2A x2c x2l),(E.lst 6 60 x3A x3c x3l),(E.agg [.str x4,.lst 1 9 x5A x5c x5l]),(E.int .i64 x6),(E.lst 1 5 x7A x7c x7l),(E.int .i64 x8),(E.int .i64 x9),(E.int .i64 x10),(E.int .i64 x11),(E.bool x12)]))
 have DJ6_0:=Lib.hid (fun b (hb:b∈(E.lst 1 5 x7A x7c x7l).fp)=>(E.fpL_apart hnd 6 0 (by simp) (by simp) (by omega) b hb:b∉(E.agg [.lst 4 110 x0A x0c x0l]).fp))
 have DJ6_1:=Lib.hid (fun b (hb:b∈(E.lst 1 5 x7A x7c x7l).fp)=>(E.fpL_apart hnd 6 1 (by simp) (by simp) (by omega) b hb:b∉(E.lst 1 3 x1A x1c x1l).fp))
 have DJ6_2:=Lib.hid (fun b (hb:b∈(E.lst 1 5 x7A x7c x7l).fp)=>(E.fpL_apart hnd 6 2 (by simp) (by simp) (by omega) b hb:b∉(E.lst 1 65 x2A x2c x2l).fp))
 have DJ6_3:=Lib.hid (fun b (hb:b∈(E.lst 1 5 x7A x7c x7l).fp)=>(E.fpL_apart hnd 6 3 (by simp) (by simp) (by omega) b hb:b∉(E.lst 6 60 x3A x3c x3l).fp))
 have DJ6_4:=Lib.hid (fun b (hb:b∈(E.lst 1 5 x7A x7c x7l).fp)=>(E.fpL_apart hnd 6 4 (by simp) (by simp) (by omega) b hb:b∉(E.agg [.str x4,.lst 1 9 x5A x5c x5l]).fp))
 clear hnd ho
 change Calls _ _ #[.agg #[.slice x0A x0l.length x0c,.slice x1A x1l.length x1c,.slice x2A x2l.length x2c,.slice x3A x3l.length x3c,.string x4,.slice x5A x5l.length x5c,.int .i64 x6,.slice x7A x7l.length x7c,.int .i64 x8,.int .i64 x9,.int .i64 x10,.int .i64 x11,.bool x12],.int .i64 k0] w _
 go_enter Tryz.func9,Tryz.ntmps9
 go_wp2_with fail
 go_at_call 36
 refine (HC0.out lo hi _ _ ho0 HN0.out (by first|omega|(simp;omega)) (by omega) (by omega)).mono ?_;rintro e w1 ⟨rfl,hm0,hf1⟩
 have hz1:=hf1.size;(try simp only [World.size_alloc] at hz1)
 have B1:w1.heap[w.heap.size]? = some (.cells #[.slice x0A x0l.length x0c,.slice x1A x1l.length x1c,.slice x2A x2l.length x2c,.slice x3A x3l.length x3c,.string x4,.slice x5A x5l.length x5c,.int .i64 x6,.slice x7A x7l.length x7c,.int .i64 x8,.int .i64 x9,.int .i64 x10,.int .i64 x11,.bool x12] 42 (0,0)):=(hf1.block w.heap.size (by first|omega|simp) (fun hm=>by have:=ho0.lt _ hm;omega)).trans (heap_alloc_new w _)
 have c1_1:w1.cell? ⟨w.heap.size,1,none⟩=some (.slice x1A x1l.length x1c):=za B1 rfl
 have c1_2:w1.cell? ⟨w.heap.size,2,none⟩=some (.slice x2A x2l.length x2c):=za B1 rfl
 have c1_3:w1.cell? ⟨w.heap.size,3,none⟩=some (.slice x3A x3l.length x3c):=za B1 rfl
 have c1_4:w1.cell? ⟨w.heap.size,4,none⟩=some (.string x4):=za B1 rfl
 have c1_5:w1.cell? ⟨w.heap.size,5,none⟩=some (.slice x5A x5l.length x5c):=za B1 rfl
 have c1_6:w1.cell? ⟨w.heap.size,6,none⟩=some (.int .i64 x6):=za B1 rfl
 have c1_7:w1.cell? ⟨w.heap.size,7,none⟩=some (.slice x7A x7l.length x7c):=za B1 rfl
 have c1_8:w1.cell? ⟨w.heap.size,8,none⟩=some (.int .i64 x8):=za B1 rfl
 have c1_9:w1.cell? ⟨w.heap.size,9,none⟩=some (.int .i64 x9):=za B1 rfl
 have c1_10:w1.cell? ⟨w.heap.size,10,none⟩=some (.int .i64 x10):=za B1 rfl
 have c1_11:w1.cell? ⟨w.heap.size,11,none⟩=some (.int .i64 x11):=za B1 rfl
 have c1_12:w1.cell? ⟨w.heap.size,12,none⟩=some (.bool x12):=za B1 rfl
 have ho1:=ho1.fr hf1 DJ1_0.out
 have ho2:=ho2.fr hf1 DJ2_0.out
 have ho3:=ho3.fr hf1 DJ3_0.out
 have ho4:=ho4.fr hf1 DJ4_0.out
 have ho6:=ho6.fr hf1 DJ6_0.out
 go_wp2_with fail
 go_at_call 37
 refine (HC1.out lo hi _ _ ho1 HN1.out (by first|omega|(simp;omega)) (by omega) (by omega)).mono ?_;rintro e w2 ⟨rfl,hm1,hf2⟩
 have hz2:=hf2.size;(try simp only [World.size_alloc] at hz2)
 have B2:w2.heap[w.heap.size]? = some (.cells #[.slice x0A x0l.length x0c,.slice x1A x1l.length x1c,.slice x2A x2l.length x2c,.slice x3A x3l.length x3c,.string x4,.slice x5A x5l.length x5c,.int .i64 x6,.slice x7A x7l.length x7c,.int .i64 x8,.int .i64 x9,.int .i64 x10,.int .i64 x11,.bool x12] 42 (0,0)):=(hf2.block w.heap.size (by first|omega|simp) (fun hm=>by have:=ho1.lt _ hm;omega)).trans B1
 have c2_2:w2.cell? ⟨w.heap.size,2,none⟩=some (.slice x2A x2l.length x2c):=za B2 rfl
 have c2_3:w2.cell? ⟨w.heap.size,3,none⟩=some (.slice x3A x3l.length x3c):=za B2 rfl
 have c2_4:w2.cell? ⟨w.heap.size,4,none⟩=some (.string x4):=za B2 rfl
 have c2_5:w2.cell? ⟨w.heap.size,5,none⟩=some (.slice x5A x5l.length x5c):=za B2 rfl
 have c2_6:w2.cell? ⟨w.heap.size,6,none⟩=some (.int .i64 x6):=za B2 rfl
 have c2_7:w2.cell? ⟨w.heap.size,7,none⟩=some (.slice x7A x7l.length x7c):=za B2 rfl
 have c2_8:w2.cell? ⟨w.heap.size,8,none⟩=some (.int .i64 x8):=za B2 rfl
 have c2_9:w2.cell? ⟨w.heap.size,9,none⟩=some (.int .i64 x9):=za B2 rfl
 have c2_10:w2.cell? ⟨w.heap.size,10,none⟩=some (.int .i64 x10):=za B2 rfl
 have c2_11:w2.cell? ⟨w.heap.size,11,none⟩=some (.int .i64 x11):=za B2 rfl
 have c2_12:w2.cell? ⟨w.heap.size,12,none⟩=some (.bool x12):=za B2 rfl
 clear B1 c1_1 c1_2 c1_3 c1_4 c1_5 c1_6 c1_7 c1_8 c1_9 c1_10 c1_11 c1_12
 have ho2:=ho2.fr hf2 DJ2_1.out
 have ho3:=ho3.fr hf2 DJ3_1.out
 have ho4:=ho4.fr hf2 DJ4_1.out
 have ho6:=ho6.fr hf2 DJ6_1.out
 have hm0:=hm0.fr hf2 (fun b hb=>DJ0_1.out b (by rw [E.mk0_fp] at hb;exact hb))
 go_wp2_with fail
 go_at_call 38
 refine (HC2.out lo hi _ _ ho2 HN2.out (by first|omega|(simp;omega)) (by omega) (by omega)).mono ?_;rintro e w3 ⟨rfl,hm2,hf3⟩
 have hz3:=hf3.size;(try simp only [World.size_alloc] at hz3)
 have B3:w3.heap[w.heap.size]? = some (.cells #[.slice x0A x0l.length x0c,.slice x1A x1l.length x1c,.slice x2A x2l.length x2c,.slice x3A x3l.length x3c,.string x4,.slice x5A x5l.length x5c,.int .i64 x6,.slice x7A x7l.length x7c,.int .i64 x8,.int .i64 x9,.int .i64 x10,.int .i64 x11,.bool x12] 42 (0,0)):=(hf3.block w.heap.size (by first|omega|simp) (fun hm=>by have:=ho2.lt _ hm;omega)).trans B2
 have c3_3:w3.cell? ⟨w.heap.size,3,none⟩=some (.slice x3A x3l.length x3c):=za B3 rfl
 have c3_4:w3.cell? ⟨w.heap.size,4,none⟩=some (.string x4):=za B3 rfl
 have c3_5:w3.cell? ⟨w.heap.size,5,none⟩=some (.slice x5A x5l.length x5c):=za B3 rfl
 have c3_6:w3.cell? ⟨w.heap.size,6,none⟩=some (.int .i64 x6):=za B3 rfl
 have c3_7:w3.cell? ⟨w.heap.size,7,none⟩=some (.slice x7A x7l.length x7c):=za B3 rfl
 have c3_8:w3.cell? ⟨w.heap.size,8,none⟩=some (.int .i64 x8):=za B3 rfl
 have c3_9:w3.cell? ⟨w.heap.size,9,none⟩=some (.int .i64 x9):=za B3 rfl
 have c3_10:w3.cell? ⟨w.heap.size,10,none⟩=some (.int .i64 x10):=za B3 rfl
 have c3_11:w3.cell? ⟨w.heap.size,11,none⟩=some (.int .i64 x11):=za B3 rfl
 have c3_12:w3.cell? ⟨w.heap.size,12,none⟩=some (.bool x12):=za B3 rfl
 clear B2 c2_2 c2_3 c2_4 c2_5 c2_6 c2_7 c2_8 c2_9 c2_10 c2_11 c2_12
 have ho3:=ho3.fr hf3 DJ3_2.out
 have ho4:=ho4.fr hf3 DJ4_2.out
 have ho6:=ho6.fr hf3 DJ6_2.out
 have hm0:=hm0.fr hf3 (fun b hb=>DJ0_2.out b (by rw [E.mk0_fp] at hb;exact hb))
 have hm1:=hm1.fr hf3 (fun b hb=>DJ1_2.out b (by rw [E.mk0_fp] at hb;exact hb))
 go_wp2_with fail
 go_at_call 39
 refine (HC3.out lo hi _ _ ho3 HN3.out (by first|omega|(simp;omega)) (by omega) (by omega)).mono ?_;rintro e w4 ⟨rfl,hm3,hf4⟩
 have hz4:=hf4.size;(try simp only [World.size_alloc] at hz4)
 have B4:w4.heap[w.heap.size]? = some (.cells #[.slice x0A x0l.length x0c,.slice x1A x1l.length x1c,.slice x2A x2l.length x2c,.slice x3A x3l.length x3c,.string x4,.slice x5A x5l.length x5c,.int .i64 x6,.slice x7A x7l.length x7c,.int .i64 x8,.int .i64 x9,.int .i64 x10,.int .i64 x11,.bool x12] 42 (0,0)):=(hf4.block w.heap.size (by first|omega|simp) (fun hm=>by have:=ho3.lt _ hm;omega)).trans B3
 have c4_4:w4.cell? ⟨w.heap.size,4,none⟩=some (.string x4):=za B4 rfl
 have c4_5:w4.cell? ⟨w.heap.size,5,none⟩=some (.slice x5A x5l.length x5c):=za B4 rfl
 have c4_6:w4.cell? ⟨w.heap.size,6,none⟩=some (.int .i64 x6):=za B4 rfl
 have c4_7:w4.cell? ⟨w.heap.size,7,none⟩=some (.slice x7A x7l.length x7c):=za B4 rfl
 have c4_8:w4.cell? ⟨w.heap.size,8,none⟩=some (.int .i64 x8):=za B4 rfl
 have c4_9:w4.cell? ⟨w.heap.size,9,none⟩=some (.int .i64 x9):=za B4 rfl
 have c4_10:w4.cell? ⟨w.heap.size,10,none⟩=some (.int .i64 x10):=za B4 rfl
 have c4_11:w4.cell? ⟨w.heap.size,11,none⟩=some (.int .i64 x11):=za B4 rfl
 have c4_12:w4.cell? ⟨w.heap.size,12,none⟩=some (.bool x12):=za B4 rfl
 clear B3 c3_3 c3_4 c3_5 c3_6 c3_7 c3_8 c3_9 c3_10 c3_11 c3_12
 have ho4:=ho4.fr hf4 DJ4_3.out
 have ho6:=ho6.fr hf4 DJ6_3.out
 have hm0:=hm0.fr hf4 (fun b hb=>DJ0_3.out b (by rw [E.mk0_fp] at hb;exact hb))
 have hm1:=hm1.fr hf4 (fun b hb=>DJ1_3.out b (by rw [E.mk0_fp] at hb;exact hb))
 have hm2:=hm2.fr hf4 (fun b hb=>DJ2_3.out b (by rw [E.mk0_fp] at hb;exact hb))
 go_wp2_with fail
 go_at_call 40
 refine (HC4.out lo hi _ _ ho4 HN4.out (by first|omega|(simp;omega)) (by omega) (by omega)).mono ?_;rintro e w5 ⟨rfl,hm4,hf5⟩
 have hz5:=hf5.size;(try simp only [World.size_alloc] at hz5)
 have B5:w5.heap[w.heap.size]? = some (.cells #[.slice x0A x0l.length x0c,.slice x1A x1l.length x1c,.slice x2A x2l.length x2c,.slice x3A x3l.length x3c,.string x4,.slice x5A x5l.length x5c,.int .i64 x6,.slice x7A x7l.length x7c,.int .i64 x8,.int .i64 x9,.int .i64 x10,.int .i64 x11,.bool x12] 42 (0,0)):=(hf5.block w.heap.size (by first|omega|simp) (fun hm=>by have:=ho4.lt _ hm;omega)).trans B4
 have c5_6:w5.cell? ⟨w.heap.size,6,none⟩=some (.int .i64 x6):=za B5 rfl
 have c5_7:w5.cell? ⟨w.heap.size,7,none⟩=some (.slice x7A x7l.length x7c):=za B5 rfl
 have c5_8:w5.cell? ⟨w.heap.size,8,none⟩=some (.int .i64 x8):=za B5 rfl
 have c5_9:w5.cell? ⟨w.heap.size,9,none⟩=some (.int .i64 x9):=za B5 rfl
 have c5_10:w5.cell? ⟨w.heap.size,10,none⟩=some (.int .i64 x10):=za B5 rfl
 have c5_11:w5.cell? ⟨w.heap.size,11,none⟩=some (.int .i64 x11):=za B5 rfl
 have c5_12:w5.cell? ⟨w.heap.size,12,none⟩=some (.bool x12):=za B5 rfl
 clear B4 c4_4 c4_5 c4_6 c4_7 c4_8 c4_9 c4_10 c4_11 c4_12
 have ho6:=ho6.fr hf5 DJ6_4.out
 have hm0:=hm0.fr hf5 (fun b hb=>DJ0_4.out b (by rw [E.mk0_fp] at hb;exact hb))
 have hm1:=hm1.fr hf5 (fun b hb=>DJ1_4.out b (by rw [E.mk0_fp] at hb;exact hb))
 have hm2:=hm2.fr hf5 (fun b hb=>DJ2_4.out b (by rw [E.mk0_fp] at hb;exact hb))
 have hm3:=hm3.fr hf5 (fun b hb=>DJ3_4.out b (by rw [E.mk0_fp] at hb;exact hb))
 go_wp2_with fail
 go_at_call 41
 refine (HC6.out lo hi _ _ ho6 HN6.out (by first|omega|(simp;omega)) (by omega) (by omega)).mono ?_;rintro e w6 ⟨rfl,hm6,hf6⟩
 have hz6:=hf6.size;(try simp only [World.size_alloc] at hz6)
 have B6:w6.heap[w.heap.size]? = some (.cells #[.slice x0A x0l.length x0c,.slice x1A x1l.length x1c,.slice x2A x2l.length x2c,.slice x3A x3l.length x3c,.string x4,.slice x5A x5l.length x5c,.int .i64 x6,.slice x7A x7l.length x7c,.int .i64 x8,.int .i64 x9,.int .i64 x10,.int .i64 x11,.bool x12] 42 (0,0)):=(hf6.block w.heap.size (by first|omega|simp) (fun hm=>by have:=ho6.lt _ hm;omega)).trans B5
 have c6_8:w6.cell? ⟨w.heap.size,8,none⟩=some (.int .i64 x8):=za B6 rfl
 have c6_9:w6.cell? ⟨w.heap.size,9,none⟩=some (.int .i64 x9):=za B6 rfl
 have c6_10:w6.cell? ⟨w.heap.size,10,none⟩=some (.int .i64 x10):=za B6 rfl
 have c6_11:w6.cell? ⟨w.heap.size,11,none⟩=some (.int .i64 x11):=za B6 rfl
 have c6_12:w6.cell? ⟨w.heap.size,12,none⟩=some (.bool x12):=za B6 rfl
 clear B5 c5_6 c5_7 c5_8 c5_9 c5_10 c5_11 c5_12
 have hm0:=hm0.fr hf6 (fun b hb=>DJ0_6.out b (by rw [E.mk0_fp] at hb;exact hb))
 have hm1:=hm1.fr hf6 (fun b hb=>DJ1_6.out b (by rw [E.mk0_fp] at hb;exact hb))
 have hm2:=hm2.fr hf6 (fun b hb=>DJ2_6.out b (by rw [E.mk0_fp] at hb;exact hb))
 have hm3:=hm3.fr hf6 (fun b hb=>DJ3_6.out b (by rw [E.mk0_fp] at hb;exact hb))
 have hm4:=hm4.fr hf6 (fun b hb=>DJ4_6.out b (by rw [E.mk0_fp] at hb;exact hb))
 go_wp2
 go_ret
 exact⟨ri (by have:=HCN.out;omega),E.Ho.mk_agg (E.HoL.mk_cons (zs4 hm0 (by first|rfl|omega|(show _=_;simp only [E.cnt,E.cntL,E.cntc,E.cntcL,reduceCtorEq,if_false,if_true,ite_false];omega))) (E.HoL.mk_cons (zs4 hm1 (by first|rfl|omega|(show _=_;simp only [E.cnt,E.cntL,E.cntc,E.cntcL,reduceCtorEq,if_false,if_true,ite_false];omega))) (E.HoL.mk_cons (zs4 hm2 (by first|rfl|omega|(show _=_;simp only [E.cnt,E.cntL,E.cntc,E.cntcL,reduceCtorEq,if_false,if_true,ite_false];omega))) (E.HoL.mk_cons (zs4 hm3 (by first|rfl|omega|(show _=_;simp only [E.cnt,E.cntL,E.cntc,E.cntcL,reduceCtorEq,if_false,if_true,ite_false];omega))) (E.HoL.mk_cons (zs4 hm4 (by first|rfl|omega|(show _=_;simp only [E.cnt,E.cntL,E.cntc,E.cntcL,reduceCtorEq,if_false,if_true,ite_false];omega))) (E.HoL.mk_cons trivial (E.HoL.mk_cons (zs4 hm6 (by first|rfl|omega|(show _=_;simp only [E.cnt,E.cntL,E.cntc,E.cntcL,reduceCtorEq,if_false,if_true,ite_false];omega))) (E.HoL.mk_cons trivial (E.HoL.mk_cons trivial (E.HoL.mk_cons trivial (E.HoL.mk_cons trivial (E.HoL.mk_cons trivial (show E.HoL _ _ _ [] by simp only [E.HoL]))))))))))))),(((((((Fr.of_below ((Below.refl _ _).alloc (Nat.le_refl _) _)).trans (hf1.sub HS0.out)).trans (hf2.sub HS1.out)).trans (hf3.sub HS2.out)).trans (hf4.sub HS3.out)).trans (hf5.sub HS4.out)).trans (hf6.sub HS6.out))⟩
set_option maxRecDepth 100000 in
set_option maxHeartbeats 1000000 in
theorem za6 {e:E}(ht:e.Ty Tryz.prog 42):Hel 10 e:=by
 obtain⟨x0A,x0c,x0l,x1A,x1c,x1l,x2A,x2c,x2l,x3A,x3c,x3l,x4,x5A,x5c,x5l,x6,x7A,x7c,x7l,x8,x9,x10,x11,x12,rfl,gx0,gx1,gx2,gx3,gx4,gx5,gx6,gx7,gx8,gx9,gx10,gx11,-⟩:=zb1 ht
 have ty0:(E.agg [.lst 4 110 x0A x0c x0l]).Ty Tryz.prog 37:=E.Ty.mk_agg Tryz.underlying37 (E.TyF.mk_cons (E.Ty.mk_lst Tryz.underlying35 (by kernel_rfl) gx0.1 gx0.2) (E.TyF.mk_nil))
 have HC0:=Lib.hid (zv10 ty0)
 clear ty0
 have ty1:(E.lst 1 3 x1A x1c x1l).Ty Tryz.prog 25:=E.Ty.mk_lst Tryz.underlying25 (by kernel_rfl) gx1.1 gx1.2
 have HC1:=Lib.hid (zz4 ty1)
 clear ty1
 have ty2:(E.lst 1 65 x2A x2c x2l).Ty Tryz.prog 38:=E.Ty.mk_lst Tryz.underlying38 (by kernel_rfl) gx2.1 gx2.2
 have HC2:=Lib.hid (zi7 ty2)
 clear ty2
 have ty3:(E.lst 6 60 x3A x3c x3l).Ty Tryz.prog 39:=E.Ty.mk_lst Tryz.underlying39 (by kernel_rfl) gx3.1 gx3.2
 have HC3:=Lib.hid (zz7 ty3)
 clear ty3
 have ty4:(E.agg [.str x4,.lst 1 9 x5A x5c x5l]).Ty Tryz.prog 40:=E.Ty.mk_agg Tryz.underlying40 (E.TyF.mk_cons (show E.Ty _ _ _ from ⟨Tryz.underlying9,by unfold maxLen;exact gx4⟩) (E.TyF.mk_cons (E.Ty.mk_lst Tryz.underlying28 (by kernel_rfl) gx5.1 gx5.2) (E.TyF.mk_nil)))
 have HC4:=Lib.hid (za13 ty4)
 clear ty4
 have ty6:(E.lst 1 5 x7A x7c x7l).Ty Tryz.prog 31:=E.Ty.mk_lst Tryz.underlying31 (by kernel_rfl) gx7.1 gx7.2
 have HC6:=Lib.hid (zd9 ty6)
 clear ty6
 intro k0 w hr h0 h1
 have HCN:Hid ((E.agg [(.agg [.lst 4 110 x0A x0c x0l]),.lst 1 3 x1A x1c x1l,.lst 1 65 x2A x2c x2l,.lst 6 60 x3A x3c x3l,(.agg [.str x4,.lst 1 9 x5A x5c x5l]),.int .i64 x6,.lst 1 5 x7A x7c x7l,.int .i64 x8,.int .i64 x9,.int .i64 x10,.int .i64 x11,.bool x12]).cnt=((E.agg [.lst 4 110 x0A x0c x0l]).cnt+((E.lst 1 3 x1A x1c x1l).cnt+((E.lst 1 65 x2A x2c x2l).cnt+((E.lst 6 60 x3A x3c x3l).cnt+((E.agg [.str x4,.lst 1 9 x5A x5c x5l]).cnt+(0+((E.lst 1 5 x7A x7c x7l).cnt+(0+(0+(0+(0+(0+0))))))))))))):=rfl
 have h1':=h1
 rw [HCN.out] at h1'
 clear h1
 have hr0:=(E.In.fld (i:=0) hr rfl).alloc (.cells #[.slice x0A x0l.length x0c,.slice x1A x1l.length x1c,.slice x2A x2l.length x2c,.slice x3A x3l.length x3c,.string x4,.slice x5A x5l.length x5c,.int .i64 x6,.slice x7A x7l.length x7c,.int .i64 x8,.int .i64 x9,.int .i64 x10,.int .i64 x11,.bool x12] 42)
 have hr1:=(E.In.fld (i:=1) hr rfl).alloc (.cells #[.slice x0A x0l.length x0c,.slice x1A x1l.length x1c,.slice x2A x2l.length x2c,.slice x3A x3l.length x3c,.string x4,.slice x5A x5l.length x5c,.int .i64 x6,.slice x7A x7l.length x7c,.int .i64 x8,.int .i64 x9,.int .i64 x10,.int .i64 x11,.bool x12] 42)
 have hr2:=(E.In.fld (i:=2) hr rfl).alloc (.cells #[.slice x0A x0l.length x0c,.slice x1A x1l.length x1c,.slice x2A x2l.length x2c,.slice x3A x3l.length x3c,.string x4,.slice x5A x5l.length x5c,.int .i64 x6,.slice x7A x7l.length x7c,.int .i64 x8,.int .i64 x9,.int .i64 x10,.int .i64 x11,.bool x12] 42)
 have hr3:=(E.In.fld (i:=3) hr rfl).alloc (.cells #[.slice x0A x0l.length x0c,.slice x1A x1l.length x1c,.slice x2A x2l.length x2c,.slice x3A x3l.length x3c,.string x4,.slice x5A x5l.length x5c,.int .i64 x6,.slice x7A x7l.length x7c,.int .i64 x8,.int .i64 x9,.int .i64 x10,.int .i64 x11,.bool x12] 42)
 have hr4:=(E.In.fld (i:=4) hr rfl).alloc (.cells #[.slice x0A x0l.length x0c,.slice x1A x1l.length x1c,.slice x2A x2l.length x2c,.slice x3A x3l.length x3c,.string x4,.slice x5A x5l.length x5c,.int .i64 x6,.slice x7A x7l.length x7c,.int .i64 x8,.int .i64 x9,.int .i64 x10,.int .i64 x11,.bool x12] 42)
 have hr6:=(E.In.fld (i:=6) hr rfl).alloc (.cells #[.slice x0A x0l.length x0c,.slice x1A x1l.length x1c,.slice x2A x2l.length x2c,.slice x3A x3l.length x3c,.string x4,.slice x5A x5l.length x5c,.int .i64 x6,.slice x7A x7l.length x7c,.int .i64 x8,.int .i64 x9,.int .i64 x10,.int .i64 x11,.bool x12] 42)
 change Calls _ _ #[.agg #[.slice x0A x0l.length x0c,.slice x1A x1l.length x1c,.slice x2A x2l.length x2c,.slice x3A x3l.length x3c,.string x4,.slice x5A x5l.length x5c,.int .i64 x6,.slice x7A x7l.length x7c,.int .i64 x8,.int .i64 x9,.int .i64 x10,.int .i64 x11,.bool x12],.int .i64 k0] w _
 go_enter Tryz.func10,Tryz.ntmps10
 go_wp2_with fail
 go_at_call 42
 refine (HC0.out _ _ (zt4 hr0 (by first|rfl|omega|(show _=_;simp only [E.cnt,E.cntL,E.cntc,E.cntcL,reduceCtorEq,if_false,if_true,ite_false];omega))) (by omega) (by omega)).mono ?_;rintro e w1 ⟨rfl,hb1⟩
 have hz1:=hb1.size;(try simp only [World.size_alloc] at hz1)
 have c1_1:w1.cell? ⟨w.heap.size,1,none⟩=some (.slice x1A x1l.length x1c):=zb hb1 (zi rfl) (by simp)
 have c1_2:w1.cell? ⟨w.heap.size,2,none⟩=some (.slice x2A x2l.length x2c):=zb hb1 (zi rfl) (by simp)
 have c1_3:w1.cell? ⟨w.heap.size,3,none⟩=some (.slice x3A x3l.length x3c):=zb hb1 (zi rfl) (by simp)
 have c1_4:w1.cell? ⟨w.heap.size,4,none⟩=some (.string x4):=zb hb1 (zi rfl) (by simp)
 have c1_5:w1.cell? ⟨w.heap.size,5,none⟩=some (.slice x5A x5l.length x5c):=zb hb1 (zi rfl) (by simp)
 have c1_6:w1.cell? ⟨w.heap.size,6,none⟩=some (.int .i64 x6):=zb hb1 (zi rfl) (by simp)
 have c1_7:w1.cell? ⟨w.heap.size,7,none⟩=some (.slice x7A x7l.length x7c):=zb hb1 (zi rfl) (by simp)
 have c1_8:w1.cell? ⟨w.heap.size,8,none⟩=some (.int .i64 x8):=zb hb1 (zi rfl) (by simp)
 have c1_9:w1.cell? ⟨w.heap.size,9,none⟩=some (.int .i64 x9):=zb hb1 (zi rfl) (by simp)
 have c1_10:w1.cell? ⟨w.heap.size,10,none⟩=some (.int .i64 x10):=zb hb1 (zi rfl) (by simp)
 have c1_11:w1.cell? ⟨w.heap.size,11,none⟩=some (.int .i64 x11):=zb hb1 (zi rfl) (by simp)
 have c1_12:w1.cell? ⟨w.heap.size,12,none⟩=some (.bool x12):=zb hb1 (zi rfl) (by simp)
 have hr1:=hr1.below hb1 by3
 have hr2:=hr2.below hb1 by3
 have hr3:=hr3.below hb1 by3
 have hr4:=hr4.below hb1 by3
 have hr6:=hr6.below hb1 by3
 go_wp2_with fail
 go_at_call 43
 refine (HC1.out _ _ (zt4 hr1 (by first|rfl|omega|(show _=_;simp only [E.cnt,E.cntL,E.cntc,E.cntcL,reduceCtorEq,if_false,if_true,ite_false];omega))) (by omega) (by omega)).mono ?_;rintro e w2 ⟨rfl,hb2⟩
 have hz2:=hb2.size;(try simp only [World.size_alloc] at hz2)
 have c2_2:w2.cell? ⟨w.heap.size,2,none⟩=some (.slice x2A x2l.length x2c):=zb hb2 c1_2 (by omega)
 have c2_3:w2.cell? ⟨w.heap.size,3,none⟩=some (.slice x3A x3l.length x3c):=zb hb2 c1_3 (by omega)
 have c2_4:w2.cell? ⟨w.heap.size,4,none⟩=some (.string x4):=zb hb2 c1_4 (by omega)
 have c2_5:w2.cell? ⟨w.heap.size,5,none⟩=some (.slice x5A x5l.length x5c):=zb hb2 c1_5 (by omega)
 have c2_6:w2.cell? ⟨w.heap.size,6,none⟩=some (.int .i64 x6):=zb hb2 c1_6 (by omega)
 have c2_7:w2.cell? ⟨w.heap.size,7,none⟩=some (.slice x7A x7l.length x7c):=zb hb2 c1_7 (by omega)
 have c2_8:w2.cell? ⟨w.heap.size,8,none⟩=some (.int .i64 x8):=zb hb2 c1_8 (by omega)
 have c2_9:w2.cell? ⟨w.heap.size,9,none⟩=some (.int .i64 x9):=zb hb2 c1_9 (by omega)
 have c2_10:w2.cell? ⟨w.heap.size,10,none⟩=some (.int .i64 x10):=zb hb2 c1_10 (by omega)
 have c2_11:w2.cell? ⟨w.heap.size,11,none⟩=some (.int .i64 x11):=zb hb2 c1_11 (by omega)
 have c2_12:w2.cell? ⟨w.heap.size,12,none⟩=some (.bool x12):=zb hb2 c1_12 (by omega)
 clear c1_1 c1_2 c1_3 c1_4 c1_5 c1_6 c1_7 c1_8 c1_9 c1_10 c1_11 c1_12
 have hr2:=hr2.below hb2 by3
 have hr3:=hr3.below hb2 by3
 have hr4:=hr4.below hb2 by3
 have hr6:=hr6.below hb2 by3
 go_wp2_with fail
 go_at_call 44
 refine (HC2.out _ _ (zt4 hr2 (by first|rfl|omega|(show _=_;simp only [E.cnt,E.cntL,E.cntc,E.cntcL,reduceCtorEq,if_false,if_true,ite_false];omega))) (by omega) (by omega)).mono ?_;rintro e w3 ⟨rfl,hb3⟩
 have hz3:=hb3.size;(try simp only [World.size_alloc] at hz3)
 have c3_3:w3.cell? ⟨w.heap.size,3,none⟩=some (.slice x3A x3l.length x3c):=zb hb3 c2_3 (by omega)
 have c3_4:w3.cell? ⟨w.heap.size,4,none⟩=some (.string x4):=zb hb3 c2_4 (by omega)
 have c3_5:w3.cell? ⟨w.heap.size,5,none⟩=some (.slice x5A x5l.length x5c):=zb hb3 c2_5 (by omega)
 have c3_6:w3.cell? ⟨w.heap.size,6,none⟩=some (.int .i64 x6):=zb hb3 c2_6 (by omega)
 have c3_7:w3.cell? ⟨w.heap.size,7,none⟩=some (.slice x7A x7l.length x7c):=zb hb3 c2_7 (by omega)
 have c3_8:w3.cell? ⟨w.heap.size,8,none⟩=some (.int .i64 x8):=zb hb3 c2_8 (by omega)
 have c3_9:w3.cell? ⟨w.heap.size,9,none⟩=some (.int .i64 x9):=zb hb3 c2_9 (by omega)
 have c3_10:w3.cell? ⟨w.heap.size,10,none⟩=some (.int .i64 x10):=zb hb3 c2_10 (by omega)
 have c3_11:w3.cell? ⟨w.heap.size,11,none⟩=some (.int .i64 x11):=zb hb3 c2_11 (by omega)
 have c3_12:w3.cell? ⟨w.heap.size,12,none⟩=some (.bool x12):=zb hb3 c2_12 (by omega)
 clear c2_2 c2_3 c2_4 c2_5 c2_6 c2_7 c2_8 c2_9 c2_10 c2_11 c2_12
 have hr3:=hr3.below hb3 by3
 have hr4:=hr4.below hb3 by3
 have hr6:=hr6.below hb3 by3
 go_wp2_with fail
 go_at_call 45
 refine (HC3.out _ _ (zt4 hr3 (by first|rfl|omega|(show _=_;simp only [E.cnt,E.cntL,E.cntc,E.cntcL,reduceCtorEq,if_false,if_true,ite_false];omega))) (by omega) (by omega)).mono ?_;rintro e w4 ⟨rfl,hb4⟩
 have hz4:=hb4.size;(try simp only [World.size_alloc] at hz4)
 have c4_4:w4.cell? ⟨w.heap.size,4,none⟩=some (.string x4):=zb hb4 c3_4 (by omega)
 have c4_5:w4.cell? ⟨w.heap.size,5,none⟩=some (.slice x5A x5l.length x5c):=zb hb4 c3_5 (by omega)
 have c4_6:w4.cell? ⟨w.heap.size,6,none⟩=some (.int .i64 x6):=zb hb4 c3_6 (by omega)
 have c4_7:w4.cell? ⟨w.heap.size,7,none⟩=some (.slice x7A x7l.length x7c):=zb hb4 c3_7 (by omega)
 have c4_8:w4.cell? ⟨w.heap.size,8,none⟩=some (.int .i64 x8):=zb hb4 c3_8 (by omega)
 have c4_9:w4.cell? ⟨w.heap.size,9,none⟩=some (.int .i64 x9):=zb hb4 c3_9 (by omega)
 have c4_10:w4.cell? ⟨w.heap.size,10,none⟩=some (.int .i64 x10):=zb hb4 c3_10 (by omega)
 have c4_11:w4.cell? ⟨w.heap.size,11,none⟩=some (.int .i64 x11):=zb hb4 c3_11 (by omega)
 have c4_12:w4.cell? ⟨w.heap.size,12,none⟩=some (.bool x12):=zb hb4 c3_12 (by omega)
 clear c3_3 c3_4 c3_5 c3_6 c3_7 c3_8 c3_9 c3_10 c3_11 c3_12
 have hr4:=hr4.below hb4 by3
 have hr6:=hr6.below hb4 by3
 go_wp2_with fail
 go_at_call 46
 refine (HC4.out _ _ (zt4 hr4 (by first|rfl|omega|(show _=_;simp only [E.cnt,E.cntL,E.cntc,E.cntcL,reduceCtorEq,if_false,if_true,ite_false];omega))) (by omega) (by omega)).mono ?_;rintro e w5 ⟨rfl,hb5⟩
 have hz5:=hb5.size;(try simp only [World.size_alloc] at hz5)
 have c5_6:w5.cell? ⟨w.heap.size,6,none⟩=some (.int .i64 x6):=zb hb5 c4_6 (by omega)
 have c5_7:w5.cell? ⟨w.heap.size,7,none⟩=some (.slice x7A x7l.length x7c):=zb hb5 c4_7 (by omega)
 have c5_8:w5.cell? ⟨w.heap.size,8,none⟩=some (.int .i64 x8):=zb hb5 c4_8 (by omega)
 have c5_9:w5.cell? ⟨w.heap.size,9,none⟩=some (.int .i64 x9):=zb hb5 c4_9 (by omega)
 have c5_10:w5.cell? ⟨w.heap.size,10,none⟩=some (.int .i64 x10):=zb hb5 c4_10 (by omega)
 have c5_11:w5.cell? ⟨w.heap.size,11,none⟩=some (.int .i64 x11):=zb hb5 c4_11 (by omega)
 have c5_12:w5.cell? ⟨w.heap.size,12,none⟩=some (.bool x12):=zb hb5 c4_12 (by omega)
 clear c4_4 c4_5 c4_6 c4_7 c4_8 c4_9 c4_10 c4_11 c4_12
 have hr6:=hr6.below hb5 by3
 go_wp2_with fail
 go_at_call 47
 refine (HC6.out _ _ (zt4 hr6 (by first|rfl|omega|(show _=_;simp only [E.cnt,E.cntL,E.cntc,E.cntcL,reduceCtorEq,if_false,if_true,ite_false];omega))) (by omega) (by omega)).mono ?_;rintro e w6 ⟨rfl,hb6⟩
 have hz6:=hb6.size;(try simp only [World.size_alloc] at hz6)
 have c6_8:w6.cell? ⟨w.heap.size,8,none⟩=some (.int .i64 x8):=zb hb6 c5_8 (by omega)
 have c6_9:w6.cell? ⟨w.heap.size,9,none⟩=some (.int .i64 x9):=zb hb6 c5_9 (by omega)
 have c6_10:w6.cell? ⟨w.heap.size,10,none⟩=some (.int .i64 x10):=zb hb6 c5_10 (by omega)
 have c6_11:w6.cell? ⟨w.heap.size,11,none⟩=some (.int .i64 x11):=zb hb6 c5_11 (by omega)
 have c6_12:w6.cell? ⟨w.heap.size,12,none⟩=some (.bool x12):=zb hb6 c5_12 (by omega)
 clear c5_6 c5_7 c5_8 c5_9 c5_10 c5_11 c5_12
 go_wp2
 go_ret
 exact⟨ri (by have:=HCN.out;omega),by exact by0⟩
end Go.Proofs.YtfemkmnkofgaaaaGreat
