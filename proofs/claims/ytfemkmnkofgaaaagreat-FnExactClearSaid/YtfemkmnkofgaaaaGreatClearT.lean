/- The type Frame, and slices of it: shape; the laws' own functions. -/
import Derived.Test.YtfemkmnkofgaaaaGreatClearS
namespace Go.Proofs.YtfemkmnkofgaaaaGreat
open Go.RowKit
theorem by3 {p:Prop}(h:p:=by first|exact Nat.le_refl _|simp):p:=h
theorem za3 {e:E}(h:e.Ty Tryz.prog 96):∃(x0:Int) (x1:Int) (x2A:Option Addr) (x2c:Nat) (x2l:List E) (x3A:Option Addr) (x3c:Nat) (x3l:List E) (x4A:Option Addr) (x4c:Nat) (x4l:List E) (x5A:Option Addr) (x5c:Nat) (x5l:List E),e=(E.agg [.int .i64 x0,.int .i64 x1,.lst 1 3 x2A x2c x2l,.lst 2 157 x3A x3c x3l,.lst 5 159 x4A x4c x4l,.lst 2 153 x5A x5c x5l])∧((Lit.int .i64 x0).wf=true)∧((Lit.int .i64 x1).wf=true)∧((∀y∈x2l,y.Ty Tryz.prog 3)∧(∀y∈x2l,y.enc.length=1))∧((∀y∈x3l,y.Ty Tryz.prog 157)∧(∀y∈x3l,y.enc.length=2))∧((∀y∈x4l,y.Ty Tryz.prog 159)∧(∀y∈x4l,y.enc.length=5))∧((∀y∈x5l,y.Ty Tryz.prog 153)∧(∀y∈x5l,y.enc.length=2))∧True:=by
 obtain⟨fs,rfl,q0⟩:=h.agg_ Tryz.underlying96
 change E.TyF _ _ [3,3,25,92,93,94] at q0
 obtain⟨e0,r0,rfl,h0,q1⟩:=q0.cons_
 obtain⟨e1,r1,rfl,h1,q2⟩:=q1.cons_
 obtain⟨e2,r2,rfl,h2,q3⟩:=q2.cons_
 obtain⟨e3,r3,rfl,h3,q4⟩:=q3.cons_
 obtain⟨e4,r4,rfl,h4,q5⟩:=q4.cons_
 obtain⟨e5,r5,rfl,h5,q6⟩:=q5.cons_
 obtain rfl:=q6.nil_
 obtain⟨x0,rfl,gx0⟩:=h0.int_ Tryz.underlying3
 obtain⟨x1,rfl,gx1⟩:=h1.int_ Tryz.underlying3
 obtain⟨x2A,x2c,x2l,rfl,gx2,gx2'⟩:=h2.lst_ Tryz.underlying25 (k:=1) (by kernel_rfl)
 obtain⟨x3A,x3c,x3l,rfl,gx3,gx3'⟩:=h3.lst_ Tryz.underlying92 (k:=2) (by kernel_rfl)
 obtain⟨x4A,x4c,x4l,rfl,gx4,gx4'⟩:=h4.lst_ Tryz.underlying93 (k:=5) (by kernel_rfl)
 obtain⟨x5A,x5c,x5l,rfl,gx5,gx5'⟩:=h5.lst_ Tryz.underlying94 (k:=2) (by kernel_rfl)
 exact⟨x0,x1,x2A,x2c,x2l,x3A,x3c,x3l,x4A,x4c,x4l,x5A,x5c,x5l,rfl,gx0,gx1,⟨gx2,gx2'⟩,⟨gx3,gx3'⟩,⟨gx4,gx4'⟩,⟨gx5,gx5'⟩,trivial⟩
theorem zd1 {e:E}(h:e.Ty Tryz.prog 60):∃(x0:Int) (x1:Int) (x2A:Option Addr) (x2c:Nat) (x2l:List E) (x3A:Option Addr) (x3c:Nat) (x3l:List E) (x4A:Option Addr) (x4c:Nat) (x4l:List E) (x5A:Option Addr) (x5c:Nat) (x5l:List E),e=(E.agg [.int .i64 x0,.int .i64 x1,.lst 1 3 x2A x2c x2l,.lst 2 102 x3A x3c x3l,.lst 5 148 x4A x4c x4l,.lst 2 105 x5A x5c x5l])∧((Lit.int .i64 x0).wf=true)∧((Lit.int .i64 x1).wf=true)∧((∀y∈x2l,y.Ty Tryz.prog 3)∧(∀y∈x2l,y.enc.length=1))∧((∀y∈x3l,y.Ty Tryz.prog 102)∧(∀y∈x3l,y.enc.length=2))∧((∀y∈x4l,y.Ty Tryz.prog 148)∧(∀y∈x4l,y.enc.length=5))∧((∀y∈x5l,y.Ty Tryz.prog 105)∧(∀y∈x5l,y.enc.length=2))∧True:=by
 obtain⟨fs,rfl,q0⟩:=h.agg_ Tryz.underlying60
 change E.TyF _ _ [3,3,25,56,57,58] at q0
 obtain⟨e0,r0,rfl,h0,q1⟩:=q0.cons_
 obtain⟨e1,r1,rfl,h1,q2⟩:=q1.cons_
 obtain⟨e2,r2,rfl,h2,q3⟩:=q2.cons_
 obtain⟨e3,r3,rfl,h3,q4⟩:=q3.cons_
 obtain⟨e4,r4,rfl,h4,q5⟩:=q4.cons_
 obtain⟨e5,r5,rfl,h5,q6⟩:=q5.cons_
 obtain rfl:=q6.nil_
 obtain⟨x0,rfl,gx0⟩:=h0.int_ Tryz.underlying3
 obtain⟨x1,rfl,gx1⟩:=h1.int_ Tryz.underlying3
 obtain⟨x2A,x2c,x2l,rfl,gx2,gx2'⟩:=h2.lst_ Tryz.underlying25 (k:=1) (by kernel_rfl)
 obtain⟨x3A,x3c,x3l,rfl,gx3,gx3'⟩:=h3.lst_ Tryz.underlying56 (k:=2) (by kernel_rfl)
 obtain⟨x4A,x4c,x4l,rfl,gx4,gx4'⟩:=h4.lst_ Tryz.underlying57 (k:=5) (by kernel_rfl)
 obtain⟨x5A,x5c,x5l,rfl,gx5,gx5'⟩:=h5.lst_ Tryz.underlying58 (k:=2) (by kernel_rfl)
 exact⟨x0,x1,x2A,x2c,x2l,x3A,x3c,x3l,x4A,x4c,x4l,x5A,x5c,x5l,rfl,gx0,gx1,⟨gx2,gx2'⟩,⟨gx3,gx3'⟩,⟨gx4,gx4'⟩,⟨gx5,gx5'⟩,trivial⟩
set_option maxRecDepth 100000 in
set_option maxHeartbeats 1000000 in
theorem zw12 {e:E}(ht:e.Ty Tryz.prog 96):Sz 50 e:=by
 obtain⟨x0,x1,x2A,x2c,x2l,x3A,x3c,x3l,x4A,x4c,x4l,x5A,x5c,x5l,rfl,gx0,gx1,gx2,gx3,gx4,gx5,-⟩:=za3 ht
 intro left w hr h0 h1
 have HSZ:Hid ((E.agg [.int .i64 x0,.int .i64 x1,.lst 1 3 x2A x2c x2l,.lst 2 157 x3A x3c x3l,.lst 5 159 x4A x4c x4l,.lst 2 153 x5A x5c x5l]).sz=(0+(0+((E.lst 1 3 x2A x2c x2l).sz+((E.lst 2 157 x3A x3c x3l).sz+((E.lst 5 159 x4A x4c x4l).sz+((E.lst 2 153 x5A x5c x5l).sz+0))))))):=rfl
 change Calls _ _ #[.agg #[.int .i64 x0,.int .i64 x1,.slice x2A x2l.length x2c,.slice x3A x3l.length x3c,.slice x4A x4l.length x4c,.slice x5A x5l.length x5c],.int .i64 left] w _
 have hr2:=(hr.fld (i:=2) rfl).alloc (.cells #[.int .i64 x0,.int .i64 x1,.slice x2A x2l.length x2c,.slice x3A x3l.length x3c,.slice x4A x4l.length x4c,.slice x5A x5l.length x5c] 96)
 have hr3:=(hr.fld (i:=3) rfl).alloc (.cells #[.int .i64 x0,.int .i64 x1,.slice x2A x2l.length x2c,.slice x3A x3l.length x3c,.slice x4A x4l.length x4c,.slice x5A x5l.length x5c] 96)
 have hr4:=(hr.fld (i:=4) rfl).alloc (.cells #[.int .i64 x0,.int .i64 x1,.slice x2A x2l.length x2c,.slice x3A x3l.length x3c,.slice x4A x4l.length x4c,.slice x5A x5l.length x5c] 96)
 have hr5:=(hr.fld (i:=5) rfl).alloc (.cells #[.int .i64 x0,.int .i64 x1,.slice x2A x2l.length x2c,.slice x3A x3l.length x3c,.slice x4A x4l.length x4c,.slice x5A x5l.length x5c] 96)
 go_enter Tryz.func50,Tryz.ntmps50
 go_wp2_with fail
 go_at_call 12
 refine ((zo5 (E.Ty.mk_lst Tryz.underlying25 (by kernel_rfl) gx2.1 gx2.2)) _ _ hr2 (by omega) (by omega)).mono ?_;rintro e w1 ⟨r1,rfl,hr1s,hl1,hb1⟩
 have hz1:=hb1.size;(try simp only [World.size_alloc] at hz1)
 have c1_3:w1.cell? ⟨w.heap.size,3,none⟩=some (.slice x3A x3l.length x3c):=(by repeat (first|(with_reducible assumption)|(with_reducible refine zo ?_)|(with_reducible refine zk ?_)|(with_reducible exact zi rfl)|(exact cell_new' rfl by4)|(with_reducible refine ze ?_ ?_)|(refine zb (by with_reducible assumption) ?_ ?_)|(refine zx (by with_reducible assumption) ?_ ?_)|omega|(·simp)|(·(simp;omega))))
 have c1_4:w1.cell? ⟨w.heap.size,4,none⟩=some (.slice x4A x4l.length x4c):=(by repeat (first|(with_reducible assumption)|(with_reducible refine zo ?_)|(with_reducible refine zk ?_)|(with_reducible exact zi rfl)|(exact cell_new' rfl by4)|(with_reducible refine ze ?_ ?_)|(refine zb (by with_reducible assumption) ?_ ?_)|(refine zx (by with_reducible assumption) ?_ ?_)|omega|(·simp)|(·(simp;omega))))
 have c1_5:w1.cell? ⟨w.heap.size,5,none⟩=some (.slice x5A x5l.length x5c):=(by repeat (first|(with_reducible assumption)|(with_reducible refine zo ?_)|(with_reducible refine zk ?_)|(with_reducible exact zi rfl)|(exact cell_new' rfl by4)|(with_reducible refine ze ?_ ?_)|(refine zb (by with_reducible assumption) ?_ ?_)|(refine zx (by with_reducible assumption) ?_ ?_)|omega|(·simp)|(·(simp;omega))))
 have hr3:=hr3.below hb1 by3
 have hr4:=hr4.below hb1 by3
 have hr5:=hr5.below hb1 by3
 by_cases hn1:r1<0
 ·go_wp2
  go_ret
  exact⟨-1,rfl,.inl (by omega),by omega,by exact by0⟩
 have hq1:=hr1s.resolve_left hn1
 go_wp2_with fail
 go_at_call 85
 refine ((zo12 (E.Ty.mk_lst Tryz.underlying92 (by kernel_rfl) gx3.1 gx3.2)) _ _ hr3 (by omega) (by omega)).mono ?_;rintro e w2 ⟨r2,rfl,hr2s,hl2,hb2⟩
 have hz2:=hb2.size;(try simp only [World.size_alloc] at hz2)
 have c2_4:w2.cell? ⟨w.heap.size,4,none⟩=some (.slice x4A x4l.length x4c):=(by repeat (first|(with_reducible assumption)|(with_reducible refine zo ?_)|(with_reducible refine zk ?_)|(with_reducible exact zi rfl)|(exact cell_new' rfl by4)|(with_reducible refine ze ?_ ?_)|(refine zb (by with_reducible assumption) ?_ ?_)|(refine zx (by with_reducible assumption) ?_ ?_)|omega|(·simp)|(·(simp;omega))))
 have c2_5:w2.cell? ⟨w.heap.size,5,none⟩=some (.slice x5A x5l.length x5c):=(by repeat (first|(with_reducible assumption)|(with_reducible refine zo ?_)|(with_reducible refine zk ?_)|(with_reducible exact zi rfl)|(exact cell_new' rfl by4)|(with_reducible refine ze ?_ ?_)|(refine zb (by with_reducible assumption) ?_ ?_)|(refine zx (by with_reducible assumption) ?_ ?_)|omega|(·simp)|(·(simp;omega))))
 have hr4:=hr4.below hb2 by3
 have hr5:=hr5.below hb2 by3
 by_cases hn2:r2<0
 ·go_wp2
  go_ret
  exact⟨-1,rfl,.inl (by omega),by omega,by exact by0⟩
 have hq2:=hr2s.resolve_left hn2
 go_wp2_with fail
 go_at_call 86
 refine ((zd11 (E.Ty.mk_lst Tryz.underlying93 (by kernel_rfl) gx4.1 gx4.2)) _ _ hr4 (by omega) (by omega)).mono ?_;rintro e w3 ⟨r3,rfl,hr3s,hl3,hb3⟩
 have hz3:=hb3.size;(try simp only [World.size_alloc] at hz3)
 have c3_5:w3.cell? ⟨w.heap.size,5,none⟩=some (.slice x5A x5l.length x5c):=(by repeat (first|(with_reducible assumption)|(with_reducible refine zo ?_)|(with_reducible refine zk ?_)|(with_reducible exact zi rfl)|(exact cell_new' rfl by4)|(with_reducible refine ze ?_ ?_)|(refine zb (by with_reducible assumption) ?_ ?_)|(refine zx (by with_reducible assumption) ?_ ?_)|omega|(·simp)|(·(simp;omega))))
 have hr5:=hr5.below hb3 by3
 by_cases hn3:r3<0
 ·go_wp2
  go_ret
  exact⟨-1,rfl,.inl (by omega),by omega,by exact by0⟩
 have hq3:=hr3s.resolve_left hn3
 go_wp2_with fail
 go_at_call 87
 refine ((zt12 (E.Ty.mk_lst Tryz.underlying94 (by kernel_rfl) gx5.1 gx5.2)) _ _ hr5 (by omega) (by omega)).mono ?_;rintro e w4 ⟨r4,rfl,hr4s,hl4,hb4⟩
 have hz4:=hb4.size;(try simp only [World.size_alloc] at hz4)
 by_cases hn4:r4<0
 ·go_wp2
  go_ret
  exact⟨-1,rfl,.inl (by omega),by omega,by exact by0⟩
 have hq4:=hr4s.resolve_left hn4
 go_wp2
 go_ret
 refine⟨_,rfl,.inr ?_,by omega,by exact by0⟩
 show _=_
 rw [HSZ.out]
 have e1:=hq1.out
 have e2:=hq2.out
 have e3:=hq3.out
 have e4:=hq4.out
 push_cast
 omega
set_option maxRecDepth 100000 in
set_option maxHeartbeats 1000000 in
theorem szFrameS_all' (A:Option Addr)(c:Nat)(l:List E)(ht:∀y∈l,y.Ty Tryz.prog 96):Sz 14 (.lst 6 96 A c l):=by
 intro left w hr h0 h1
 have hs:=hr.sl
 have hlen:=hs.len_le
 have HSZ:Hid ((E.lst 6 96 A c l).sz=l.length+E.szL l):=rfl
 change Calls _ _ #[.slice A l.length c,.int .i64 left] w _
 by_cases hneg:left-l.length<0
 ·go_enter Tryz.func14,Tryz.ntmps14
  go_wp2
  go_ret
  exact⟨-1,rfl,.inl (by omega),by omega,by exact by0⟩
 go_enter Tryz.func14,Tryz.ntmps14
 go_wp2
 go_loopw [1,5] (fun v i wr=>∃(k:Nat) (cur:Int),k≤l.length∧i=.int .i64 k∧v=.int .i64 cur∧0≤cur∧cur≤left∧Hid (cur+E.szL (l.take k)+l.length=left)∧Below w.heap.size w wr) (fun _ i _=>l.length-(intOf i).toNat)
 case atStart=>exact⟨0,_,Nat.zero_le _,rfl,rfl,by omega,by omega,(by show _=_;simp [E.szL]),Below.refl _ _⟩
 case round =>
  obtain⟨k,cur,hk,rfl,rfl,hc0,hc1,HQ,hb⟩:=hrel
  have hzb:=hb.size
  by_cases hlt:k<l.length
  ·have hs':=hs.below hb (Nat.le_refl _)
   have HT:=Lib.hid (E.szL_take l k hlt)
   obtain⟨b,o,rfl,_,hc⟩:=hs'.at_ hlt
   have hin:=(hr.el (List.getElem_mem hlt)).below hb (Nat.le_refl _)
   have H:=zw12 (ht _ (List.getElem_mem hlt))
   obtain⟨y0,y1,y2A,y2c,y2l,y3A,y3c,y3l,y4A,y4c,y4l,y5A,y5c,y5l,ex,gy0,gy1,gy2,gy3,gy4,gy5,-⟩:=za3 (ht _ (List.getElem_mem hlt))
   have HEX:=Lib.hid ex
   rw [ex] at hc hin H
   clear ex
   have c0:=hc 0 _ rfl;have c1:=hc 1 _ rfl;have c2:=hc 2 _ rfl;have c3:=hc 3 _ rfl;have c4:=hc 4 _ rfl;have c5:=hc 5 _ rfl
   rw [Nat.add_zero] at c0
   clear hc
   go_wp2_with fail
   go_at_call 50
   refine (H _ _ hin hc0 (by omega)).mono ?_;rintro e w1 ⟨r,rfl,hrs,hrl,hb1⟩
   by_cases hn:r<0
   ·go_wp2
    go_ret
    exact⟨-1,rfl,.inl (by omega),by omega,by exact by0⟩
   ·have HR:=hrs.resolve_left hn
    clear hrs
    go_wp2
    go_roundw
    case rel=>exact⟨k+1,r,by omega,by go_num,rfl,by omega,by omega,(by show _=_;have e1:=HQ.out;have e2:=HT.out;have e3:=HR.out;rw [HEX.out] at e2;omega),by exact by0⟩
    case measure=>simp [intOf];omega
  ·have hk':k=l.length:=by omega
   subst hk'
   go_wp2
   go_ret
   refine⟨_,rfl,.inr ?_,by omega,hb⟩
   show _=_
   have e1:=HQ.out
   rw [List.take_length] at e1
   rw [HSZ.out]
   push_cast
   omega
theorem zg11 {e:E}(ht:e.Ty Tryz.prog 27):Sz 14 e:=by
 obtain⟨A,c,l,rfl,h1,_⟩:=ht.lst_ Tryz.underlying27 (k:=6) (by kernel_rfl)
 exact szFrameS_all' A c l h1
set_option maxRecDepth 100000 in
set_option maxHeartbeats 1000000 in
theorem zx12 {e:E}(ht:e.Ty Tryz.prog 96):To 59 60 e:=by
 have HT0:=Lib.hid ht
 obtain⟨x0,x1,x2A,x2c,x2l,x3A,x3c,x3l,x4A,x4c,x4l,x5A,x5c,x5l,rfl,gx0,gx1,gx2,gx3,gx4,gx5,-⟩:=za3 ht
 intro w hr hsz
 have hsz':(0+(0+((E.lst 1 3 x2A x2c x2l).sz+((E.lst 2 157 x3A x3c x3l).sz+((E.lst 5 159 x4A x4c x4l).sz+((E.lst 2 153 x5A x5c x5l).sz+0))))))≤1048576:=hsz
 have hs2:(E.lst 1 3 x2A x2c x2l).sz≤1048576:=by omega
 have hs3:(E.lst 2 157 x3A x3c x3l).sz≤1048576:=by omega
 have hs4:(E.lst 5 159 x4A x4c x4l).sz≤1048576:=by omega
 have hs5:(E.lst 2 153 x5A x5c x5l).sz≤1048576:=by omega
 clear hsz hsz'
 have hr2:=hr.fld (i:=2) rfl
 have ty2:(E.lst 1 3 x2A x2c x2l).Ty Tryz.prog 25:=E.Ty.mk_lst Tryz.underlying25 (by kernel_rfl) gx2.1 gx2.2
 have HC2:=Lib.hid (zp5 ty2)
 clear ty2
 have hr3:=hr.fld (i:=3) rfl
 have ty3:(E.lst 2 157 x3A x3c x3l).Ty Tryz.prog 92:=E.Ty.mk_lst Tryz.underlying92 (by kernel_rfl) gx3.1 gx3.2
 have HC3:=Lib.hid (zp12 ty3)
 clear ty3
 have hr4:=hr.fld (i:=4) rfl
 have ty4:(E.lst 5 159 x4A x4c x4l).Ty Tryz.prog 93:=E.Ty.mk_lst Tryz.underlying93 (by kernel_rfl) gx4.1 gx4.2
 have HC4:=Lib.hid (ze11 ty4)
 clear ty4
 have hr5:=hr.fld (i:=5) rfl
 have ty5:(E.lst 2 153 x5A x5c x5l).Ty Tryz.prog 94:=E.Ty.mk_lst Tryz.underlying94 (by kernel_rfl) gx5.1 gx5.2
 have HC5:=Lib.hid (zu12 ty5)
 clear ty5
 change Calls _ _ #[.agg #[.int .i64 x0,.int .i64 x1,.slice x2A x2l.length x2c,.slice x3A x3l.length x3c,.slice x4A x4l.length x4c,.slice x5A x5l.length x5c]] w _
 go_enter Tryz.func59,Tryz.ntmps59
 go_wp2_with fail
 go_at_call 21
 refine (HC2.out _ (((hr2.alloc _).alloc _).alloc _) hs2).mono ?_;rintro e w1 ⟨v1,he,HD1,ht1,ho1,hn1,hb1⟩
 have HT1:=Lib.hid ht1
 have HN1:=Lib.hid hn1
 obtain⟨A1,q1,l1,rfl,-,-⟩:=ht1.lst_ Tryz.underlying25 (k:=1) (by kernel_rfl)
 obtain rfl:e=.returned (.slice A1 l1.length q1):=he
 clear hn1 ht1
 have B0_1:w1.heap[w.heap.size]? = some (.cells #[.int .i64 x0,.int .i64 x1,.slice x2A x2l.length x2c,.slice x3A x3l.length x3c,.slice x4A x4l.length x4c,.slice x5A x5l.length x5c] 96 (0,0)):=(hb1.block (w.heap.size) (by simp;omega)).trans zh4.1
 have B1_1:w1.heap[w.heap.size+1]? = some (.cells #[.int .i64 0,.int .i64 0,.slice none 0 0,.slice none 0 0,.slice none 0 0,.slice none 0 0] 60 (0,0)):=(hb1.block (w.heap.size+1) (by simp)).trans zh4.2.1
 have B2_1:w1.heap[w.heap.size+1+1]? = some (.cells #[.int .i64 x0,.int .i64 x1,.slice none 0 0,.slice none 0 0,.slice none 0 0,.slice none 0 0] 60 (0,0)):=(hb1.block (w.heap.size+1+1) (by simp)).trans zh4.2.2
 have hz1:=hb1.size;simp only [World.size_alloc] at hz1
 have hB1:Below w.heap.size w w1:=(by exact by0:Below w.heap.size w _).trans (hb1.mono (by simp;omega))
 have ho1:=ho1.wider (lo':=w.heap.size+1+1+1) (by simp) (Nat.le_refl _)
 have c1_0:w1.cell? ⟨w.heap.size,0,none⟩=some (.int .i64 x0):=za B0_1 rfl
 have c1_1:w1.cell? ⟨w.heap.size,1,none⟩=some (.int .i64 x1):=za B0_1 rfl
 have c1_2:w1.cell? ⟨w.heap.size,2,none⟩=some (.slice x2A x2l.length x2c):=za B0_1 rfl
 have c1_3:w1.cell? ⟨w.heap.size,3,none⟩=some (.slice x3A x3l.length x3c):=za B0_1 rfl
 have c1_4:w1.cell? ⟨w.heap.size,4,none⟩=some (.slice x4A x4l.length x4c):=za B0_1 rfl
 have c1_5:w1.cell? ⟨w.heap.size,5,none⟩=some (.slice x5A x5l.length x5c):=za B0_1 rfl
 have d1_0:w1.cell? ⟨w.heap.size+1+1,0,none⟩=some (.int .i64 x0):=za B2_1 rfl
 have d1_1:w1.cell? ⟨w.heap.size+1+1,1,none⟩=some (.int .i64 x1):=za B2_1 rfl
 have d1_2:w1.cell? ⟨w.heap.size+1+1,2,none⟩=some (.slice none 0 0):=za B2_1 rfl
 have d1_3:w1.cell? ⟨w.heap.size+1+1,3,none⟩=some (.slice none 0 0):=za B2_1 rfl
 have d1_4:w1.cell? ⟨w.heap.size+1+1,4,none⟩=some (.slice none 0 0):=za B2_1 rfl
 have d1_5:w1.cell? ⟨w.heap.size+1+1,5,none⟩=some (.slice none 0 0):=za B2_1 rfl
 have f1:=zt2 B2_1
 go_wp2_with fail
 have hK1:Kp (w.heap.size+1+1) (w.heap.size+1+1+1) w1 (w1.setCell ⟨w.heap.size+1+1,2,none⟩ (.slice A1 l1.length q1)):=(by repeat (first|(with_reducible exact Kp.refl _ _ _)|(refine Kp.set ?_ (by first|omega|(dsimp only;omega)|(simp;omega)) (by first|omega|(dsimp only;omega)|(simp;omega)) _)))
 have A0_1:=(hK1.block (w.heap.size) (by omega) (.inl (by omega))).trans B0_1
 have A1_1:=(hK1.block (w.heap.size+1) (by omega) (.inl (by omega))).trans B1_1
 have A2_1:(w1.setCell ⟨w.heap.size+1+1,2,none⟩ (.slice A1 l1.length q1)).heap[w.heap.size+1+1]? = some (.cells #[.int .i64 x0,.int .i64 x1,.slice A1 l1.length q1,.slice none 0 0,.slice none 0 0,.slice none 0 0] 60 (0,0)):=by simp only [zn2,B2_1];simp [setAt]
 have hW1:(w1.setCell ⟨w.heap.size+1+1,2,none⟩ (.slice A1 l1.length q1)).heap.size=w1.heap.size:=by simp
 have hBW1:Below w.heap.size w (w1.setCell ⟨w.heap.size+1+1,2,none⟩ (.slice A1 l1.length q1)):=hB1.trans (hK1.below (by omega) (by omega))
 have ho1:=ho1.kp hK1 (.inr (by omega))
 clear c1_0 c1_1 c1_2 c1_3 c1_4 c1_5 d1_0 d1_1 d1_2 d1_3 d1_4 d1_5 f1 B0_1 B1_1 B2_1 hK1 hB1
 generalize (w1.setCell ⟨w.heap.size+1+1,2,none⟩ (.slice A1 l1.length q1))=W1 at *
 go_at_call 90
 refine (HC3.out _ (E.In.below hr3 hBW1 (Nat.le_refl _)) hs3).mono ?_;rintro e w2 ⟨v2,he,HD2,ht2,ho2,hn2,hb2⟩
 have HT2:=Lib.hid ht2
 have HN2:=Lib.hid hn2
 obtain⟨A2,q2,l2,rfl,-,-⟩:=ht2.lst_ Tryz.underlying56 (k:=2) (by kernel_rfl)
 obtain rfl:e=.returned (.slice A2 l2.length q2):=he
 clear hn2 ht2
 have B0_2:=(hb2.block (w.heap.size) (by omega)).trans A0_1
 have B1_2:=(hb2.block (w.heap.size+1) (by omega)).trans A1_1
 have B2_2:=(hb2.block (w.heap.size+1+1) (by omega)).trans A2_1
 have hz2:=hb2.size
 have hB2:Below w.heap.size w w2:=hBW1.trans (hb2.mono (by omega))
 have ho1:=ho1.below hb2 (by omega)
 have ho2:=ho2.wider (lo':=w1.heap.size) (by omega) (Nat.le_refl _)
 clear A0_1 A1_1 A2_1
 have c2_0:w2.cell? ⟨w.heap.size,0,none⟩=some (.int .i64 x0):=za B0_2 rfl
 have c2_1:w2.cell? ⟨w.heap.size,1,none⟩=some (.int .i64 x1):=za B0_2 rfl
 have c2_2:w2.cell? ⟨w.heap.size,2,none⟩=some (.slice x2A x2l.length x2c):=za B0_2 rfl
 have c2_3:w2.cell? ⟨w.heap.size,3,none⟩=some (.slice x3A x3l.length x3c):=za B0_2 rfl
 have c2_4:w2.cell? ⟨w.heap.size,4,none⟩=some (.slice x4A x4l.length x4c):=za B0_2 rfl
 have c2_5:w2.cell? ⟨w.heap.size,5,none⟩=some (.slice x5A x5l.length x5c):=za B0_2 rfl
 have d2_0:w2.cell? ⟨w.heap.size+1+1,0,none⟩=some (.int .i64 x0):=za B2_2 rfl
 have d2_1:w2.cell? ⟨w.heap.size+1+1,1,none⟩=some (.int .i64 x1):=za B2_2 rfl
 have d2_2:w2.cell? ⟨w.heap.size+1+1,2,none⟩=some (.slice A1 l1.length q1):=za B2_2 rfl
 have d2_3:w2.cell? ⟨w.heap.size+1+1,3,none⟩=some (.slice none 0 0):=za B2_2 rfl
 have d2_4:w2.cell? ⟨w.heap.size+1+1,4,none⟩=some (.slice none 0 0):=za B2_2 rfl
 have d2_5:w2.cell? ⟨w.heap.size+1+1,5,none⟩=some (.slice none 0 0):=za B2_2 rfl
 have f2:=zt2 B2_2
 go_wp2_with fail
 have hK2:Kp (w.heap.size+1+1) (w.heap.size+1+1+1) w2 (w2.setCell ⟨w.heap.size+1+1,3,none⟩ (.slice A2 l2.length q2)):=(by repeat (first|(with_reducible exact Kp.refl _ _ _)|(refine Kp.set ?_ (by first|omega|(dsimp only;omega)|(simp;omega)) (by first|omega|(dsimp only;omega)|(simp;omega)) _)))
 have A0_2:=(hK2.block (w.heap.size) (by omega) (.inl (by omega))).trans B0_2
 have A1_2:=(hK2.block (w.heap.size+1) (by omega) (.inl (by omega))).trans B1_2
 have A2_2:(w2.setCell ⟨w.heap.size+1+1,3,none⟩ (.slice A2 l2.length q2)).heap[w.heap.size+1+1]? = some (.cells #[.int .i64 x0,.int .i64 x1,.slice A1 l1.length q1,.slice A2 l2.length q2,.slice none 0 0,.slice none 0 0] 60 (0,0)):=by simp only [zn2,B2_2];simp [setAt]
 have hW2:(w2.setCell ⟨w.heap.size+1+1,3,none⟩ (.slice A2 l2.length q2)).heap.size=w2.heap.size:=by simp
 have hBW2:Below w.heap.size w (w2.setCell ⟨w.heap.size+1+1,3,none⟩ (.slice A2 l2.length q2)):=hB2.trans (hK2.below (by omega) (by omega))
 have ho1:=ho1.kp hK2 (.inr (by omega))
 have ho2:=ho2.kp hK2 (.inr (by omega))
 clear c2_0 c2_1 c2_2 c2_3 c2_4 c2_5 d2_0 d2_1 d2_2 d2_3 d2_4 d2_5 f2 B0_2 B1_2 B2_2 hK2 hB2
 generalize (w2.setCell ⟨w.heap.size+1+1,3,none⟩ (.slice A2 l2.length q2))=W2 at *
 go_at_call 91
 refine (HC4.out _ (E.In.below hr4 hBW2 (Nat.le_refl _)) hs4).mono ?_;rintro e w3 ⟨v3,he,HD3,ht3,ho3,hn3,hb3⟩
 have HT3:=Lib.hid ht3
 have HN3:=Lib.hid hn3
 obtain⟨A3,q3,l3,rfl,-,-⟩:=ht3.lst_ Tryz.underlying57 (k:=5) (by kernel_rfl)
 obtain rfl:e=.returned (.slice A3 l3.length q3):=he
 clear hn3 ht3
 have B0_3:=(hb3.block (w.heap.size) (by omega)).trans A0_2
 have B1_3:=(hb3.block (w.heap.size+1) (by omega)).trans A1_2
 have B2_3:=(hb3.block (w.heap.size+1+1) (by omega)).trans A2_2
 have hz3:=hb3.size
 have hB3:Below w.heap.size w w3:=hBW2.trans (hb3.mono (by omega))
 have ho1:=ho1.below hb3 (by omega)
 have ho2:=ho2.below hb3 (by omega)
 have ho3:=ho3.wider (lo':=w2.heap.size) (by omega) (Nat.le_refl _)
 clear A0_2 A1_2 A2_2
 have c3_0:w3.cell? ⟨w.heap.size,0,none⟩=some (.int .i64 x0):=za B0_3 rfl
 have c3_1:w3.cell? ⟨w.heap.size,1,none⟩=some (.int .i64 x1):=za B0_3 rfl
 have c3_2:w3.cell? ⟨w.heap.size,2,none⟩=some (.slice x2A x2l.length x2c):=za B0_3 rfl
 have c3_3:w3.cell? ⟨w.heap.size,3,none⟩=some (.slice x3A x3l.length x3c):=za B0_3 rfl
 have c3_4:w3.cell? ⟨w.heap.size,4,none⟩=some (.slice x4A x4l.length x4c):=za B0_3 rfl
 have c3_5:w3.cell? ⟨w.heap.size,5,none⟩=some (.slice x5A x5l.length x5c):=za B0_3 rfl
 have d3_0:w3.cell? ⟨w.heap.size+1+1,0,none⟩=some (.int .i64 x0):=za B2_3 rfl
 have d3_1:w3.cell? ⟨w.heap.size+1+1,1,none⟩=some (.int .i64 x1):=za B2_3 rfl
 have d3_2:w3.cell? ⟨w.heap.size+1+1,2,none⟩=some (.slice A1 l1.length q1):=za B2_3 rfl
 have d3_3:w3.cell? ⟨w.heap.size+1+1,3,none⟩=some (.slice A2 l2.length q2):=za B2_3 rfl
 have d3_4:w3.cell? ⟨w.heap.size+1+1,4,none⟩=some (.slice none 0 0):=za B2_3 rfl
 have d3_5:w3.cell? ⟨w.heap.size+1+1,5,none⟩=some (.slice none 0 0):=za B2_3 rfl
 have f3:=zt2 B2_3
 go_wp2_with fail
 have hK3:Kp (w.heap.size+1+1) (w.heap.size+1+1+1) w3 (w3.setCell ⟨w.heap.size+1+1,4,none⟩ (.slice A3 l3.length q3)):=(by repeat (first|(with_reducible exact Kp.refl _ _ _)|(refine Kp.set ?_ (by first|omega|(dsimp only;omega)|(simp;omega)) (by first|omega|(dsimp only;omega)|(simp;omega)) _)))
 have A0_3:=(hK3.block (w.heap.size) (by omega) (.inl (by omega))).trans B0_3
 have A1_3:=(hK3.block (w.heap.size+1) (by omega) (.inl (by omega))).trans B1_3
 have A2_3:(w3.setCell ⟨w.heap.size+1+1,4,none⟩ (.slice A3 l3.length q3)).heap[w.heap.size+1+1]? = some (.cells #[.int .i64 x0,.int .i64 x1,.slice A1 l1.length q1,.slice A2 l2.length q2,.slice A3 l3.length q3,.slice none 0 0] 60 (0,0)):=by simp only [zn2,B2_3];simp [setAt]
 have hW3:(w3.setCell ⟨w.heap.size+1+1,4,none⟩ (.slice A3 l3.length q3)).heap.size=w3.heap.size:=by simp
 have hBW3:Below w.heap.size w (w3.setCell ⟨w.heap.size+1+1,4,none⟩ (.slice A3 l3.length q3)):=hB3.trans (hK3.below (by omega) (by omega))
 have ho1:=ho1.kp hK3 (.inr (by omega))
 have ho2:=ho2.kp hK3 (.inr (by omega))
 have ho3:=ho3.kp hK3 (.inr (by omega))
 clear c3_0 c3_1 c3_2 c3_3 c3_4 c3_5 d3_0 d3_1 d3_2 d3_3 d3_4 d3_5 f3 B0_3 B1_3 B2_3 hK3 hB3
 generalize (w3.setCell ⟨w.heap.size+1+1,4,none⟩ (.slice A3 l3.length q3))=W3 at *
 go_at_call 92
 refine (HC5.out _ (E.In.below hr5 hBW3 (Nat.le_refl _)) hs5).mono ?_;rintro e w4 ⟨v4,he,HD4,ht4,ho4,hn4,hb4⟩
 have HT4:=Lib.hid ht4
 have HN4:=Lib.hid hn4
 obtain⟨A4,q4,l4,rfl,-,-⟩:=ht4.lst_ Tryz.underlying58 (k:=2) (by kernel_rfl)
 obtain rfl:e=.returned (.slice A4 l4.length q4):=he
 clear hn4 ht4
 have B0_4:=(hb4.block (w.heap.size) (by omega)).trans A0_3
 have B1_4:=(hb4.block (w.heap.size+1) (by omega)).trans A1_3
 have B2_4:=(hb4.block (w.heap.size+1+1) (by omega)).trans A2_3
 have hz4:=hb4.size
 have hB4:Below w.heap.size w w4:=hBW3.trans (hb4.mono (by omega))
 have ho1:=ho1.below hb4 (by omega)
 have ho2:=ho2.below hb4 (by omega)
 have ho3:=ho3.below hb4 (by omega)
 have ho4:=ho4.wider (lo':=w3.heap.size) (by omega) (Nat.le_refl _)
 clear A0_3 A1_3 A2_3
 have c4_0:w4.cell? ⟨w.heap.size,0,none⟩=some (.int .i64 x0):=za B0_4 rfl
 have c4_1:w4.cell? ⟨w.heap.size,1,none⟩=some (.int .i64 x1):=za B0_4 rfl
 have c4_2:w4.cell? ⟨w.heap.size,2,none⟩=some (.slice x2A x2l.length x2c):=za B0_4 rfl
 have c4_3:w4.cell? ⟨w.heap.size,3,none⟩=some (.slice x3A x3l.length x3c):=za B0_4 rfl
 have c4_4:w4.cell? ⟨w.heap.size,4,none⟩=some (.slice x4A x4l.length x4c):=za B0_4 rfl
 have c4_5:w4.cell? ⟨w.heap.size,5,none⟩=some (.slice x5A x5l.length x5c):=za B0_4 rfl
 have d4_0:w4.cell? ⟨w.heap.size+1+1,0,none⟩=some (.int .i64 x0):=za B2_4 rfl
 have d4_1:w4.cell? ⟨w.heap.size+1+1,1,none⟩=some (.int .i64 x1):=za B2_4 rfl
 have d4_2:w4.cell? ⟨w.heap.size+1+1,2,none⟩=some (.slice A1 l1.length q1):=za B2_4 rfl
 have d4_3:w4.cell? ⟨w.heap.size+1+1,3,none⟩=some (.slice A2 l2.length q2):=za B2_4 rfl
 have d4_4:w4.cell? ⟨w.heap.size+1+1,4,none⟩=some (.slice A3 l3.length q3):=za B2_4 rfl
 have d4_5:w4.cell? ⟨w.heap.size+1+1,5,none⟩=some (.slice none 0 0):=za B2_4 rfl
 have f4:=zt2 B2_4
 have r0':=za B1_4 (o:=0) rfl;have r1':=za B1_4 (o:=1) rfl;have r2':=za B1_4 (o:=2) rfl;have r3':=za B1_4 (o:=3) rfl;have r4':=za B1_4 (o:=4) rfl;have r5':=za B1_4 (o:=5) rfl
 have fr':=zt2 B1_4
 go_wp2
 have OWN:Owns w4 (w.heap.size+1+1+1) w4.heap.size [(E.int .i64 x0),(E.int .i64 x1),(E.lst 1 3 A1 q1 l1),(E.lst 2 102 A2 q2 l2),(E.lst 5 148 A3 q3 l3),(E.lst 2 105 A4 q4 l4)]:=(Owns.leaf rfl (by simp only [E.Ho]) (Owns.leaf rfl (by simp only [E.Ho]) (Owns.cons (mid:=w1.heap.size) ho1 HN1.out (Owns.cons (mid:=w2.heap.size) ho2 HN2.out (Owns.cons (mid:=w3.heap.size) ho3 HN3.out (Owns.cons (mid:=w4.heap.size) ho4 HN4.out Owns.nil (by omega) (by omega)) (by omega) (by omega)) (by omega) (by omega)) (by omega) (by omega))))
 refine bodyPost_ret (v:=.agg #[.int .i64 x0,.int .i64 x1,.slice A1 l1.length q1,.slice A2 l2.length q2,.slice A3 l3.length q3,.slice A4 l4.length q4]) (zp4 (t:=60) (fr:=(0,0)) rfl rfl Tryz.underlying60 (by kernel_rfl) ?_) rfl ⟨(E.agg [(E.int .i64 x0),(E.int .i64 x1),(E.lst 1 3 A1 q1 l1),(E.lst 2 102 A2 q2 l2),(E.lst 5 148 A3 q3 l3),(E.lst 2 105 A4 q4 l4)]),rfl,?_,E.Ty.mk_agg Tryz.underlying60 (E.TyF.mk_cons (show E.Ty _ _ _ from ⟨Tryz.underlying3,gx0⟩) (E.TyF.mk_cons (show E.Ty _ _ _ from ⟨Tryz.underlying3,gx1⟩) (E.TyF.mk_cons HT1.out (E.TyF.mk_cons HT2.out (E.TyF.mk_cons HT3.out (E.TyF.mk_cons HT4.out (E.TyF.mk_nil))))))),?_,?_,?_⟩
 ·simp only [zn2,B1_4,B2_4];simp [setAt]
 ·show E.d _=E.d _
  simp only [E.d,E.dL]
  have y1:=HD1.out;simp only [E.d,E.dL] at y1
  have y2:=HD2.out;simp only [E.d,E.dL] at y2
  have y3:=HD3.out;simp only [E.d,E.dL] at y3
  have y4:=HD4.out;simp only [E.d,E.dL] at y4
  simp only [E.agg.injEq,List.cons.injEq,E.lst.injEq,E.int.injEq,E.str.injEq,E.bool.injEq,true_and,and_true] at *
  simp [*]
 ·exact ((E.Ho.mk_agg OWN.1).kp (lo':=w.heap.size+1) (hi':=w.heap.size+1+1+1) (by repeat (first|(with_reducible exact Kp.refl _ _ _)|(refine Kp.set ?_ (by first|omega|(dsimp only;omega)|(simp;omega)) (by first|omega|(dsimp only;omega)|(simp;omega)) _))) (.inr (by omega))).wider (by omega) (by simp)
 ·exact OWN.2
 ·exact hB4.trans (Kp.below (lo:=w.heap.size+1) (hi:=w.heap.size+1+1+1) (by repeat (first|(with_reducible exact Kp.refl _ _ _)|(refine Kp.set ?_ (by first|omega|(dsimp only;omega)|(simp;omega)) (by first|omega|(dsimp only;omega)|(simp;omega)) _))) (by omega) (by omega))
theorem zf15:(Tryz.prog.info? 60).map (fun i=>(i.zero,i.size,i.bytes))=some (some (.agg #[.int .i64 0,.int .i64 0,.slice none 0 0,.slice none 0 0,.slice none 0 0,.slice none 0 0]),6,112):=by kernel_rfl
set_option maxRecDepth 100000 in
set_option maxHeartbeats 1000000 in
theorem toFrameS_all' (A:Option Addr)(c:Nat)(l:List E)(h1:∀y∈l,y.Ty Tryz.prog 96):To 23 39 (.lst 6 96 A c l):=by
 intro w hr hsz
 have hs:=hr.sl
 have eS:(E.lst 6 96 A c l).sz=l.length+E.szL l:=rfl
 have hn:l.length≤1048576:=by omega
 have HS:=Lib.hid (show l.length+E.szL l≤1048576 by omega)
 clear eS hsz
 have hmk:=zn7 Tryz.underlying39 zf15 l.length (by omega) (by omega)
 have hF:=Fill.new w 60 #[.int .i64 0,.int .i64 0,.slice none 0 0,.slice none 0 0,.slice none 0 0,.slice none 0 0] (l.length*6) ([]:List Value)
 change Calls _ _ #[.slice A l.length c] w _
 go_enter Tryz.func23,Tryz.ntmps23
 go_wp2
 go_loopw [4] (fun i wr=>∃(k:Nat) (us:List E),k≤l.length∧i=.int .i64 k∧Hid (us.length=k)∧Hid (us.map E.d=(l.take k).map E.d)∧Hid (∀u∈us,u.Ty Tryz.prog 60∧u.enc.length=6)∧Fill wr w.heap.size 60 (l.length*6) (k*6) (E.encL us)∧w.heap.size+1≤wr.heap.size∧Hid (∀u∈us,u.Ho wr (w.heap.size+1) wr.heap.size)∧Hid ((E.fpL us).Nodup)∧Below w.heap.size w wr) (fun i _=>l.length-(intOf i).toNat)
 case atStart=>exact⟨0,[],Nat.zero_le _,rfl,rfl,rfl,(fun u hu=>absurd hu List.not_mem_nil),by exact hF,by simp,(fun u hu=>absurd hu List.not_mem_nil),(by show List.Nodup _;simp [E.fpL]),by exact by0⟩
 case round =>
  obtain⟨k,us,hk,rfl,HL,HD,HT,hf,hge,HO,HN,hb⟩:=hrel
  by_cases hlt:k<l.length
  ·have hs':=hs.below hb (Nat.le_refl _)
   have hzb:=hb.size
   have hmem:=List.getElem_mem hlt
   have hin:=(hr.el hmem).below hb (Nat.le_refl _)
   have H:=zx12 (h1 _ hmem)
   have hsk:l[k].sz≤1048576:=by have:=E.szL_mem hmem;have:=HS.out;omega
   obtain⟨b,o,rfl,_,hc⟩:=hs'.at_ hlt
   obtain⟨y0,y1,y2A,y2c,y2l,y3A,y3c,y3l,y4A,y4c,y4l,y5A,y5c,y5l,ex,gy0,gy1,gy2,gy3,gy4,gy5,-⟩:=za3 (h1 _ hmem)
   have HEX:=Lib.hid ex
   rw [ex] at hc hin H hsk
   clear ex
   have c0:=hc 0 _ rfl;have c1:=hc 1 _ rfl;have c2:=hc 2 _ rfl;have c3:=hc 3 _ rfl;have c4:=hc 4 _ rfl;have c5:=hc 5 _ rfl
   rw [Nat.add_zero] at c0
   clear hc
   have HF:=Lib.hid hf
   clear hf
   go_wp2_with fail
   go_at_call 59
   refine (H _ hin hsk).mono ?_;rintro e w1 ⟨x,he,HDX,htx,hox,hnx,hb1⟩
   have HTX:=Lib.hid htx
   obtain⟨z0,z1,z2A,z2c,z2l,z3A,z3c,z3l,z4A,z4c,z4l,z5A,z5c,z5l,rfl,gz0,gz1,gz2,gz3,gz4,gz5,-⟩:=zd1 htx
   obtain rfl:e=.returned (.agg #[.int .i64 z0,.int .i64 z1,.slice z2A z2l.length z2c,.slice z3A z3l.length z3c,.slice z4A z4l.length z4c,.slice z5A z5l.length z5c]):=he
   have hf1:=HF.out.below hb1 HF.out.lt
   obtain⟨u0,c0'⟩:=hf1.cell (j:=k*6) (by omega);obtain⟨u1,c1'⟩:=hf1.cell (j:=k*6+1) (by omega);obtain⟨u2,c2'⟩:=hf1.cell (j:=k*6+2) (by omega);obtain⟨u3,c3'⟩:=hf1.cell (j:=k*6+3) (by omega);obtain⟨u4,c4'⟩:=hf1.cell (j:=k*6+4) (by omega);obtain⟨u5,c5'⟩:=hf1.cell (j:=k*6+5) (by omega)
   have zfr:=hf1.frozen
   have hz1:=hb1.size
   have HOX:=Lib.hid hox
   have HNX:=Lib.hid hnx
   have HF1:=Lib.hid hf1
   clear hox hnx hf1 htx
   go_wp2
   go_roundw
   case rel =>
    have hl:=HL.out
    have hf1:=HF1.out
    have hT:∀u∈us++[(E.agg [.int .i64 z0,.int .i64 z1,.lst 1 3 z2A z2c z2l,.lst 2 102 z3A z3c z3l,.lst 5 148 z4A z4c z4l,.lst 2 105 z5A z5c z5l])],u.Ty Tryz.prog 60∧u.enc.length=6:=fun u hu=>by
     rcases List.mem_append.1 hu with hu|hu
     ·exact HT.out u hu
     ·obtain rfl:=List.mem_singleton.1 hu
      exact⟨HTX.out,rfl⟩
    have hlen:=E.encL_len fun u hu=>(HT.out u hu).2
    have hk2:k<(us++[(E.agg [.int .i64 z0,.int .i64 z1,.lst 1 3 z2A z2c z2l,.lst 2 102 z3A z3c z3l,.lst 5 148 z4A z4c z4l,.lst 2 105 z5A z5c z5l])]).length:=by simp;omega
    have ev:=fun j hj=>E.encL_at (fun u hu=>(hT u hu).2) k hk2 j hj
    have eT:(us++[(E.agg [.int .i64 z0,.int .i64 z1,.lst 1 3 z2A z2c z2l,.lst 2 102 z3A z3c z3l,.lst 5 148 z4A z4c z4l,.lst 2 105 z5A z5c z5l])])[k]=(E.agg [.int .i64 z0,.int .i64 z1,.lst 1 3 z2A z2c z2l,.lst 2 102 z3A z3c z3l,.lst 5 148 z4A z4c z4l,.lst 2 105 z5A z5c z5l]):=by rw [List.getElem_append_right (by omega)];simp [hl]
    simp only [eT] at ev
    have hf2:Fill w1 w.heap.size 60 (l.length*6) (k*6) (E.encL (us++[(E.agg [.int .i64 z0,.int .i64 z1,.lst 1 3 z2A z2c z2l,.lst 2 102 z3A z3c z3l,.lst 5 148 z4A z4c z4l,.lst 2 105 z5A z5c z5l])])):=hf1.swap' fun j hj=>E.encL_app_lt us _ j (by rw [hlen,hl];exact hj)
    have K:=fun (W:World) (h:Kp w.heap.size (w.heap.size+1) w1 W) (u:E) (hu:u∈us)=>((HO.out u hu).below hb1 (Nat.le_refl _)).kp h (.inr (by omega))
    refine⟨k+1,us++[(E.agg [.int .i64 z0,.int .i64 z1,.lst 1 3 z2A z2c z2l,.lst 2 102 z3A z3c z3l,.lst 5 148 z4A z4c z4l,.lst 2 105 z5A z5c z5l])],by omega,by go_num,by show _=_;simp [hl],zl6 hlt HD.out (HDX.out.trans (by rw [←HEX.out])),hT,by rw [Nat.add_mul];exact ((((((hf2.set (by omega) (ev 0 (by omega))).set (by omega) (ev 1 (by omega))).set (by omega) (ev 2 (by omega))).set (by omega) (ev 3 (by omega))).set (by omega) (ev 4 (by omega))).set (by omega) (ev 5 (by omega))),by simp;omega,?_,?_,by exact by0⟩
    ·intro u hu
     rcases List.mem_append.1 hu with hu|hu
     ·exact (K _ (by repeat (first|(with_reducible exact Kp.refl _ _ _)|(refine Kp.set ?_ (by first|omega|(dsimp only;omega)|(simp;omega)) (by first|omega|(dsimp only;omega)|(simp;omega)) _))) u hu).wider (Nat.le_refl _) (by simp;omega)
     ·obtain rfl:=List.mem_singleton.1 hu
      exact (HOX.out.kp (lo':=w.heap.size) (hi':=w.heap.size+1) (by repeat (first|(with_reducible exact Kp.refl _ _ _)|(refine Kp.set ?_ (by first|omega|(dsimp only;omega)|(simp;omega)) (by first|omega|(dsimp only;omega)|(simp;omega)) _))) (.inr (by omega))).wider (by omega) (by simp)
    ·refine zn3 HN.out HNX.out fun g hg hg2=>?_
     obtain⟨u,hu,hg⟩:=E.mem_fpL.1 hg
     have:=(HO.out u hu).lt g hg
     have:=HOX.out.lt g hg2
     omega
   case measure=>simp [intOf];omega
  ·have hk':k=l.length:=by omega
   subst hk'
   go_wp2
   go_ret
   have hl:=HL.out
   have hTy:=HT.out
   have own:wr.ownsRow w.heap.size 60 6 (.slice (some ⟨w.heap.size,0,none⟩) l.length l.length) l.length (E.encL us):=hf.owns (Nat.le_refl _) rfl (by rw [E.encL_len fun u hu=>(hTy u hu).2,hl]) (by unfold maxLen;omega)
   rw [←hl] at own
   refine⟨.lst 6 60 (some ⟨w.heap.size,0,none⟩) us.length us,by rw [←hl];rfl,?_,E.Ty.mk_lst Tryz.underlying39 (by kernel_rfl) (fun u hu=>(hTy u hu).1) (fun u hu=>(hTy u hu).2),E.Ho.mk (Ow.of_owns own (Nat.le_refl _)) (fun u hu=>(hTy u hu).2) (fun u hu=>(HO.out u hu).wider (by omega) (Nat.le_refl _)),?_,hb⟩
   ·show E.d _=E.d _
    rw [zk4]
    have h:=HD.out
    rwa [List.take_length] at h
   ·simp only [E.fp,List.singleton_append,List.nodup_cons]
    refine⟨fun hm=>?_,HN.out⟩
    obtain⟨u,hu,hg⟩:=E.mem_fpL.1 hm
    have:=(HO.out u hu).lt _ hg
    omega
theorem zh11 {e:E}(ht:e.Ty Tryz.prog 27):To 23 39 e:=by
 obtain⟨A,c,l,rfl,h1,_⟩:=ht.lst_ Tryz.underlying27 (k:=6) (by kernel_rfl)
 exact toFrameS_all' A c l h1
set_option maxRecDepth 100000 in
set_option maxHeartbeats 1000000 in
theorem zy12 {e e':E}(ht:e.Ty Tryz.prog 60)(ht':e'.Ty Tryz.prog 60):Eq 69 e e':=by
 obtain⟨x0,x1,x2A,x2c,x2l,x3A,x3c,x3l,x4A,x4c,x4l,x5A,x5c,x5l,rfl,gx0,gx1,gx2,gx3,gx4,gx5,-⟩:=zd1 ht
 obtain⟨y0,y1,y2A,y2c,y2l,y3A,y3c,y3l,y4A,y4c,y4l,y5A,y5c,y5l,rfl,gy0,gy1,gy2,gy3,gy4,gy5,-⟩:=zd1 ht'
 intro hd w hr hr'
 simp only [E.d,E.dL,E.agg.injEq,List.cons.injEq,E.int.injEq,E.str.injEq,E.bool.injEq,E.lst.injEq,true_and,and_true] at hd
 obtain⟨rfl,rfl,hd2,hd3,hd4,hd5⟩:=hd
 have hr2:=((hr.fld (i:=2) rfl).alloc (.cells #[.int .i64 x0,.int .i64 x1,.slice x2A x2l.length x2c,.slice x3A x3l.length x3c,.slice x4A x4l.length x4c,.slice x5A x5l.length x5c] 60)).alloc (.cells #[.int .i64 x0,.int .i64 x1,.slice y2A y2l.length y2c,.slice y3A y3l.length y3c,.slice y4A y4l.length y4c,.slice y5A y5l.length y5c] 60)
 have hs2:=((hr'.fld (i:=2) rfl).alloc (.cells #[.int .i64 x0,.int .i64 x1,.slice x2A x2l.length x2c,.slice x3A x3l.length x3c,.slice x4A x4l.length x4c,.slice x5A x5l.length x5c] 60)).alloc (.cells #[.int .i64 x0,.int .i64 x1,.slice y2A y2l.length y2c,.slice y3A y3l.length y3c,.slice y4A y4l.length y4c,.slice y5A y5l.length y5c] 60)
 have t2:(E.lst 1 3 x2A x2c x2l).Ty Tryz.prog 25:=E.Ty.mk_lst Tryz.underlying25 (by kernel_rfl) gx2.1 gx2.2
 have u2:(E.lst 1 3 y2A y2c y2l).Ty Tryz.prog 25:=E.Ty.mk_lst Tryz.underlying25 (by kernel_rfl) gy2.1 gy2.2
 have HC2:=Lib.hid (zq5 t2 u2 (by simp only [E.d,E.dL,E.agg.injEq,List.cons.injEq,E.int.injEq,E.str.injEq,E.bool.injEq,E.lst.injEq,true_and,and_true];exact hd2))
 clear t2 u2
 have hr3:=((hr.fld (i:=3) rfl).alloc (.cells #[.int .i64 x0,.int .i64 x1,.slice x2A x2l.length x2c,.slice x3A x3l.length x3c,.slice x4A x4l.length x4c,.slice x5A x5l.length x5c] 60)).alloc (.cells #[.int .i64 x0,.int .i64 x1,.slice y2A y2l.length y2c,.slice y3A y3l.length y3c,.slice y4A y4l.length y4c,.slice y5A y5l.length y5c] 60)
 have hs3:=((hr'.fld (i:=3) rfl).alloc (.cells #[.int .i64 x0,.int .i64 x1,.slice x2A x2l.length x2c,.slice x3A x3l.length x3c,.slice x4A x4l.length x4c,.slice x5A x5l.length x5c] 60)).alloc (.cells #[.int .i64 x0,.int .i64 x1,.slice y2A y2l.length y2c,.slice y3A y3l.length y3c,.slice y4A y4l.length y4c,.slice y5A y5l.length y5c] 60)
 have t3:(E.lst 2 102 x3A x3c x3l).Ty Tryz.prog 56:=E.Ty.mk_lst Tryz.underlying56 (by kernel_rfl) gx3.1 gx3.2
 have u3:(E.lst 2 102 y3A y3c y3l).Ty Tryz.prog 56:=E.Ty.mk_lst Tryz.underlying56 (by kernel_rfl) gy3.1 gy3.2
 have HC3:=Lib.hid (zq12 t3 u3 (by simp only [E.d,E.dL,E.agg.injEq,List.cons.injEq,E.int.injEq,E.str.injEq,E.bool.injEq,E.lst.injEq,true_and,and_true];exact hd3))
 clear t3 u3
 have hr4:=((hr.fld (i:=4) rfl).alloc (.cells #[.int .i64 x0,.int .i64 x1,.slice x2A x2l.length x2c,.slice x3A x3l.length x3c,.slice x4A x4l.length x4c,.slice x5A x5l.length x5c] 60)).alloc (.cells #[.int .i64 x0,.int .i64 x1,.slice y2A y2l.length y2c,.slice y3A y3l.length y3c,.slice y4A y4l.length y4c,.slice y5A y5l.length y5c] 60)
 have hs4:=((hr'.fld (i:=4) rfl).alloc (.cells #[.int .i64 x0,.int .i64 x1,.slice x2A x2l.length x2c,.slice x3A x3l.length x3c,.slice x4A x4l.length x4c,.slice x5A x5l.length x5c] 60)).alloc (.cells #[.int .i64 x0,.int .i64 x1,.slice y2A y2l.length y2c,.slice y3A y3l.length y3c,.slice y4A y4l.length y4c,.slice y5A y5l.length y5c] 60)
 have t4:(E.lst 5 148 x4A x4c x4l).Ty Tryz.prog 57:=E.Ty.mk_lst Tryz.underlying57 (by kernel_rfl) gx4.1 gx4.2
 have u4:(E.lst 5 148 y4A y4c y4l).Ty Tryz.prog 57:=E.Ty.mk_lst Tryz.underlying57 (by kernel_rfl) gy4.1 gy4.2
 have HC4:=Lib.hid (zf11 t4 u4 (by simp only [E.d,E.dL,E.agg.injEq,List.cons.injEq,E.int.injEq,E.str.injEq,E.bool.injEq,E.lst.injEq,true_and,and_true];exact hd4))
 clear t4 u4
 have hr5:=((hr.fld (i:=5) rfl).alloc (.cells #[.int .i64 x0,.int .i64 x1,.slice x2A x2l.length x2c,.slice x3A x3l.length x3c,.slice x4A x4l.length x4c,.slice x5A x5l.length x5c] 60)).alloc (.cells #[.int .i64 x0,.int .i64 x1,.slice y2A y2l.length y2c,.slice y3A y3l.length y3c,.slice y4A y4l.length y4c,.slice y5A y5l.length y5c] 60)
 have hs5:=((hr'.fld (i:=5) rfl).alloc (.cells #[.int .i64 x0,.int .i64 x1,.slice x2A x2l.length x2c,.slice x3A x3l.length x3c,.slice x4A x4l.length x4c,.slice x5A x5l.length x5c] 60)).alloc (.cells #[.int .i64 x0,.int .i64 x1,.slice y2A y2l.length y2c,.slice y3A y3l.length y3c,.slice y4A y4l.length y4c,.slice y5A y5l.length y5c] 60)
 have t5:(E.lst 2 105 x5A x5c x5l).Ty Tryz.prog 58:=E.Ty.mk_lst Tryz.underlying58 (by kernel_rfl) gx5.1 gx5.2
 have u5:(E.lst 2 105 y5A y5c y5l).Ty Tryz.prog 58:=E.Ty.mk_lst Tryz.underlying58 (by kernel_rfl) gy5.1 gy5.2
 have HC5:=Lib.hid (zv12 t5 u5 (by simp only [E.d,E.dL,E.agg.injEq,List.cons.injEq,E.int.injEq,E.str.injEq,E.bool.injEq,E.lst.injEq,true_and,and_true];exact hd5))
 clear t5 u5
 clear hd2 hd3 hd4 hd5
 change Calls _ _ #[.agg #[.int .i64 x0,.int .i64 x1,.slice x2A x2l.length x2c,.slice x3A x3l.length x3c,.slice x4A x4l.length x4c,.slice x5A x5l.length x5c],.agg #[.int .i64 x0,.int .i64 x1,.slice y2A y2l.length y2c,.slice y3A y3l.length y3c,.slice y4A y4l.length y4c,.slice y5A y5l.length y5c]] w _
 go_enter Tryz.func69,Tryz.ntmps69
 go_wp2_with fail
 go_at_call 31
 refine (HC2.out _ hr2 hs2).mono ?_;rintro e w1 ⟨rfl,hb1⟩
 have hz1:=hb1.size;(try simp only [World.size_alloc] at hz1)
 have c1_3:w1.cell? ⟨w.heap.size,3,none⟩=some (.slice x3A x3l.length x3c):=zb hb1 (ze (zi rfl) (by simp)) (by simp;omega)
 have d1_3:w1.cell? ⟨w.heap.size+1,3,none⟩=some (.slice y3A y3l.length y3c):=zb hb1 (cell_new' rfl (by simp)) (by simp)
 have c1_4:w1.cell? ⟨w.heap.size,4,none⟩=some (.slice x4A x4l.length x4c):=zb hb1 (ze (zi rfl) (by simp)) (by simp;omega)
 have d1_4:w1.cell? ⟨w.heap.size+1,4,none⟩=some (.slice y4A y4l.length y4c):=zb hb1 (cell_new' rfl (by simp)) (by simp)
 have c1_5:w1.cell? ⟨w.heap.size,5,none⟩=some (.slice x5A x5l.length x5c):=zb hb1 (ze (zi rfl) (by simp)) (by simp;omega)
 have d1_5:w1.cell? ⟨w.heap.size+1,5,none⟩=some (.slice y5A y5l.length y5c):=zb hb1 (cell_new' rfl (by simp)) (by simp)
 have hr3:=hr3.below hb1 by3
 have hs3:=hs3.below hb1 by3
 have hr4:=hr4.below hb1 by3
 have hs4:=hs4.below hb1 by3
 have hr5:=hr5.below hb1 by3
 have hs5:=hs5.below hb1 by3
 go_wp2_with fail
 go_at_call 97
 refine (HC3.out _ hr3 hs3).mono ?_;rintro e w2 ⟨rfl,hb2⟩
 have hz2:=hb2.size;(try simp only [World.size_alloc] at hz2)
 have c2_4:=zb hb2 c1_4 (by omega)
 have d2_4:=zb hb2 d1_4 (by omega)
 have c2_5:=zb hb2 c1_5 (by omega)
 have d2_5:=zb hb2 d1_5 (by omega)
 clear c1_3 d1_3 c1_4 d1_4 c1_5 d1_5
 have hr4:=hr4.below hb2 by3
 have hs4:=hs4.below hb2 by3
 have hr5:=hr5.below hb2 by3
 have hs5:=hs5.below hb2 by3
 go_wp2_with fail
 go_at_call 98
 refine (HC4.out _ hr4 hs4).mono ?_;rintro e w3 ⟨rfl,hb3⟩
 have hz3:=hb3.size;(try simp only [World.size_alloc] at hz3)
 have c3_5:=zb hb3 c2_5 (by omega)
 have d3_5:=zb hb3 d2_5 (by omega)
 clear c2_4 d2_4 c2_5 d2_5
 have hr5:=hr5.below hb3 by3
 have hs5:=hs5.below hb3 by3
 go_wp2_with fail
 go_at_call 99
 refine (HC5.out _ hr5 hs5).mono ?_;rintro e w4 ⟨rfl,hb4⟩
 have hz4:=hb4.size;(try simp only [World.size_alloc] at hz4)
 clear c3_5 d3_5
 go_wp2
 go_ret
 exact⟨rfl,by0⟩
set_option maxRecDepth 100000 in
set_option maxHeartbeats 1000000 in
theorem eqFrameS_all' (A B:Option Addr)(c c':Nat)(l m:List E)(h1:∀y∈l,y.Ty Tryz.prog 60)(h2:∀y∈m,y.Ty Tryz.prog 60):Eq 33 (.lst 6 60 A c l) (.lst 6 60 B c' m):=by
 intro hd w hr hr'
 rw [zk4] at hd
 have hs:=hr.sl
 have hs':=hr'.sl
 have hml:=zo7 hd
 have HD:=Lib.hid hd
 clear hd
 have hlen:=hs.len_le
 change Calls _ _ #[.slice A l.length c,.slice B m.length c'] w _
 obtain⟨N,HN⟩:∃N,Hid (m.length=N):=⟨_,rfl⟩
 have hN:N=l.length:=by have:=HN.out;omega
 subst hN
 rw [HN.out]
 clear hml
 go_enter Tryz.func33,Tryz.ntmps33
 go_wp2
 go_loopw [5] (fun i wr=>∃(k:Nat),k≤l.length∧i=.int .i64 k∧Below w.heap.size w wr) (fun i _=>l.length-(intOf i).toNat)
 case atStart=>exact⟨0,Nat.zero_le _,rfl,Below.refl _ _⟩
 case round =>
  obtain⟨k,hk,rfl,hb⟩:=hrel
  by_cases hlt:k<l.length
  ·have hltm:k<m.length:=by have:=HN.out;omega
   have hsb:=hs.below hb (Nat.le_refl _)
   have hsb':=hs'.below hb (Nat.le_refl _)
   have hdk:=d_at HD.out hlt hltm
   obtain⟨b,o,rfl,_,hc⟩:=hsb.at_ hlt
   obtain⟨b',o',rfl,_,hd⟩:=hsb'.at_ hltm
   have hin:=(hr.el (List.getElem_mem hlt)).below hb (Nat.le_refl _)
   have hin':=(hr'.el (List.getElem_mem hltm)).below hb (Nat.le_refl _)
   have H:=zy12 (h1 _ (List.getElem_mem hlt)) (h2 _ (List.getElem_mem hltm)) hdk
   obtain⟨x0,x1,x2A,x2c,x2l,x3A,x3c,x3l,x4A,x4c,x4l,x5A,x5c,x5l,ex,gx0,gx1,gx2,gx3,gx4,gx5,-⟩:=zd1 (h1 _ (List.getElem_mem hlt))
   obtain⟨y0,y1,y2A,y2c,y2l,y3A,y3c,y3l,y4A,y4c,y4l,y5A,y5c,y5l,ey,gy0,gy1,gy2,gy3,gy4,gy5,-⟩:=zd1 (h2 _ (List.getElem_mem hltm))
   rw [ex] at hc hin
   rw [ey] at hd hin'
   rw [ex,ey] at H
   clear ex ey hdk
   have c0:=hc 0 _ rfl;have c1:=hc 1 _ rfl;have c2:=hc 2 _ rfl;have c3:=hc 3 _ rfl;have c4:=hc 4 _ rfl;have c5:=hc 5 _ rfl
   have d0:=hd 0 _ rfl;have d1:=hd 1 _ rfl;have d2:=hd 2 _ rfl;have d3:=hd 3 _ rfl;have d4:=hd 4 _ rfl;have d5:=hd 5 _ rfl
   rw [Nat.add_zero] at c0 d0
   clear hc hd
   have hzb:=hb.size
   have HH:=Lib.hid H
   clear H
   go_wp2
   go_region_held3 (fun w'=>w'.cell? ⟨b,o+k*6,none⟩=some (.int .i64 x0)∧w'.cell? ⟨b,o+k*6+1,none⟩=some (.int .i64 x1)∧w'.cell? ⟨b,o+k*6+2,none⟩=some (.slice x2A x2l.length x2c)∧w'.cell? ⟨b,o+k*6+3,none⟩=some (.slice x3A x3l.length x3c)∧w'.cell? ⟨b,o+k*6+4,none⟩=some (.slice x4A x4l.length x4c)∧w'.cell? ⟨b,o+k*6+5,none⟩=some (.slice x5A x5l.length x5c)∧w'.cell? ⟨b',o'+k*6,none⟩=some (.int .i64 y0)∧w'.cell? ⟨b',o'+k*6+1,none⟩=some (.int .i64 y1)∧w'.cell? ⟨b',o'+k*6+2,none⟩=some (.slice y2A y2l.length y2c)∧w'.cell? ⟨b',o'+k*6+3,none⟩=some (.slice y3A y3l.length y3c)∧w'.cell? ⟨b',o'+k*6+4,none⟩=some (.slice y4A y4l.length y4c)∧w'.cell? ⟨b',o'+k*6+5,none⟩=some (.slice y5A y5l.length y5c))
    (first|exact⟨c0,c1,c2,c3,c4,c5,d0,d1,d2,d3,d4,d5⟩|skip)
    ((go_at_call 69;refine (HH.out _ by2 by2).mono ?_;rintro e w1 ⟨rfl,hb1⟩;have c0:=zb hb1 c0 by1;have c1:=zb hb1 c1 by1;have c2:=zb hb1 c2 by1;have c3:=zb hb1 c3 by1;have c4:=zb hb1 c4 by1;have c5:=zb hb1 c5 by1;have d0:=zb hb1 d0 by1;have d1:=zb hb1 d1 by1;have d2:=zb hb1 d2 by1;have d3:=zb hb1 d3 by1;have d4:=zb hb1 d4 by1;have d5:=zb hb1 d5 by1))
   go_wp2
   go_roundw
   case rel=>exact⟨k+1,by omega,by go_num,by exact by0⟩
   case measure=>simp [intOf];omega
  ·go_wp2
   go_ret
   exact⟨rfl,hb⟩
theorem zi11 {e e':E}(ht:e.Ty Tryz.prog 39)(ht':e'.Ty Tryz.prog 39):Eq 33 e e':=by
 obtain⟨A,c,l,rfl,h1,_⟩:=ht.lst_ Tryz.underlying39 (k:=6) (by kernel_rfl)
 obtain⟨B,c',m,rfl,h2,_⟩:=ht'.lst_ Tryz.underlying39 (k:=6) (by kernel_rfl)
 exact eqFrameS_all' A B c c' l m h1 h2
set_option maxRecDepth 100000 in
set_option maxHeartbeats 1000000 in
theorem markFrameS_all' (A:Option Addr)(c:Nat)(l:List E)(h1:∀y∈l,y.Ty Tryz.prog 60)(h2:∀y∈l,y.enc.length=6):Mar 39 (.lst 6 60 A c l):=by
 intro lo hi k0 w ho hnd hhi hk0 hk1
 have HCN:Hid ((E.lst 6 60 A c l).cnt=E.cntcL l):=rfl
 rw [HCN.out] at hk1
 have HND:=Lib.hid hnd
 clear hnd
 have hlen:=ho.re.sl.len_le
 have how0:=ho
 rw [←zv2 l k0] at how0
 clear ho
 change Calls _ _ #[.slice A l.length c,.int .i64 k0] w _
 rw [HCN.out]
 change Calls _ _ _ w fun r w'=>r=.returned (.int .i64 (k0+(E.cntcL l:Nat)))∧(E.lst 6 60 A c (E.mkcL l k0)).Ho w' lo hi∧Fr (E.lst 6 60 A c l).fp w w'
 go_enter Tryz.func39,Tryz.ntmps39
 go_wp2
 go_loopw [1,5] (fun v i wr=>∃(k:Nat) (q:Int),k≤l.length∧i=.int .i64 k∧v=.int .i64 q∧Hid (q=k0+(E.cntcL (l.take k):Nat))∧Fr (E.lst 6 60 A c l).fp w wr∧Hid ((E.lst 6 60 A c (mixM l k0 k)).Ho wr lo hi)) (fun _ i _=>l.length-(intOf i).toNat)
 case atStart=>exact⟨0,k0,Nat.zero_le _,rfl,rfl,(by show _=_;simp [E.cntcL]),Fr.refl _ _,how0⟩
 case round =>
  obtain⟨k,q,hk,rfl,rfl,HQ,hF0,HOW⟩:=hrel
  have hzk:=hF0.size
  by_cases hlt:k<l.length
  ·have HT:=Lib.hid (E.cntcL_take l k hlt)
   have hq0:0≤q:=by have:=HQ.out;omega
   have hml:k<(mixM l k0 k).length:=by rw [zg3];exact hlt
   have how:=HOW.out
   obtain⟨g,rfl,hg1,hg2,hg3⟩:=how.head (by omega)
   obtain⟨y0,y1,y2A,y2c,y2l,y3A,y3c,y3l,y4A,y4c,y4l,y5A,y5c,y5l,ex,gy0,gy1,gy2,gy3,gy4,gy5,-⟩:=zd1 (h1 _ (List.getElem_mem hlt))
   have HC2:=Lib.hid (zy4 (show (E.lst 1 3 y2A y2c y2l).Ty Tryz.prog 25 from E.Ty.mk_lst Tryz.underlying25 (by kernel_rfl) gy2.1 gy2.2))
   have HC3:=Lib.hid (zr9 (show (E.lst 2 102 y3A y3c y3l).Ty Tryz.prog 56 from E.Ty.mk_lst Tryz.underlying56 (by kernel_rfl) gy3.1 gy3.2))
   have HC4:=Lib.hid (zw7 (show (E.lst 5 148 y4A y4c y4l).Ty Tryz.prog 57 from E.Ty.mk_lst Tryz.underlying57 (by kernel_rfl) gy4.1 gy4.2))
   have HC5:=Lib.hid (zt9 (show (E.lst 2 105 y5A y5c y5l).Ty Tryz.prog 58 from E.Ty.mk_lst Tryz.underlying58 (by kernel_rfl) gy5.1 gy5.2))
   have HCX:Hid ((E.agg [.int .i64 y0,.int .i64 y1,.lst 1 3 y2A y2c y2l,.lst 2 102 y3A y3c y3l,.lst 5 148 y4A y4c y4l,.lst 2 105 y5A y5c y5l]).cntc=(1+(1+((E.lst 1 3 y2A y2c y2l).cnt+((E.lst 2 102 y3A y3c y3l).cnt+((E.lst 5 148 y4A y4c y4l).cnt+((E.lst 2 105 y5A y5c y5l).cnt+0))))))):=rfl
   have hq1:q+(((1+(1+((E.lst 1 3 y2A y2c y2l).cnt+((E.lst 2 102 y3A y3c y3l).cnt+((E.lst 5 148 y4A y4c y4l).cnt+((E.lst 2 105 y5A y5c y5l).cnt+0)))))):Nat):Int)≤1152921504606846976:=by have e1:=HQ.out;have e2:=HT.out;have e3:=E.cntcL_le l (k+1);rw [ex,HCX.out] at e2;omega
   have e0:mixM l k0 k=(mixM l k0 k).set k (E.agg [.int .i64 y0,.int .i64 y1,.lst 1 3 y2A y2c y2l,.lst 2 102 y3A y3c y3l,.lst 5 148 y4A y4c y4l,.lst 2 105 y5A y5c y5l]):=by rw [←ex,←zl2 l k0 k hlt];exact (List.set_getElem_self _).symm
   have HN2:=Lib.hid (fun (z:E) (hz:z.fp=(E.agg [.int .i64 y0,.int .i64 y1,.lst 1 3 y2A y2c y2l,.lst 2 102 y3A y3c y3l,.lst 5 148 y4A y4c y4l,.lst 2 105 y5A y5c y5l]).fp)=>(show (E.lst 6 60 (some ⟨g,0,none⟩) c ((mixM l k0 k).set k z)).fp.Nodup by have hh:=HND.out;have h3:E.fpL ((mixM l k0 k).set k z)=E.fpL l:=(E.fpL_set hml (by rw [hz,←ex,zl2 l k0 k hlt])).trans (zg4 l k0 k);simp only [E.fp] at hh ⊢;rw [h3];exact hh))
   have HSB:=Lib.hid (fun (b:Nat) (hb:b∈(E.agg [.int .i64 y0,.int .i64 y1,.lst 1 3 y2A y2c y2l,.lst 2 102 y3A y3c y3l,.lst 5 148 y4A y4c y4l,.lst 2 105 y5A y5c y5l]).fp)=>(show b∈(E.lst 6 60 (some ⟨g,0,none⟩) c l).fp by simp only [E.fp];exact List.mem_append_right _ (E.mem_fpL.2 ⟨l[k],List.getElem_mem hlt,by rw [ex];exact hb⟩)))
   have hgm:g∈(E.lst 6 60 (some ⟨g,0,none⟩) c l).fp:=by simp [E.fp]
   have HGM:=Lib.hid hgm
   clear hgm
   rw [e0] at how
   clear e0
   obtain⟨ms,HMS⟩:∃ms,Hid (mixM l k0 k=ms):=⟨_,rfl⟩
   rw [HMS.out] at how hml HN2
   have HEX:=Lib.hid ex
   clear ex
   have HML:=Lib.hid hml
   clear hml
   have H0:=Lib.hid how
   clear how
   have c0_0:wr.cell? ⟨g,k*6,none⟩=some (.int .i64 y0):=H0.out.cellx (j:=0) (u:=.int .i64 y0) (by simpa using HML.out) (zg1 HML.out _) rfl
   have c0_1:wr.cell? ⟨g,k*6+1,none⟩=some (.int .i64 y1):=H0.out.cellx (j:=1) (u:=.int .i64 y1) (by simpa using HML.out) (zg1 HML.out _) rfl
   have c0_2:wr.cell? ⟨g,k*6+2,none⟩=some (.slice y2A y2l.length y2c):=H0.out.cellx (j:=2) (u:=.slice y2A y2l.length y2c) (by simpa using HML.out) (zg1 HML.out _) rfl
   have c0_3:wr.cell? ⟨g,k*6+3,none⟩=some (.slice y3A y3l.length y3c):=H0.out.cellx (j:=3) (u:=.slice y3A y3l.length y3c) (by simpa using HML.out) (zg1 HML.out _) rfl
   have c0_4:wr.cell? ⟨g,k*6+4,none⟩=some (.slice y4A y4l.length y4c):=H0.out.cellx (j:=4) (u:=.slice y4A y4l.length y4c) (by simpa using HML.out) (zg1 HML.out _) rfl
   have c0_5:wr.cell? ⟨g,k*6+5,none⟩=some (.slice y5A y5l.length y5c):=H0.out.cellx (j:=5) (u:=.slice y5A y5l.length y5c) (by simpa using HML.out) (zg1 HML.out _) rfl
   have fz0:=H0.out.frzx
   go_wp2_with fail
   have H1:Hid ((E.lst 6 60 (some ⟨g,0,none⟩) c (ms.set k (E.agg [(E.int .i64 (q)),(E.int .i64 y1),(E.lst 1 3 y2A y2c y2l),(E.lst 2 102 y3A y3c y3l),(E.lst 5 148 y4A y4c y4l),(E.lst 2 105 y5A y5c y5l)]))).Ho (wr.setCell ⟨g,k*6,none⟩ (.int .i64 (q))) lo hi):=H0.out.store (HN2.out _ (by first|rfl|(simp only [E.fp,E.fpL,E.mkcL_fp,E.mk0L_fp,E.mk0_fp,E.mkc_fp];done)|fail)) HML.out (E.agg [(E.int .i64 (q)),(E.int .i64 y1),(E.lst 1 3 y2A y2c y2l),(E.lst 2 102 y3A y3c y3l),(E.lst 5 148 y4A y4c y4l),(E.lst 2 105 y5A y5c y5l)]) 0 (.int .i64 (q)) (by omega) rfl (fun _ h=>h)
   clear H0
   have H2:Hid ((E.lst 6 60 (some ⟨g,0,none⟩) c (ms.set k (E.agg [(E.int .i64 (q)),(E.int .i64 (q+1)),(E.lst 1 3 y2A y2c y2l),(E.lst 2 102 y3A y3c y3l),(E.lst 5 148 y4A y4c y4l),(E.lst 2 105 y5A y5c y5l)]))).Ho ((wr.setCell ⟨g,k*6,none⟩ (.int .i64 (q))).setCell ⟨g,k*6+1,none⟩ (.int .i64 (q+1))) lo hi):=H1.out.store (HN2.out _ (by first|rfl|(simp only [E.fp,E.fpL,E.mkcL_fp,E.mk0L_fp,E.mk0_fp,E.mkc_fp];done)|fail)) HML.out (E.agg [(E.int .i64 (q)),(E.int .i64 (q+1)),(E.lst 1 3 y2A y2c y2l),(E.lst 2 102 y3A y3c y3l),(E.lst 5 148 y4A y4c y4l),(E.lst 2 105 y5A y5c y5l)]) 1 (.int .i64 (q+1)) (by omega) rfl (fun _ h=>h)
   clear H1
   clear c0_0 c0_1 c0_2 c0_3 c0_4 c0_5 fz0
   have ho1:(E.lst 1 3 y2A y2c y2l).Ho ((wr.setCell ⟨g,k*6,none⟩ (.int .i64 (q))).setCell ⟨g,k*6+1,none⟩ (.int .i64 (q+1))) lo hi:=(E.Ho.fld (i:=2) (H2.out.el (zd2 HML.out _)) rfl)
   have HNn1:Hid ((E.lst 1 3 y2A y2c y2l).fp.Nodup):=(zi1 (show (E.fpL [(E.int .i64 (q)),(E.int .i64 (q+1)),(E.lst 1 3 y2A y2c y2l),(E.lst 2 102 y3A y3c y3l),(E.lst 5 148 y4A y4c y4l),(E.lst 2 105 y5A y5c y5l)]).Nodup from (zi1 (show (E.fpL (ms.set k (E.agg [(E.int .i64 (q)),(E.int .i64 (q+1)),(E.lst 1 3 y2A y2c y2l),(E.lst 2 102 y3A y3c y3l),(E.lst 5 148 y4A y4c y4l),(E.lst 2 105 y5A y5c y5l)]))).Nodup from (List.nodup_append.1 (show List.Nodup (_++_) from HN2.out (E.agg [(E.int .i64 (q)),(E.int .i64 (q+1)),(E.lst 1 3 y2A y2c y2l),(E.lst 2 102 y3A y3c y3l),(E.lst 5 148 y4A y4c y4l),(E.lst 2 105 y5A y5c y5l)]) (by first|rfl|(simp only [E.fp,E.fpL,E.mkcL_fp,E.mk0L_fp,E.mk0_fp,E.mkc_fp];done)|fail))).2.1) (zd2 HML.out _))) (show (E.lst 1 3 y2A y2c y2l)∈[(E.int .i64 (q)),(E.int .i64 (q+1)),(E.lst 1 3 y2A y2c y2l),(E.lst 2 102 y3A y3c y3l),(E.lst 5 148 y4A y4c y4l),(E.lst 2 105 y5A y5c y5l)] by simp))
   go_at_call 37
   refine (HC2.out lo hi _ _ ho1 HNn1.out (by first|omega|(simp;omega)) (by omega) (by omega)).mono ?_;rintro e w1 ⟨rfl,hm1,hf1⟩
   have hz1:=hf1.size;(try simp only [World.size_setCell] at hz1)
   have hin1:(E.agg [(E.int .i64 (q)),(E.int .i64 (q+1)),(E.lst 1 3 y2A y2c (E.mkcL y2l (q+1+1))),(E.lst 2 102 y3A y3c y3l),(E.lst 5 148 y4A y4c y4l),(E.lst 2 105 y5A y5c y5l)]).Ho w1 lo hi:=(Ho_repl (i:=2) (H2.out.el (zd2 HML.out _)) (zi1 (show (E.fpL (ms.set k (E.agg [(E.int .i64 (q)),(E.int .i64 (q+1)),(E.lst 1 3 y2A y2c y2l),(E.lst 2 102 y3A y3c y3l),(E.lst 5 148 y4A y4c y4l),(E.lst 2 105 y5A y5c y5l)]))).Nodup from (List.nodup_append.1 (show List.Nodup (_++_) from HN2.out (E.agg [(E.int .i64 (q)),(E.int .i64 (q+1)),(E.lst 1 3 y2A y2c y2l),(E.lst 2 102 y3A y3c y3l),(E.lst 5 148 y4A y4c y4l),(E.lst 2 105 y5A y5c y5l)]) (by first|rfl|(simp only [E.fp,E.fpL,E.mkcL_fp,E.mk0L_fp,E.mk0_fp,E.mkc_fp];done)|fail))).2.1) (zd2 HML.out _)) (by simp) (show Fr (E.lst 1 3 y2A y2c y2l).fp _ _ from hf1) hm1)
   have H3:=Lib.hid (H2.out.inside (HN2.out _ (by first|rfl|(simp only [E.fp,E.fpL,E.mkcL_fp,E.mk0L_fp,E.mk0_fp,E.mkc_fp];done)|fail)) HML.out (E.agg [(E.int .i64 (q)),(E.int .i64 (q+1)),(E.lst 1 3 y2A y2c (E.mkcL y2l (q+1+1))),(E.lst 2 102 y3A y3c y3l),(E.lst 5 148 y4A y4c y4l),(E.lst 2 105 y5A y5c y5l)]) hf1 (fun b hb=>by simp only [E.fp,E.fpL,List.mem_append,List.nil_append,List.append_nil] at hb ⊢;simp [hb]) (by simp only [E.enc,E.encL,E.mkcL_len]) hin1)
   clear H2 hin1 ho1 hm1
   have hF1:Fr (E.lst 6 60 (some ⟨g,0,none⟩) c l).fp w w1:=((hF0.set HGM.out (.int .i64 (q))).set HGM.out (.int .i64 (q+1))).trans (hf1.sub (fun b hb=>HSB.out b (by simp only [E.fp,E.fpL,List.mem_append,List.nil_append,List.append_nil] at hb ⊢;simp [hb])))
   have c1_0:w1.cell? ⟨g,k*6,none⟩=some (.int .i64 (q)):=H3.out.cellx (j:=0) (u:=.int .i64 (q)) (by simpa using HML.out) (zg1 HML.out _) rfl
   have c1_1:w1.cell? ⟨g,k*6+1,none⟩=some (.int .i64 (q+1)):=H3.out.cellx (j:=1) (u:=.int .i64 (q+1)) (by simpa using HML.out) (zg1 HML.out _) rfl
   have c1_2:w1.cell? ⟨g,k*6+2,none⟩=some (.slice y2A (E.mkcL y2l (q+1+1)).length y2c):=H3.out.cellx (j:=2) (u:=.slice y2A (E.mkcL y2l (q+1+1)).length y2c) (by simpa using HML.out) (zg1 HML.out _) rfl
   have c1_3:w1.cell? ⟨g,k*6+3,none⟩=some (.slice y3A y3l.length y3c):=H3.out.cellx (j:=3) (u:=.slice y3A y3l.length y3c) (by simpa using HML.out) (zg1 HML.out _) rfl
   have c1_4:w1.cell? ⟨g,k*6+4,none⟩=some (.slice y4A y4l.length y4c):=H3.out.cellx (j:=4) (u:=.slice y4A y4l.length y4c) (by simpa using HML.out) (zg1 HML.out _) rfl
   have c1_5:w1.cell? ⟨g,k*6+5,none⟩=some (.slice y5A y5l.length y5c):=H3.out.cellx (j:=5) (u:=.slice y5A y5l.length y5c) (by simpa using HML.out) (zg1 HML.out _) rfl
   have fz1:=H3.out.frzx
   go_wp2_with fail
   clear c1_0 c1_1 c1_2 c1_3 c1_4 c1_5 fz1
   have ho2:(E.lst 2 102 y3A y3c y3l).Ho w1 lo hi:=(E.Ho.fld (i:=3) (H3.out.el (zd2 HML.out _)) rfl)
   have HNn2:Hid ((E.lst 2 102 y3A y3c y3l).fp.Nodup):=(zi1 (show (E.fpL [(E.int .i64 (q)),(E.int .i64 (q+1)),(E.lst 1 3 y2A y2c (E.mkcL y2l (q+1+1))),(E.lst 2 102 y3A y3c y3l),(E.lst 5 148 y4A y4c y4l),(E.lst 2 105 y5A y5c y5l)]).Nodup from (zi1 (show (E.fpL (ms.set k (E.agg [(E.int .i64 (q)),(E.int .i64 (q+1)),(E.lst 1 3 y2A y2c (E.mkcL y2l (q+1+1))),(E.lst 2 102 y3A y3c y3l),(E.lst 5 148 y4A y4c y4l),(E.lst 2 105 y5A y5c y5l)]))).Nodup from (List.nodup_append.1 (show List.Nodup (_++_) from HN2.out (E.agg [(E.int .i64 (q)),(E.int .i64 (q+1)),(E.lst 1 3 y2A y2c (E.mkcL y2l (q+1+1))),(E.lst 2 102 y3A y3c y3l),(E.lst 5 148 y4A y4c y4l),(E.lst 2 105 y5A y5c y5l)]) (by first|rfl|(simp only [E.fp,E.fpL,E.mkcL_fp,E.mk0L_fp,E.mk0_fp,E.mkc_fp];done)|fail))).2.1) (zd2 HML.out _))) (show (E.lst 2 102 y3A y3c y3l)∈[(E.int .i64 (q)),(E.int .i64 (q+1)),(E.lst 1 3 y2A y2c (E.mkcL y2l (q+1+1))),(E.lst 2 102 y3A y3c y3l),(E.lst 5 148 y4A y4c y4l),(E.lst 2 105 y5A y5c y5l)] by simp))
   go_at_call 73
   refine (HC3.out lo hi _ _ ho2 HNn2.out (by first|omega|(simp;omega)) (by omega) (by omega)).mono ?_;rintro e w2 ⟨rfl,hm2,hf2⟩
   have hz2:=hf2.size;(try simp only [World.size_setCell] at hz2)
   have hin2:(E.agg [(E.int .i64 (q)),(E.int .i64 (q+1)),(E.lst 1 3 y2A y2c (E.mkcL y2l (q+1+1))),(E.lst 2 102 y3A y3c (E.mkcL y3l (q+1+1+((E.lst 1 3 y2A y2c y2l).cnt:Int)))),(E.lst 5 148 y4A y4c y4l),(E.lst 2 105 y5A y5c y5l)]).Ho w2 lo hi:=(Ho_repl (i:=3) (H3.out.el (zd2 HML.out _)) (zi1 (show (E.fpL (ms.set k (E.agg [(E.int .i64 (q)),(E.int .i64 (q+1)),(E.lst 1 3 y2A y2c (E.mkcL y2l (q+1+1))),(E.lst 2 102 y3A y3c y3l),(E.lst 5 148 y4A y4c y4l),(E.lst 2 105 y5A y5c y5l)]))).Nodup from (List.nodup_append.1 (show List.Nodup (_++_) from HN2.out (E.agg [(E.int .i64 (q)),(E.int .i64 (q+1)),(E.lst 1 3 y2A y2c (E.mkcL y2l (q+1+1))),(E.lst 2 102 y3A y3c y3l),(E.lst 5 148 y4A y4c y4l),(E.lst 2 105 y5A y5c y5l)]) (by first|rfl|(simp only [E.fp,E.fpL,E.mkcL_fp,E.mk0L_fp,E.mk0_fp,E.mkc_fp];done)|fail))).2.1) (zd2 HML.out _)) (by simp) (show Fr (E.lst 2 102 y3A y3c y3l).fp _ _ from hf2) hm2)
   have H4:=Lib.hid (H3.out.inside (HN2.out _ (by first|rfl|(simp only [E.fp,E.fpL,E.mkcL_fp,E.mk0L_fp,E.mk0_fp,E.mkc_fp];done)|fail)) HML.out (E.agg [(E.int .i64 (q)),(E.int .i64 (q+1)),(E.lst 1 3 y2A y2c (E.mkcL y2l (q+1+1))),(E.lst 2 102 y3A y3c (E.mkcL y3l (q+1+1+((E.lst 1 3 y2A y2c y2l).cnt:Int)))),(E.lst 5 148 y4A y4c y4l),(E.lst 2 105 y5A y5c y5l)]) hf2 (fun b hb=>by simp only [E.fp,E.fpL,List.mem_append,List.nil_append,List.append_nil] at hb ⊢;simp [hb]) (by simp only [E.enc,E.encL,E.mkcL_len]) hin2)
   clear H3 hin2 ho2 hm2
   have hF2:Fr (E.lst 6 60 (some ⟨g,0,none⟩) c l).fp w w2:=hF1.trans (hf2.sub (fun b hb=>HSB.out b (by simp only [E.fp,E.fpL,List.mem_append,List.nil_append,List.append_nil] at hb ⊢;simp [hb])))
   have c2_0:w2.cell? ⟨g,k*6,none⟩=some (.int .i64 (q)):=H4.out.cellx (j:=0) (u:=.int .i64 (q)) (by simpa using HML.out) (zg1 HML.out _) rfl
   have c2_1:w2.cell? ⟨g,k*6+1,none⟩=some (.int .i64 (q+1)):=H4.out.cellx (j:=1) (u:=.int .i64 (q+1)) (by simpa using HML.out) (zg1 HML.out _) rfl
   have c2_2:w2.cell? ⟨g,k*6+2,none⟩=some (.slice y2A (E.mkcL y2l (q+1+1)).length y2c):=H4.out.cellx (j:=2) (u:=.slice y2A (E.mkcL y2l (q+1+1)).length y2c) (by simpa using HML.out) (zg1 HML.out _) rfl
   have c2_3:w2.cell? ⟨g,k*6+3,none⟩=some (.slice y3A (E.mkcL y3l (q+1+1+((E.lst 1 3 y2A y2c y2l).cnt:Int))).length y3c):=H4.out.cellx (j:=3) (u:=.slice y3A (E.mkcL y3l (q+1+1+((E.lst 1 3 y2A y2c y2l).cnt:Int))).length y3c) (by simpa using HML.out) (zg1 HML.out _) rfl
   have c2_4:w2.cell? ⟨g,k*6+4,none⟩=some (.slice y4A y4l.length y4c):=H4.out.cellx (j:=4) (u:=.slice y4A y4l.length y4c) (by simpa using HML.out) (zg1 HML.out _) rfl
   have c2_5:w2.cell? ⟨g,k*6+5,none⟩=some (.slice y5A y5l.length y5c):=H4.out.cellx (j:=5) (u:=.slice y5A y5l.length y5c) (by simpa using HML.out) (zg1 HML.out _) rfl
   have fz2:=H4.out.frzx
   go_wp2_with fail
   clear c2_0 c2_1 c2_2 c2_3 c2_4 c2_5 fz2
   have ho3:(E.lst 5 148 y4A y4c y4l).Ho w2 lo hi:=(E.Ho.fld (i:=4) (H4.out.el (zd2 HML.out _)) rfl)
   have HNn3:Hid ((E.lst 5 148 y4A y4c y4l).fp.Nodup):=(zi1 (show (E.fpL [(E.int .i64 (q)),(E.int .i64 (q+1)),(E.lst 1 3 y2A y2c (E.mkcL y2l (q+1+1))),(E.lst 2 102 y3A y3c (E.mkcL y3l (q+1+1+((E.lst 1 3 y2A y2c y2l).cnt:Int)))),(E.lst 5 148 y4A y4c y4l),(E.lst 2 105 y5A y5c y5l)]).Nodup from (zi1 (show (E.fpL (ms.set k (E.agg [(E.int .i64 (q)),(E.int .i64 (q+1)),(E.lst 1 3 y2A y2c (E.mkcL y2l (q+1+1))),(E.lst 2 102 y3A y3c (E.mkcL y3l (q+1+1+((E.lst 1 3 y2A y2c y2l).cnt:Int)))),(E.lst 5 148 y4A y4c y4l),(E.lst 2 105 y5A y5c y5l)]))).Nodup from (List.nodup_append.1 (show List.Nodup (_++_) from HN2.out (E.agg [(E.int .i64 (q)),(E.int .i64 (q+1)),(E.lst 1 3 y2A y2c (E.mkcL y2l (q+1+1))),(E.lst 2 102 y3A y3c (E.mkcL y3l (q+1+1+((E.lst 1 3 y2A y2c y2l).cnt:Int)))),(E.lst 5 148 y4A y4c y4l),(E.lst 2 105 y5A y5c y5l)]) (by first|rfl|(simp only [E.fp,E.fpL,E.mkcL_fp,E.mk0L_fp,E.mk0_fp,E.mkc_fp];done)|fail))).2.1) (zd2 HML.out _))) (show (E.lst 5 148 y4A y4c y4l)∈[(E.int .i64 (q)),(E.int .i64 (q+1)),(E.lst 1 3 y2A y2c (E.mkcL y2l (q+1+1))),(E.lst 2 102 y3A y3c (E.mkcL y3l (q+1+1+((E.lst 1 3 y2A y2c y2l).cnt:Int)))),(E.lst 5 148 y4A y4c y4l),(E.lst 2 105 y5A y5c y5l)] by simp))
   go_at_call 74
   refine (HC4.out lo hi _ _ ho3 HNn3.out (by first|omega|(simp;omega)) (by omega) (by omega)).mono ?_;rintro e w3 ⟨rfl,hm3,hf3⟩
   have hz3:=hf3.size;(try simp only [World.size_setCell] at hz3)
   have hin3:(E.agg [(E.int .i64 (q)),(E.int .i64 (q+1)),(E.lst 1 3 y2A y2c (E.mkcL y2l (q+1+1))),(E.lst 2 102 y3A y3c (E.mkcL y3l (q+1+1+((E.lst 1 3 y2A y2c y2l).cnt:Int)))),(E.lst 5 148 y4A y4c (E.mkcL y4l (q+1+1+((E.lst 1 3 y2A y2c y2l).cnt:Int)+((E.lst 2 102 y3A y3c y3l).cnt:Int)))),(E.lst 2 105 y5A y5c y5l)]).Ho w3 lo hi:=(Ho_repl (i:=4) (H4.out.el (zd2 HML.out _)) (zi1 (show (E.fpL (ms.set k (E.agg [(E.int .i64 (q)),(E.int .i64 (q+1)),(E.lst 1 3 y2A y2c (E.mkcL y2l (q+1+1))),(E.lst 2 102 y3A y3c (E.mkcL y3l (q+1+1+((E.lst 1 3 y2A y2c y2l).cnt:Int)))),(E.lst 5 148 y4A y4c y4l),(E.lst 2 105 y5A y5c y5l)]))).Nodup from (List.nodup_append.1 (show List.Nodup (_++_) from HN2.out (E.agg [(E.int .i64 (q)),(E.int .i64 (q+1)),(E.lst 1 3 y2A y2c (E.mkcL y2l (q+1+1))),(E.lst 2 102 y3A y3c (E.mkcL y3l (q+1+1+((E.lst 1 3 y2A y2c y2l).cnt:Int)))),(E.lst 5 148 y4A y4c y4l),(E.lst 2 105 y5A y5c y5l)]) (by first|rfl|(simp only [E.fp,E.fpL,E.mkcL_fp,E.mk0L_fp,E.mk0_fp,E.mkc_fp];done)|fail))).2.1) (zd2 HML.out _)) (by simp) (show Fr (E.lst 5 148 y4A y4c y4l).fp _ _ from hf3) hm3)
   have H5:=Lib.hid (H4.out.inside (HN2.out _ (by first|rfl|(simp only [E.fp,E.fpL,E.mkcL_fp,E.mk0L_fp,E.mk0_fp,E.mkc_fp];done)|fail)) HML.out (E.agg [(E.int .i64 (q)),(E.int .i64 (q+1)),(E.lst 1 3 y2A y2c (E.mkcL y2l (q+1+1))),(E.lst 2 102 y3A y3c (E.mkcL y3l (q+1+1+((E.lst 1 3 y2A y2c y2l).cnt:Int)))),(E.lst 5 148 y4A y4c (E.mkcL y4l (q+1+1+((E.lst 1 3 y2A y2c y2l).cnt:Int)+((E.lst 2 102 y3A y3c y3l).cnt:Int)))),(E.lst 2 105 y5A y5c y5l)]) hf3 (fun b hb=>by simp only [E.fp,E.fpL,List.mem_append,List.nil_append,List.append_nil] at hb ⊢;simp [hb]) (by simp only [E.enc,E.encL,E.mkcL_len]) hin3)
   clear H4 hin3 ho3 hm3
   have hF3:Fr (E.lst 6 60 (some ⟨g,0,none⟩) c l).fp w w3:=hF2.trans (hf3.sub (fun b hb=>HSB.out b (by simp only [E.fp,E.fpL,List.mem_append,List.nil_append,List.append_nil] at hb ⊢;simp [hb])))
   have c3_0:w3.cell? ⟨g,k*6,none⟩=some (.int .i64 (q)):=H5.out.cellx (j:=0) (u:=.int .i64 (q)) (by simpa using HML.out) (zg1 HML.out _) rfl
   have c3_1:w3.cell? ⟨g,k*6+1,none⟩=some (.int .i64 (q+1)):=H5.out.cellx (j:=1) (u:=.int .i64 (q+1)) (by simpa using HML.out) (zg1 HML.out _) rfl
   have c3_2:w3.cell? ⟨g,k*6+2,none⟩=some (.slice y2A (E.mkcL y2l (q+1+1)).length y2c):=H5.out.cellx (j:=2) (u:=.slice y2A (E.mkcL y2l (q+1+1)).length y2c) (by simpa using HML.out) (zg1 HML.out _) rfl
   have c3_3:w3.cell? ⟨g,k*6+3,none⟩=some (.slice y3A (E.mkcL y3l (q+1+1+((E.lst 1 3 y2A y2c y2l).cnt:Int))).length y3c):=H5.out.cellx (j:=3) (u:=.slice y3A (E.mkcL y3l (q+1+1+((E.lst 1 3 y2A y2c y2l).cnt:Int))).length y3c) (by simpa using HML.out) (zg1 HML.out _) rfl
   have c3_4:w3.cell? ⟨g,k*6+4,none⟩=some (.slice y4A (E.mkcL y4l (q+1+1+((E.lst 1 3 y2A y2c y2l).cnt:Int)+((E.lst 2 102 y3A y3c y3l).cnt:Int))).length y4c):=H5.out.cellx (j:=4) (u:=.slice y4A (E.mkcL y4l (q+1+1+((E.lst 1 3 y2A y2c y2l).cnt:Int)+((E.lst 2 102 y3A y3c y3l).cnt:Int))).length y4c) (by simpa using HML.out) (zg1 HML.out _) rfl
   have c3_5:w3.cell? ⟨g,k*6+5,none⟩=some (.slice y5A y5l.length y5c):=H5.out.cellx (j:=5) (u:=.slice y5A y5l.length y5c) (by simpa using HML.out) (zg1 HML.out _) rfl
   have fz3:=H5.out.frzx
   go_wp2_with fail
   clear c3_0 c3_1 c3_2 c3_3 c3_4 c3_5 fz3
   have ho4:(E.lst 2 105 y5A y5c y5l).Ho w3 lo hi:=(E.Ho.fld (i:=5) (H5.out.el (zd2 HML.out _)) rfl)
   have HNn4:Hid ((E.lst 2 105 y5A y5c y5l).fp.Nodup):=(zi1 (show (E.fpL [(E.int .i64 (q)),(E.int .i64 (q+1)),(E.lst 1 3 y2A y2c (E.mkcL y2l (q+1+1))),(E.lst 2 102 y3A y3c (E.mkcL y3l (q+1+1+((E.lst 1 3 y2A y2c y2l).cnt:Int)))),(E.lst 5 148 y4A y4c (E.mkcL y4l (q+1+1+((E.lst 1 3 y2A y2c y2l).cnt:Int)+((E.lst 2 102 y3A y3c y3l).cnt:Int)))),(E.lst 2 105 y5A y5c y5l)]).Nodup from (zi1 (show (E.fpL (ms.set k (E.agg [(E.int .i64 (q)),(E.int .i64 (q+1)),(E.lst 1 3 y2A y2c (E.mkcL y2l (q+1+1))),(E.lst 2 102 y3A y3c (E.mkcL y3l (q+1+1+((E.lst 1 3 y2A y2c y2l).cnt:Int)))),(E.lst 5 148 y4A y4c (E.mkcL y4l (q+1+1+((E.lst 1 3 y2A y2c y2l).cnt:Int)+((E.lst 2 102 y3A y3c y3l).cnt:Int)))),(E.lst 2 105 y5A y5c y5l)]))).Nodup from (List.nodup_append.1 (show List.Nodup (_++_) from HN2.out (E.agg [(E.int .i64 (q)),(E.int .i64 (q+1)),(E.lst 1 3 y2A y2c (E.mkcL y2l (q+1+1))),(E.lst 2 102 y3A y3c (E.mkcL y3l (q+1+1+((E.lst 1 3 y2A y2c y2l).cnt:Int)))),(E.lst 5 148 y4A y4c (E.mkcL y4l (q+1+1+((E.lst 1 3 y2A y2c y2l).cnt:Int)+((E.lst 2 102 y3A y3c y3l).cnt:Int)))),(E.lst 2 105 y5A y5c y5l)]) (by first|rfl|(simp only [E.fp,E.fpL,E.mkcL_fp,E.mk0L_fp,E.mk0_fp,E.mkc_fp];done)|fail))).2.1) (zd2 HML.out _))) (show (E.lst 2 105 y5A y5c y5l)∈[(E.int .i64 (q)),(E.int .i64 (q+1)),(E.lst 1 3 y2A y2c (E.mkcL y2l (q+1+1))),(E.lst 2 102 y3A y3c (E.mkcL y3l (q+1+1+((E.lst 1 3 y2A y2c y2l).cnt:Int)))),(E.lst 5 148 y4A y4c (E.mkcL y4l (q+1+1+((E.lst 1 3 y2A y2c y2l).cnt:Int)+((E.lst 2 102 y3A y3c y3l).cnt:Int)))),(E.lst 2 105 y5A y5c y5l)] by simp))
   go_at_call 75
   refine (HC5.out lo hi _ _ ho4 HNn4.out (by first|omega|(simp;omega)) (by omega) (by omega)).mono ?_;rintro e w4 ⟨rfl,hm4,hf4⟩
   have hz4:=hf4.size;(try simp only [World.size_setCell] at hz4)
   have hin4:(E.agg [(E.int .i64 (q)),(E.int .i64 (q+1)),(E.lst 1 3 y2A y2c (E.mkcL y2l (q+1+1))),(E.lst 2 102 y3A y3c (E.mkcL y3l (q+1+1+((E.lst 1 3 y2A y2c y2l).cnt:Int)))),(E.lst 5 148 y4A y4c (E.mkcL y4l (q+1+1+((E.lst 1 3 y2A y2c y2l).cnt:Int)+((E.lst 2 102 y3A y3c y3l).cnt:Int)))),(E.lst 2 105 y5A y5c (E.mkcL y5l (q+1+1+((E.lst 1 3 y2A y2c y2l).cnt:Int)+((E.lst 2 102 y3A y3c y3l).cnt:Int)+((E.lst 5 148 y4A y4c y4l).cnt:Int))))]).Ho w4 lo hi:=(Ho_repl (i:=5) (H5.out.el (zd2 HML.out _)) (zi1 (show (E.fpL (ms.set k (E.agg [(E.int .i64 (q)),(E.int .i64 (q+1)),(E.lst 1 3 y2A y2c (E.mkcL y2l (q+1+1))),(E.lst 2 102 y3A y3c (E.mkcL y3l (q+1+1+((E.lst 1 3 y2A y2c y2l).cnt:Int)))),(E.lst 5 148 y4A y4c (E.mkcL y4l (q+1+1+((E.lst 1 3 y2A y2c y2l).cnt:Int)+((E.lst 2 102 y3A y3c y3l).cnt:Int)))),(E.lst 2 105 y5A y5c y5l)]))).Nodup from (List.nodup_append.1 (show List.Nodup (_++_) from HN2.out (E.agg [(E.int .i64 (q)),(E.int .i64 (q+1)),(E.lst 1 3 y2A y2c (E.mkcL y2l (q+1+1))),(E.lst 2 102 y3A y3c (E.mkcL y3l (q+1+1+((E.lst 1 3 y2A y2c y2l).cnt:Int)))),(E.lst 5 148 y4A y4c (E.mkcL y4l (q+1+1+((E.lst 1 3 y2A y2c y2l).cnt:Int)+((E.lst 2 102 y3A y3c y3l).cnt:Int)))),(E.lst 2 105 y5A y5c y5l)]) (by first|rfl|(simp only [E.fp,E.fpL,E.mkcL_fp,E.mk0L_fp,E.mk0_fp,E.mkc_fp];done)|fail))).2.1) (zd2 HML.out _)) (by simp) (show Fr (E.lst 2 105 y5A y5c y5l).fp _ _ from hf4) hm4)
   have H6:=Lib.hid (H5.out.inside (HN2.out _ (by first|rfl|(simp only [E.fp,E.fpL,E.mkcL_fp,E.mk0L_fp,E.mk0_fp,E.mkc_fp];done)|fail)) HML.out (E.agg [(E.int .i64 (q)),(E.int .i64 (q+1)),(E.lst 1 3 y2A y2c (E.mkcL y2l (q+1+1))),(E.lst 2 102 y3A y3c (E.mkcL y3l (q+1+1+((E.lst 1 3 y2A y2c y2l).cnt:Int)))),(E.lst 5 148 y4A y4c (E.mkcL y4l (q+1+1+((E.lst 1 3 y2A y2c y2l).cnt:Int)+((E.lst 2 102 y3A y3c y3l).cnt:Int)))),(E.lst 2 105 y5A y5c (E.mkcL y5l (q+1+1+((E.lst 1 3 y2A y2c y2l).cnt:Int)+((E.lst 2 102 y3A y3c y3l).cnt:Int)+((E.lst 5 148 y4A y4c y4l).cnt:Int))))]) hf4 (fun b hb=>by simp only [E.fp,E.fpL,List.mem_append,List.nil_append,List.append_nil] at hb ⊢;simp [hb]) (by simp only [E.enc,E.encL,E.mkcL_len]) hin4)
   clear H5 hin4 ho4 hm4
   have hF4:Fr (E.lst 6 60 (some ⟨g,0,none⟩) c l).fp w w4:=hF3.trans (hf4.sub (fun b hb=>HSB.out b (by simp only [E.fp,E.fpL,List.mem_append,List.nil_append,List.append_nil] at hb ⊢;simp [hb])))
   have c4_0:w4.cell? ⟨g,k*6,none⟩=some (.int .i64 (q)):=H6.out.cellx (j:=0) (u:=.int .i64 (q)) (by simpa using HML.out) (zg1 HML.out _) rfl
   have c4_1:w4.cell? ⟨g,k*6+1,none⟩=some (.int .i64 (q+1)):=H6.out.cellx (j:=1) (u:=.int .i64 (q+1)) (by simpa using HML.out) (zg1 HML.out _) rfl
   have c4_2:w4.cell? ⟨g,k*6+2,none⟩=some (.slice y2A (E.mkcL y2l (q+1+1)).length y2c):=H6.out.cellx (j:=2) (u:=.slice y2A (E.mkcL y2l (q+1+1)).length y2c) (by simpa using HML.out) (zg1 HML.out _) rfl
   have c4_3:w4.cell? ⟨g,k*6+3,none⟩=some (.slice y3A (E.mkcL y3l (q+1+1+((E.lst 1 3 y2A y2c y2l).cnt:Int))).length y3c):=H6.out.cellx (j:=3) (u:=.slice y3A (E.mkcL y3l (q+1+1+((E.lst 1 3 y2A y2c y2l).cnt:Int))).length y3c) (by simpa using HML.out) (zg1 HML.out _) rfl
   have c4_4:w4.cell? ⟨g,k*6+4,none⟩=some (.slice y4A (E.mkcL y4l (q+1+1+((E.lst 1 3 y2A y2c y2l).cnt:Int)+((E.lst 2 102 y3A y3c y3l).cnt:Int))).length y4c):=H6.out.cellx (j:=4) (u:=.slice y4A (E.mkcL y4l (q+1+1+((E.lst 1 3 y2A y2c y2l).cnt:Int)+((E.lst 2 102 y3A y3c y3l).cnt:Int))).length y4c) (by simpa using HML.out) (zg1 HML.out _) rfl
   have c4_5:w4.cell? ⟨g,k*6+5,none⟩=some (.slice y5A (E.mkcL y5l (q+1+1+((E.lst 1 3 y2A y2c y2l).cnt:Int)+((E.lst 2 102 y3A y3c y3l).cnt:Int)+((E.lst 5 148 y4A y4c y4l).cnt:Int))).length y5c):=H6.out.cellx (j:=5) (u:=.slice y5A (E.mkcL y5l (q+1+1+((E.lst 1 3 y2A y2c y2l).cnt:Int)+((E.lst 2 102 y3A y3c y3l).cnt:Int)+((E.lst 5 148 y4A y4c y4l).cnt:Int))).length y5c) (by simpa using HML.out) (zg1 HML.out _) rfl
   have fz4:=H6.out.frzx
   go_wp2
   go_roundw
   case rel =>
    have FF:∀t0 t1 t2 t3 t4 t5:Int,(q)=t0→(q+1)=t1→(q+1+1)=t2→(q+1+1+((E.lst 1 3 y2A y2c y2l).cnt:Int))=t3→(q+1+1+((E.lst 1 3 y2A y2c y2l).cnt:Int)+((E.lst 2 102 y3A y3c y3l).cnt:Int))=t4→(q+1+1+((E.lst 1 3 y2A y2c y2l).cnt:Int)+((E.lst 2 102 y3A y3c y3l).cnt:Int)+((E.lst 5 148 y4A y4c y4l).cnt:Int))=t5→(E.agg [(E.int .i64 (q)),(E.int .i64 (q+1)),(E.lst 1 3 y2A y2c (E.mkcL y2l (q+1+1))),(E.lst 2 102 y3A y3c (E.mkcL y3l (q+1+1+((E.lst 1 3 y2A y2c y2l).cnt:Int)))),(E.lst 5 148 y4A y4c (E.mkcL y4l (q+1+1+((E.lst 1 3 y2A y2c y2l).cnt:Int)+((E.lst 2 102 y3A y3c y3l).cnt:Int)))),(E.lst 2 105 y5A y5c (E.mkcL y5l (q+1+1+((E.lst 1 3 y2A y2c y2l).cnt:Int)+((E.lst 2 102 y3A y3c y3l).cnt:Int)+((E.lst 5 148 y4A y4c y4l).cnt:Int))))])=(E.agg [(E.int .i64 t0),(E.int .i64 t1),(E.lst 1 3 y2A y2c (E.mkcL y2l t2)),(E.lst 2 102 y3A y3c (E.mkcL y3l t3)),(E.lst 5 148 y4A y4c (E.mkcL y4l t4)),(E.lst 2 105 y5A y5c (E.mkcL y5l t5))]):=by
     intro t0 t1 t2 t3 t4 t5 ht0 ht1 ht2 ht3 ht4 ht5
     subst ht0
     subst ht1
     subst ht2
     subst ht3
     subst ht4
     subst ht5
     rfl
    have EX:(E.agg [(E.int .i64 (q)),(E.int .i64 (q+1)),(E.lst 1 3 y2A y2c (E.mkcL y2l (q+1+1))),(E.lst 2 102 y3A y3c (E.mkcL y3l (q+1+1+((E.lst 1 3 y2A y2c y2l).cnt:Int)))),(E.lst 5 148 y4A y4c (E.mkcL y4l (q+1+1+((E.lst 1 3 y2A y2c y2l).cnt:Int)+((E.lst 2 102 y3A y3c y3l).cnt:Int)))),(E.lst 2 105 y5A y5c (E.mkcL y5l (q+1+1+((E.lst 1 3 y2A y2c y2l).cnt:Int)+((E.lst 2 102 y3A y3c y3l).cnt:Int)+((E.lst 5 148 y4A y4c y4l).cnt:Int))))])=(E.agg [.int .i64 y0,.int .i64 y1,.lst 1 3 y2A y2c y2l,.lst 2 102 y3A y3c y3l,.lst 5 148 y4A y4c y4l,.lst 2 105 y5A y5c y5l]).mkc q:=FF _ _ _ _ _ _ (by first|rfl|omega|(show _=_;simp only [E.cnt,E.cntL,E.cntc,E.cntcL,reduceCtorEq,if_false,if_true,ite_false];omega)) (by first|rfl|omega|(show _=_;simp only [E.cnt,E.cntL,E.cntc,E.cntcL,reduceCtorEq,if_false,if_true,ite_false];omega)) (by first|rfl|omega|(show _=_;simp only [E.cnt,E.cntL,E.cntc,E.cntcL,reduceCtorEq,if_false,if_true,ite_false];omega)) (by first|rfl|omega|(show _=_;simp only [E.cnt,E.cntL,E.cntc,E.cntcL,reduceCtorEq,if_false,if_true,ite_false];omega)) (by first|rfl|omega|(show _=_;simp only [E.cnt,E.cntL,E.cntc,E.cntcL,reduceCtorEq,if_false,if_true,ite_false];omega)) (by first|rfl|omega|(show _=_;simp only [E.cnt,E.cntL,E.cntc,E.cntcL,reduceCtorEq,if_false,if_true,ite_false];omega))
    exact⟨k+1,_,by omega,by go_num,rfl,(by show _=_;have e1:=HQ.out;have e2:=HT.out;rw [HEX.out,HCX.out] at e2;omega),hF4,(by show E.Ho _ _ _ _;rw [←zw2 l k0 k hlt,HEX.out,←HQ.out,←EX,HMS.out];exact H6.out)⟩
   case measure=>simp [intOf];omega
  ·have hk':k=l.length:=by omega
   subst hk'
   go_wp2
   go_ret
   have e1:=HQ.out
   rw [List.take_length] at e1
   have h:=HOW.out
   rw [zp3] at h
   exact⟨ri e1,h,hF0⟩
set_option maxRecDepth 100000 in
set_option maxHeartbeats 1000000 in
theorem heldFrameS_all' (A:Option Addr)(c:Nat)(l:List E)(h1:∀y∈l,y.Ty Tryz.prog 60)(h2:∀y∈l,y.enc.length=6):Hel 45 (.lst 6 60 A c l):=by
 intro k0 w hr h0 hk1
 have HCN:Hid ((E.lst 6 60 A c l).cnt=E.cntcL l):=rfl
 rw [HCN.out] at hk1
 change (E.lst 6 60 A c (E.mkcL l k0)).In w at hr
 have hs:=hr.sl
 have hlen:=hs.len_le
 rw [E.mkcL_len] at hlen
 change Calls _ _ #[.slice A l.length c,.int .i64 k0] w _
 rw [HCN.out]
 change Calls _ _ _ w fun r w'=>r=.returned (.int .i64 (k0+(E.cntcL l:Nat)))∧Below w.heap.size w w'
 go_enter Tryz.func45,Tryz.ntmps45
 go_wp2
 go_loopw [1,5] (fun v i wr=>∃(k:Nat) (q:Int),k≤l.length∧i=.int .i64 k∧v=.int .i64 q∧Hid (q=k0+(E.cntcL (l.take k):Nat))∧Below w.heap.size w wr) (fun _ i _=>l.length-(intOf i).toNat)
 case atStart=>exact⟨0,k0,Nat.zero_le _,rfl,rfl,(by show _=_;simp [E.cntcL]),Below.refl _ _⟩
 case round =>
  obtain⟨k,q,hk,rfl,rfl,HQ,hb⟩:=hrel
  have hzb:=hb.size
  by_cases hlt:k<l.length
  ·have HT:=Lib.hid (E.cntcL_take l k hlt)
   have hq0:0≤q:=by have:=HQ.out;omega
   have hlm:k<(E.mkcL l k0).length:=by rw [E.mkcL_len];exact hlt
   obtain⟨y0,y1,y2A,y2c,y2l,y3A,y3c,y3l,y4A,y4c,y4l,y5A,y5c,y5l,ex,gy0,gy1,gy2,gy3,gy4,gy5,-⟩:=zd1 (h1 _ (List.getElem_mem hlt))
   have HC2:=Lib.hid (zz4 (show (E.lst 1 3 y2A y2c y2l).Ty Tryz.prog 25 from E.Ty.mk_lst Tryz.underlying25 (by kernel_rfl) gy2.1 gy2.2))
   have HC3:=Lib.hid (zs9 (show (E.lst 2 102 y3A y3c y3l).Ty Tryz.prog 56 from E.Ty.mk_lst Tryz.underlying56 (by kernel_rfl) gy3.1 gy3.2))
   have HC4:=Lib.hid (zx7 (show (E.lst 5 148 y4A y4c y4l).Ty Tryz.prog 57 from E.Ty.mk_lst Tryz.underlying57 (by kernel_rfl) gy4.1 gy4.2))
   have HC5:=Lib.hid (zu9 (show (E.lst 2 105 y5A y5c y5l).Ty Tryz.prog 58 from E.Ty.mk_lst Tryz.underlying58 (by kernel_rfl) gy5.1 gy5.2))
   have HCX:Hid ((E.agg [.int .i64 y0,.int .i64 y1,.lst 1 3 y2A y2c y2l,.lst 2 102 y3A y3c y3l,.lst 5 148 y4A y4c y4l,.lst 2 105 y5A y5c y5l]).cntc=(1+(1+((E.lst 1 3 y2A y2c y2l).cnt+((E.lst 2 102 y3A y3c y3l).cnt+((E.lst 5 148 y4A y4c y4l).cnt+((E.lst 2 105 y5A y5c y5l).cnt+0))))))):=rfl
   have hq1:q+(((1+(1+((E.lst 1 3 y2A y2c y2l).cnt+((E.lst 2 102 y3A y3c y3l).cnt+((E.lst 5 148 y4A y4c y4l).cnt+((E.lst 2 105 y5A y5c y5l).cnt+0)))))):Nat):Int)≤1152921504606846976:=by have e1:=HQ.out;have e2:=HT.out;have e3:=E.cntcL_le l (k+1);rw [ex,HCX.out] at e2;omega
   have FF:∀t0 t1 t2 t3 t4 t5:Int,(q)=t0→(q+1)=t1→(q+1+1)=t2→(q+1+1+((E.lst 1 3 y2A y2c y2l).cnt:Int))=t3→(q+1+1+((E.lst 1 3 y2A y2c y2l).cnt:Int)+((E.lst 2 102 y3A y3c y3l).cnt:Int))=t4→(q+1+1+((E.lst 1 3 y2A y2c y2l).cnt:Int)+((E.lst 2 102 y3A y3c y3l).cnt:Int)+((E.lst 5 148 y4A y4c y4l).cnt:Int))=t5→(E.agg [(E.int .i64 (q)),(E.int .i64 (q+1)),(E.lst 1 3 y2A y2c (E.mkcL y2l (q+1+1))),(E.lst 2 102 y3A y3c (E.mkcL y3l (q+1+1+((E.lst 1 3 y2A y2c y2l).cnt:Int)))),(E.lst 5 148 y4A y4c (E.mkcL y4l (q+1+1+((E.lst 1 3 y2A y2c y2l).cnt:Int)+((E.lst 2 102 y3A y3c y3l).cnt:Int)))),(E.lst 2 105 y5A y5c (E.mkcL y5l (q+1+1+((E.lst 1 3 y2A y2c y2l).cnt:Int)+((E.lst 2 102 y3A y3c y3l).cnt:Int)+((E.lst 5 148 y4A y4c y4l).cnt:Int))))])=(E.agg [(E.int .i64 t0),(E.int .i64 t1),(E.lst 1 3 y2A y2c (E.mkcL y2l t2)),(E.lst 2 102 y3A y3c (E.mkcL y3l t3)),(E.lst 5 148 y4A y4c (E.mkcL y4l t4)),(E.lst 2 105 y5A y5c (E.mkcL y5l t5))]):=by
    intro t0 t1 t2 t3 t4 t5 ht0 ht1 ht2 ht3 ht4 ht5
    subst ht0
    subst ht1
    subst ht2
    subst ht3
    subst ht4
    subst ht5
    rfl
   have EX:(E.agg [(E.int .i64 (q)),(E.int .i64 (q+1)),(E.lst 1 3 y2A y2c (E.mkcL y2l (q+1+1))),(E.lst 2 102 y3A y3c (E.mkcL y3l (q+1+1+((E.lst 1 3 y2A y2c y2l).cnt:Int)))),(E.lst 5 148 y4A y4c (E.mkcL y4l (q+1+1+((E.lst 1 3 y2A y2c y2l).cnt:Int)+((E.lst 2 102 y3A y3c y3l).cnt:Int)))),(E.lst 2 105 y5A y5c (E.mkcL y5l (q+1+1+((E.lst 1 3 y2A y2c y2l).cnt:Int)+((E.lst 2 102 y3A y3c y3l).cnt:Int)+((E.lst 5 148 y4A y4c y4l).cnt:Int))))])=(E.agg [.int .i64 y0,.int .i64 y1,.lst 1 3 y2A y2c y2l,.lst 2 102 y3A y3c y3l,.lst 5 148 y4A y4c y4l,.lst 2 105 y5A y5c y5l]).mkc q:=FF _ _ _ _ _ _ (by first|rfl|omega|(show _=_;simp only [E.cnt,E.cntL,E.cntc,E.cntcL,reduceCtorEq,if_false,if_true,ite_false];omega)) (by first|rfl|omega|(show _=_;simp only [E.cnt,E.cntL,E.cntc,E.cntcL,reduceCtorEq,if_false,if_true,ite_false];omega)) (by first|rfl|omega|(show _=_;simp only [E.cnt,E.cntL,E.cntc,E.cntcL,reduceCtorEq,if_false,if_true,ite_false];omega)) (by first|rfl|omega|(show _=_;simp only [E.cnt,E.cntL,E.cntc,E.cntcL,reduceCtorEq,if_false,if_true,ite_false];omega)) (by first|rfl|omega|(show _=_;simp only [E.cnt,E.cntL,E.cntc,E.cntcL,reduceCtorEq,if_false,if_true,ite_false];omega)) (by first|rfl|omega|(show _=_;simp only [E.cnt,E.cntL,E.cntc,E.cntcL,reduceCtorEq,if_false,if_true,ite_false];omega))
   have hs':=hs.below hb (Nat.le_refl _)
   have hin:=(hr.el (List.getElem_mem hlm)).below hb (Nat.le_refl _)
   obtain⟨b,o,rfl,hbl,hc⟩:=hs'.at_ hlm
   rw [E.mkcL_at l k0 k hlt,ex,←HQ.out,←EX] at hc hin
   clear EX FF
   have HEX:=Lib.hid ex
   clear ex hlm hs'
   have c0_0:wr.cell? ⟨b,o+k*6,none⟩=some (.int .i64 (q)):=by have h:=hc 0 _ rfl;exact h
   have c0_1:wr.cell? ⟨b,o+k*6+1,none⟩=some (.int .i64 (q+1)):=by have h:=hc 1 _ rfl;exact h
   have c0_2:wr.cell? ⟨b,o+k*6+2,none⟩=some (.slice y2A y2l.length y2c):=by have h:=hc 2 _ rfl;simpa only [Nat.mul_one,Nat.add_zero,E.mkcL_len] using h
   have c0_3:wr.cell? ⟨b,o+k*6+3,none⟩=some (.slice y3A y3l.length y3c):=by have h:=hc 3 _ rfl;simpa only [Nat.mul_one,Nat.add_zero,E.mkcL_len] using h
   have c0_4:wr.cell? ⟨b,o+k*6+4,none⟩=some (.slice y4A y4l.length y4c):=by have h:=hc 4 _ rfl;simpa only [Nat.mul_one,Nat.add_zero,E.mkcL_len] using h
   have c0_5:wr.cell? ⟨b,o+k*6+5,none⟩=some (.slice y5A y5l.length y5c):=by have h:=hc 5 _ rfl;simpa only [Nat.mul_one,Nat.add_zero,E.mkcL_len] using h
   clear hc
   have hi2:((E.lst 1 3 y2A y2c y2l).mk0 (q+1+1)).In wr:=(E.In.fld (i:=2) hin rfl)
   have hi3:((E.lst 2 102 y3A y3c y3l).mk0 (q+1+1+((E.lst 1 3 y2A y2c y2l).cnt:Int))).In wr:=(E.In.fld (i:=3) hin rfl)
   have hi4:((E.lst 5 148 y4A y4c y4l).mk0 (q+1+1+((E.lst 1 3 y2A y2c y2l).cnt:Int)+((E.lst 2 102 y3A y3c y3l).cnt:Int))).In wr:=(E.In.fld (i:=4) hin rfl)
   have hi5:((E.lst 2 105 y5A y5c y5l).mk0 (q+1+1+((E.lst 1 3 y2A y2c y2l).cnt:Int)+((E.lst 2 102 y3A y3c y3l).cnt:Int)+((E.lst 5 148 y4A y4c y4l).cnt:Int))).In wr:=(E.In.fld (i:=5) hin rfl)
   clear hin
   go_wp2_with fail
   go_at_call 43
   refine (HC2.out _ _ hi2 (by omega) (by omega)).mono ?_;rintro e w1 ⟨rfl,hb1⟩;have hz1:=hb1.size;have c1_2:=zb hb1 c0_2 (by first|omega|(simp;omega));have c1_3:=zb hb1 c0_3 (by first|omega|(simp;omega));have c1_4:=zb hb1 c0_4 (by first|omega|(simp;omega));have c1_5:=zb hb1 c0_5 (by first|omega|(simp;omega));have hi3:((E.lst 2 102 y3A y3c y3l).mk0 (q+1+1+((E.lst 1 3 y2A y2c y2l).cnt:Int))).In w1:=by2;have hi4:((E.lst 5 148 y4A y4c y4l).mk0 (q+1+1+((E.lst 1 3 y2A y2c y2l).cnt:Int)+((E.lst 2 102 y3A y3c y3l).cnt:Int))).In w1:=by2;have hi5:((E.lst 2 105 y5A y5c y5l).mk0 (q+1+1+((E.lst 1 3 y2A y2c y2l).cnt:Int)+((E.lst 2 102 y3A y3c y3l).cnt:Int)+((E.lst 5 148 y4A y4c y4l).cnt:Int))).In w1:=by2
   go_wp2_with fail
   go_at_call 79
   refine (HC3.out _ _ hi3 (by omega) (by omega)).mono ?_;rintro e w2 ⟨rfl,hb2⟩;have hz2:=hb2.size;have c2_3:=zb hb2 c1_3 (by first|omega|(simp;omega));have c2_4:=zb hb2 c1_4 (by first|omega|(simp;omega));have c2_5:=zb hb2 c1_5 (by first|omega|(simp;omega));have hi4:((E.lst 5 148 y4A y4c y4l).mk0 (q+1+1+((E.lst 1 3 y2A y2c y2l).cnt:Int)+((E.lst 2 102 y3A y3c y3l).cnt:Int))).In w2:=by2;have hi5:((E.lst 2 105 y5A y5c y5l).mk0 (q+1+1+((E.lst 1 3 y2A y2c y2l).cnt:Int)+((E.lst 2 102 y3A y3c y3l).cnt:Int)+((E.lst 5 148 y4A y4c y4l).cnt:Int))).In w2:=by2
   go_wp2_with fail
   go_at_call 80
   refine (HC4.out _ _ hi4 (by omega) (by omega)).mono ?_;rintro e w3 ⟨rfl,hb3⟩;have hz3:=hb3.size;have c3_4:=zb hb3 c2_4 (by first|omega|(simp;omega));have c3_5:=zb hb3 c2_5 (by first|omega|(simp;omega));have hi5:((E.lst 2 105 y5A y5c y5l).mk0 (q+1+1+((E.lst 1 3 y2A y2c y2l).cnt:Int)+((E.lst 2 102 y3A y3c y3l).cnt:Int)+((E.lst 5 148 y4A y4c y4l).cnt:Int))).In w3:=by2
   go_wp2_with fail
   go_at_call 81
   refine (HC5.out _ _ hi5 (by omega) (by omega)).mono ?_;rintro e w4 ⟨rfl,hb4⟩;have hz4:=hb4.size;have c4_5:=zb hb4 c3_5 (by first|omega|(simp;omega))
   go_wp2_with fail
   go_roundw
   case rel=>exact⟨k+1,_,by omega,by go_num,rfl,(by show _=_;have e1:=HQ.out;have e2:=HT.out;rw [HEX.out,HCX.out] at e2;omega),by exact by0⟩
   case measure=>simp [intOf];omega
  ·have hk':k=l.length:=by omega
   subst hk'
   go_wp2
   go_ret
   have e1:=HQ.out
   rw [List.take_length] at e1
   exact⟨ri e1,hb⟩
theorem zy7 {e:E}(ht:e.Ty Tryz.prog 39):Mar 39 e:=by
 obtain⟨A,c,l,rfl,h1,h2⟩:=ht.lst_ Tryz.underlying39 (k:=6) (by kernel_rfl)
 exact markFrameS_all' A c l h1 h2
theorem zz7 {e:E}(ht:e.Ty Tryz.prog 39):Hel 45 e:=by
 obtain⟨A,c,l,rfl,h1,h2⟩:=ht.lst_ Tryz.underlying39 (k:=6) (by kernel_rfl)
 exact heldFrameS_all' A c l h1 h2
end Go.Proofs.YtfemkmnkofgaaaaGreat
