/- The type Stmt, and slices of it: shape; the laws' own functions. -/
import Derived.Test.YtnjfnhoipnbpeaaGreatDoorTxtPV
namespace Go.Proofs.YtnjfnhoipnbpeaaGreatDoor
open Go.RowKit
theorem zp4 {e:E}(h:e.Ty Tryz.prog 111):∃(x0:Int) (x1:ByteArray) (x2:ByteArray) (x3A:Option Addr) (x3c:Nat) (x3l:List E) (x4A:Option Addr) (x4c:Nat) (x4l:List E) (x5A:Option Addr) (x5c:Nat) (x5l:List E),e=(E.agg [.int .i64 x0,.str x1,.str x2,.lst 4 57 x3A x3c x3l,.lst 6 111 x4A x4c x4l,.lst 6 111 x5A x5c x5l])∧((Lit.int .i64 x0).wf=true)∧(x1.size≤9223372036854775807)∧(x2.size≤9223372036854775807)∧((∀y∈x3l,y.Ty Tryz.prog 57)∧(∀y∈x3l,y.enc.length=4))∧((∀y∈x4l,y.Ty Tryz.prog 111)∧(∀y∈x4l,y.enc.length=6))∧((∀y∈x5l,y.Ty Tryz.prog 111)∧(∀y∈x5l,y.enc.length=6))∧True:=by
 obtain⟨fs,rfl,q0⟩:=h.agg_ Tryz.underlying111
 change E.TyF _ _ [3,9,9,55,58,58] at q0
 obtain⟨e0,r0,rfl,h0,q1⟩:=q0.cons_
 obtain⟨e1,r1,rfl,h1,q2⟩:=q1.cons_
 obtain⟨e2,r2,rfl,h2,q3⟩:=q2.cons_
 obtain⟨e3,r3,rfl,h3,q4⟩:=q3.cons_
 obtain⟨e4,r4,rfl,h4,q5⟩:=q4.cons_
 obtain⟨e5,r5,rfl,h5,q6⟩:=q5.cons_
 obtain rfl:=q6.nil_
 obtain⟨x0,rfl,gx0⟩:=h0.int_ Tryz.underlying3
 obtain⟨x1,rfl,gx1⟩:=h1.str_ Tryz.underlying9
 obtain⟨x2,rfl,gx2⟩:=h2.str_ Tryz.underlying9
 obtain⟨x3A,x3c,x3l,rfl,gx3,gx3'⟩:=h3.lst_ Tryz.underlying55 (k:=4) (by kernel_rfl)
 obtain⟨x4A,x4c,x4l,rfl,gx4,gx4'⟩:=h4.lst_ Tryz.underlying58 (k:=6) (by kernel_rfl)
 obtain⟨x5A,x5c,x5l,rfl,gx5,gx5'⟩:=h5.lst_ Tryz.underlying58 (k:=6) (by kernel_rfl)
 exact⟨x0,x1,x2,x3A,x3c,x3l,x4A,x4c,x4l,x5A,x5c,x5l,rfl,gx0,gx1,gx2,⟨gx3,gx3'⟩,⟨gx4,gx4'⟩,⟨gx5,gx5'⟩,trivial⟩
theorem zt1 {e:E}(h:e.Ty Tryz.prog 71):∃(x0:Int) (x1:ByteArray) (x2:ByteArray) (x3A:Option Addr) (x3c:Nat) (x3l:List E) (x4A:Option Addr) (x4c:Nat) (x4l:List E) (x5A:Option Addr) (x5c:Nat) (x5l:List E),e=(E.agg [.int .i64 x0,.str x1,.str x2,.lst 4 45 x3A x3c x3l,.lst 6 71 x4A x4c x4l,.lst 6 71 x5A x5c x5l])∧((Lit.int .i64 x0).wf=true)∧(x1.size≤9223372036854775807)∧(x2.size≤9223372036854775807)∧((∀y∈x3l,y.Ty Tryz.prog 45)∧(∀y∈x3l,y.enc.length=4))∧((∀y∈x4l,y.Ty Tryz.prog 71)∧(∀y∈x4l,y.enc.length=6))∧((∀y∈x5l,y.Ty Tryz.prog 71)∧(∀y∈x5l,y.enc.length=6))∧True:=by
 obtain⟨fs,rfl,q0⟩:=h.agg_ Tryz.underlying71
 change E.TyF _ _ [3,9,9,43,39,39] at q0
 obtain⟨e0,r0,rfl,h0,q1⟩:=q0.cons_
 obtain⟨e1,r1,rfl,h1,q2⟩:=q1.cons_
 obtain⟨e2,r2,rfl,h2,q3⟩:=q2.cons_
 obtain⟨e3,r3,rfl,h3,q4⟩:=q3.cons_
 obtain⟨e4,r4,rfl,h4,q5⟩:=q4.cons_
 obtain⟨e5,r5,rfl,h5,q6⟩:=q5.cons_
 obtain rfl:=q6.nil_
 obtain⟨x0,rfl,gx0⟩:=h0.int_ Tryz.underlying3
 obtain⟨x1,rfl,gx1⟩:=h1.str_ Tryz.underlying9
 obtain⟨x2,rfl,gx2⟩:=h2.str_ Tryz.underlying9
 obtain⟨x3A,x3c,x3l,rfl,gx3,gx3'⟩:=h3.lst_ Tryz.underlying43 (k:=4) (by kernel_rfl)
 obtain⟨x4A,x4c,x4l,rfl,gx4,gx4'⟩:=h4.lst_ Tryz.underlying39 (k:=6) (by kernel_rfl)
 obtain⟨x5A,x5c,x5l,rfl,gx5,gx5'⟩:=h5.lst_ Tryz.underlying39 (k:=6) (by kernel_rfl)
 exact⟨x0,x1,x2,x3A,x3c,x3l,x4A,x4c,x4l,x5A,x5c,x5l,rfl,gx0,gx1,gx2,⟨gx3,gx3'⟩,⟨gx4,gx4'⟩,⟨gx5,gx5'⟩,trivial⟩
set_option maxRecDepth 100000 in
set_option maxHeartbeats 1000000 in
theorem zg18 {e:E}(ht:e.Ty Tryz.prog 111)(ih:∀s:E,s.Ty Tryz.prog 58→s∈e.subs→Sz 48 s):Sz 77 e:=by
 obtain⟨x0,x1,x2,x3A,x3c,x3l,x4A,x4c,x4l,x5A,x5c,x5l,rfl,gx0,gx1,gx2,gx3,gx4,gx5,-⟩:=zp4 ht
 intro left w hr h0 h1
 have HSZ:Hid ((E.agg [.int .i64 x0,.str x1,.str x2,.lst 4 57 x3A x3c x3l,.lst 6 111 x4A x4c x4l,.lst 6 111 x5A x5c x5l]).sz=(0+(x1.size+(x2.size+((E.lst 4 57 x3A x3c x3l).sz+((E.lst 6 111 x4A x4c x4l).sz+((E.lst 6 111 x5A x5c x5l).sz+0))))))):=rfl
 change Calls _ _ #[.agg #[.int .i64 x0,.string x1,.string x2,.slice x3A x3l.length x3c,.slice x4A x4l.length x4c,.slice x5A x5l.length x5c],.int .i64 left] w _
 have hr3:=(hr.fld (i:=3) rfl).alloc (.cells #[.int .i64 x0,.string x1,.string x2,.slice x3A x3l.length x3c,.slice x4A x4l.length x4c,.slice x5A x5l.length x5c] 111)
 have hr4:=(hr.fld (i:=4) rfl).alloc (.cells #[.int .i64 x0,.string x1,.string x2,.slice x3A x3l.length x3c,.slice x4A x4l.length x4c,.slice x5A x5l.length x5c] 111)
 have hr5:=(hr.fld (i:=5) rfl).alloc (.cells #[.int .i64 x0,.string x1,.string x2,.slice x3A x3l.length x3c,.slice x4A x4l.length x4c,.slice x5A x5l.length x5c] 111)
 go_enter Tryz.func77,Tryz.ntmps77
 by_cases hn1:left-x1.size<0
 ·go_wp2
  go_ret
  exact⟨-1,rfl,.inl (by omega),by omega,by exact by0⟩
 by_cases hn2:(left-x1.size)-x2.size<0
 ·go_wp2
  go_ret
  exact⟨-1,rfl,.inl (by omega),by omega,by exact by0⟩
 go_wp2_with fail
 go_at_call 76
 refine ((zb18 (E.Ty.mk_lst Tryz.underlying55 (by kernel_rfl) gx3.1 gx3.2)) _ _ hr3 (by omega) (by omega)).mono ?_;rintro e w3 ⟨r3,rfl,hr3s,hl3,hb3⟩
 have hz3:=hb3.size;(try simp only [World.size_alloc] at hz3)
 have c3_4:w3.cell? ⟨w.heap.size,4,none⟩=some (.slice x4A x4l.length x4c):=(by repeat (first|(with_reducible assumption)|(with_reducible refine zb5 ?_)|(with_reducible refine zr4 ?_)|(with_reducible exact zg4 rfl)|(exact cell_new' rfl (by first|rfl|(simp;done)))|(with_reducible refine zo3 ?_ ?_)|(refine zo1 (by with_reducible assumption) ?_ ?_)|(refine zi8 (by with_reducible assumption) ?_ ?_)|omega|(·simp)|(·(simp;omega))))
 have c3_5:w3.cell? ⟨w.heap.size,5,none⟩=some (.slice x5A x5l.length x5c):=(by repeat (first|(with_reducible assumption)|(with_reducible refine zb5 ?_)|(with_reducible refine zr4 ?_)|(with_reducible exact zg4 rfl)|(exact cell_new' rfl (by first|rfl|(simp;done)))|(with_reducible refine zo3 ?_ ?_)|(refine zo1 (by with_reducible assumption) ?_ ?_)|(refine zi8 (by with_reducible assumption) ?_ ?_)|omega|(·simp)|(·(simp;omega))))
 have hr4:=hr4.below hb3 (by first|exact Nat.le_refl _|simp)
 have hr5:=hr5.below hb3 (by first|exact Nat.le_refl _|simp)
 by_cases hn3:r3<0
 ·go_wp2
  go_ret
  exact⟨-1,rfl,.inl (by omega),by omega,by exact by0⟩
 have hq3:=hr3s.resolve_left hn3
 go_wp2_with fail
 go_at_call 48
 refine ((ih _ (E.Ty.mk_lst Tryz.underlying58 (by kernel_rfl) gx4.1 gx4.2) (by simp [E.subs])) _ _ hr4 (by omega) (by omega)).mono ?_;rintro e w4 ⟨r4,rfl,hr4s,hl4,hb4⟩
 have hz4:=hb4.size;(try simp only [World.size_alloc] at hz4)
 have c4_5:w4.cell? ⟨w.heap.size,5,none⟩=some (.slice x5A x5l.length x5c):=(by repeat (first|(with_reducible assumption)|(with_reducible refine zb5 ?_)|(with_reducible refine zr4 ?_)|(with_reducible exact zg4 rfl)|(exact cell_new' rfl (by first|rfl|(simp;done)))|(with_reducible refine zo3 ?_ ?_)|(refine zo1 (by with_reducible assumption) ?_ ?_)|(refine zi8 (by with_reducible assumption) ?_ ?_)|omega|(·simp)|(·(simp;omega))))
 have hr5:=hr5.below hb4 (by first|exact Nat.le_refl _|simp)
 by_cases hn4:r4<0
 ·go_wp2
  go_ret
  exact⟨-1,rfl,.inl (by omega),by omega,by exact by0⟩
 have hq4:=hr4s.resolve_left hn4
 go_wp2_with fail
 go_at_call 48
 refine ((ih _ (E.Ty.mk_lst Tryz.underlying58 (by kernel_rfl) gx5.1 gx5.2) (by simp [E.subs])) _ _ hr5 (by omega) (by omega)).mono ?_;rintro e w5 ⟨r5,rfl,hr5s,hl5,hb5⟩
 have hz5:=hb5.size;(try simp only [World.size_alloc] at hz5)
 by_cases hn5:r5<0
 ·go_wp2
  go_ret
  exact⟨-1,rfl,.inl (by omega),by omega,by exact by0⟩
 have hq5:=hr5s.resolve_left hn5
 go_wp2
 go_ret
 refine⟨_,rfl,.inr ?_,by omega,by exact by0⟩
 show _=_
 rw [HSZ.out]
 have e3:=hq3.out
 have e4:=hq4.out
 have e5:=hq5.out
 push_cast
 omega
set_option maxRecDepth 100000 in
set_option maxHeartbeats 1000000 in
theorem szStmtS_step' (A:Option Addr)(c:Nat)(l:List E)(ht:∀y∈l,y.Ty Tryz.prog 111)(ih:∀y∈l,y.Ty Tryz.prog 111→Sz 77 y):Sz 48 (.lst 6 111 A c l):=by
 intro left w hr h0 h1
 have hs:=hr.sl
 have hlen:=hs.len_le
 have HSZ:Hid ((E.lst 6 111 A c l).sz=l.length+E.szL l):=rfl
 change Calls _ _ #[.slice A l.length c,.int .i64 left] w _
 by_cases hneg:left-l.length<0
 ·go_enter Tryz.func48,Tryz.ntmps48
  go_wp2
  go_ret
  exact⟨-1,rfl,.inl (by omega),by omega,by exact by0⟩
 go_enter Tryz.func48,Tryz.ntmps48
 go_wp2
 go_loopw [1,5] (fun v i wr=>∃(k:Nat) (cur:Int),k≤l.length∧i=.int .i64 k∧v=.int .i64 cur∧0≤cur∧cur≤left∧Hid (cur+E.szL (l.take k)+l.length=left)∧Below w.heap.size w wr) (fun _ i _=>l.length-(intOf i).toNat)
 case atStart=>exact⟨0,_,Nat.zero_le _,rfl,rfl,by omega,by omega,(by show _=_;simp [E.szL]),Below.refl _ _⟩
 case round =>
  obtain⟨k,cur,hk,rfl,rfl,hc0,hc1,HQ,hb⟩:=hrel
  have hzb:=hb.size
  by_cases hlt:k<l.length
  ·have hs':=hs.below hb (Nat.le_refl _)
   have HT:=Lib.hid (E.szL_take l k hlt)
   obtain⟨b,o,rfl,_,hc⟩:=hs'.at_ hlt
   have hin:=(hr.el (List.getElem_mem hlt)).below hb (Nat.le_refl _)
   have H:=ih _ (List.getElem_mem hlt) (ht _ (List.getElem_mem hlt))
   obtain⟨y0,y1,y2,y3A,y3c,y3l,y4A,y4c,y4l,y5A,y5c,y5l,ex,gy0,gy1,gy2,gy3,gy4,gy5,-⟩:=zp4 (ht _ (List.getElem_mem hlt))
   have HEX:=Lib.hid ex
   rw [ex] at hc hin H
   clear ex
   have c0:=hc 0 _ rfl;have c1:=hc 1 _ rfl;have c2:=hc 2 _ rfl;have c3:=hc 3 _ rfl;have c4:=hc 4 _ rfl;have c5:=hc 5 _ rfl
   rw [Nat.add_zero] at c0
   clear hc
   go_wp2_with fail
   go_at_call 77
   refine (H _ _ hin hc0 (by omega)).mono ?_;rintro e w1 ⟨r,rfl,hrs,hrl,hb1⟩
   by_cases hn:r<0
   ·go_wp2
    go_ret
    exact⟨-1,rfl,.inl (by omega),by omega,by exact by0⟩
   ·have HR:=hrs.resolve_left hn
    clear hrs
    go_wp2
    go_roundw
    case rel=>exact⟨k+1,r,by omega,by go_num,rfl,by omega,by omega,(by show _=_;have e1:=HQ.out;have e2:=HT.out;have e3:=HR.out;rw [HEX.out] at e2;omega),by exact by0⟩
    case measure=>simp [intOf];omega
  ·have hk':k=l.length:=by omega
   subst hk'
   go_wp2
   go_ret
   refine⟨_,rfl,.inr ?_,by omega,hb⟩
   show _=_
   have e1:=HQ.out
   rw [List.take_length] at e1
   rw [HSZ.out]
   push_cast
   omega
theorem zc16 {e:E}(ht:e.Ty Tryz.prog 58)(ih:∀y:E,y∈e.elems→y.Ty Tryz.prog 111→Sz 77 y):Sz 48 e:=by
 obtain⟨A,c,l,rfl,h1,_⟩:=ht.lst_ Tryz.underlying58 (k:=6) (by kernel_rfl)
 exact szStmtS_step' A c l h1 ih
theorem zh18:∀e:E,(e.Ty Tryz.prog 111→Sz 77 e)∧(e.Ty Tryz.prog 58→Sz 48 e):=by
 intro e
 induction e using E.ind with
 | h1|h2|h3=>exact⟨(fun h=>by obtain⟨_,h,_⟩:=h.agg_ Tryz.underlying111;cases h),(fun h=>by obtain⟨_,_,_,h,_⟩:=h.lst_ Tryz.underlying58 rfl;cases h)⟩
 | h4 fs ih=>exact⟨fun h=>zg18 h (fun s hs hm=>(ih s hm).2 hs),(fun h=>by obtain⟨_,_,_,h,_⟩:=h.lst_ Tryz.underlying58 rfl;cases h)⟩
 | h5 k T A c l ih=>exact⟨(fun h=>by obtain⟨_,h,_⟩:=h.agg_ Tryz.underlying111;cases h),fun h=>zc16 h (fun y hm hy=>(ih y hm).1 hy)⟩
theorem zk11 {e:E}(ht:e.Ty Tryz.prog 58):Sz 48 e:=(zh18 e).2 ht
set_option maxRecDepth 100000 in
set_option maxHeartbeats 1000000 in
theorem zi18 {e:E}(ht:e.Ty Tryz.prog 111)(ih:∀s:E,s.Ty Tryz.prog 58→s∈e.subs→To 57 39 s):To 86 71 e:=by
 have HT0:=Lib.hid ht
 obtain⟨x0,x1,x2,x3A,x3c,x3l,x4A,x4c,x4l,x5A,x5c,x5l,rfl,gx0,gx1,gx2,gx3,gx4,gx5,-⟩:=zp4 ht
 intro w hr hsz
 have hsz':(0+(x1.size+(x2.size+((E.lst 4 57 x3A x3c x3l).sz+((E.lst 6 111 x4A x4c x4l).sz+((E.lst 6 111 x5A x5c x5l).sz+0))))))≤1048576:=hsz
 have hs3:(E.lst 4 57 x3A x3c x3l).sz≤1048576:=by omega
 have hs4:(E.lst 6 111 x4A x4c x4l).sz≤1048576:=by omega
 have hs5:(E.lst 6 111 x5A x5c x5l).sz≤1048576:=by omega
 clear hsz hsz'
 have hr3:=hr.fld (i:=3) rfl
 have ty3:(E.lst 4 57 x3A x3c x3l).Ty Tryz.prog 55:=E.Ty.mk_lst Tryz.underlying55 (by kernel_rfl) gx3.1 gx3.2
 have HC3:=Lib.hid (zd18 ty3)
 clear ty3
 have hr4:=hr.fld (i:=4) rfl
 have ty4:(E.lst 6 111 x4A x4c x4l).Ty Tryz.prog 58:=E.Ty.mk_lst Tryz.underlying58 (by kernel_rfl) gx4.1 gx4.2
 have HC4:=Lib.hid (ih _ ty4 (by simp [E.subs]))
 clear ty4
 have hr5:=hr.fld (i:=5) rfl
 have ty5:(E.lst 6 111 x5A x5c x5l).Ty Tryz.prog 58:=E.Ty.mk_lst Tryz.underlying58 (by kernel_rfl) gx5.1 gx5.2
 have HC5:=Lib.hid (ih _ ty5 (by simp [E.subs]))
 clear ty5
 change Calls _ _ #[.agg #[.int .i64 x0,.string x1,.string x2,.slice x3A x3l.length x3c,.slice x4A x4l.length x4c,.slice x5A x5l.length x5c]] w _
 go_enter Tryz.func86,Tryz.ntmps86
 go_wp2_with fail
 go_at_call 85
 refine (HC3.out _ (((hr3.alloc _).alloc _).alloc _) hs3).mono ?_;rintro e w1 ⟨v1,he,HD1,ht1,ho1,hn1,hb1⟩
 have HT1:=Lib.hid ht1
 have HN1:=Lib.hid hn1
 obtain⟨A1,q1,l1,rfl,-,-⟩:=ht1.lst_ Tryz.underlying43 (k:=4) (by kernel_rfl)
 obtain rfl:e=.returned (.slice A1 l1.length q1):=he
 clear hn1 ht1
 have B0_1:w1.heap[w.heap.size]? = some (.cells #[.int .i64 x0,.string x1,.string x2,.slice x3A x3l.length x3c,.slice x4A x4l.length x4c,.slice x5A x5l.length x5c] 111 (0,0)):=(hb1.block (w.heap.size) (by simp;omega)).trans zv6.1
 have B1_1:w1.heap[w.heap.size+1]? = some (.cells #[.int .i64 0,.string ByteArray.empty,.string ByteArray.empty,.slice none 0 0,.slice none 0 0,.slice none 0 0] 71 (0,0)):=(hb1.block (w.heap.size+1) (by simp)).trans zv6.2.1
 have B2_1:w1.heap[w.heap.size+1+1]? = some (.cells #[.int .i64 x0,.string x1,.string x2,.slice none 0 0,.slice none 0 0,.slice none 0 0] 71 (0,0)):=(hb1.block (w.heap.size+1+1) (by simp)).trans zv6.2.2
 have hz1:=hb1.size;simp only [World.size_alloc] at hz1
 have hB1:Below w.heap.size w w1:=(by exact by0:Below w.heap.size w _).trans (hb1.mono (by simp;omega))
 have ho1:=ho1.wider (lo':=w.heap.size+1+1+1) (by simp) (Nat.le_refl _)
 have c1_0:w1.cell? ⟨w.heap.size,0,none⟩=some (.int .i64 x0):=zi1 B0_1 rfl
 have c1_1:w1.cell? ⟨w.heap.size,1,none⟩=some (.string x1):=zi1 B0_1 rfl
 have c1_2:w1.cell? ⟨w.heap.size,2,none⟩=some (.string x2):=zi1 B0_1 rfl
 have c1_3:w1.cell? ⟨w.heap.size,3,none⟩=some (.slice x3A x3l.length x3c):=zi1 B0_1 rfl
 have c1_4:w1.cell? ⟨w.heap.size,4,none⟩=some (.slice x4A x4l.length x4c):=zi1 B0_1 rfl
 have c1_5:w1.cell? ⟨w.heap.size,5,none⟩=some (.slice x5A x5l.length x5c):=zi1 B0_1 rfl
 have d1_0:w1.cell? ⟨w.heap.size+1+1,0,none⟩=some (.int .i64 x0):=zi1 B2_1 rfl
 have d1_1:w1.cell? ⟨w.heap.size+1+1,1,none⟩=some (.string x1):=zi1 B2_1 rfl
 have d1_2:w1.cell? ⟨w.heap.size+1+1,2,none⟩=some (.string x2):=zi1 B2_1 rfl
 have d1_3:w1.cell? ⟨w.heap.size+1+1,3,none⟩=some (.slice none 0 0):=zi1 B2_1 rfl
 have d1_4:w1.cell? ⟨w.heap.size+1+1,4,none⟩=some (.slice none 0 0):=zi1 B2_1 rfl
 have d1_5:w1.cell? ⟨w.heap.size+1+1,5,none⟩=some (.slice none 0 0):=zi1 B2_1 rfl
 have f1:=zc5 B2_1
 go_wp2_with fail
 have hK1:Kp (w.heap.size+1+1) (w.heap.size+1+1+1) w1 (w1.setCell ⟨w.heap.size+1+1,3,none⟩ (.slice A1 l1.length q1)):=(by repeat (first|(with_reducible exact Kp.refl _ _ _)|(refine Kp.set ?_ (by first|omega|(dsimp only;omega)|(simp;omega)) (by first|omega|(dsimp only;omega)|(simp;omega)) _)))
 have A0_1:=(hK1.block (w.heap.size) (by omega) (.inl (by omega))).trans B0_1
 have A1_1:=(hK1.block (w.heap.size+1) (by omega) (.inl (by omega))).trans B1_1
 have A2_1:(w1.setCell ⟨w.heap.size+1+1,3,none⟩ (.slice A1 l1.length q1)).heap[w.heap.size+1+1]? = some (.cells #[.int .i64 x0,.string x1,.string x2,.slice A1 l1.length q1,.slice none 0 0,.slice none 0 0] 71 (0,0)):=by simp only [zt4,B2_1];simp [setAt]
 have hW1:(w1.setCell ⟨w.heap.size+1+1,3,none⟩ (.slice A1 l1.length q1)).heap.size=w1.heap.size:=by simp
 have hBW1:Below w.heap.size w (w1.setCell ⟨w.heap.size+1+1,3,none⟩ (.slice A1 l1.length q1)):=hB1.trans (hK1.below (by omega) (by omega))
 have ho1:=ho1.kp hK1 (.inr (by omega))
 clear c1_0 c1_1 c1_2 c1_3 c1_4 c1_5 d1_0 d1_1 d1_2 d1_3 d1_4 d1_5 f1 B0_1 B1_1 B2_1 hK1 hB1
 generalize (w1.setCell ⟨w.heap.size+1+1,3,none⟩ (.slice A1 l1.length q1))=W1 at *
 go_at_call 57
 refine (HC4.out _ (E.In.below hr4 hBW1 (Nat.le_refl _)) hs4).mono ?_;rintro e w2 ⟨v2,he,HD2,ht2,ho2,hn2,hb2⟩
 have HT2:=Lib.hid ht2
 have HN2:=Lib.hid hn2
 obtain⟨A2,q2,l2,rfl,-,-⟩:=ht2.lst_ Tryz.underlying39 (k:=6) (by kernel_rfl)
 obtain rfl:e=.returned (.slice A2 l2.length q2):=he
 clear hn2 ht2
 have B0_2:=(hb2.block (w.heap.size) (by omega)).trans A0_1
 have B1_2:=(hb2.block (w.heap.size+1) (by omega)).trans A1_1
 have B2_2:=(hb2.block (w.heap.size+1+1) (by omega)).trans A2_1
 have hz2:=hb2.size
 have hB2:Below w.heap.size w w2:=hBW1.trans (hb2.mono (by omega))
 have ho1:=ho1.below hb2 (by omega)
 have ho2:=ho2.wider (lo':=w1.heap.size) (by omega) (Nat.le_refl _)
 clear A0_1 A1_1 A2_1
 have c2_0:w2.cell? ⟨w.heap.size,0,none⟩=some (.int .i64 x0):=zi1 B0_2 rfl
 have c2_1:w2.cell? ⟨w.heap.size,1,none⟩=some (.string x1):=zi1 B0_2 rfl
 have c2_2:w2.cell? ⟨w.heap.size,2,none⟩=some (.string x2):=zi1 B0_2 rfl
 have c2_3:w2.cell? ⟨w.heap.size,3,none⟩=some (.slice x3A x3l.length x3c):=zi1 B0_2 rfl
 have c2_4:w2.cell? ⟨w.heap.size,4,none⟩=some (.slice x4A x4l.length x4c):=zi1 B0_2 rfl
 have c2_5:w2.cell? ⟨w.heap.size,5,none⟩=some (.slice x5A x5l.length x5c):=zi1 B0_2 rfl
 have d2_0:w2.cell? ⟨w.heap.size+1+1,0,none⟩=some (.int .i64 x0):=zi1 B2_2 rfl
 have d2_1:w2.cell? ⟨w.heap.size+1+1,1,none⟩=some (.string x1):=zi1 B2_2 rfl
 have d2_2:w2.cell? ⟨w.heap.size+1+1,2,none⟩=some (.string x2):=zi1 B2_2 rfl
 have d2_3:w2.cell? ⟨w.heap.size+1+1,3,none⟩=some (.slice A1 l1.length q1):=zi1 B2_2 rfl
 have d2_4:w2.cell? ⟨w.heap.size+1+1,4,none⟩=some (.slice none 0 0):=zi1 B2_2 rfl
 have d2_5:w2.cell? ⟨w.heap.size+1+1,5,none⟩=some (.slice none 0 0):=zi1 B2_2 rfl
 have f2:=zc5 B2_2
 go_wp2_with fail
 have hK2:Kp (w.heap.size+1+1) (w.heap.size+1+1+1) w2 (w2.setCell ⟨w.heap.size+1+1,4,none⟩ (.slice A2 l2.length q2)):=(by repeat (first|(with_reducible exact Kp.refl _ _ _)|(refine Kp.set ?_ (by first|omega|(dsimp only;omega)|(simp;omega)) (by first|omega|(dsimp only;omega)|(simp;omega)) _)))
 have A0_2:=(hK2.block (w.heap.size) (by omega) (.inl (by omega))).trans B0_2
 have A1_2:=(hK2.block (w.heap.size+1) (by omega) (.inl (by omega))).trans B1_2
 have A2_2:(w2.setCell ⟨w.heap.size+1+1,4,none⟩ (.slice A2 l2.length q2)).heap[w.heap.size+1+1]? = some (.cells #[.int .i64 x0,.string x1,.string x2,.slice A1 l1.length q1,.slice A2 l2.length q2,.slice none 0 0] 71 (0,0)):=by simp only [zt4,B2_2];simp [setAt]
 have hW2:(w2.setCell ⟨w.heap.size+1+1,4,none⟩ (.slice A2 l2.length q2)).heap.size=w2.heap.size:=by simp
 have hBW2:Below w.heap.size w (w2.setCell ⟨w.heap.size+1+1,4,none⟩ (.slice A2 l2.length q2)):=hB2.trans (hK2.below (by omega) (by omega))
 have ho1:=ho1.kp hK2 (.inr (by omega))
 have ho2:=ho2.kp hK2 (.inr (by omega))
 clear c2_0 c2_1 c2_2 c2_3 c2_4 c2_5 d2_0 d2_1 d2_2 d2_3 d2_4 d2_5 f2 B0_2 B1_2 B2_2 hK2 hB2
 generalize (w2.setCell ⟨w.heap.size+1+1,4,none⟩ (.slice A2 l2.length q2))=W2 at *
 go_at_call 57
 refine (HC5.out _ (E.In.below hr5 hBW2 (Nat.le_refl _)) hs5).mono ?_;rintro e w3 ⟨v3,he,HD3,ht3,ho3,hn3,hb3⟩
 have HT3:=Lib.hid ht3
 have HN3:=Lib.hid hn3
 obtain⟨A3,q3,l3,rfl,-,-⟩:=ht3.lst_ Tryz.underlying39 (k:=6) (by kernel_rfl)
 obtain rfl:e=.returned (.slice A3 l3.length q3):=he
 clear hn3 ht3
 have B0_3:=(hb3.block (w.heap.size) (by omega)).trans A0_2
 have B1_3:=(hb3.block (w.heap.size+1) (by omega)).trans A1_2
 have B2_3:=(hb3.block (w.heap.size+1+1) (by omega)).trans A2_2
 have hz3:=hb3.size
 have hB3:Below w.heap.size w w3:=hBW2.trans (hb3.mono (by omega))
 have ho1:=ho1.below hb3 (by omega)
 have ho2:=ho2.below hb3 (by omega)
 have ho3:=ho3.wider (lo':=w2.heap.size) (by omega) (Nat.le_refl _)
 clear A0_2 A1_2 A2_2
 have c3_0:w3.cell? ⟨w.heap.size,0,none⟩=some (.int .i64 x0):=zi1 B0_3 rfl
 have c3_1:w3.cell? ⟨w.heap.size,1,none⟩=some (.string x1):=zi1 B0_3 rfl
 have c3_2:w3.cell? ⟨w.heap.size,2,none⟩=some (.string x2):=zi1 B0_3 rfl
 have c3_3:w3.cell? ⟨w.heap.size,3,none⟩=some (.slice x3A x3l.length x3c):=zi1 B0_3 rfl
 have c3_4:w3.cell? ⟨w.heap.size,4,none⟩=some (.slice x4A x4l.length x4c):=zi1 B0_3 rfl
 have c3_5:w3.cell? ⟨w.heap.size,5,none⟩=some (.slice x5A x5l.length x5c):=zi1 B0_3 rfl
 have d3_0:w3.cell? ⟨w.heap.size+1+1,0,none⟩=some (.int .i64 x0):=zi1 B2_3 rfl
 have d3_1:w3.cell? ⟨w.heap.size+1+1,1,none⟩=some (.string x1):=zi1 B2_3 rfl
 have d3_2:w3.cell? ⟨w.heap.size+1+1,2,none⟩=some (.string x2):=zi1 B2_3 rfl
 have d3_3:w3.cell? ⟨w.heap.size+1+1,3,none⟩=some (.slice A1 l1.length q1):=zi1 B2_3 rfl
 have d3_4:w3.cell? ⟨w.heap.size+1+1,4,none⟩=some (.slice A2 l2.length q2):=zi1 B2_3 rfl
 have d3_5:w3.cell? ⟨w.heap.size+1+1,5,none⟩=some (.slice none 0 0):=zi1 B2_3 rfl
 have f3:=zc5 B2_3
 have r0':=zi1 B1_3 (o:=0) rfl;have r1':=zi1 B1_3 (o:=1) rfl;have r2':=zi1 B1_3 (o:=2) rfl;have r3':=zi1 B1_3 (o:=3) rfl;have r4':=zi1 B1_3 (o:=4) rfl;have r5':=zi1 B1_3 (o:=5) rfl
 have fr':=zc5 B1_3
 go_wp2
 have OWN:Owns w3 (w.heap.size+1+1+1) w3.heap.size [(E.int .i64 x0),(E.str x1),(E.str x2),(E.lst 4 45 A1 q1 l1),(E.lst 6 71 A2 q2 l2),(E.lst 6 71 A3 q3 l3)]:=(Owns.leaf rfl (by simp only [E.Ho]) (Owns.leaf rfl (by simp only [E.Ho]) (Owns.leaf rfl (by simp only [E.Ho]) (Owns.cons (mid:=w1.heap.size) ho1 HN1.out (Owns.cons (mid:=w2.heap.size) ho2 HN2.out (Owns.cons (mid:=w3.heap.size) ho3 HN3.out Owns.nil (by omega) (by omega)) (by omega) (by omega)) (by omega) (by omega)))))
 refine bodyPost_ret (v:=.agg #[.int .i64 x0,.string x1,.string x2,.slice A1 l1.length q1,.slice A2 l2.length q2,.slice A3 l3.length q3]) (zk7 (t:=71) (fr:=(0,0)) rfl rfl Tryz.underlying71 (by kernel_rfl) ?_) rfl ⟨(E.agg [(E.int .i64 x0),(E.str x1),(E.str x2),(E.lst 4 45 A1 q1 l1),(E.lst 6 71 A2 q2 l2),(E.lst 6 71 A3 q3 l3)]),rfl,?_,E.Ty.mk_agg Tryz.underlying71 (E.TyF.mk_cons (show E.Ty _ _ _ from ⟨Tryz.underlying3,gx0⟩) (E.TyF.mk_cons (show E.Ty _ _ _ from ⟨Tryz.underlying9,by unfold maxLen;exact gx1⟩) (E.TyF.mk_cons (show E.Ty _ _ _ from ⟨Tryz.underlying9,by unfold maxLen;exact gx2⟩) (E.TyF.mk_cons HT1.out (E.TyF.mk_cons HT2.out (E.TyF.mk_cons HT3.out (E.TyF.mk_nil))))))),?_,?_,?_⟩
 ·simp only [zt4,B1_3,B2_3];simp [setAt]
 ·show E.d _=E.d _
  simp only [E.d,E.dL]
  have y1:=HD1.out;simp only [E.d,E.dL] at y1
  have y2:=HD2.out;simp only [E.d,E.dL] at y2
  have y3:=HD3.out;simp only [E.d,E.dL] at y3
  simp only [E.agg.injEq,List.cons.injEq,E.lst.injEq,E.int.injEq,E.str.injEq,E.bool.injEq,true_and,and_true] at *
  simp [*]
 ·exact ((E.Ho.mk_agg OWN.1).kp (lo':=w.heap.size+1) (hi':=w.heap.size+1+1+1) (by repeat (first|(with_reducible exact Kp.refl _ _ _)|(refine Kp.set ?_ (by first|omega|(dsimp only;omega)|(simp;omega)) (by first|omega|(dsimp only;omega)|(simp;omega)) _))) (.inr (by omega))).wider (by omega) (by simp)
 ·exact OWN.2
 ·exact hB3.trans (Kp.below (lo:=w.heap.size+1) (hi:=w.heap.size+1+1+1) (by repeat (first|(with_reducible exact Kp.refl _ _ _)|(refine Kp.set ?_ (by first|omega|(dsimp only;omega)|(simp;omega)) (by first|omega|(dsimp only;omega)|(simp;omega)) _))) (by omega) (by omega))
theorem einfoStmt:(Tryz.prog.info? 71).map (fun i=>(i.zero,i.size,i.bytes))=some (some (.agg #[.int .i64 0,.string ByteArray.empty,.string ByteArray.empty,.slice none 0 0,.slice none 0 0,.slice none 0 0]),6,112):=by kernel_rfl
set_option maxRecDepth 100000 in
set_option maxHeartbeats 1000000 in
theorem toStmtS_step' (A:Option Addr)(c:Nat)(l:List E)(h1:∀y∈l,y.Ty Tryz.prog 111)(ih:∀y∈l,y.Ty Tryz.prog 111→To 86 71 y):To 57 39 (.lst 6 111 A c l):=by
 intro w hr hsz
 have hs:=hr.sl
 have eS:(E.lst 6 111 A c l).sz=l.length+E.szL l:=rfl
 have hn:l.length≤1048576:=by omega
 have HS:=Lib.hid (show l.length+E.szL l≤1048576 by omega)
 clear eS hsz
 have hmk:=zu22 Tryz.underlying39 einfoStmt l.length (by omega) (by omega)
 have hF:=Fill.new w 71 #[.int .i64 0,.string ByteArray.empty,.string ByteArray.empty,.slice none 0 0,.slice none 0 0,.slice none 0 0] (l.length*6) ([]:List Value)
 change Calls _ _ #[.slice A l.length c] w _
 go_enter Tryz.func57,Tryz.ntmps57
 go_wp2
 go_loopw [4] (fun i wr=>∃(k:Nat) (us:List E),k≤l.length∧i=.int .i64 k∧Hid (us.length=k)∧Hid (us.map E.d=(l.take k).map E.d)∧Hid (∀u∈us,u.Ty Tryz.prog 71∧u.enc.length=6)∧Fill wr w.heap.size 71 (l.length*6) (k*6) (E.encL us)∧w.heap.size+1≤wr.heap.size∧Hid (∀u∈us,u.Ho wr (w.heap.size+1) wr.heap.size)∧Hid ((E.fpL us).Nodup)∧Below w.heap.size w wr) (fun i _=>l.length-(intOf i).toNat)
 case atStart=>exact⟨0,[],Nat.zero_le _,rfl,rfl,rfl,(fun u hu=>absurd hu List.not_mem_nil),by exact hF,by simp,(fun u hu=>absurd hu List.not_mem_nil),(by show List.Nodup _;simp [E.fpL]),by exact by0⟩
 case round =>
  obtain⟨k,us,hk,rfl,HL,HD,HT,hf,hge,HO,HN,hb⟩:=hrel
  by_cases hlt:k<l.length
  ·have hs':=hs.below hb (Nat.le_refl _)
   have hzb:=hb.size
   have hmem:=List.getElem_mem hlt
   have hin:=(hr.el hmem).below hb (Nat.le_refl _)
   have H:=ih _ hmem (h1 _ hmem)
   have hsk:l[k].sz≤1048576:=by have:=E.szL_mem hmem;have:=HS.out;omega
   obtain⟨b,o,rfl,_,hc⟩:=hs'.at_ hlt
   obtain⟨y0,y1,y2,y3A,y3c,y3l,y4A,y4c,y4l,y5A,y5c,y5l,ex,gy0,gy1,gy2,gy3,gy4,gy5,-⟩:=zp4 (h1 _ hmem)
   have HEX:=Lib.hid ex
   rw [ex] at hc hin H hsk
   clear ex
   have c0:=hc 0 _ rfl;have c1:=hc 1 _ rfl;have c2:=hc 2 _ rfl;have c3:=hc 3 _ rfl;have c4:=hc 4 _ rfl;have c5:=hc 5 _ rfl
   rw [Nat.add_zero] at c0
   clear hc
   have HF:=Lib.hid hf
   clear hf
   go_wp2_with fail
   go_at_call 86
   refine (H _ hin hsk).mono ?_;rintro e w1 ⟨x,he,HDX,htx,hox,hnx,hb1⟩
   have HTX:=Lib.hid htx
   obtain⟨z0,z1,z2,z3A,z3c,z3l,z4A,z4c,z4l,z5A,z5c,z5l,rfl,gz0,gz1,gz2,gz3,gz4,gz5,-⟩:=zt1 htx
   obtain rfl:e=.returned (.agg #[.int .i64 z0,.string z1,.string z2,.slice z3A z3l.length z3c,.slice z4A z4l.length z4c,.slice z5A z5l.length z5c]):=he
   have hf1:=HF.out.below hb1 HF.out.lt
   obtain⟨u0,c0'⟩:=hf1.cell (j:=k*6) (by omega);obtain⟨u1,c1'⟩:=hf1.cell (j:=k*6+1) (by omega);obtain⟨u2,c2'⟩:=hf1.cell (j:=k*6+2) (by omega);obtain⟨u3,c3'⟩:=hf1.cell (j:=k*6+3) (by omega);obtain⟨u4,c4'⟩:=hf1.cell (j:=k*6+4) (by omega);obtain⟨u5,c5'⟩:=hf1.cell (j:=k*6+5) (by omega)
   have zfr:=hf1.frozen
   have hz1:=hb1.size
   have HOX:=Lib.hid hox
   have HNX:=Lib.hid hnx
   have HF1:=Lib.hid hf1
   clear hox hnx hf1 htx
   go_wp2
   go_roundw
   case rel =>
    have hl:=HL.out
    have hf1:=HF1.out
    have hT:∀u∈us++[(E.agg [.int .i64 z0,.str z1,.str z2,.lst 4 45 z3A z3c z3l,.lst 6 71 z4A z4c z4l,.lst 6 71 z5A z5c z5l])],u.Ty Tryz.prog 71∧u.enc.length=6:=fun u hu=>by
     rcases List.mem_append.1 hu with hu|hu
     ·exact HT.out u hu
     ·obtain rfl:=List.mem_singleton.1 hu
      exact⟨HTX.out,rfl⟩
    have hlen:=E.encL_len fun u hu=>(HT.out u hu).2
    have hk2:k<(us++[(E.agg [.int .i64 z0,.str z1,.str z2,.lst 4 45 z3A z3c z3l,.lst 6 71 z4A z4c z4l,.lst 6 71 z5A z5c z5l])]).length:=by simp;omega
    have ev:=fun j hj=>E.encL_at (fun u hu=>(hT u hu).2) k hk2 j hj
    have eT:(us++[(E.agg [.int .i64 z0,.str z1,.str z2,.lst 4 45 z3A z3c z3l,.lst 6 71 z4A z4c z4l,.lst 6 71 z5A z5c z5l])])[k]=(E.agg [.int .i64 z0,.str z1,.str z2,.lst 4 45 z3A z3c z3l,.lst 6 71 z4A z4c z4l,.lst 6 71 z5A z5c z5l]):=by rw [List.getElem_append_right (by omega)];simp [hl]
    simp only [eT] at ev
    have hf2:Fill w1 w.heap.size 71 (l.length*6) (k*6) (E.encL (us++[(E.agg [.int .i64 z0,.str z1,.str z2,.lst 4 45 z3A z3c z3l,.lst 6 71 z4A z4c z4l,.lst 6 71 z5A z5c z5l])])):=hf1.swap' fun j hj=>E.encL_app_lt us _ j (by rw [hlen,hl];exact hj)
    have K:=fun (W:World) (h:Kp w.heap.size (w.heap.size+1) w1 W) (u:E) (hu:u∈us)=>((HO.out u hu).below hb1 (Nat.le_refl _)).kp h (.inr (by omega))
    refine⟨k+1,us++[(E.agg [.int .i64 z0,.str z1,.str z2,.lst 4 45 z3A z3c z3l,.lst 6 71 z4A z4c z4l,.lst 6 71 z5A z5c z5l])],by omega,by go_num,by show _=_;simp [hl],zw18 hlt HD.out (HDX.out.trans (by rw [←HEX.out])),hT,by rw [Nat.add_mul];exact ((((((hf2.set (by omega) (ev 0 (by omega))).set (by omega) (ev 1 (by omega))).set (by omega) (ev 2 (by omega))).set (by omega) (ev 3 (by omega))).set (by omega) (ev 4 (by omega))).set (by omega) (ev 5 (by omega))),by simp;omega,?_,?_,by exact by0⟩
    ·intro u hu
     rcases List.mem_append.1 hu with hu|hu
     ·exact (K _ (by repeat (first|(with_reducible exact Kp.refl _ _ _)|(refine Kp.set ?_ (by first|omega|(dsimp only;omega)|(simp;omega)) (by first|omega|(dsimp only;omega)|(simp;omega)) _))) u hu).wider (Nat.le_refl _) (by simp;omega)
     ·obtain rfl:=List.mem_singleton.1 hu
      exact (HOX.out.kp (lo':=w.heap.size) (hi':=w.heap.size+1) (by repeat (first|(with_reducible exact Kp.refl _ _ _)|(refine Kp.set ?_ (by first|omega|(dsimp only;omega)|(simp;omega)) (by first|omega|(dsimp only;omega)|(simp;omega)) _))) (.inr (by omega))).wider (by omega) (by simp)
    ·refine zm6 HN.out HNX.out fun g hg hg2=>?_
     obtain⟨u,hu,hg⟩:=E.mem_fpL.1 hg
     have:=(HO.out u hu).lt g hg
     have:=HOX.out.lt g hg2
     omega
   case measure=>simp [intOf];omega
  ·have hk':k=l.length:=by omega
   subst hk'
   go_wp2
   go_ret
   have hl:=HL.out
   have hTy:=HT.out
   have own:wr.ownsRow w.heap.size 71 6 (.slice (some ⟨w.heap.size,0,none⟩) l.length l.length) l.length (E.encL us):=hf.owns (Nat.le_refl _) rfl (by rw [E.encL_len fun u hu=>(hTy u hu).2,hl]) (by unfold maxLen;omega)
   rw [←hl] at own
   refine⟨.lst 6 71 (some ⟨w.heap.size,0,none⟩) us.length us,by rw [←hl];rfl,?_,E.Ty.mk_lst Tryz.underlying39 (by kernel_rfl) (fun u hu=>(hTy u hu).1) (fun u hu=>(hTy u hu).2),E.Ho.mk (Ow.of_owns own (Nat.le_refl _)) (fun u hu=>(hTy u hu).2) (fun u hu=>(HO.out u hu).wider (by omega) (Nat.le_refl _)),?_,hb⟩
   ·show E.d _=E.d _
    rw [zw11]
    have h:=HD.out
    rwa [List.take_length] at h
   ·simp only [E.fp,List.singleton_append,List.nodup_cons]
    refine⟨fun hm=>?_,HN.out⟩
    obtain⟨u,hu,hg⟩:=E.mem_fpL.1 hm
    have:=(HO.out u hu).lt _ hg
    omega
theorem zd16 {e:E}(ht:e.Ty Tryz.prog 58)(ih:∀y:E,y∈e.elems→y.Ty Tryz.prog 111→To 86 71 y):To 57 39 e:=by
 obtain⟨A,c,l,rfl,h1,_⟩:=ht.lst_ Tryz.underlying58 (k:=6) (by kernel_rfl)
 exact toStmtS_step' A c l h1 ih
theorem zj18:∀e:E,(e.Ty Tryz.prog 111→To 86 71 e)∧(e.Ty Tryz.prog 58→To 57 39 e):=by
 intro e
 induction e using E.ind with
 | h1|h2|h3=>exact⟨(fun h=>by obtain⟨_,h,_⟩:=h.agg_ Tryz.underlying111;cases h),(fun h=>by obtain⟨_,_,_,h,_⟩:=h.lst_ Tryz.underlying58 rfl;cases h)⟩
 | h4 fs ih=>exact⟨fun h=>zi18 h (fun s hs hm=>(ih s hm).2 hs),(fun h=>by obtain⟨_,_,_,h,_⟩:=h.lst_ Tryz.underlying58 rfl;cases h)⟩
 | h5 k T A c l ih=>exact⟨(fun h=>by obtain⟨_,h,_⟩:=h.agg_ Tryz.underlying111;cases h),fun h=>zd16 h (fun y hm hy=>(ih y hm).1 hy)⟩
theorem zl11 {e:E}(ht:e.Ty Tryz.prog 58):To 57 39 e:=(zj18 e).2 ht
set_option maxRecDepth 100000 in
set_option maxHeartbeats 1000000 in
theorem zk18 {e e':E}(ht:e.Ty Tryz.prog 71)(ht':e'.Ty Tryz.prog 71)(ih:∀s:E,s.Ty Tryz.prog 39→s∈e.subs→∀s':E,s'.Ty Tryz.prog 39→Eq 74 s s'):Eq 99 e e':=by
 obtain⟨x0,x1,x2,x3A,x3c,x3l,x4A,x4c,x4l,x5A,x5c,x5l,rfl,gx0,gx1,gx2,gx3,gx4,gx5,-⟩:=zt1 ht
 obtain⟨y0,y1,y2,y3A,y3c,y3l,y4A,y4c,y4l,y5A,y5c,y5l,rfl,gy0,gy1,gy2,gy3,gy4,gy5,-⟩:=zt1 ht'
 intro hd w hr hr'
 simp only [E.d,E.dL,E.agg.injEq,List.cons.injEq,E.int.injEq,E.str.injEq,E.bool.injEq,E.lst.injEq,true_and,and_true] at hd
 obtain⟨rfl,rfl,rfl,hd3,hd4,hd5⟩:=hd
 have hr3:=((hr.fld (i:=3) rfl).alloc (.cells #[.int .i64 x0,.string x1,.string x2,.slice x3A x3l.length x3c,.slice x4A x4l.length x4c,.slice x5A x5l.length x5c] 71)).alloc (.cells #[.int .i64 x0,.string x1,.string x2,.slice y3A y3l.length y3c,.slice y4A y4l.length y4c,.slice y5A y5l.length y5c] 71)
 have hs3:=((hr'.fld (i:=3) rfl).alloc (.cells #[.int .i64 x0,.string x1,.string x2,.slice x3A x3l.length x3c,.slice x4A x4l.length x4c,.slice x5A x5l.length x5c] 71)).alloc (.cells #[.int .i64 x0,.string x1,.string x2,.slice y3A y3l.length y3c,.slice y4A y4l.length y4c,.slice y5A y5l.length y5c] 71)
 have t3:(E.lst 4 45 x3A x3c x3l).Ty Tryz.prog 43:=E.Ty.mk_lst Tryz.underlying43 (by kernel_rfl) gx3.1 gx3.2
 have u3:(E.lst 4 45 y3A y3c y3l).Ty Tryz.prog 43:=E.Ty.mk_lst Tryz.underlying43 (by kernel_rfl) gy3.1 gy3.2
 have HC3:=Lib.hid (zf18 t3 u3 (by simp only [E.d,E.dL,E.agg.injEq,List.cons.injEq,E.int.injEq,E.str.injEq,E.bool.injEq,E.lst.injEq,true_and,and_true];exact hd3))
 clear t3 u3
 have hr4:=((hr.fld (i:=4) rfl).alloc (.cells #[.int .i64 x0,.string x1,.string x2,.slice x3A x3l.length x3c,.slice x4A x4l.length x4c,.slice x5A x5l.length x5c] 71)).alloc (.cells #[.int .i64 x0,.string x1,.string x2,.slice y3A y3l.length y3c,.slice y4A y4l.length y4c,.slice y5A y5l.length y5c] 71)
 have hs4:=((hr'.fld (i:=4) rfl).alloc (.cells #[.int .i64 x0,.string x1,.string x2,.slice x3A x3l.length x3c,.slice x4A x4l.length x4c,.slice x5A x5l.length x5c] 71)).alloc (.cells #[.int .i64 x0,.string x1,.string x2,.slice y3A y3l.length y3c,.slice y4A y4l.length y4c,.slice y5A y5l.length y5c] 71)
 have t4:(E.lst 6 71 x4A x4c x4l).Ty Tryz.prog 39:=E.Ty.mk_lst Tryz.underlying39 (by kernel_rfl) gx4.1 gx4.2
 have u4:(E.lst 6 71 y4A y4c y4l).Ty Tryz.prog 39:=E.Ty.mk_lst Tryz.underlying39 (by kernel_rfl) gy4.1 gy4.2
 have HC4:=Lib.hid (ih _ t4 (by simp [E.subs]) _ u4 (by simp only [E.d,E.dL,E.agg.injEq,List.cons.injEq,E.int.injEq,E.str.injEq,E.bool.injEq,E.lst.injEq,true_and,and_true];exact hd4))
 clear t4 u4
 have hr5:=((hr.fld (i:=5) rfl).alloc (.cells #[.int .i64 x0,.string x1,.string x2,.slice x3A x3l.length x3c,.slice x4A x4l.length x4c,.slice x5A x5l.length x5c] 71)).alloc (.cells #[.int .i64 x0,.string x1,.string x2,.slice y3A y3l.length y3c,.slice y4A y4l.length y4c,.slice y5A y5l.length y5c] 71)
 have hs5:=((hr'.fld (i:=5) rfl).alloc (.cells #[.int .i64 x0,.string x1,.string x2,.slice x3A x3l.length x3c,.slice x4A x4l.length x4c,.slice x5A x5l.length x5c] 71)).alloc (.cells #[.int .i64 x0,.string x1,.string x2,.slice y3A y3l.length y3c,.slice y4A y4l.length y4c,.slice y5A y5l.length y5c] 71)
 have t5:(E.lst 6 71 x5A x5c x5l).Ty Tryz.prog 39:=E.Ty.mk_lst Tryz.underlying39 (by kernel_rfl) gx5.1 gx5.2
 have u5:(E.lst 6 71 y5A y5c y5l).Ty Tryz.prog 39:=E.Ty.mk_lst Tryz.underlying39 (by kernel_rfl) gy5.1 gy5.2
 have HC5:=Lib.hid (ih _ t5 (by simp [E.subs]) _ u5 (by simp only [E.d,E.dL,E.agg.injEq,List.cons.injEq,E.int.injEq,E.str.injEq,E.bool.injEq,E.lst.injEq,true_and,and_true];exact hd5))
 clear t5 u5
 clear hd3 hd4 hd5
 change Calls _ _ #[.agg #[.int .i64 x0,.string x1,.string x2,.slice x3A x3l.length x3c,.slice x4A x4l.length x4c,.slice x5A x5l.length x5c],.agg #[.int .i64 x0,.string x1,.string x2,.slice y3A y3l.length y3c,.slice y4A y4l.length y4c,.slice y5A y5l.length y5c]] w _
 go_enter Tryz.func99,Tryz.ntmps99
 go_wp2_with fail
 go_at_call 98
 refine (HC3.out _ hr3 hs3).mono ?_;rintro e w1 ⟨rfl,hb1⟩
 have hz1:=hb1.size;(try simp only [World.size_alloc] at hz1)
 have c1_4:w1.cell? ⟨w.heap.size,4,none⟩=some (.slice x4A x4l.length x4c):=zo1 hb1 (zo3 (zg4 rfl) (by simp)) (by simp;omega)
 have d1_4:w1.cell? ⟨w.heap.size+1,4,none⟩=some (.slice y4A y4l.length y4c):=zo1 hb1 (cell_new' rfl (by simp)) (by simp)
 have c1_5:w1.cell? ⟨w.heap.size,5,none⟩=some (.slice x5A x5l.length x5c):=zo1 hb1 (zo3 (zg4 rfl) (by simp)) (by simp;omega)
 have d1_5:w1.cell? ⟨w.heap.size+1,5,none⟩=some (.slice y5A y5l.length y5c):=zo1 hb1 (cell_new' rfl (by simp)) (by simp)
 have hr4:=hr4.below hb1 (by first|exact Nat.le_refl _|simp)
 have hs4:=hs4.below hb1 (by first|exact Nat.le_refl _|simp)
 have hr5:=hr5.below hb1 (by first|exact Nat.le_refl _|simp)
 have hs5:=hs5.below hb1 (by first|exact Nat.le_refl _|simp)
 go_wp2_with fail
 go_at_call 74
 refine (HC4.out _ hr4 hs4).mono ?_;rintro e w2 ⟨rfl,hb2⟩
 have hz2:=hb2.size;(try simp only [World.size_alloc] at hz2)
 have c2_5:=zo1 hb2 c1_5 (by omega)
 have d2_5:=zo1 hb2 d1_5 (by omega)
 clear c1_4 d1_4 c1_5 d1_5
 have hr5:=hr5.below hb2 (by first|exact Nat.le_refl _|simp)
 have hs5:=hs5.below hb2 (by first|exact Nat.le_refl _|simp)
 go_wp2_with fail
 go_at_call 74
 refine (HC5.out _ hr5 hs5).mono ?_;rintro e w3 ⟨rfl,hb3⟩
 have hz3:=hb3.size;(try simp only [World.size_alloc] at hz3)
 clear c2_5 d2_5
 go_wp2
 go_ret
 exact⟨rfl,by0⟩
set_option maxRecDepth 100000 in
set_option maxHeartbeats 1000000 in
theorem eqStmtS_step' (A B:Option Addr)(c c':Nat)(l m:List E)(h1:∀y∈l,y.Ty Tryz.prog 71)(h2:∀y∈m,y.Ty Tryz.prog 71)(ih:∀y∈l,y.Ty Tryz.prog 71→∀y':E,y'.Ty Tryz.prog 71→Eq 99 y y'):Eq 74 (.lst 6 71 A c l) (.lst 6 71 B c' m):=by
 intro hd w hr hr'
 rw [zw11] at hd
 have hs:=hr.sl
 have hs':=hr'.sl
 have hml:=zy22 hd
 have HD:=Lib.hid hd
 clear hd
 have hlen:=hs.len_le
 change Calls _ _ #[.slice A l.length c,.slice B m.length c'] w _
 obtain⟨N,HN⟩:∃N,Hid (m.length=N):=⟨_,rfl⟩
 have hN:N=l.length:=by have:=HN.out;omega
 subst hN
 rw [HN.out]
 clear hml
 go_enter Tryz.func74,Tryz.ntmps74
 go_wp2
 go_loopw [5] (fun i wr=>∃(k:Nat),k≤l.length∧i=.int .i64 k∧Below w.heap.size w wr) (fun i _=>l.length-(intOf i).toNat)
 case atStart=>exact⟨0,Nat.zero_le _,rfl,Below.refl _ _⟩
 case round =>
  obtain⟨k,hk,rfl,hb⟩:=hrel
  by_cases hlt:k<l.length
  ·have hltm:k<m.length:=by have:=HN.out;omega
   have hsb:=hs.below hb (Nat.le_refl _)
   have hsb':=hs'.below hb (Nat.le_refl _)
   have hdk:=d_at HD.out hlt hltm
   obtain⟨b,o,rfl,_,hc⟩:=hsb.at_ hlt
   obtain⟨b',o',rfl,_,hd⟩:=hsb'.at_ hltm
   have hin:=(hr.el (List.getElem_mem hlt)).below hb (Nat.le_refl _)
   have hin':=(hr'.el (List.getElem_mem hltm)).below hb (Nat.le_refl _)
   have H:=ih _ (List.getElem_mem hlt) (h1 _ (List.getElem_mem hlt)) _ (h2 _ (List.getElem_mem hltm)) hdk
   obtain⟨x0,x1,x2,x3A,x3c,x3l,x4A,x4c,x4l,x5A,x5c,x5l,ex,gx0,gx1,gx2,gx3,gx4,gx5,-⟩:=zt1 (h1 _ (List.getElem_mem hlt))
   obtain⟨y0,y1,y2,y3A,y3c,y3l,y4A,y4c,y4l,y5A,y5c,y5l,ey,gy0,gy1,gy2,gy3,gy4,gy5,-⟩:=zt1 (h2 _ (List.getElem_mem hltm))
   rw [ex] at hc hin
   rw [ey] at hd hin'
   rw [ex,ey] at H
   clear ex ey hdk
   have c0:=hc 0 _ rfl;have c1:=hc 1 _ rfl;have c2:=hc 2 _ rfl;have c3:=hc 3 _ rfl;have c4:=hc 4 _ rfl;have c5:=hc 5 _ rfl
   have d0:=hd 0 _ rfl;have d1:=hd 1 _ rfl;have d2:=hd 2 _ rfl;have d3:=hd 3 _ rfl;have d4:=hd 4 _ rfl;have d5:=hd 5 _ rfl
   rw [Nat.add_zero] at c0 d0
   clear hc hd
   have hzb:=hb.size
   have HH:=Lib.hid H
   clear H
   go_wp2
   go_region_held3 (fun w'=>w'.cell? ⟨b,o+k*6,none⟩=some (.int .i64 x0)∧w'.cell? ⟨b,o+k*6+1,none⟩=some (.string x1)∧w'.cell? ⟨b,o+k*6+2,none⟩=some (.string x2)∧w'.cell? ⟨b,o+k*6+3,none⟩=some (.slice x3A x3l.length x3c)∧w'.cell? ⟨b,o+k*6+4,none⟩=some (.slice x4A x4l.length x4c)∧w'.cell? ⟨b,o+k*6+5,none⟩=some (.slice x5A x5l.length x5c)∧w'.cell? ⟨b',o'+k*6,none⟩=some (.int .i64 y0)∧w'.cell? ⟨b',o'+k*6+1,none⟩=some (.string y1)∧w'.cell? ⟨b',o'+k*6+2,none⟩=some (.string y2)∧w'.cell? ⟨b',o'+k*6+3,none⟩=some (.slice y3A y3l.length y3c)∧w'.cell? ⟨b',o'+k*6+4,none⟩=some (.slice y4A y4l.length y4c)∧w'.cell? ⟨b',o'+k*6+5,none⟩=some (.slice y5A y5l.length y5c))
    (first|exact⟨c0,c1,c2,c3,c4,c5,d0,d1,d2,d3,d4,d5⟩|skip)
    ((go_at_call 99;refine (HH.out _ by2 by2).mono ?_;rintro e w1 ⟨rfl,hb1⟩;have c0:=zo1 hb1 c0 by1;have c1:=zo1 hb1 c1 by1;have c2:=zo1 hb1 c2 by1;have c3:=zo1 hb1 c3 by1;have c4:=zo1 hb1 c4 by1;have c5:=zo1 hb1 c5 by1;have d0:=zo1 hb1 d0 by1;have d1:=zo1 hb1 d1 by1;have d2:=zo1 hb1 d2 by1;have d3:=zo1 hb1 d3 by1;have d4:=zo1 hb1 d4 by1;have d5:=zo1 hb1 d5 by1))
   go_wp2
   go_roundw
   case rel=>exact⟨k+1,by omega,by go_num,by exact by0⟩
   case measure=>simp [intOf];omega
  ·go_wp2
   go_ret
   exact⟨rfl,hb⟩
theorem ze16 {e e':E}(ht:e.Ty Tryz.prog 39)(ht':e'.Ty Tryz.prog 39)(ih:∀y:E,y∈e.elems→y.Ty Tryz.prog 71→∀y':E,y'.Ty Tryz.prog 71→Eq 99 y y'):Eq 74 e e':=by
 obtain⟨A,c,l,rfl,h1,_⟩:=ht.lst_ Tryz.underlying39 (k:=6) (by kernel_rfl)
 obtain⟨B,c',m,rfl,h2,_⟩:=ht'.lst_ Tryz.underlying39 (k:=6) (by kernel_rfl)
 exact eqStmtS_step' A B c c' l m h1 h2 ih
theorem zl18:∀e:E,(e.Ty Tryz.prog 71→∀e':E,e'.Ty Tryz.prog 71→Eq 99 e e')∧(e.Ty Tryz.prog 39→∀e':E,e'.Ty Tryz.prog 39→Eq 74 e e'):=by
 intro e
 induction e using E.ind with
 | h1|h2|h3=>exact⟨(fun h=>by obtain⟨_,h,_⟩:=h.agg_ Tryz.underlying71;cases h),(fun h=>by obtain⟨_,_,_,h,_⟩:=h.lst_ Tryz.underlying39 rfl;cases h)⟩
 | h4 fs ih=>exact⟨fun h e' h'=>zk18 h h' (fun s hs hm=>(ih s hm).2 hs),(fun h=>by obtain⟨_,_,_,h,_⟩:=h.lst_ Tryz.underlying39 rfl;cases h)⟩
 | h5 k T A c l ih=>exact⟨(fun h=>by obtain⟨_,h,_⟩:=h.agg_ Tryz.underlying71;cases h),fun h e' h'=>ze16 h h' (fun y hm hy=>(ih y hm).1 hy)⟩
theorem zm11 {e e':E}(ht:e.Ty Tryz.prog 39)(ht':e'.Ty Tryz.prog 39):Eq 74 e e':=(zl18 e).2 ht e' ht'
end Go.Proofs.YtnjfnhoipnbpeaaGreatDoor
