/- The type Rule, and slices of it: shape; the laws' own functions. -/
import Derived.Test.YtnjfnhoipnbpeaaGreatDoorTxtPW
namespace Go.Proofs.YtnjfnhoipnbpeaaGreatDoor
open Go.RowKit
theorem zq4 {e:E}(h:e.Ty Tryz.prog 60):∃(x0:Int) (x1:Int) (x2:Int) (x3:ByteArray) (x4A:Option Addr) (x4c:Nat) (x4l:List E) (x5A:Option Addr) (x5c:Nat) (x5l:List E),e=(E.agg [.int .i64 x0,(.agg [.int .i64 x1,.int .i64 x2,.str x3,.lst 4 57 x4A x4c x4l]),.lst 6 111 x5A x5c x5l])∧((Lit.int .i64 x0).wf=true)∧((Lit.int .i64 x1).wf=true)∧((Lit.int .i64 x2).wf=true)∧(x3.size≤9223372036854775807)∧((∀y∈x4l,y.Ty Tryz.prog 57)∧(∀y∈x4l,y.enc.length=4))∧((∀y∈x5l,y.Ty Tryz.prog 111)∧(∀y∈x5l,y.enc.length=6))∧True:=by
 obtain⟨fs,rfl,q0⟩:=h.agg_ Tryz.underlying60
 change E.TyF _ _ [3,57,58] at q0
 obtain⟨e0,r0,rfl,h0,q1⟩:=q0.cons_
 obtain⟨e1,r1,rfl,h1,q2⟩:=q1.cons_
 obtain⟨e2,r2,rfl,h2,q3⟩:=q2.cons_
 obtain rfl:=q3.nil_
 obtain⟨x0,rfl,gx0⟩:=h0.int_ Tryz.underlying3
 obtain⟨x1,x2,x3,x4A,x4c,x4l,rfl,gx1,gx2,gx3,gx4,-⟩:=zc4 h1
 obtain⟨x5A,x5c,x5l,rfl,gx5,gx5'⟩:=h2.lst_ Tryz.underlying58 (k:=6) (by kernel_rfl)
 exact⟨x0,x1,x2,x3,x4A,x4c,x4l,x5A,x5c,x5l,rfl,gx0,gx1,gx2,gx3,gx4,⟨gx5,gx5'⟩,trivial⟩
theorem zw2 {e:E}(h:e.Ty Tryz.prog 47):∃(x0:Int) (x1:Int) (x2:Int) (x3:ByteArray) (x4A:Option Addr) (x4c:Nat) (x4l:List E) (x5A:Option Addr) (x5c:Nat) (x5l:List E),e=(E.agg [.int .i64 x0,(.agg [.int .i64 x1,.int .i64 x2,.str x3,.lst 4 45 x4A x4c x4l]),.lst 6 71 x5A x5c x5l])∧((Lit.int .i64 x0).wf=true)∧((Lit.int .i64 x1).wf=true)∧((Lit.int .i64 x2).wf=true)∧(x3.size≤9223372036854775807)∧((∀y∈x4l,y.Ty Tryz.prog 45)∧(∀y∈x4l,y.enc.length=4))∧((∀y∈x5l,y.Ty Tryz.prog 71)∧(∀y∈x5l,y.enc.length=6))∧True:=by
 obtain⟨fs,rfl,q0⟩:=h.agg_ Tryz.underlying47
 change E.TyF _ _ [3,45,39] at q0
 obtain⟨e0,r0,rfl,h0,q1⟩:=q0.cons_
 obtain⟨e1,r1,rfl,h1,q2⟩:=q1.cons_
 obtain⟨e2,r2,rfl,h2,q3⟩:=q2.cons_
 obtain rfl:=q3.nil_
 obtain⟨x0,rfl,gx0⟩:=h0.int_ Tryz.underlying3
 obtain⟨x1,x2,x3,x4A,x4c,x4l,rfl,gx1,gx2,gx3,gx4,-⟩:=zh1 h1
 obtain⟨x5A,x5c,x5l,rfl,gx5,gx5'⟩:=h2.lst_ Tryz.underlying39 (k:=6) (by kernel_rfl)
 exact⟨x0,x1,x2,x3,x4A,x4c,x4l,x5A,x5c,x5l,rfl,gx0,gx1,gx2,gx3,gx4,⟨gx5,gx5'⟩,trivial⟩
set_option maxRecDepth 100000 in
set_option maxHeartbeats 1000000 in
theorem zv21 {e:E}(ht:e.Ty Tryz.prog 60):Sz 22 e:=by
 obtain⟨x0,x1,x2,x3,x4A,x4c,x4l,x5A,x5c,x5l,rfl,gx0,gx1,gx2,gx3,gx4,gx5,-⟩:=zq4 ht
 intro left w hr h0 h1
 have HSZ:Hid ((E.agg [.int .i64 x0,(.agg [.int .i64 x1,.int .i64 x2,.str x3,.lst 4 57 x4A x4c x4l]),.lst 6 111 x5A x5c x5l]).sz=(0+((E.agg [.int .i64 x1,.int .i64 x2,.str x3,.lst 4 57 x4A x4c x4l]).sz+((E.lst 6 111 x5A x5c x5l).sz+0)))):=rfl
 change Calls _ _ #[.agg #[.int .i64 x0,.int .i64 x1,.int .i64 x2,.string x3,.slice x4A x4l.length x4c,.slice x5A x5l.length x5c],.int .i64 left] w _
 have hr1:=(hr.fld (i:=1) rfl).alloc (.cells #[.int .i64 x0,.int .i64 x1,.int .i64 x2,.string x3,.slice x4A x4l.length x4c,.slice x5A x5l.length x5c] 60)
 have hr2:=(hr.fld (i:=2) rfl).alloc (.cells #[.int .i64 x0,.int .i64 x1,.int .i64 x2,.string x3,.slice x4A x4l.length x4c,.slice x5A x5l.length x5c] 60)
 go_enter Tryz.func22,Tryz.ntmps22
 have tyfld1:(E.agg [.int .i64 x1,.int .i64 x2,.str x3,.lst 4 57 x4A x4c x4l]).Ty Tryz.prog 57:=E.Ty.mk_agg Tryz.underlying57 (E.TyF.mk_cons (show E.Ty _ _ _ from ⟨Tryz.underlying3,gx1⟩) (E.TyF.mk_cons (show E.Ty _ _ _ from ⟨Tryz.underlying3,gx2⟩) (E.TyF.mk_cons (show E.Ty _ _ _ from ⟨Tryz.underlying9,by unfold maxLen;exact gx3⟩) (E.TyF.mk_cons (E.Ty.mk_lst Tryz.underlying55 (by kernel_rfl) gx4.1 gx4.2) (E.TyF.mk_nil)))))
 go_wp2_with fail
 go_at_call 47
 refine ((zs21 (tyfld1)) _ _ hr1 (by omega) (by omega)).mono ?_;rintro e w1 ⟨r1,rfl,hr1s,hl1,hb1⟩
 have hz1:=hb1.size;(try simp only [World.size_alloc] at hz1)
 have c1_5:w1.cell? ⟨w.heap.size,5,none⟩=some (.slice x5A x5l.length x5c):=(by repeat (first|(with_reducible assumption)|(with_reducible refine zb5 ?_)|(with_reducible refine zr4 ?_)|(with_reducible exact zg4 rfl)|(exact cell_new' rfl (by first|rfl|(simp;done)))|(with_reducible refine zo3 ?_ ?_)|(refine zo1 (by with_reducible assumption) ?_ ?_)|(refine zi8 (by with_reducible assumption) ?_ ?_)|omega|(·simp)|(·(simp;omega))))
 have hr2:=hr2.below hb1 (by first|exact Nat.le_refl _|simp)
 by_cases hn1:r1<0
 ·go_wp2
  go_ret
  exact⟨-1,rfl,.inl (by omega),by omega,by exact by0⟩
 have hq1:=hr1s.resolve_left hn1
 go_wp2_with fail
 go_at_call 48
 refine ((zk11 (E.Ty.mk_lst Tryz.underlying58 (by kernel_rfl) gx5.1 gx5.2)) _ _ hr2 (by omega) (by omega)).mono ?_;rintro e w2 ⟨r2,rfl,hr2s,hl2,hb2⟩
 have hz2:=hb2.size;(try simp only [World.size_alloc] at hz2)
 by_cases hn2:r2<0
 ·go_wp2
  go_ret
  exact⟨-1,rfl,.inl (by omega),by omega,by exact by0⟩
 have hq2:=hr2s.resolve_left hn2
 go_wp2
 go_ret
 refine⟨_,rfl,.inr ?_,by omega,by exact by0⟩
 show _=_
 rw [HSZ.out]
 have e1:=hq1.out
 have e2:=hq2.out
 push_cast
 omega
set_option maxRecDepth 100000 in
set_option maxHeartbeats 1000000 in
theorem szRuleS_all' (A:Option Addr)(c:Nat)(l:List E)(ht:∀y∈l,y.Ty Tryz.prog 60):Sz 9 (.lst 6 60 A c l):=by
 intro left w hr h0 h1
 have hs:=hr.sl
 have hlen:=hs.len_le
 have HSZ:Hid ((E.lst 6 60 A c l).sz=l.length+E.szL l):=rfl
 change Calls _ _ #[.slice A l.length c,.int .i64 left] w _
 by_cases hneg:left-l.length<0
 ·go_enter Tryz.func9,Tryz.ntmps9
  go_wp2
  go_ret
  exact⟨-1,rfl,.inl (by omega),by omega,by exact by0⟩
 go_enter Tryz.func9,Tryz.ntmps9
 go_wp2
 go_loopw [1,5] (fun v i wr=>∃(k:Nat) (cur:Int),k≤l.length∧i=.int .i64 k∧v=.int .i64 cur∧0≤cur∧cur≤left∧Hid (cur+E.szL (l.take k)+l.length=left)∧Below w.heap.size w wr) (fun _ i _=>l.length-(intOf i).toNat)
 case atStart=>exact⟨0,_,Nat.zero_le _,rfl,rfl,by omega,by omega,(by show _=_;simp [E.szL]),Below.refl _ _⟩
 case round =>
  obtain⟨k,cur,hk,rfl,rfl,hc0,hc1,HQ,hb⟩:=hrel
  have hzb:=hb.size
  by_cases hlt:k<l.length
  ·have hs':=hs.below hb (Nat.le_refl _)
   have HT:=Lib.hid (E.szL_take l k hlt)
   obtain⟨b,o,rfl,_,hc⟩:=hs'.at_ hlt
   have hin:=(hr.el (List.getElem_mem hlt)).below hb (Nat.le_refl _)
   have H:=zv21 (ht _ (List.getElem_mem hlt))
   obtain⟨y0,y1,y2,y3,y4A,y4c,y4l,y5A,y5c,y5l,ex,gy0,gy1,gy2,gy3,gy4,gy5,-⟩:=zq4 (ht _ (List.getElem_mem hlt))
   have HEX:=Lib.hid ex
   rw [ex] at hc hin H
   clear ex
   have c0:=hc 0 _ rfl;have c1:=hc 1 _ rfl;have c2:=hc 2 _ rfl;have c3:=hc 3 _ rfl;have c4:=hc 4 _ rfl;have c5:=hc 5 _ rfl
   rw [Nat.add_zero] at c0
   clear hc
   go_wp2_with fail
   go_at_call 22
   refine (H _ _ hin hc0 (by omega)).mono ?_;rintro e w1 ⟨r,rfl,hrs,hrl,hb1⟩
   by_cases hn:r<0
   ·go_wp2
    go_ret
    exact⟨-1,rfl,.inl (by omega),by omega,by exact by0⟩
   ·have HR:=hrs.resolve_left hn
    clear hrs
    go_wp2
    go_roundw
    case rel=>exact⟨k+1,r,by omega,by go_num,rfl,by omega,by omega,(by show _=_;have e1:=HQ.out;have e2:=HT.out;have e3:=HR.out;rw [HEX.out] at e2;omega),by exact by0⟩
    case measure=>simp [intOf];omega
  ·have hk':k=l.length:=by omega
   subst hk'
   go_wp2
   go_ret
   refine⟨_,rfl,.inr ?_,by omega,hb⟩
   show _=_
   have e1:=HQ.out
   rw [List.take_length] at e1
   rw [HSZ.out]
   push_cast
   omega
theorem zm18 {e:E}(ht:e.Ty Tryz.prog 22):Sz 9 e:=by
 obtain⟨A,c,l,rfl,h1,_⟩:=ht.lst_ Tryz.underlying22 (k:=6) (by kernel_rfl)
 exact szRuleS_all' A c l h1
set_option maxRecDepth 100000 in
set_option maxHeartbeats 1000000 in
theorem zw21 {e:E}(ht:e.Ty Tryz.prog 60):To 32 47 e:=by
 have HT0:=Lib.hid ht
 obtain⟨x0,x1,x2,x3,x4A,x4c,x4l,x5A,x5c,x5l,rfl,gx0,gx1,gx2,gx3,gx4,gx5,-⟩:=zq4 ht
 intro w hr hsz
 have hsz':(0+((E.agg [.int .i64 x1,.int .i64 x2,.str x3,.lst 4 57 x4A x4c x4l]).sz+((E.lst 6 111 x5A x5c x5l).sz+0)))≤1048576:=hsz
 have hs1:(E.agg [.int .i64 x1,.int .i64 x2,.str x3,.lst 4 57 x4A x4c x4l]).sz≤1048576:=by omega
 have hs2:(E.lst 6 111 x5A x5c x5l).sz≤1048576:=by omega
 clear hsz hsz'
 have hr1:=hr.fld (i:=1) rfl
 have ty1:(E.agg [.int .i64 x1,.int .i64 x2,.str x3,.lst 4 57 x4A x4c x4l]).Ty Tryz.prog 57:=E.Ty.mk_agg Tryz.underlying57 (E.TyF.mk_cons (show E.Ty _ _ _ from ⟨Tryz.underlying3,gx1⟩) (E.TyF.mk_cons (show E.Ty _ _ _ from ⟨Tryz.underlying3,gx2⟩) (E.TyF.mk_cons (show E.Ty _ _ _ from ⟨Tryz.underlying9,by unfold maxLen;exact gx3⟩) (E.TyF.mk_cons (E.Ty.mk_lst Tryz.underlying55 (by kernel_rfl) gx4.1 gx4.2) (E.TyF.mk_nil)))))
 have HC1:=Lib.hid (zt21 ty1)
 clear ty1
 have hr2:=hr.fld (i:=2) rfl
 have ty2:(E.lst 6 111 x5A x5c x5l).Ty Tryz.prog 58:=E.Ty.mk_lst Tryz.underlying58 (by kernel_rfl) gx5.1 gx5.2
 have HC2:=Lib.hid (zl11 ty2)
 clear ty2
 change Calls _ _ #[.agg #[.int .i64 x0,.int .i64 x1,.int .i64 x2,.string x3,.slice x4A x4l.length x4c,.slice x5A x5l.length x5c]] w _
 go_enter Tryz.func32,Tryz.ntmps32
 go_wp2_with fail
 go_at_call 56
 refine (HC1.out _ (((hr1.alloc _).alloc _).alloc _) hs1).mono ?_;rintro e w1 ⟨v1,he,HD1,ht1,ho1,hn1,hb1⟩
 have HT1:=Lib.hid ht1
 have HN1:=Lib.hid hn1
 obtain⟨z1_0,z1_1,z1_2,z1_3A,z1_3c,z1_3l,rfl,gz1_0,gz1_1,gz1_2,gz1_3,-⟩:=zh1 ht1
 obtain rfl:e=.returned (.agg #[.int .i64 z1_0,.int .i64 z1_1,.string z1_2,.slice z1_3A z1_3l.length z1_3c]):=he
 clear hn1 ht1
 have B0_1:w1.heap[w.heap.size]? = some (.cells #[.int .i64 x0,.int .i64 x1,.int .i64 x2,.string x3,.slice x4A x4l.length x4c,.slice x5A x5l.length x5c] 60 (0,0)):=(hb1.block (w.heap.size) (by simp;omega)).trans zv6.1
 have B1_1:w1.heap[w.heap.size+1]? = some (.cells #[.int .i64 0,.int .i64 0,.int .i64 0,.string ByteArray.empty,.slice none 0 0,.slice none 0 0] 47 (0,0)):=(hb1.block (w.heap.size+1) (by simp)).trans zv6.2.1
 have B2_1:w1.heap[w.heap.size+1+1]? = some (.cells #[.int .i64 x0,.int .i64 0,.int .i64 0,.string ByteArray.empty,.slice none 0 0,.slice none 0 0] 47 (0,0)):=(hb1.block (w.heap.size+1+1) (by simp)).trans zv6.2.2
 have hz1:=hb1.size;simp only [World.size_alloc] at hz1
 have hB1:Below w.heap.size w w1:=(by exact by0:Below w.heap.size w _).trans (hb1.mono (by simp;omega))
 have ho1:=ho1.wider (lo':=w.heap.size+1+1+1) (by simp) (Nat.le_refl _)
 have c1_0:w1.cell? ⟨w.heap.size,0,none⟩=some (.int .i64 x0):=zi1 B0_1 rfl
 have c1_1:w1.cell? ⟨w.heap.size,1,none⟩=some (.int .i64 x1):=zi1 B0_1 rfl
 have c1_2:w1.cell? ⟨w.heap.size,2,none⟩=some (.int .i64 x2):=zi1 B0_1 rfl
 have c1_3:w1.cell? ⟨w.heap.size,3,none⟩=some (.string x3):=zi1 B0_1 rfl
 have c1_4:w1.cell? ⟨w.heap.size,4,none⟩=some (.slice x4A x4l.length x4c):=zi1 B0_1 rfl
 have c1_5:w1.cell? ⟨w.heap.size,5,none⟩=some (.slice x5A x5l.length x5c):=zi1 B0_1 rfl
 have d1_0:w1.cell? ⟨w.heap.size+1+1,0,none⟩=some (.int .i64 x0):=zi1 B2_1 rfl
 have d1_1:w1.cell? ⟨w.heap.size+1+1,1,none⟩=some (.int .i64 0):=zi1 B2_1 rfl
 have d1_2:w1.cell? ⟨w.heap.size+1+1,2,none⟩=some (.int .i64 0):=zi1 B2_1 rfl
 have d1_3:w1.cell? ⟨w.heap.size+1+1,3,none⟩=some (.string ByteArray.empty):=zi1 B2_1 rfl
 have d1_4:w1.cell? ⟨w.heap.size+1+1,4,none⟩=some (.slice none 0 0):=zi1 B2_1 rfl
 have d1_5:w1.cell? ⟨w.heap.size+1+1,5,none⟩=some (.slice none 0 0):=zi1 B2_1 rfl
 have f1:=zc5 B2_1
 go_wp2_with fail
 have hK1:Kp (w.heap.size+1+1) (w.heap.size+1+1+1) w1 ((((w1.setCell ⟨w.heap.size+1+1,1,none⟩ (.int .i64 z1_0)).setCell ⟨w.heap.size+1+1,2,none⟩ (.int .i64 z1_1)).setCell ⟨w.heap.size+1+1,3,none⟩ (.string z1_2)).setCell ⟨w.heap.size+1+1,4,none⟩ (.slice z1_3A z1_3l.length z1_3c)):=(by repeat (first|(with_reducible exact Kp.refl _ _ _)|(refine Kp.set ?_ (by first|omega|(dsimp only;omega)|(simp;omega)) (by first|omega|(dsimp only;omega)|(simp;omega)) _)))
 have A0_1:=(hK1.block (w.heap.size) (by omega) (.inl (by omega))).trans B0_1
 have A1_1:=(hK1.block (w.heap.size+1) (by omega) (.inl (by omega))).trans B1_1
 have A2_1:((((w1.setCell ⟨w.heap.size+1+1,1,none⟩ (.int .i64 z1_0)).setCell ⟨w.heap.size+1+1,2,none⟩ (.int .i64 z1_1)).setCell ⟨w.heap.size+1+1,3,none⟩ (.string z1_2)).setCell ⟨w.heap.size+1+1,4,none⟩ (.slice z1_3A z1_3l.length z1_3c)).heap[w.heap.size+1+1]? = some (.cells #[.int .i64 x0,.int .i64 z1_0,.int .i64 z1_1,.string z1_2,.slice z1_3A z1_3l.length z1_3c,.slice none 0 0] 47 (0,0)):=by simp only [zt4,B2_1];simp [setAt]
 have hW1:((((w1.setCell ⟨w.heap.size+1+1,1,none⟩ (.int .i64 z1_0)).setCell ⟨w.heap.size+1+1,2,none⟩ (.int .i64 z1_1)).setCell ⟨w.heap.size+1+1,3,none⟩ (.string z1_2)).setCell ⟨w.heap.size+1+1,4,none⟩ (.slice z1_3A z1_3l.length z1_3c)).heap.size=w1.heap.size:=by simp
 have hBW1:Below w.heap.size w ((((w1.setCell ⟨w.heap.size+1+1,1,none⟩ (.int .i64 z1_0)).setCell ⟨w.heap.size+1+1,2,none⟩ (.int .i64 z1_1)).setCell ⟨w.heap.size+1+1,3,none⟩ (.string z1_2)).setCell ⟨w.heap.size+1+1,4,none⟩ (.slice z1_3A z1_3l.length z1_3c)):=hB1.trans (hK1.below (by omega) (by omega))
 have ho1:=ho1.kp hK1 (.inr (by omega))
 clear c1_0 c1_1 c1_2 c1_3 c1_4 c1_5 d1_0 d1_1 d1_2 d1_3 d1_4 d1_5 f1 B0_1 B1_1 B2_1 hK1 hB1
 generalize ((((w1.setCell ⟨w.heap.size+1+1,1,none⟩ (.int .i64 z1_0)).setCell ⟨w.heap.size+1+1,2,none⟩ (.int .i64 z1_1)).setCell ⟨w.heap.size+1+1,3,none⟩ (.string z1_2)).setCell ⟨w.heap.size+1+1,4,none⟩ (.slice z1_3A z1_3l.length z1_3c))=W1 at *
 go_at_call 57
 refine (HC2.out _ (E.In.below hr2 hBW1 (Nat.le_refl _)) hs2).mono ?_;rintro e w2 ⟨v2,he,HD2,ht2,ho2,hn2,hb2⟩
 have HT2:=Lib.hid ht2
 have HN2:=Lib.hid hn2
 obtain⟨A2,q2,l2,rfl,-,-⟩:=ht2.lst_ Tryz.underlying39 (k:=6) (by kernel_rfl)
 obtain rfl:e=.returned (.slice A2 l2.length q2):=he
 clear hn2 ht2
 have B0_2:=(hb2.block (w.heap.size) (by omega)).trans A0_1
 have B1_2:=(hb2.block (w.heap.size+1) (by omega)).trans A1_1
 have B2_2:=(hb2.block (w.heap.size+1+1) (by omega)).trans A2_1
 have hz2:=hb2.size
 have hB2:Below w.heap.size w w2:=hBW1.trans (hb2.mono (by omega))
 have ho1:=ho1.below hb2 (by omega)
 have ho2:=ho2.wider (lo':=w1.heap.size) (by omega) (Nat.le_refl _)
 clear A0_1 A1_1 A2_1
 have c2_0:w2.cell? ⟨w.heap.size,0,none⟩=some (.int .i64 x0):=zi1 B0_2 rfl
 have c2_1:w2.cell? ⟨w.heap.size,1,none⟩=some (.int .i64 x1):=zi1 B0_2 rfl
 have c2_2:w2.cell? ⟨w.heap.size,2,none⟩=some (.int .i64 x2):=zi1 B0_2 rfl
 have c2_3:w2.cell? ⟨w.heap.size,3,none⟩=some (.string x3):=zi1 B0_2 rfl
 have c2_4:w2.cell? ⟨w.heap.size,4,none⟩=some (.slice x4A x4l.length x4c):=zi1 B0_2 rfl
 have c2_5:w2.cell? ⟨w.heap.size,5,none⟩=some (.slice x5A x5l.length x5c):=zi1 B0_2 rfl
 have d2_0:w2.cell? ⟨w.heap.size+1+1,0,none⟩=some (.int .i64 x0):=zi1 B2_2 rfl
 have d2_1:w2.cell? ⟨w.heap.size+1+1,1,none⟩=some (.int .i64 z1_0):=zi1 B2_2 rfl
 have d2_2:w2.cell? ⟨w.heap.size+1+1,2,none⟩=some (.int .i64 z1_1):=zi1 B2_2 rfl
 have d2_3:w2.cell? ⟨w.heap.size+1+1,3,none⟩=some (.string z1_2):=zi1 B2_2 rfl
 have d2_4:w2.cell? ⟨w.heap.size+1+1,4,none⟩=some (.slice z1_3A z1_3l.length z1_3c):=zi1 B2_2 rfl
 have d2_5:w2.cell? ⟨w.heap.size+1+1,5,none⟩=some (.slice none 0 0):=zi1 B2_2 rfl
 have f2:=zc5 B2_2
 have r0':=zi1 B1_2 (o:=0) rfl;have r1':=zi1 B1_2 (o:=1) rfl;have r2':=zi1 B1_2 (o:=2) rfl;have r3':=zi1 B1_2 (o:=3) rfl;have r4':=zi1 B1_2 (o:=4) rfl;have r5':=zi1 B1_2 (o:=5) rfl
 have fr':=zc5 B1_2
 go_wp2
 have OWN:Owns w2 (w.heap.size+1+1+1) w2.heap.size [(E.int .i64 x0),(E.agg [.int .i64 z1_0,.int .i64 z1_1,.str z1_2,.lst 4 45 z1_3A z1_3c z1_3l]),(E.lst 6 71 A2 q2 l2)]:=(Owns.leaf rfl (by simp only [E.Ho]) (Owns.cons (mid:=w1.heap.size) ho1 HN1.out (Owns.cons (mid:=w2.heap.size) ho2 HN2.out Owns.nil (by omega) (by omega)) (by omega) (by omega)))
 refine bodyPost_ret (v:=.agg #[.int .i64 x0,.int .i64 z1_0,.int .i64 z1_1,.string z1_2,.slice z1_3A z1_3l.length z1_3c,.slice A2 l2.length q2]) (zk7 (t:=47) (fr:=(0,0)) rfl rfl Tryz.underlying47 (by kernel_rfl) ?_) rfl ⟨(E.agg [(E.int .i64 x0),(E.agg [.int .i64 z1_0,.int .i64 z1_1,.str z1_2,.lst 4 45 z1_3A z1_3c z1_3l]),(E.lst 6 71 A2 q2 l2)]),rfl,?_,E.Ty.mk_agg Tryz.underlying47 (E.TyF.mk_cons (show E.Ty _ _ _ from ⟨Tryz.underlying3,gx0⟩) (E.TyF.mk_cons HT1.out (E.TyF.mk_cons HT2.out (E.TyF.mk_nil)))),?_,?_,?_⟩
 ·simp only [zt4,B1_2,B2_2];simp [setAt]
 ·show E.d _=E.d _
  simp only [E.d,E.dL]
  have y1:=HD1.out;simp only [E.d,E.dL] at y1
  have y2:=HD2.out;simp only [E.d,E.dL] at y2
  simp only [E.agg.injEq,List.cons.injEq,E.lst.injEq,E.int.injEq,E.str.injEq,E.bool.injEq,true_and,and_true] at *
  simp [*]
 ·exact ((E.Ho.mk_agg OWN.1).kp (lo':=w.heap.size+1) (hi':=w.heap.size+1+1+1) (by repeat (first|(with_reducible exact Kp.refl _ _ _)|(refine Kp.set ?_ (by first|omega|(dsimp only;omega)|(simp;omega)) (by first|omega|(dsimp only;omega)|(simp;omega)) _))) (.inr (by omega))).wider (by omega) (by simp)
 ·exact OWN.2
 ·exact hB2.trans (Kp.below (lo:=w.heap.size+1) (hi:=w.heap.size+1+1+1) (by repeat (first|(with_reducible exact Kp.refl _ _ _)|(refine Kp.set ?_ (by first|omega|(dsimp only;omega)|(simp;omega)) (by first|omega|(dsimp only;omega)|(simp;omega)) _))) (by omega) (by omega))
theorem einfoRule:(Tryz.prog.info? 47).map (fun i=>(i.zero,i.size,i.bytes))=some (some (.agg #[.int .i64 0,.int .i64 0,.int .i64 0,.string ByteArray.empty,.slice none 0 0,.slice none 0 0]),6,88):=by kernel_rfl
set_option maxRecDepth 100000 in
set_option maxHeartbeats 1000000 in
theorem toRuleS_all' (A:Option Addr)(c:Nat)(l:List E)(h1:∀y∈l,y.Ty Tryz.prog 60):To 14 28 (.lst 6 60 A c l):=by
 intro w hr hsz
 have hs:=hr.sl
 have eS:(E.lst 6 60 A c l).sz=l.length+E.szL l:=rfl
 have hn:l.length≤1048576:=by omega
 have HS:=Lib.hid (show l.length+E.szL l≤1048576 by omega)
 clear eS hsz
 have hmk:=zu22 Tryz.underlying28 einfoRule l.length (by omega) (by omega)
 have hF:=Fill.new w 47 #[.int .i64 0,.int .i64 0,.int .i64 0,.string ByteArray.empty,.slice none 0 0,.slice none 0 0] (l.length*6) ([]:List Value)
 change Calls _ _ #[.slice A l.length c] w _
 go_enter Tryz.func14,Tryz.ntmps14
 go_wp2
 go_loopw [4] (fun i wr=>∃(k:Nat) (us:List E),k≤l.length∧i=.int .i64 k∧Hid (us.length=k)∧Hid (us.map E.d=(l.take k).map E.d)∧Hid (∀u∈us,u.Ty Tryz.prog 47∧u.enc.length=6)∧Fill wr w.heap.size 47 (l.length*6) (k*6) (E.encL us)∧w.heap.size+1≤wr.heap.size∧Hid (∀u∈us,u.Ho wr (w.heap.size+1) wr.heap.size)∧Hid ((E.fpL us).Nodup)∧Below w.heap.size w wr) (fun i _=>l.length-(intOf i).toNat)
 case atStart=>exact⟨0,[],Nat.zero_le _,rfl,rfl,rfl,(fun u hu=>absurd hu List.not_mem_nil),by exact hF,by simp,(fun u hu=>absurd hu List.not_mem_nil),(by show List.Nodup _;simp [E.fpL]),by exact by0⟩
 case round =>
  obtain⟨k,us,hk,rfl,HL,HD,HT,hf,hge,HO,HN,hb⟩:=hrel
  by_cases hlt:k<l.length
  ·have hs':=hs.below hb (Nat.le_refl _)
   have hzb:=hb.size
   have hmem:=List.getElem_mem hlt
   have hin:=(hr.el hmem).below hb (Nat.le_refl _)
   have H:=zw21 (h1 _ hmem)
   have hsk:l[k].sz≤1048576:=by have:=E.szL_mem hmem;have:=HS.out;omega
   obtain⟨b,o,rfl,_,hc⟩:=hs'.at_ hlt
   obtain⟨y0,y1,y2,y3,y4A,y4c,y4l,y5A,y5c,y5l,ex,gy0,gy1,gy2,gy3,gy4,gy5,-⟩:=zq4 (h1 _ hmem)
   have HEX:=Lib.hid ex
   rw [ex] at hc hin H hsk
   clear ex
   have c0:=hc 0 _ rfl;have c1:=hc 1 _ rfl;have c2:=hc 2 _ rfl;have c3:=hc 3 _ rfl;have c4:=hc 4 _ rfl;have c5:=hc 5 _ rfl
   rw [Nat.add_zero] at c0
   clear hc
   have HF:=Lib.hid hf
   clear hf
   go_wp2_with fail
   go_at_call 32
   refine (H _ hin hsk).mono ?_;rintro e w1 ⟨x,he,HDX,htx,hox,hnx,hb1⟩
   have HTX:=Lib.hid htx
   obtain⟨z0,z1,z2,z3,z4A,z4c,z4l,z5A,z5c,z5l,rfl,gz0,gz1,gz2,gz3,gz4,gz5,-⟩:=zw2 htx
   obtain rfl:e=.returned (.agg #[.int .i64 z0,.int .i64 z1,.int .i64 z2,.string z3,.slice z4A z4l.length z4c,.slice z5A z5l.length z5c]):=he
   have hf1:=HF.out.below hb1 HF.out.lt
   obtain⟨u0,c0'⟩:=hf1.cell (j:=k*6) (by omega);obtain⟨u1,c1'⟩:=hf1.cell (j:=k*6+1) (by omega);obtain⟨u2,c2'⟩:=hf1.cell (j:=k*6+2) (by omega);obtain⟨u3,c3'⟩:=hf1.cell (j:=k*6+3) (by omega);obtain⟨u4,c4'⟩:=hf1.cell (j:=k*6+4) (by omega);obtain⟨u5,c5'⟩:=hf1.cell (j:=k*6+5) (by omega)
   have zfr:=hf1.frozen
   have hz1:=hb1.size
   have HOX:=Lib.hid hox
   have HNX:=Lib.hid hnx
   have HF1:=Lib.hid hf1
   clear hox hnx hf1 htx
   go_wp2
   go_roundw
   case rel =>
    have hl:=HL.out
    have hf1:=HF1.out
    have hT:∀u∈us++[(E.agg [.int .i64 z0,(.agg [.int .i64 z1,.int .i64 z2,.str z3,.lst 4 45 z4A z4c z4l]),.lst 6 71 z5A z5c z5l])],u.Ty Tryz.prog 47∧u.enc.length=6:=fun u hu=>by
     rcases List.mem_append.1 hu with hu|hu
     ·exact HT.out u hu
     ·obtain rfl:=List.mem_singleton.1 hu
      exact⟨HTX.out,rfl⟩
    have hlen:=E.encL_len fun u hu=>(HT.out u hu).2
    have hk2:k<(us++[(E.agg [.int .i64 z0,(.agg [.int .i64 z1,.int .i64 z2,.str z3,.lst 4 45 z4A z4c z4l]),.lst 6 71 z5A z5c z5l])]).length:=by simp;omega
    have ev:=fun j hj=>E.encL_at (fun u hu=>(hT u hu).2) k hk2 j hj
    have eT:(us++[(E.agg [.int .i64 z0,(.agg [.int .i64 z1,.int .i64 z2,.str z3,.lst 4 45 z4A z4c z4l]),.lst 6 71 z5A z5c z5l])])[k]=(E.agg [.int .i64 z0,(.agg [.int .i64 z1,.int .i64 z2,.str z3,.lst 4 45 z4A z4c z4l]),.lst 6 71 z5A z5c z5l]):=by rw [List.getElem_append_right (by omega)];simp [hl]
    simp only [eT] at ev
    have hf2:Fill w1 w.heap.size 47 (l.length*6) (k*6) (E.encL (us++[(E.agg [.int .i64 z0,(.agg [.int .i64 z1,.int .i64 z2,.str z3,.lst 4 45 z4A z4c z4l]),.lst 6 71 z5A z5c z5l])])):=hf1.swap' fun j hj=>E.encL_app_lt us _ j (by rw [hlen,hl];exact hj)
    have K:=fun (W:World) (h:Kp w.heap.size (w.heap.size+1) w1 W) (u:E) (hu:u∈us)=>((HO.out u hu).below hb1 (Nat.le_refl _)).kp h (.inr (by omega))
    refine⟨k+1,us++[(E.agg [.int .i64 z0,(.agg [.int .i64 z1,.int .i64 z2,.str z3,.lst 4 45 z4A z4c z4l]),.lst 6 71 z5A z5c z5l])],by omega,by go_num,by show _=_;simp [hl],zw18 hlt HD.out (HDX.out.trans (by rw [←HEX.out])),hT,by rw [Nat.add_mul];exact ((((((hf2.set (by omega) (ev 0 (by omega))).set (by omega) (ev 1 (by omega))).set (by omega) (ev 2 (by omega))).set (by omega) (ev 3 (by omega))).set (by omega) (ev 4 (by omega))).set (by omega) (ev 5 (by omega))),by simp;omega,?_,?_,by exact by0⟩
    ·intro u hu
     rcases List.mem_append.1 hu with hu|hu
     ·exact (K _ (by repeat (first|(with_reducible exact Kp.refl _ _ _)|(refine Kp.set ?_ (by first|omega|(dsimp only;omega)|(simp;omega)) (by first|omega|(dsimp only;omega)|(simp;omega)) _))) u hu).wider (Nat.le_refl _) (by simp;omega)
     ·obtain rfl:=List.mem_singleton.1 hu
      exact (HOX.out.kp (lo':=w.heap.size) (hi':=w.heap.size+1) (by repeat (first|(with_reducible exact Kp.refl _ _ _)|(refine Kp.set ?_ (by first|omega|(dsimp only;omega)|(simp;omega)) (by first|omega|(dsimp only;omega)|(simp;omega)) _))) (.inr (by omega))).wider (by omega) (by simp)
    ·refine zm6 HN.out HNX.out fun g hg hg2=>?_
     obtain⟨u,hu,hg⟩:=E.mem_fpL.1 hg
     have:=(HO.out u hu).lt g hg
     have:=HOX.out.lt g hg2
     omega
   case measure=>simp [intOf];omega
  ·have hk':k=l.length:=by omega
   subst hk'
   go_wp2
   go_ret
   have hl:=HL.out
   have hTy:=HT.out
   have own:wr.ownsRow w.heap.size 47 6 (.slice (some ⟨w.heap.size,0,none⟩) l.length l.length) l.length (E.encL us):=hf.owns (Nat.le_refl _) rfl (by rw [E.encL_len fun u hu=>(hTy u hu).2,hl]) (by unfold maxLen;omega)
   rw [←hl] at own
   refine⟨.lst 6 47 (some ⟨w.heap.size,0,none⟩) us.length us,by rw [←hl];rfl,?_,E.Ty.mk_lst Tryz.underlying28 (by kernel_rfl) (fun u hu=>(hTy u hu).1) (fun u hu=>(hTy u hu).2),E.Ho.mk (Ow.of_owns own (Nat.le_refl _)) (fun u hu=>(hTy u hu).2) (fun u hu=>(HO.out u hu).wider (by omega) (Nat.le_refl _)),?_,hb⟩
   ·show E.d _=E.d _
    rw [zw11]
    have h:=HD.out
    rwa [List.take_length] at h
   ·simp only [E.fp,List.singleton_append,List.nodup_cons]
    refine⟨fun hm=>?_,HN.out⟩
    obtain⟨u,hu,hg⟩:=E.mem_fpL.1 hm
    have:=(HO.out u hu).lt _ hg
    omega
theorem zn18 {e:E}(ht:e.Ty Tryz.prog 22):To 14 28 e:=by
 obtain⟨A,c,l,rfl,h1,_⟩:=ht.lst_ Tryz.underlying22 (k:=6) (by kernel_rfl)
 exact toRuleS_all' A c l h1
set_option maxRecDepth 100000 in
set_option maxHeartbeats 1000000 in
theorem zx21 {e e':E}(ht:e.Ty Tryz.prog 47)(ht':e'.Ty Tryz.prog 47):Eq 45 e e':=by
 obtain⟨x0,x1,x2,x3,x4A,x4c,x4l,x5A,x5c,x5l,rfl,gx0,gx1,gx2,gx3,gx4,gx5,-⟩:=zw2 ht
 obtain⟨y0,y1,y2,y3,y4A,y4c,y4l,y5A,y5c,y5l,rfl,gy0,gy1,gy2,gy3,gy4,gy5,-⟩:=zw2 ht'
 intro hd w hr hr'
 simp only [E.d,E.dL,E.agg.injEq,List.cons.injEq,E.int.injEq,E.str.injEq,E.bool.injEq,E.lst.injEq,true_and,and_true] at hd
 obtain⟨rfl,⟨rfl,rfl,rfl,hd4⟩,hd5⟩:=hd
 have hr1:=((hr.fld (i:=1) rfl).alloc (.cells #[.int .i64 x0,.int .i64 x1,.int .i64 x2,.string x3,.slice x4A x4l.length x4c,.slice x5A x5l.length x5c] 47)).alloc (.cells #[.int .i64 x0,.int .i64 x1,.int .i64 x2,.string x3,.slice y4A y4l.length y4c,.slice y5A y5l.length y5c] 47)
 have hs1:=((hr'.fld (i:=1) rfl).alloc (.cells #[.int .i64 x0,.int .i64 x1,.int .i64 x2,.string x3,.slice x4A x4l.length x4c,.slice x5A x5l.length x5c] 47)).alloc (.cells #[.int .i64 x0,.int .i64 x1,.int .i64 x2,.string x3,.slice y4A y4l.length y4c,.slice y5A y5l.length y5c] 47)
 have t1:(E.agg [.int .i64 x1,.int .i64 x2,.str x3,.lst 4 45 x4A x4c x4l]).Ty Tryz.prog 45:=E.Ty.mk_agg Tryz.underlying45 (E.TyF.mk_cons (show E.Ty _ _ _ from ⟨Tryz.underlying3,gx1⟩) (E.TyF.mk_cons (show E.Ty _ _ _ from ⟨Tryz.underlying3,gx2⟩) (E.TyF.mk_cons (show E.Ty _ _ _ from ⟨Tryz.underlying9,by unfold maxLen;exact gx3⟩) (E.TyF.mk_cons (E.Ty.mk_lst Tryz.underlying43 (by kernel_rfl) gx4.1 gx4.2) (E.TyF.mk_nil)))))
 have u1:(E.agg [.int .i64 x1,.int .i64 x2,.str x3,.lst 4 45 y4A y4c y4l]).Ty Tryz.prog 45:=E.Ty.mk_agg Tryz.underlying45 (E.TyF.mk_cons (show E.Ty _ _ _ from ⟨Tryz.underlying3,gx1⟩) (E.TyF.mk_cons (show E.Ty _ _ _ from ⟨Tryz.underlying3,gx2⟩) (E.TyF.mk_cons (show E.Ty _ _ _ from ⟨Tryz.underlying9,by unfold maxLen;exact gx3⟩) (E.TyF.mk_cons (E.Ty.mk_lst Tryz.underlying43 (by kernel_rfl) gy4.1 gy4.2) (E.TyF.mk_nil)))))
 have HC1:=Lib.hid (zu21 t1 u1 (by simp only [E.d,E.dL,E.agg.injEq,List.cons.injEq,E.int.injEq,E.str.injEq,E.bool.injEq,E.lst.injEq,true_and,and_true];exact hd4))
 clear t1 u1
 have hr2:=((hr.fld (i:=2) rfl).alloc (.cells #[.int .i64 x0,.int .i64 x1,.int .i64 x2,.string x3,.slice x4A x4l.length x4c,.slice x5A x5l.length x5c] 47)).alloc (.cells #[.int .i64 x0,.int .i64 x1,.int .i64 x2,.string x3,.slice y4A y4l.length y4c,.slice y5A y5l.length y5c] 47)
 have hs2:=((hr'.fld (i:=2) rfl).alloc (.cells #[.int .i64 x0,.int .i64 x1,.int .i64 x2,.string x3,.slice x4A x4l.length x4c,.slice x5A x5l.length x5c] 47)).alloc (.cells #[.int .i64 x0,.int .i64 x1,.int .i64 x2,.string x3,.slice y4A y4l.length y4c,.slice y5A y5l.length y5c] 47)
 have t2:(E.lst 6 71 x5A x5c x5l).Ty Tryz.prog 39:=E.Ty.mk_lst Tryz.underlying39 (by kernel_rfl) gx5.1 gx5.2
 have u2:(E.lst 6 71 y5A y5c y5l).Ty Tryz.prog 39:=E.Ty.mk_lst Tryz.underlying39 (by kernel_rfl) gy5.1 gy5.2
 have HC2:=Lib.hid (zm11 t2 u2 (by simp only [E.d,E.dL,E.agg.injEq,List.cons.injEq,E.int.injEq,E.str.injEq,E.bool.injEq,E.lst.injEq,true_and,and_true];exact hd5))
 clear t2 u2
 clear hd4 hd5
 change Calls _ _ #[.agg #[.int .i64 x0,.int .i64 x1,.int .i64 x2,.string x3,.slice x4A x4l.length x4c,.slice x5A x5l.length x5c],.agg #[.int .i64 x0,.int .i64 x1,.int .i64 x2,.string x3,.slice y4A y4l.length y4c,.slice y5A y5l.length y5c]] w _
 go_enter Tryz.func45,Tryz.ntmps45
 go_wp2_with fail
 go_at_call 73
 refine (HC1.out _ hr1 hs1).mono ?_;rintro e w1 ⟨rfl,hb1⟩
 have hz1:=hb1.size;(try simp only [World.size_alloc] at hz1)
 have c1_5:w1.cell? ⟨w.heap.size,5,none⟩=some (.slice x5A x5l.length x5c):=zo1 hb1 (zo3 (zg4 rfl) (by simp)) (by simp;omega)
 have d1_5:w1.cell? ⟨w.heap.size+1,5,none⟩=some (.slice y5A y5l.length y5c):=zo1 hb1 (cell_new' rfl (by simp)) (by simp)
 have hr2:=hr2.below hb1 (by first|exact Nat.le_refl _|simp)
 have hs2:=hs2.below hb1 (by first|exact Nat.le_refl _|simp)
 go_wp2_with fail
 go_at_call 74
 refine (HC2.out _ hr2 hs2).mono ?_;rintro e w2 ⟨rfl,hb2⟩
 have hz2:=hb2.size;(try simp only [World.size_alloc] at hz2)
 clear c1_5 d1_5
 go_wp2
 go_ret
 exact⟨rfl,by0⟩
set_option maxRecDepth 100000 in
set_option maxHeartbeats 1000000 in
theorem eqRuleS_all' (A B:Option Addr)(c c':Nat)(l m:List E)(h1:∀y∈l,y.Ty Tryz.prog 47)(h2:∀y∈m,y.Ty Tryz.prog 47):Eq 20 (.lst 6 47 A c l) (.lst 6 47 B c' m):=by
 intro hd w hr hr'
 rw [zw11] at hd
 have hs:=hr.sl
 have hs':=hr'.sl
 have hml:=zy22 hd
 have HD:=Lib.hid hd
 clear hd
 have hlen:=hs.len_le
 change Calls _ _ #[.slice A l.length c,.slice B m.length c'] w _
 obtain⟨N,HN⟩:∃N,Hid (m.length=N):=⟨_,rfl⟩
 have hN:N=l.length:=by have:=HN.out;omega
 subst hN
 rw [HN.out]
 clear hml
 go_enter Tryz.func20,Tryz.ntmps20
 go_wp2
 go_loopw [5] (fun i wr=>∃(k:Nat),k≤l.length∧i=.int .i64 k∧Below w.heap.size w wr) (fun i _=>l.length-(intOf i).toNat)
 case atStart=>exact⟨0,Nat.zero_le _,rfl,Below.refl _ _⟩
 case round =>
  obtain⟨k,hk,rfl,hb⟩:=hrel
  by_cases hlt:k<l.length
  ·have hltm:k<m.length:=by have:=HN.out;omega
   have hsb:=hs.below hb (Nat.le_refl _)
   have hsb':=hs'.below hb (Nat.le_refl _)
   have hdk:=d_at HD.out hlt hltm
   obtain⟨b,o,rfl,_,hc⟩:=hsb.at_ hlt
   obtain⟨b',o',rfl,_,hd⟩:=hsb'.at_ hltm
   have hin:=(hr.el (List.getElem_mem hlt)).below hb (Nat.le_refl _)
   have hin':=(hr'.el (List.getElem_mem hltm)).below hb (Nat.le_refl _)
   have H:=zx21 (h1 _ (List.getElem_mem hlt)) (h2 _ (List.getElem_mem hltm)) hdk
   obtain⟨x0,x1,x2,x3,x4A,x4c,x4l,x5A,x5c,x5l,ex,gx0,gx1,gx2,gx3,gx4,gx5,-⟩:=zw2 (h1 _ (List.getElem_mem hlt))
   obtain⟨y0,y1,y2,y3,y4A,y4c,y4l,y5A,y5c,y5l,ey,gy0,gy1,gy2,gy3,gy4,gy5,-⟩:=zw2 (h2 _ (List.getElem_mem hltm))
   rw [ex] at hc hin
   rw [ey] at hd hin'
   rw [ex,ey] at H
   clear ex ey hdk
   have c0:=hc 0 _ rfl;have c1:=hc 1 _ rfl;have c2:=hc 2 _ rfl;have c3:=hc 3 _ rfl;have c4:=hc 4 _ rfl;have c5:=hc 5 _ rfl
   have d0:=hd 0 _ rfl;have d1:=hd 1 _ rfl;have d2:=hd 2 _ rfl;have d3:=hd 3 _ rfl;have d4:=hd 4 _ rfl;have d5:=hd 5 _ rfl
   rw [Nat.add_zero] at c0 d0
   clear hc hd
   have hzb:=hb.size
   have HH:=Lib.hid H
   clear H
   go_wp2
   go_region_held3 (fun w'=>w'.cell? ⟨b,o+k*6,none⟩=some (.int .i64 x0)∧w'.cell? ⟨b,o+k*6+1,none⟩=some (.int .i64 x1)∧w'.cell? ⟨b,o+k*6+2,none⟩=some (.int .i64 x2)∧w'.cell? ⟨b,o+k*6+3,none⟩=some (.string x3)∧w'.cell? ⟨b,o+k*6+4,none⟩=some (.slice x4A x4l.length x4c)∧w'.cell? ⟨b,o+k*6+5,none⟩=some (.slice x5A x5l.length x5c)∧w'.cell? ⟨b',o'+k*6,none⟩=some (.int .i64 y0)∧w'.cell? ⟨b',o'+k*6+1,none⟩=some (.int .i64 y1)∧w'.cell? ⟨b',o'+k*6+2,none⟩=some (.int .i64 y2)∧w'.cell? ⟨b',o'+k*6+3,none⟩=some (.string y3)∧w'.cell? ⟨b',o'+k*6+4,none⟩=some (.slice y4A y4l.length y4c)∧w'.cell? ⟨b',o'+k*6+5,none⟩=some (.slice y5A y5l.length y5c))
    (first|exact⟨c0,c1,c2,c3,c4,c5,d0,d1,d2,d3,d4,d5⟩|skip)
    ((go_at_call 45;refine (HH.out _ by2 by2).mono ?_;rintro e w1 ⟨rfl,hb1⟩;have c0:=zo1 hb1 c0 by1;have c1:=zo1 hb1 c1 by1;have c2:=zo1 hb1 c2 by1;have c3:=zo1 hb1 c3 by1;have c4:=zo1 hb1 c4 by1;have c5:=zo1 hb1 c5 by1;have d0:=zo1 hb1 d0 by1;have d1:=zo1 hb1 d1 by1;have d2:=zo1 hb1 d2 by1;have d3:=zo1 hb1 d3 by1;have d4:=zo1 hb1 d4 by1;have d5:=zo1 hb1 d5 by1))
   go_wp2
   go_roundw
   case rel=>exact⟨k+1,by omega,by go_num,by exact by0⟩
   case measure=>simp [intOf];omega
  ·go_wp2
   go_ret
   exact⟨rfl,hb⟩
theorem zo18 {e e':E}(ht:e.Ty Tryz.prog 28)(ht':e'.Ty Tryz.prog 28):Eq 20 e e':=by
 obtain⟨A,c,l,rfl,h1,_⟩:=ht.lst_ Tryz.underlying28 (k:=6) (by kernel_rfl)
 obtain⟨B,c',m,rfl,h2,_⟩:=ht'.lst_ Tryz.underlying28 (k:=6) (by kernel_rfl)
 exact eqRuleS_all' A B c c' l m h1 h2
end Go.Proofs.YtnjfnhoipnbpeaaGreatDoor
