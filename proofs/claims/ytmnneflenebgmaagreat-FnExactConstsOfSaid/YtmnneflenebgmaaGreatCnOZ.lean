/- T -/
import Derived.Test.YtmnneflenebgmaaGreatCnOY
set_option maxHeartbeats 0
set_option maxRecDepth 100000
namespace Go.Proofs.YtmnneflenebgmaaGreat
open Go.RowKit Go.Proofs.Tryz
theorem dW {e:E}(h:e.Ty prog 155):∃(x0:Int) (x1:Int) (x2:Int) (x3:ByteArray) (x4A:Option Addr) (x4c:Nat) (x4l:List E) (x5A:Option Addr) (x5c:Nat) (x5l:List E),e=(E.agg [.int .i64 x0,(.agg [.int .i64 x1,.int .i64 x2,.str x3,.lst 4 152 x4A x4c x4l]),.lst 6 227 x5A x5c x5l])∧((Lit.int .i64 x0).wf=true)∧((Lit.int .i64 x1).wf=true)∧((Lit.int .i64 x2).wf=true)∧(x3.size≤9223372036854775807)∧((∀y∈x4l,y.Ty prog 152)∧(∀y∈x4l,y.enc.length=4))∧((∀y∈x5l,y.Ty prog 227)∧(∀y∈x5l,y.enc.length=6))∧True:=by
 obtain⟨fs,rfl,q0⟩:=h.agg_ underlying155
 change E.TyF _ _ [3,152,153] at q0
 obtain⟨e0,r0,rfl,h0,q1⟩:=q0.cons_
 obtain⟨e1,r1,rfl,h1,q2⟩:=q1.cons_
 obtain⟨e2,r2,rfl,h2,q3⟩:=q2.cons_
 obtain rfl:=q3.nil_
 obtain⟨x0,rfl,gx0⟩:=h0.int_ underlying3
 obtain⟨x1,x2,x3,x4A,x4c,x4l,rfl,gx1,gx2,gx3,gx4,-⟩:=dv h1
 obtain⟨x5A,x5c,x5l,rfl,gx5,gx5'⟩:=h2.lst_ underlying153 (k:=6) (by kernel_rfl)
 exact⟨x0,x1,x2,x3,x4A,x4c,x4l,x5A,x5c,x5l,rfl,gx0,gx1,gx2,gx3,gx4,⟨gx5,gx5'⟩,trivial⟩
theorem bJ {e:E}(h:e.Ty prog 87):∃(x0:Int) (x1:Int) (x2:Int) (x3:ByteArray) (x4A:Option Addr) (x4c:Nat) (x4l:List E) (x5A:Option Addr) (x5c:Nat) (x5l:List E),e=(E.agg [.int .i64 x0,(.agg [.int .i64 x1,.int .i64 x2,.str x3,.lst 4 70 x4A x4c x4l]),.lst 6 106 x5A x5c x5l])∧((Lit.int .i64 x0).wf=true)∧((Lit.int .i64 x1).wf=true)∧((Lit.int .i64 x2).wf=true)∧(x3.size≤9223372036854775807)∧((∀y∈x4l,y.Ty prog 70)∧(∀y∈x4l,y.enc.length=4))∧((∀y∈x5l,y.Ty prog 106)∧(∀y∈x5l,y.enc.length=6))∧True:=by
 obtain⟨fs,rfl,q0⟩:=h.agg_ underlying87
 change E.TyF _ _ [3,70,85] at q0
 obtain⟨e0,r0,rfl,h0,q1⟩:=q0.cons_
 obtain⟨e1,r1,rfl,h1,q2⟩:=q1.cons_
 obtain⟨e2,r2,rfl,h2,q3⟩:=q2.cons_
 obtain rfl:=q3.nil_
 obtain⟨x0,rfl,gx0⟩:=h0.int_ underlying3
 obtain⟨x1,x2,x3,x4A,x4c,x4l,rfl,gx1,gx2,gx3,gx4,-⟩:=aB h1
 obtain⟨x5A,x5c,x5l,rfl,gx5,gx5'⟩:=h2.lst_ underlying85 (k:=6) (by kernel_rfl)
 exact⟨x0,x1,x2,x3,x4A,x4c,x4l,x5A,x5c,x5l,rfl,gx0,gx1,gx2,gx3,gx4,⟨gx5,gx5'⟩,trivial⟩
theorem sb {e:E}(ht:e.Ty prog 155):Sz 120 e:=by
 obtain⟨x0,x1,x2,x3,x4A,x4c,x4l,x5A,x5c,x5l,rfl,gx0,gx1,gx2,gx3,gx4,gx5,-⟩:=dW ht
 intro left w hr h0 h1
 have HSZ:Hid ((E.agg [.int .i64 x0,(.agg [.int .i64 x1,.int .i64 x2,.str x3,.lst 4 152 x4A x4c x4l]),.lst 6 227 x5A x5c x5l]).sz=(0+((E.agg [.int .i64 x1,.int .i64 x2,.str x3,.lst 4 152 x4A x4c x4l]).sz+((E.lst 6 227 x5A x5c x5l).sz+0)))):=rfl
 change Calls _ _ #[.agg #[.int .i64 x0,.int .i64 x1,.int .i64 x2,.string x3,.slice x4A x4l.length x4c,.slice x5A x5l.length x5c],.int .i64 left] w _
 have hr1:=(hr.fld (i:=1) rfl).alloc (.cells #[.int .i64 x0,.int .i64 x1,.int .i64 x2,.string x3,.slice x4A x4l.length x4c,.slice x5A x5l.length x5c] 155)
 have hr2:=(hr.fld (i:=2) rfl).alloc (.cells #[.int .i64 x0,.int .i64 x1,.int .i64 x2,.string x3,.slice x4A x4l.length x4c,.slice x5A x5l.length x5c] 155)
 go_enter func120,Tryz.ntmps120
 have tyfld1:(E.agg [.int .i64 x1,.int .i64 x2,.str x3,.lst 4 152 x4A x4c x4l]).Ty prog 152:=E.Ty.mk_agg underlying152 (E.TyF.mk_cons (show E.Ty _ _ _ from ⟨underlying3,gx1⟩) (E.TyF.mk_cons (show E.Ty _ _ _ from ⟨underlying3,gx2⟩) (E.TyF.mk_cons (show E.Ty _ _ _ from ⟨underlying9,by unfold maxLen;exact gx3⟩) (E.TyF.mk_cons (E.Ty.mk_lst underlying150 (by kernel_rfl) gx4.1 gx4.2) (E.TyF.mk_nil)))))
 go_wp2_with fail
 go_at_call 175
 refine ((r8 (tyfld1)) _ _ hr1 omq omq).mono ?_;rintro e w1 ⟨r1,rfl,hr1s,hl1,hb1⟩
 have hz1:=hb1.size;(try simp only [World.size_alloc] at hz1)
 have c1_5:w1.cell? ⟨w.heap.size,5,none⟩=some (.slice x5A x5l.length x5c):=(by repeat (first|(with_reducible assumption)|(with_reducible refine cell_drew ?_)|(with_reducible refine cell_drewN ?_)|(with_reducible exact dH rfl)|(exact cell_new' rfl (by first|rfl|(simp;done)))|(with_reducible refine cQ ?_ ?_)|(refine aJ (by with_reducible assumption) ?_ ?_)|(refine cell_kp (by with_reducible assumption) ?_ ?_)|omega|(·simp)|(·(simp;omega))))
 have hr2:=hr2.below hb1 (by first|exact Nat.le_refl _|simp)
 by_cases hn1:r1<0
 ·go_wp2
  go_ret
  exact⟨-1,rfl,.inl omq,omq,by exact by0⟩
 have hq1:=hr1s.resolve_left hn1
 go_wp2_with fail
 go_at_call 176
 refine ((kN (E.Ty.mk_lst underlying153 (by kernel_rfl) gx5.1 gx5.2)) _ _ hr2 omq omq).mono ?_;rintro e w2 ⟨r2,rfl,hr2s,hl2,hb2⟩
 have hz2:=hb2.size;(try simp only [World.size_alloc] at hz2)
 by_cases hn2:r2<0
 ·go_wp2
  go_ret
  exact⟨-1,rfl,.inl omq,omq,by exact by0⟩
 have hq2:=hr2s.resolve_left hn2
 go_wp2
 go_ret
 refine⟨_,rfl,.inr ?_,omq,by exact by0⟩
 show _=_
 rw [HSZ.out]
 have e1:=hq1.out
 have e2:=hq2.out
 push_cast
 omega
theorem szRuleS_all' (A:Option Addr)(c:Nat)(l:List E)(ht:∀y∈l,y.Ty prog 155):Sz 63 (.lst 6 155 A c l):=by
 intro left w hr h0 h1
 have hs:=hr.sl
 have hlen:=hs.len_le
 have HSZ:Hid ((E.lst 6 155 A c l).sz=l.length+E.szL l):=rfl
 change Calls _ _ #[.slice A l.length c,.int .i64 left] w _
 by_cases hneg:left-l.length<0
 ·go_enter func63,Tryz.ntmps63
  go_wp2
  go_ret
  exact⟨-1,rfl,.inl omq,omq,by exact by0⟩
 go_enter func63,Tryz.ntmps63
 go_wp2
 go_loopw [1,5] (fun v i wr=>∃(k:Nat) (cur:Int),k≤l.length∧i=.int .i64 k∧v=.int .i64 cur∧0≤cur∧cur≤left∧Hid (cur+E.szL (l.take k)+l.length=left)∧Below w.heap.size w wr) (fun _ i _=>l.length-(intOf i).toNat)
 case atStart=>exact⟨0,_,Nat.zero_le _,rfl,rfl,omq,omq,(by show _=_;simp [E.szL]),Below.refl _ _⟩
 case round =>
  obtain⟨k,cur,hk,rfl,rfl,hc0,hc1,HQ,hb⟩:=hrel
  have hzb:=hb.size
  by_cases hlt:k<l.length
  ·have hs':=hs.below hb (Nat.le_refl _)
   have HT:=Lib.hid (E.szL_take l k hlt)
   obtain⟨b,o,rfl,_,hc⟩:=hs'.at_ hlt
   have hin:=(hr.el (List.getElem_mem hlt)).below hb (Nat.le_refl _)
   have H:=sb (ht _ (List.getElem_mem hlt))
   obtain⟨y0,y1,y2,y3,y4A,y4c,y4l,y5A,y5c,y5l,ex,gy0,gy1,gy2,gy3,gy4,gy5,-⟩:=dW (ht _ (List.getElem_mem hlt))
   have HEX:=Lib.hid ex
   rw [ex] at hc hin H
   clear ex
   have c0:=hc 0 _ rfl;have c1:=hc 1 _ rfl;have c2:=hc 2 _ rfl;have c3:=hc 3 _ rfl;have c4:=hc 4 _ rfl;have c5:=hc 5 _ rfl
   rw [Nat.add_zero] at c0
   clear hc
   go_wp2_with fail
   go_at_call 120
   refine (H _ _ hin hc0 omq).mono ?_;rintro e w1 ⟨r,rfl,hrs,hrl,hb1⟩
   by_cases hn:r<0
   ·go_wp2
    go_ret
    exact⟨-1,rfl,.inl omq,omq,by exact by0⟩
   ·have HR:=hrs.resolve_left hn
    clear hrs
    go_wp2
    go_roundw
    case rel=>exact⟨k+1,r,omq,by go_num,rfl,omq,omq,(by show _=_;have e1:=HQ.out;have e2:=HT.out;have e3:=HR.out;rw [HEX.out] at e2;omega),by exact by0⟩
    case measure=>simp [intOf];omega
  ·have hk':k=l.length:=by omega
   subst hk'
   go_wp2
   go_ret
   refine⟨_,rfl,.inr ?_,omq,hb⟩
   show _=_
   have e1:=HQ.out
   rw [List.take_length] at e1
   rw [HSZ.out]
   push_cast
   omega
theorem pQ {e:E}(ht:e.Ty prog 44):Sz 63 e:=by
 obtain⟨A,c,l,rfl,h1,_⟩:=ht.lst_ underlying44 (k:=6) (by kernel_rfl)
 exact szRuleS_all' A c l h1
theorem sd {e:E}(ht:e.Ty prog 155):To 122 87 e:=by
 have HT0:=Lib.hid ht
 obtain⟨x0,x1,x2,x3,x4A,x4c,x4l,x5A,x5c,x5l,rfl,gx0,gx1,gx2,gx3,gx4,gx5,-⟩:=dW ht
 intro w hr hsz
 have hsz':(0+((E.agg [.int .i64 x1,.int .i64 x2,.str x3,.lst 4 152 x4A x4c x4l]).sz+((E.lst 6 227 x5A x5c x5l).sz+0)))≤1048576:=hsz
 have hs1:(E.agg [.int .i64 x1,.int .i64 x2,.str x3,.lst 4 152 x4A x4c x4l]).sz≤1048576:=by omega
 have hs2:(E.lst 6 227 x5A x5c x5l).sz≤1048576:=by omega
 clear hsz hsz'
 have hr1:=hr.fld (i:=1) rfl
 have ty1:(E.agg [.int .i64 x1,.int .i64 x2,.str x3,.lst 4 152 x4A x4c x4l]).Ty prog 152:=E.Ty.mk_agg underlying152 (E.TyF.mk_cons (show E.Ty _ _ _ from ⟨underlying3,gx1⟩) (E.TyF.mk_cons (show E.Ty _ _ _ from ⟨underlying3,gx2⟩) (E.TyF.mk_cons (show E.Ty _ _ _ from ⟨underlying9,by unfold maxLen;exact gx3⟩) (E.TyF.mk_cons (E.Ty.mk_lst underlying150 (by kernel_rfl) gx4.1 gx4.2) (E.TyF.mk_nil)))))
 have HC1:=Lib.hid (r9 ty1)
 clear ty1
 have hr2:=hr.fld (i:=2) rfl
 have ty2:(E.lst 6 227 x5A x5c x5l).Ty prog 153:=E.Ty.mk_lst underlying153 (by kernel_rfl) gx5.1 gx5.2
 have HC2:=Lib.hid (kO ty2)
 clear ty2
 change Calls _ _ #[.agg #[.int .i64 x0,.int .i64 x1,.int .i64 x2,.string x3,.slice x4A x4l.length x4c,.slice x5A x5l.length x5c]] w _
 go_enter func122,Tryz.ntmps122
 go_wp2_with fail
 go_at_call 178
 refine (HC1.out _ (((hr1.alloc _).alloc _).alloc _) hs1).mono ?_;rintro e w1 ⟨v1,he,HD1,ht1,ho1,hn1,hb1⟩
 have HT1:=Lib.hid ht1
 have HN1:=Lib.hid hn1
 obtain⟨z1_0,z1_1,z1_2,z1_3A,z1_3c,z1_3l,rfl,gz1_0,gz1_1,gz1_2,gz1_3,-⟩:=aB ht1
 obtain rfl:e=.returned (.agg #[.int .i64 z1_0,.int .i64 z1_1,.string z1_2,.slice z1_3A z1_3l.length z1_3c]):=he
 clear hn1 ht1
 have B0_1:w1.heap[w.heap.size]? = some (.cells #[.int .i64 x0,.int .i64 x1,.int .i64 x2,.string x3,.slice x4A x4l.length x4c,.slice x5A x5l.length x5c] 155 (0,0)):=(hb1.block (w.heap.size) (by simp;omega)).trans gU.1
 have B1_1:w1.heap[w.heap.size+1]? = some (.cells #[.int .i64 0,.int .i64 0,.int .i64 0,.string ByteArray.empty,.slice none 0 0,.slice none 0 0] 87 (0,0)):=(hb1.block (w.heap.size+1) (by simp)).trans gU.2.1
 have B2_1:w1.heap[w.heap.size+1+1]? = some (.cells #[.int .i64 x0,.int .i64 0,.int .i64 0,.string ByteArray.empty,.slice none 0 0,.slice none 0 0] 87 (0,0)):=(hb1.block (w.heap.size+1+1) (by simp)).trans gU.2.2
 have hz1:=hb1.size;simp only [World.size_alloc] at hz1
 have hB1:Below w.heap.size w w1:=(by exact by0:Below w.heap.size w _).trans (hb1.mono (by simp;omega))
 have ho1:=ho1.wider (lo':=w.heap.size+1+1+1) (by simp) (Nat.le_refl _)
 have c1_0:w1.cell? ⟨w.heap.size,0,none⟩=some (.int .i64 x0):=aw B0_1 rfl
 have c1_1:w1.cell? ⟨w.heap.size,1,none⟩=some (.int .i64 x1):=aw B0_1 rfl
 have c1_2:w1.cell? ⟨w.heap.size,2,none⟩=some (.int .i64 x2):=aw B0_1 rfl
 have c1_3:w1.cell? ⟨w.heap.size,3,none⟩=some (.string x3):=aw B0_1 rfl
 have c1_4:w1.cell? ⟨w.heap.size,4,none⟩=some (.slice x4A x4l.length x4c):=aw B0_1 rfl
 have c1_5:w1.cell? ⟨w.heap.size,5,none⟩=some (.slice x5A x5l.length x5c):=aw B0_1 rfl
 have d1_0:w1.cell? ⟨w.heap.size+1+1,0,none⟩=some (.int .i64 x0):=aw B2_1 rfl
 have d1_1:w1.cell? ⟨w.heap.size+1+1,1,none⟩=some (.int .i64 0):=aw B2_1 rfl
 have d1_2:w1.cell? ⟨w.heap.size+1+1,2,none⟩=some (.int .i64 0):=aw B2_1 rfl
 have d1_3:w1.cell? ⟨w.heap.size+1+1,3,none⟩=some (.string ByteArray.empty):=aw B2_1 rfl
 have d1_4:w1.cell? ⟨w.heap.size+1+1,4,none⟩=some (.slice none 0 0):=aw B2_1 rfl
 have d1_5:w1.cell? ⟨w.heap.size+1+1,5,none⟩=some (.slice none 0 0):=aw B2_1 rfl
 have f1:=eJ B2_1
 go_wp2_with fail
 have hK1:Kp (w.heap.size+1+1) (w.heap.size+1+1+1) w1 ((((w1.setCell ⟨w.heap.size+1+1,1,none⟩ (.int .i64 z1_0)).setCell ⟨w.heap.size+1+1,2,none⟩ (.int .i64 z1_1)).setCell ⟨w.heap.size+1+1,3,none⟩ (.string z1_2)).setCell ⟨w.heap.size+1+1,4,none⟩ (.slice z1_3A z1_3l.length z1_3c)):=(by repeat (first|(with_reducible exact Kp.refl _ _ _)|(refine Kp.set ?_ (by first|omega|(dsimp only;omega)|(simp;omega)) (by first|omega|(dsimp only;omega)|(simp;omega)) _)))
 have A0_1:=(hK1.block (w.heap.size) omq (.inl omq)).trans B0_1
 have A1_1:=(hK1.block (w.heap.size+1) omq (.inl omq)).trans B1_1
 have A2_1:((((w1.setCell ⟨w.heap.size+1+1,1,none⟩ (.int .i64 z1_0)).setCell ⟨w.heap.size+1+1,2,none⟩ (.int .i64 z1_1)).setCell ⟨w.heap.size+1+1,3,none⟩ (.string z1_2)).setCell ⟨w.heap.size+1+1,4,none⟩ (.slice z1_3A z1_3l.length z1_3c)).heap[w.heap.size+1+1]? = some (.cells #[.int .i64 x0,.int .i64 z1_0,.int .i64 z1_1,.string z1_2,.slice z1_3A z1_3l.length z1_3c,.slice none 0 0] 87 (0,0)):=by simp only [eh,B2_1];simp [jW]
 have hW1:((((w1.setCell ⟨w.heap.size+1+1,1,none⟩ (.int .i64 z1_0)).setCell ⟨w.heap.size+1+1,2,none⟩ (.int .i64 z1_1)).setCell ⟨w.heap.size+1+1,3,none⟩ (.string z1_2)).setCell ⟨w.heap.size+1+1,4,none⟩ (.slice z1_3A z1_3l.length z1_3c)).heap.size=w1.heap.size:=by simp
 have hBW1:Below w.heap.size w ((((w1.setCell ⟨w.heap.size+1+1,1,none⟩ (.int .i64 z1_0)).setCell ⟨w.heap.size+1+1,2,none⟩ (.int .i64 z1_1)).setCell ⟨w.heap.size+1+1,3,none⟩ (.string z1_2)).setCell ⟨w.heap.size+1+1,4,none⟩ (.slice z1_3A z1_3l.length z1_3c)):=hB1.trans (hK1.below omq omq)
 have ho1:=ho1.kp hK1 (.inr omq)
 clear c1_0 c1_1 c1_2 c1_3 c1_4 c1_5 d1_0 d1_1 d1_2 d1_3 d1_4 d1_5 f1 B0_1 B1_1 B2_1 hK1 hB1
 generalize ((((w1.setCell ⟨w.heap.size+1+1,1,none⟩ (.int .i64 z1_0)).setCell ⟨w.heap.size+1+1,2,none⟩ (.int .i64 z1_1)).setCell ⟨w.heap.size+1+1,3,none⟩ (.string z1_2)).setCell ⟨w.heap.size+1+1,4,none⟩ (.slice z1_3A z1_3l.length z1_3c))=W1 at *
 go_at_call 179
 refine (HC2.out _ (E.In.below hr2 hBW1 (Nat.le_refl _)) hs2).mono ?_;rintro e w2 ⟨v2,he,HD2,ht2,ho2,hn2,hb2⟩
 have HT2:=Lib.hid ht2
 have HN2:=Lib.hid hn2
 obtain⟨A2,q2,l2,rfl,-,-⟩:=ht2.lst_ underlying85 (k:=6) (by kernel_rfl)
 obtain rfl:e=.returned (.slice A2 l2.length q2):=he
 clear hn2 ht2
 have B0_2:=(hb2.block (w.heap.size) omq).trans A0_1
 have B1_2:=(hb2.block (w.heap.size+1) omq).trans A1_1
 have B2_2:=(hb2.block (w.heap.size+1+1) omq).trans A2_1
 have hz2:=hb2.size
 have hB2:Below w.heap.size w w2:=hBW1.trans (hb2.mono omq)
 have ho1:=ho1.below hb2 omq
 have ho2:=ho2.wider (lo':=w1.heap.size) omq (Nat.le_refl _)
 clear A0_1 A1_1 A2_1
 have c2_0:w2.cell? ⟨w.heap.size,0,none⟩=some (.int .i64 x0):=aw B0_2 rfl
 have c2_1:w2.cell? ⟨w.heap.size,1,none⟩=some (.int .i64 x1):=aw B0_2 rfl
 have c2_2:w2.cell? ⟨w.heap.size,2,none⟩=some (.int .i64 x2):=aw B0_2 rfl
 have c2_3:w2.cell? ⟨w.heap.size,3,none⟩=some (.string x3):=aw B0_2 rfl
 have c2_4:w2.cell? ⟨w.heap.size,4,none⟩=some (.slice x4A x4l.length x4c):=aw B0_2 rfl
 have c2_5:w2.cell? ⟨w.heap.size,5,none⟩=some (.slice x5A x5l.length x5c):=aw B0_2 rfl
 have d2_0:w2.cell? ⟨w.heap.size+1+1,0,none⟩=some (.int .i64 x0):=aw B2_2 rfl
 have d2_1:w2.cell? ⟨w.heap.size+1+1,1,none⟩=some (.int .i64 z1_0):=aw B2_2 rfl
 have d2_2:w2.cell? ⟨w.heap.size+1+1,2,none⟩=some (.int .i64 z1_1):=aw B2_2 rfl
 have d2_3:w2.cell? ⟨w.heap.size+1+1,3,none⟩=some (.string z1_2):=aw B2_2 rfl
 have d2_4:w2.cell? ⟨w.heap.size+1+1,4,none⟩=some (.slice z1_3A z1_3l.length z1_3c):=aw B2_2 rfl
 have d2_5:w2.cell? ⟨w.heap.size+1+1,5,none⟩=some (.slice none 0 0):=aw B2_2 rfl
 have f2:=eJ B2_2
 have r0':=aw B1_2 (o:=0) rfl;have r1':=aw B1_2 (o:=1) rfl;have r2':=aw B1_2 (o:=2) rfl;have r3':=aw B1_2 (o:=3) rfl;have r4':=aw B1_2 (o:=4) rfl;have r5':=aw B1_2 (o:=5) rfl
 have fr':=eJ B1_2
 go_wp2
 have OWN:Owns w2 (w.heap.size+1+1+1) w2.heap.size [(E.int .i64 x0),(E.agg [.int .i64 z1_0,.int .i64 z1_1,.str z1_2,.lst 4 70 z1_3A z1_3c z1_3l]),(E.lst 6 106 A2 q2 l2)]:=(Owns.leaf rfl (by simp only [E.Ho]) (Owns.cons (mid:=w1.heap.size) ho1 HN1.out (Owns.cons (mid:=w2.heap.size) ho2 HN2.out Owns.nil omq omq) omq omq))
 refine bodyPost_ret (v:=.agg #[.int .i64 x0,.int .i64 z1_0,.int .i64 z1_1,.string z1_2,.slice z1_3A z1_3l.length z1_3c,.slice A2 l2.length q2]) (ia (t:=87) (fr:=(0,0)) rfl rfl underlying87 (by kernel_rfl) ?_) rfl ⟨(E.agg [(E.int .i64 x0),(E.agg [.int .i64 z1_0,.int .i64 z1_1,.str z1_2,.lst 4 70 z1_3A z1_3c z1_3l]),(E.lst 6 106 A2 q2 l2)]),rfl,?_,E.Ty.mk_agg underlying87 (E.TyF.mk_cons (show E.Ty _ _ _ from ⟨underlying3,gx0⟩) (E.TyF.mk_cons HT1.out (E.TyF.mk_cons HT2.out (E.TyF.mk_nil)))),?_,?_,?_⟩
 ·simp only [eh,B1_2,B2_2];simp [jW]
 ·show E.d _=E.d _
  simp only [E.d,E.dL]
  have y1:=HD1.out;simp only [E.d,E.dL] at y1
  have y2:=HD2.out;simp only [E.d,E.dL] at y2
  simp only [E.agg.injEq,List.cons.injEq,E.lst.injEq,E.int.injEq,E.str.injEq,E.bool.injEq,true_and,and_true] at *
  simp [*]
 ·exact ((E.Ho.mk_agg OWN.1).kp (lo':=w.heap.size+1) (hi':=w.heap.size+1+1+1) (by repeat (first|(with_reducible exact Kp.refl _ _ _)|(refine Kp.set ?_ (by first|omega|(dsimp only;omega)|(simp;omega)) (by first|omega|(dsimp only;omega)|(simp;omega)) _))) (.inr omq)).wider omq (by simp)
 ·exact OWN.2
 ·exact hB2.trans (Kp.below (lo:=w.heap.size+1) (hi:=w.heap.size+1+1+1) (by repeat (first|(with_reducible exact Kp.refl _ _ _)|(refine Kp.set ?_ (by first|omega|(dsimp only;omega)|(simp;omega)) (by first|omega|(dsimp only;omega)|(simp;omega)) _))) omq omq)
theorem vo:(prog.info? 87).map (fun i=>(i.zero,i.size,i.bytes))=some (some (.agg #[.int .i64 0,.int .i64 0,.int .i64 0,.string ByteArray.empty,.slice none 0 0,.slice none 0 0]),6,88):=by kernel_rfl
theorem toRuleS_all' (A:Option Addr)(c:Nat)(l:List E)(h1:∀y∈l,y.Ty prog 155):To 65 24 (.lst 6 155 A c l):=by
 intro w hr hsz
 have hs:=hr.sl
 have eS:(E.lst 6 155 A c l).sz=l.length+E.szL l:=rfl
 have hn:l.length≤1048576:=by omega
 have HS:=Lib.hid (show l.length+E.szL l≤1048576 by omega)
 clear eS hsz
 have hmk:=sW underlying24 vo l.length omq omq
 have hF:=Fill.new w 87 #[.int .i64 0,.int .i64 0,.int .i64 0,.string ByteArray.empty,.slice none 0 0,.slice none 0 0] (l.length*6) ([]:List Value)
 change Calls _ _ #[.slice A l.length c] w _
 go_enter func65,Tryz.ntmps65
 go_wp2
 go_loopw [4] (fun i wr=>∃(k:Nat) (us:List E),k≤l.length∧i=.int .i64 k∧Hid (us.length=k)∧Hid (us.map E.d=(l.take k).map E.d)∧Hid (∀u∈us,u.Ty prog 87∧u.enc.length=6)∧Fill wr w.heap.size 87 (l.length*6) (k*6) (E.encL us)∧w.heap.size+1≤wr.heap.size∧Hid (∀u∈us,u.Ho wr (w.heap.size+1) wr.heap.size)∧Hid ((E.fpL us).Nodup)∧Below w.heap.size w wr) (fun i _=>l.length-(intOf i).toNat)
 case atStart=>exact⟨0,[],Nat.zero_le _,rfl,rfl,rfl,(fun u hu=>absurd hu List.not_mem_nil),by exact hF,by simp,(fun u hu=>absurd hu List.not_mem_nil),(by show List.Nodup _;simp [E.fpL]),by exact by0⟩
 case round =>
  obtain⟨k,us,hk,rfl,HL,HD,HT,hf,hge,HO,HN,hb⟩:=hrel
  by_cases hlt:k<l.length
  ·have hs':=hs.below hb (Nat.le_refl _)
   have hzb:=hb.size
   have hmem:=List.getElem_mem hlt
   have hin:=(hr.el hmem).below hb (Nat.le_refl _)
   have H:=sd (h1 _ hmem)
   have hsk:l[k].sz≤1048576:=by have:=E.szL_mem hmem;have:=HS.out;omega
   obtain⟨b,o,rfl,_,hc⟩:=hs'.at_ hlt
   obtain⟨y0,y1,y2,y3,y4A,y4c,y4l,y5A,y5c,y5l,ex,gy0,gy1,gy2,gy3,gy4,gy5,-⟩:=dW (h1 _ hmem)
   have HEX:=Lib.hid ex
   rw [ex] at hc hin H hsk
   clear ex
   have c0:=hc 0 _ rfl;have c1:=hc 1 _ rfl;have c2:=hc 2 _ rfl;have c3:=hc 3 _ rfl;have c4:=hc 4 _ rfl;have c5:=hc 5 _ rfl
   rw [Nat.add_zero] at c0
   clear hc
   have HF:=Lib.hid hf
   clear hf
   go_wp2_with fail
   go_at_call 122
   refine (H _ hin hsk).mono ?_;rintro e w1 ⟨x,he,HDX,htx,hox,hnx,hb1⟩
   have HTX:=Lib.hid htx
   obtain⟨z0,z1,z2,z3,z4A,z4c,z4l,z5A,z5c,z5l,rfl,gz0,gz1,gz2,gz3,gz4,gz5,-⟩:=bJ htx
   obtain rfl:e=.returned (.agg #[.int .i64 z0,.int .i64 z1,.int .i64 z2,.string z3,.slice z4A z4l.length z4c,.slice z5A z5l.length z5c]):=he
   have hf1:=HF.out.below hb1 HF.out.lt
   obtain⟨u0,c0'⟩:=hf1.cell (j:=k*6) omq;obtain⟨u1,c1'⟩:=hf1.cell (j:=k*6+1) omq;obtain⟨u2,c2'⟩:=hf1.cell (j:=k*6+2) omq;obtain⟨u3,c3'⟩:=hf1.cell (j:=k*6+3) omq;obtain⟨u4,c4'⟩:=hf1.cell (j:=k*6+4) omq;obtain⟨u5,c5'⟩:=hf1.cell (j:=k*6+5) omq
   have zfr:=hf1.frozen
   have hz1:=hb1.size
   have HOX:=Lib.hid hox
   have HNX:=Lib.hid hnx
   have HF1:=Lib.hid hf1
   clear hox hnx hf1 htx
   go_wp2
   go_roundw
   case rel =>
    have hl:=HL.out
    have hf1:=HF1.out
    have hT:∀u∈us++[(E.agg [.int .i64 z0,(.agg [.int .i64 z1,.int .i64 z2,.str z3,.lst 4 70 z4A z4c z4l]),.lst 6 106 z5A z5c z5l])],u.Ty prog 87∧u.enc.length=6:=fun u hu=>by
     rcases List.mem_append.1 hu with hu|hu
     ·exact HT.out u hu
     ·obtain rfl:=List.mem_singleton.1 hu
      exact⟨HTX.out,rfl⟩
    have hlen:=E.encL_len fun u hu=>(HT.out u hu).2
    have hk2:k<(us++[(E.agg [.int .i64 z0,(.agg [.int .i64 z1,.int .i64 z2,.str z3,.lst 4 70 z4A z4c z4l]),.lst 6 106 z5A z5c z5l])]).length:=by simp;omega
    have ev:=fun j hj=>E.encL_at (fun u hu=>(hT u hu).2) k hk2 j hj
    have eT:(us++[(E.agg [.int .i64 z0,(.agg [.int .i64 z1,.int .i64 z2,.str z3,.lst 4 70 z4A z4c z4l]),.lst 6 106 z5A z5c z5l])])[k]=(E.agg [.int .i64 z0,(.agg [.int .i64 z1,.int .i64 z2,.str z3,.lst 4 70 z4A z4c z4l]),.lst 6 106 z5A z5c z5l]):=by rw [List.getElem_append_right omq];simp [hl]
    simp only [eT] at ev
    have hf2:Fill w1 w.heap.size 87 (l.length*6) (k*6) (E.encL (us++[(E.agg [.int .i64 z0,(.agg [.int .i64 z1,.int .i64 z2,.str z3,.lst 4 70 z4A z4c z4l]),.lst 6 106 z5A z5c z5l])])):=hf1.swap' fun j hj=>E.encL_app_lt us _ j (by rw [hlen,hl];exact hj)
    have K:=fun (W:World) (h:Kp w.heap.size (w.heap.size+1) w1 W) (u:E) (hu:u∈us)=>((HO.out u hu).below hb1 (Nat.le_refl _)).kp h (.inr omq)
    refine⟨k+1,us++[(E.agg [.int .i64 z0,(.agg [.int .i64 z1,.int .i64 z2,.str z3,.lst 4 70 z4A z4c z4l]),.lst 6 106 z5A z5c z5l])],omq,by go_num,by show _=_;simp [hl],qi hlt HD.out (HDX.out.trans (by rw [←HEX.out])),hT,by rw [Nat.add_mul];exact ((((((hf2.set omq (ev 0 omq)).set omq (ev 1 omq)).set omq (ev 2 omq)).set omq (ev 3 omq)).set omq (ev 4 omq)).set omq (ev 5 omq)),by simp;omega,?_,?_,by exact by0⟩
    ·intro u hu
     rcases List.mem_append.1 hu with hu|hu
     ·exact (K _ (by repeat (first|(with_reducible exact Kp.refl _ _ _)|(refine Kp.set ?_ (by first|omega|(dsimp only;omega)|(simp;omega)) (by first|omega|(dsimp only;omega)|(simp;omega)) _))) u hu).wider (Nat.le_refl _) (by simp;omega)
     ·obtain rfl:=List.mem_singleton.1 hu
      exact (HOX.out.kp (lo':=w.heap.size) (hi':=w.heap.size+1) (by repeat (first|(with_reducible exact Kp.refl _ _ _)|(refine Kp.set ?_ (by first|omega|(dsimp only;omega)|(simp;omega)) (by first|omega|(dsimp only;omega)|(simp;omega)) _))) (.inr omq)).wider omq (by simp)
    ·refine gD HN.out HNX.out fun g hg hg2=>?_
     obtain⟨u,hu,hg⟩:=E.mem_fpL.1 hg
     have:=(HO.out u hu).lt g hg
     have:=HOX.out.lt g hg2
     omega
   case measure=>simp [intOf];omega
  ·have hk':k=l.length:=by omega
   subst hk'
   go_wp2
   go_ret
   have hl:=HL.out
   have hTy:=HT.out
   have own:wr.ownsRow w.heap.size 87 6 (.slice (some ⟨w.heap.size,0,none⟩) l.length l.length) l.length (E.encL us):=hf.owns (Nat.le_refl _) rfl (by rw [E.encL_len fun u hu=>(hTy u hu).2,hl]) (by unfold maxLen;omega)
   rw [←hl] at own
   refine⟨.lst 6 87 (some ⟨w.heap.size,0,none⟩) us.length us,by rw [←hl];rfl,?_,E.Ty.mk_lst underlying24 (by kernel_rfl) (fun u hu=>(hTy u hu).1) (fun u hu=>(hTy u hu).2),E.Ho.mk (Ow.of_owns own (Nat.le_refl _)) (fun u hu=>(hTy u hu).2) (fun u hu=>(HO.out u hu).wider omq (Nat.le_refl _)),?_,hb⟩
   ·show E.d _=E.d _
    rw [jZ]
    have h:=HD.out
    rwa [List.take_length] at h
   ·simp only [E.fp,List.singleton_append,List.nodup_cons]
    refine⟨fun hm=>?_,HN.out⟩
    obtain⟨u,hu,hg⟩:=E.mem_fpL.1 hm
    have:=(HO.out u hu).lt _ hg
    omega
theorem pR {e:E}(ht:e.Ty prog 44):To 65 24 e:=by
 obtain⟨A,c,l,rfl,h1,_⟩:=ht.lst_ underlying44 (k:=6) (by kernel_rfl)
 exact toRuleS_all' A c l h1
theorem se {e e':E}(ht:e.Ty prog 87)(ht':e'.Ty prog 87):Eq 124 e e':=by
 obtain⟨x0,x1,x2,x3,x4A,x4c,x4l,x5A,x5c,x5l,rfl,gx0,gx1,gx2,gx3,gx4,gx5,-⟩:=bJ ht
 obtain⟨y0,y1,y2,y3,y4A,y4c,y4l,y5A,y5c,y5l,rfl,gy0,gy1,gy2,gy3,gy4,gy5,-⟩:=bJ ht'
 intro hd w hr hr'
 simp only [E.d,E.dL,E.agg.injEq,List.cons.injEq,E.int.injEq,E.str.injEq,E.bool.injEq,E.lst.injEq,true_and,and_true] at hd
 obtain⟨rfl,⟨rfl,rfl,rfl,hd4⟩,hd5⟩:=hd
 have hr1:=((hr.fld (i:=1) rfl).alloc (.cells #[.int .i64 x0,.int .i64 x1,.int .i64 x2,.string x3,.slice x4A x4l.length x4c,.slice x5A x5l.length x5c] 87)).alloc (.cells #[.int .i64 x0,.int .i64 x1,.int .i64 x2,.string x3,.slice y4A y4l.length y4c,.slice y5A y5l.length y5c] 87)
 have hs1:=((hr'.fld (i:=1) rfl).alloc (.cells #[.int .i64 x0,.int .i64 x1,.int .i64 x2,.string x3,.slice x4A x4l.length x4c,.slice x5A x5l.length x5c] 87)).alloc (.cells #[.int .i64 x0,.int .i64 x1,.int .i64 x2,.string x3,.slice y4A y4l.length y4c,.slice y5A y5l.length y5c] 87)
 have t1:(E.agg [.int .i64 x1,.int .i64 x2,.str x3,.lst 4 70 x4A x4c x4l]).Ty prog 70:=E.Ty.mk_agg underlying70 (E.TyF.mk_cons (show E.Ty _ _ _ from ⟨underlying3,gx1⟩) (E.TyF.mk_cons (show E.Ty _ _ _ from ⟨underlying3,gx2⟩) (E.TyF.mk_cons (show E.Ty _ _ _ from ⟨underlying9,by unfold maxLen;exact gx3⟩) (E.TyF.mk_cons (E.Ty.mk_lst underlying68 (by kernel_rfl) gx4.1 gx4.2) (E.TyF.mk_nil)))))
 have u1:(E.agg [.int .i64 x1,.int .i64 x2,.str x3,.lst 4 70 y4A y4c y4l]).Ty prog 70:=E.Ty.mk_agg underlying70 (E.TyF.mk_cons (show E.Ty _ _ _ from ⟨underlying3,gx1⟩) (E.TyF.mk_cons (show E.Ty _ _ _ from ⟨underlying3,gx2⟩) (E.TyF.mk_cons (show E.Ty _ _ _ from ⟨underlying9,by unfold maxLen;exact gx3⟩) (E.TyF.mk_cons (E.Ty.mk_lst underlying68 (by kernel_rfl) gy4.1 gy4.2) (E.TyF.mk_nil)))))
 have HC1:=Lib.hid (sa t1 u1 (by simp only [E.d,E.dL,E.agg.injEq,List.cons.injEq,E.int.injEq,E.str.injEq,E.bool.injEq,E.lst.injEq,true_and,and_true];exact hd4))
 clear t1 u1
 have hr2:=((hr.fld (i:=2) rfl).alloc (.cells #[.int .i64 x0,.int .i64 x1,.int .i64 x2,.string x3,.slice x4A x4l.length x4c,.slice x5A x5l.length x5c] 87)).alloc (.cells #[.int .i64 x0,.int .i64 x1,.int .i64 x2,.string x3,.slice y4A y4l.length y4c,.slice y5A y5l.length y5c] 87)
 have hs2:=((hr'.fld (i:=2) rfl).alloc (.cells #[.int .i64 x0,.int .i64 x1,.int .i64 x2,.string x3,.slice x4A x4l.length x4c,.slice x5A x5l.length x5c] 87)).alloc (.cells #[.int .i64 x0,.int .i64 x1,.int .i64 x2,.string x3,.slice y4A y4l.length y4c,.slice y5A y5l.length y5c] 87)
 have t2:(E.lst 6 106 x5A x5c x5l).Ty prog 85:=E.Ty.mk_lst underlying85 (by kernel_rfl) gx5.1 gx5.2
 have u2:(E.lst 6 106 y5A y5c y5l).Ty prog 85:=E.Ty.mk_lst underlying85 (by kernel_rfl) gy5.1 gy5.2
 have HC2:=Lib.hid (kP t2 u2 (by simp only [E.d,E.dL,E.agg.injEq,List.cons.injEq,E.int.injEq,E.str.injEq,E.bool.injEq,E.lst.injEq,true_and,and_true];exact hd5))
 clear t2 u2
 clear hd4 hd5
 change Calls _ _ #[.agg #[.int .i64 x0,.int .i64 x1,.int .i64 x2,.string x3,.slice x4A x4l.length x4c,.slice x5A x5l.length x5c],.agg #[.int .i64 x0,.int .i64 x1,.int .i64 x2,.string x3,.slice y4A y4l.length y4c,.slice y5A y5l.length y5c]] w _
 go_enter func124,Tryz.ntmps124
 go_wp2_with fail
 go_at_call 181
 refine (HC1.out _ hr1 hs1).mono ?_;rintro e w1 ⟨rfl,hb1⟩
 have hz1:=hb1.size;(try simp only [World.size_alloc] at hz1)
 have c1_5:w1.cell? ⟨w.heap.size,5,none⟩=some (.slice x5A x5l.length x5c):=aJ hb1 (cQ (dH rfl) (by simp)) (by simp;omega)
 have d1_5:w1.cell? ⟨w.heap.size+1,5,none⟩=some (.slice y5A y5l.length y5c):=aJ hb1 (cell_new' rfl (by simp)) (by simp)
 have hr2:=hr2.below hb1 (by first|exact Nat.le_refl _|simp)
 have hs2:=hs2.below hb1 (by first|exact Nat.le_refl _|simp)
 go_wp2_with fail
 go_at_call 182
 refine (HC2.out _ hr2 hs2).mono ?_;rintro e w2 ⟨rfl,hb2⟩
 have hz2:=hb2.size;(try simp only [World.size_alloc] at hz2)
 clear c1_5 d1_5
 go_wp2
 go_ret
 exact⟨rfl,by0⟩
theorem eqRuleS_all' (A B:Option Addr)(c c':Nat)(l m:List E)(h1:∀y∈l,y.Ty prog 87)(h2:∀y∈m,y.Ty prog 87):Eq 67 (.lst 6 87 A c l) (.lst 6 87 B c' m):=by
 intro hd w hr hr'
 rw [jZ] at hd
 have hs:=hr.sl
 have hs':=hr'.sl
 have hml:=rx hd
 have HD:=Lib.hid hd
 clear hd
 have hlen:=hs.len_le
 change Calls _ _ #[.slice A l.length c,.slice B m.length c'] w _
 obtain⟨N,HN⟩:∃N,Hid (m.length=N):=⟨_,rfl⟩
 have hN:N=l.length:=by have:=HN.out;omega
 subst hN
 rw [HN.out]
 clear hml
 go_enter func67,Tryz.ntmps67
 go_wp2
 go_loopw [5] (fun i wr=>∃(k:Nat),k≤l.length∧i=.int .i64 k∧Below w.heap.size w wr) (fun i _=>l.length-(intOf i).toNat)
 case atStart=>exact⟨0,Nat.zero_le _,rfl,Below.refl _ _⟩
 case round =>
  obtain⟨k,hk,rfl,hb⟩:=hrel
  by_cases hlt:k<l.length
  ·have hltm:k<m.length:=by have:=HN.out;omega
   have hsb:=hs.below hb (Nat.le_refl _)
   have hsb':=hs'.below hb (Nat.le_refl _)
   have hdk:=d_at HD.out hlt hltm
   obtain⟨b,o,rfl,_,hc⟩:=hsb.at_ hlt
   obtain⟨b',o',rfl,_,hd⟩:=hsb'.at_ hltm
   have hin:=(hr.el (List.getElem_mem hlt)).below hb (Nat.le_refl _)
   have hin':=(hr'.el (List.getElem_mem hltm)).below hb (Nat.le_refl _)
   have H:=se (h1 _ (List.getElem_mem hlt)) (h2 _ (List.getElem_mem hltm)) hdk
   obtain⟨x0,x1,x2,x3,x4A,x4c,x4l,x5A,x5c,x5l,ex,gx0,gx1,gx2,gx3,gx4,gx5,-⟩:=bJ (h1 _ (List.getElem_mem hlt))
   obtain⟨y0,y1,y2,y3,y4A,y4c,y4l,y5A,y5c,y5l,ey,gy0,gy1,gy2,gy3,gy4,gy5,-⟩:=bJ (h2 _ (List.getElem_mem hltm))
   rw [ex] at hc hin
   rw [ey] at hd hin'
   rw [ex,ey] at H
   clear ex ey hdk
   have c0:=hc 0 _ rfl;have c1:=hc 1 _ rfl;have c2:=hc 2 _ rfl;have c3:=hc 3 _ rfl;have c4:=hc 4 _ rfl;have c5:=hc 5 _ rfl
   have d0:=hd 0 _ rfl;have d1:=hd 1 _ rfl;have d2:=hd 2 _ rfl;have d3:=hd 3 _ rfl;have d4:=hd 4 _ rfl;have d5:=hd 5 _ rfl
   rw [Nat.add_zero] at c0 d0
   clear hc hd
   have hzb:=hb.size
   have HH:=Lib.hid H
   clear H
   go_wp2
   go_region_held3 (fun w'=>w'.cell? ⟨b,o+k*6,none⟩=some (.int .i64 x0)∧w'.cell? ⟨b,o+k*6+1,none⟩=some (.int .i64 x1)∧w'.cell? ⟨b,o+k*6+2,none⟩=some (.int .i64 x2)∧w'.cell? ⟨b,o+k*6+3,none⟩=some (.string x3)∧w'.cell? ⟨b,o+k*6+4,none⟩=some (.slice x4A x4l.length x4c)∧w'.cell? ⟨b,o+k*6+5,none⟩=some (.slice x5A x5l.length x5c)∧w'.cell? ⟨b',o'+k*6,none⟩=some (.int .i64 y0)∧w'.cell? ⟨b',o'+k*6+1,none⟩=some (.int .i64 y1)∧w'.cell? ⟨b',o'+k*6+2,none⟩=some (.int .i64 y2)∧w'.cell? ⟨b',o'+k*6+3,none⟩=some (.string y3)∧w'.cell? ⟨b',o'+k*6+4,none⟩=some (.slice y4A y4l.length y4c)∧w'.cell? ⟨b',o'+k*6+5,none⟩=some (.slice y5A y5l.length y5c))
    (first|exact⟨c0,c1,c2,c3,c4,c5,d0,d1,d2,d3,d4,d5⟩|skip)
    ((go_at_call 124;refine (HH.out _ by2 by2).mono ?_;rintro e w1 ⟨rfl,hb1⟩;have c0:=aJ hb1 c0 by1;have c1:=aJ hb1 c1 by1;have c2:=aJ hb1 c2 by1;have c3:=aJ hb1 c3 by1;have c4:=aJ hb1 c4 by1;have c5:=aJ hb1 c5 by1;have d0:=aJ hb1 d0 by1;have d1:=aJ hb1 d1 by1;have d2:=aJ hb1 d2 by1;have d3:=aJ hb1 d3 by1;have d4:=aJ hb1 d4 by1;have d5:=aJ hb1 d5 by1))
   go_wp2
   go_roundw
   case rel=>exact⟨k+1,omq,by go_num,by exact by0⟩
   case measure=>simp [intOf];omega
  ·go_wp2
   go_ret
   exact⟨rfl,hb⟩
theorem pS {e e':E}(ht:e.Ty prog 24)(ht':e'.Ty prog 24):Eq 67 e e':=by
 obtain⟨A,c,l,rfl,h1,_⟩:=ht.lst_ underlying24 (k:=6) (by kernel_rfl)
 obtain⟨B,c',m,rfl,h2,_⟩:=ht'.lst_ underlying24 (k:=6) (by kernel_rfl)
 exact eqRuleS_all' A B c c' l m h1 h2
theorem markRuleS_all' (A:Option Addr)(c:Nat)(l:List E)(h1:∀y∈l,y.Ty prog 87)(h2:∀y∈l,y.enc.length=6):Mar 69 (.lst 6 87 A c l):=by
 intro lo hi k0 w ho hnd hhi hk0 hk1
 have HCN:Hid ((E.lst 6 87 A c l).cnt=E.cntcL l):=rfl
 rw [HCN.out] at hk1
 have HND:=Lib.hid hnd
 clear hnd
 have hlen:=ho.re.sl.len_le
 have how0:=ho
 rw [←fj l k0] at how0
 clear ho
 change Calls _ _ #[.slice A l.length c,.int .i64 k0] w _
 rw [HCN.out]
 change Calls _ _ _ w fun r w'=>r=.returned (.int .i64 (k0+(E.cntcL l:Nat)))∧(E.lst 6 87 A c (E.mkcL l k0)).Ho w' lo hi∧Fr (E.lst 6 87 A c l).fp w w'
 go_enter func69,Tryz.ntmps69
 go_wp2
 go_loopw [1,5] (fun v i wr=>∃(k:Nat) (q:Int),k≤l.length∧i=.int .i64 k∧v=.int .i64 q∧Hid (q=k0+(E.cntcL (l.take k):Nat))∧Fr (E.lst 6 87 A c l).fp w wr∧Hid ((E.lst 6 87 A c (ec l k0 k)).Ho wr lo hi)) (fun _ i _=>l.length-(intOf i).toNat)
 case atStart=>exact⟨0,k0,Nat.zero_le _,rfl,rfl,(by show _=_;simp [E.cntcL]),Fr.refl _ _,how0⟩
 case round =>
  obtain⟨k,q,hk,rfl,rfl,HQ,hF0,HOW⟩:=hrel
  have hzk:=hF0.size
  by_cases hlt:k<l.length
  ·have HT:=Lib.hid (E.cntcL_take l k hlt)
   have hq0:0≤q:=by have:=HQ.out;omega
   have hml:k<(ec l k0 k).length:=by rw [fI];exact hlt
   have how:=HOW.out
   obtain⟨g,rfl,hg1,hg2,hg3⟩:=how.head omq
   obtain⟨y0,y1,y2,y3,y4A,y4c,y4l,y5A,y5c,y5l,ex,gy0,gy1,gy2,gy3,gy4,gy5,-⟩:=bJ (h1 _ (List.getElem_mem hlt))
   have HC4:=Lib.hid (iG (show (E.lst 4 70 y4A y4c y4l).Ty prog 68 from E.Ty.mk_lst underlying68 (by kernel_rfl) gy4.1 gy4.2))
   have HC5:=Lib.hid (iH (show (E.lst 6 106 y5A y5c y5l).Ty prog 85 from E.Ty.mk_lst underlying85 (by kernel_rfl) gy5.1 gy5.2))
   have HCX:Hid ((E.agg [.int .i64 y0,(.agg [.int .i64 y1,.int .i64 y2,.str y3,.lst 4 70 y4A y4c y4l]),.lst 6 106 y5A y5c y5l]).cntc=(1+((1+(1+(1+((E.lst 4 70 y4A y4c y4l).cnt+0))))+((E.lst 6 106 y5A y5c y5l).cnt+0)))):=rfl
   have hq1:q+(((1+((1+(1+(1+((E.lst 4 70 y4A y4c y4l).cnt+0))))+((E.lst 6 106 y5A y5c y5l).cnt+0))):Nat):Int)≤1152921504606846976:=by have e1:=HQ.out;have e2:=HT.out;have e3:=E.cntcL_le l (k+1);rw [ex,HCX.out] at e2;omega
   have e0:ec l k0 k=(ec l k0 k).set k (E.agg [.int .i64 y0,(.agg [.int .i64 y1,.int .i64 y2,.str y3,.lst 4 70 y4A y4c y4l]),.lst 6 106 y5A y5c y5l]):=by rw [←ex,←ew l k0 k hlt];exact (List.set_getElem_self _).symm
   have HN2:=Lib.hid (fun (z:E) (hz:z.fp=(E.agg [.int .i64 y0,(.agg [.int .i64 y1,.int .i64 y2,.str y3,.lst 4 70 y4A y4c y4l]),.lst 6 106 y5A y5c y5l]).fp)=>(show (E.lst 6 87 (some ⟨g,0,none⟩) c ((ec l k0 k).set k z)).fp.Nodup by have hh:=HND.out;have h3:E.fpL ((ec l k0 k).set k z)=E.fpL l:=(E.fpL_set hml (by rw [hz,←ex,ew l k0 k hlt])).trans (iN l k0 k);simp only [E.fp] at hh ⊢;rw [h3];exact hh))
   have HSB:=Lib.hid (fun (b:Nat) (hb:b∈(E.agg [.int .i64 y0,(.agg [.int .i64 y1,.int .i64 y2,.str y3,.lst 4 70 y4A y4c y4l]),.lst 6 106 y5A y5c y5l]).fp)=>(show b∈(E.lst 6 87 (some ⟨g,0,none⟩) c l).fp by simp only [E.fp];exact List.mem_append_right _ (E.mem_fpL.2 ⟨l[k],List.getElem_mem hlt,by rw [ex];exact hb⟩)))
   have hgm:g∈(E.lst 6 87 (some ⟨g,0,none⟩) c l).fp:=by simp [E.fp]
   have HGM:=Lib.hid hgm
   clear hgm
   rw [e0] at how
   clear e0
   obtain⟨ms,HMS⟩:∃ms,Hid (ec l k0 k=ms):=⟨_,rfl⟩
   rw [HMS.out] at how hml HN2
   have HEX:=Lib.hid ex
   clear ex
   have HML:=Lib.hid hml
   clear hml
   have H0:=Lib.hid how
   clear how
   have c0_0:wr.cell? ⟨g,k*6,none⟩=some (.int .i64 y0):=H0.out.cellx (j:=0) (u:=.int .i64 y0) (by simpa using HML.out) (a7 HML.out _) rfl
   have c0_1:wr.cell? ⟨g,k*6+1,none⟩=some (.int .i64 y1):=H0.out.cellx (j:=1) (u:=.int .i64 y1) (by simpa using HML.out) (a7 HML.out _) rfl
   have c0_2:wr.cell? ⟨g,k*6+2,none⟩=some (.int .i64 y2):=H0.out.cellx (j:=2) (u:=.int .i64 y2) (by simpa using HML.out) (a7 HML.out _) rfl
   have c0_3:wr.cell? ⟨g,k*6+3,none⟩=some (.string y3):=H0.out.cellx (j:=3) (u:=.string y3) (by simpa using HML.out) (a7 HML.out _) rfl
   have c0_4:wr.cell? ⟨g,k*6+4,none⟩=some (.slice y4A y4l.length y4c):=H0.out.cellx (j:=4) (u:=.slice y4A y4l.length y4c) (by simpa using HML.out) (a7 HML.out _) rfl
   have c0_5:wr.cell? ⟨g,k*6+5,none⟩=some (.slice y5A y5l.length y5c):=H0.out.cellx (j:=5) (u:=.slice y5A y5l.length y5c) (by simpa using HML.out) (a7 HML.out _) rfl
   have fz0:=H0.out.frzx
   go_wp2_with fail
   have H1:Hid ((E.lst 6 87 (some ⟨g,0,none⟩) c (ms.set k (E.agg [(E.int .i64 (q)),(E.agg [(E.int .i64 y1),(E.int .i64 y2),(E.str y3),(E.lst 4 70 y4A y4c y4l)]),(E.lst 6 106 y5A y5c y5l)]))).Ho (wr.setCell ⟨g,k*6,none⟩ (.int .i64 (q))) lo hi):=H0.out.store (HN2.out _ (by first|rfl|(simp only [E.fp,E.fpL,E.mkcL_fp,E.mk0L_fp,E.mk0_fp,E.mkc_fp];done)|fail)) HML.out (E.agg [(E.int .i64 (q)),(E.agg [(E.int .i64 y1),(E.int .i64 y2),(E.str y3),(E.lst 4 70 y4A y4c y4l)]),(E.lst 6 106 y5A y5c y5l)]) 0 (.int .i64 (q)) omq rfl (fun _ h=>h)
   clear H0
   have H2:Hid ((E.lst 6 87 (some ⟨g,0,none⟩) c (ms.set k (E.agg [(E.int .i64 (q)),(E.agg [(E.int .i64 (q+1)),(E.int .i64 y2),(E.str y3),(E.lst 4 70 y4A y4c y4l)]),(E.lst 6 106 y5A y5c y5l)]))).Ho ((wr.setCell ⟨g,k*6,none⟩ (.int .i64 (q))).setCell ⟨g,k*6+1,none⟩ (.int .i64 (q+1))) lo hi):=H1.out.store (HN2.out _ (by first|rfl|(simp only [E.fp,E.fpL,E.mkcL_fp,E.mk0L_fp,E.mk0_fp,E.mkc_fp];done)|fail)) HML.out (E.agg [(E.int .i64 (q)),(E.agg [(E.int .i64 (q+1)),(E.int .i64 y2),(E.str y3),(E.lst 4 70 y4A y4c y4l)]),(E.lst 6 106 y5A y5c y5l)]) 1 (.int .i64 (q+1)) omq rfl (fun _ h=>h)
   clear H1
   have H3:Hid ((E.lst 6 87 (some ⟨g,0,none⟩) c (ms.set k (E.agg [(E.int .i64 (q)),(E.agg [(E.int .i64 (q+1)),(E.int .i64 (q+1+1)),(E.str y3),(E.lst 4 70 y4A y4c y4l)]),(E.lst 6 106 y5A y5c y5l)]))).Ho (((wr.setCell ⟨g,k*6,none⟩ (.int .i64 (q))).setCell ⟨g,k*6+1,none⟩ (.int .i64 (q+1))).setCell ⟨g,k*6+2,none⟩ (.int .i64 (q+1+1))) lo hi):=H2.out.store (HN2.out _ (by first|rfl|(simp only [E.fp,E.fpL,E.mkcL_fp,E.mk0L_fp,E.mk0_fp,E.mkc_fp];done)|fail)) HML.out (E.agg [(E.int .i64 (q)),(E.agg [(E.int .i64 (q+1)),(E.int .i64 (q+1+1)),(E.str y3),(E.lst 4 70 y4A y4c y4l)]),(E.lst 6 106 y5A y5c y5l)]) 2 (.int .i64 (q+1+1)) omq rfl (fun _ h=>h)
   clear H2
   clear c0_0 c0_1 c0_2 c0_3 c0_4 c0_5 fz0
   go_at_call 71
   refine (db _ _ omq).mono ?_;rintro e w1 ⟨rfl,hb1⟩
   have hz1:=hb1.size;(try simp only [World.size_setCell] at hz1)
   have H4:=Lib.hid (H3.out.below hb1 (by first|omega|(simp;omega)))
   clear H3
   have hF1:Fr (E.lst 6 87 (some ⟨g,0,none⟩) c l).fp w w1:=(((hF0.set HGM.out (.int .i64 (q))).set HGM.out (.int .i64 (q+1))).set HGM.out (.int .i64 (q+1+1))).trans (Fr.of_below hb1)
   have c1_0:w1.cell? ⟨g,k*6,none⟩=some (.int .i64 (q)):=H4.out.cellx (j:=0) (u:=.int .i64 (q)) (by simpa using HML.out) (a7 HML.out _) rfl
   have c1_1:w1.cell? ⟨g,k*6+1,none⟩=some (.int .i64 (q+1)):=H4.out.cellx (j:=1) (u:=.int .i64 (q+1)) (by simpa using HML.out) (a7 HML.out _) rfl
   have c1_2:w1.cell? ⟨g,k*6+2,none⟩=some (.int .i64 (q+1+1)):=H4.out.cellx (j:=2) (u:=.int .i64 (q+1+1)) (by simpa using HML.out) (a7 HML.out _) rfl
   have c1_3:w1.cell? ⟨g,k*6+3,none⟩=some (.string y3):=H4.out.cellx (j:=3) (u:=.string y3) (by simpa using HML.out) (a7 HML.out _) rfl
   have c1_4:w1.cell? ⟨g,k*6+4,none⟩=some (.slice y4A y4l.length y4c):=H4.out.cellx (j:=4) (u:=.slice y4A y4l.length y4c) (by simpa using HML.out) (a7 HML.out _) rfl
   have c1_5:w1.cell? ⟨g,k*6+5,none⟩=some (.slice y5A y5l.length y5c):=H4.out.cellx (j:=5) (u:=.slice y5A y5l.length y5c) (by simpa using HML.out) (a7 HML.out _) rfl
   have fz1:=H4.out.frzx
   go_wp2_with fail
   have H5:Hid ((E.lst 6 87 (some ⟨g,0,none⟩) c (ms.set k (E.agg [(E.int .i64 (q)),(E.agg [(E.int .i64 (q+1)),(E.int .i64 (q+1+1)),(E.str (aM (q+1+1+1))),(E.lst 4 70 y4A y4c y4l)]),(E.lst 6 106 y5A y5c y5l)]))).Ho (w1.setCell ⟨g,k*6+3,none⟩ (.string (aM (q+1+1+1)))) lo hi):=H4.out.store (HN2.out _ (by first|rfl|(simp only [E.fp,E.fpL,E.mkcL_fp,E.mk0L_fp,E.mk0_fp,E.mkc_fp];done)|fail)) HML.out (E.agg [(E.int .i64 (q)),(E.agg [(E.int .i64 (q+1)),(E.int .i64 (q+1+1)),(E.str (aM (q+1+1+1))),(E.lst 4 70 y4A y4c y4l)]),(E.lst 6 106 y5A y5c y5l)]) 3 (.string (aM (q+1+1+1))) omq rfl (fun _ h=>h)
   clear H4
   clear c1_0 c1_1 c1_2 c1_3 c1_4 c1_5 fz1
   have ho2:(E.lst 4 70 y4A y4c y4l).Ho (w1.setCell ⟨g,k*6+3,none⟩ (.string (aM (q+1+1+1)))) lo hi:=(E.Ho.fld (i:=3) (E.Ho.fld (i:=1) (H5.out.el (bV HML.out _)) rfl) rfl)
   have HNn2:Hid ((E.lst 4 70 y4A y4c y4l).fp.Nodup):=(bk (show (E.fpL [(E.int .i64 (q+1)),(E.int .i64 (q+1+1)),(E.str (aM (q+1+1+1))),(E.lst 4 70 y4A y4c y4l)]).Nodup from (bk (show (E.fpL [(E.int .i64 (q)),(E.agg [(E.int .i64 (q+1)),(E.int .i64 (q+1+1)),(E.str (aM (q+1+1+1))),(E.lst 4 70 y4A y4c y4l)]),(E.lst 6 106 y5A y5c y5l)]).Nodup from (bk (show (E.fpL (ms.set k (E.agg [(E.int .i64 (q)),(E.agg [(E.int .i64 (q+1)),(E.int .i64 (q+1+1)),(E.str (aM (q+1+1+1))),(E.lst 4 70 y4A y4c y4l)]),(E.lst 6 106 y5A y5c y5l)]))).Nodup from (List.nodup_append.1 (show List.Nodup (_++_) from HN2.out (E.agg [(E.int .i64 (q)),(E.agg [(E.int .i64 (q+1)),(E.int .i64 (q+1+1)),(E.str (aM (q+1+1+1))),(E.lst 4 70 y4A y4c y4l)]),(E.lst 6 106 y5A y5c y5l)]) (by first|rfl|(simp only [E.fp,E.fpL,E.mkcL_fp,E.mk0L_fp,E.mk0_fp,E.mkc_fp];done)|fail))).2.1) (bV HML.out _))) (show (E.agg [(E.int .i64 (q+1)),(E.int .i64 (q+1+1)),(E.str (aM (q+1+1+1))),(E.lst 4 70 y4A y4c y4l)])∈[(E.int .i64 (q)),(E.agg [(E.int .i64 (q+1)),(E.int .i64 (q+1+1)),(E.str (aM (q+1+1+1))),(E.lst 4 70 y4A y4c y4l)]),(E.lst 6 106 y5A y5c y5l)] by simp))) (show (E.lst 4 70 y4A y4c y4l)∈[(E.int .i64 (q+1)),(E.int .i64 (q+1+1)),(E.str (aM (q+1+1+1))),(E.lst 4 70 y4A y4c y4l)] by simp))
   go_at_call 126
   refine (HC4.out lo hi _ _ ho2 HNn2.out (by first|omega|(simp;omega)) omq omq).mono ?_;rintro e w2 ⟨rfl,hm2,hf2⟩
   have hz2:=hf2.size;(try simp only [World.size_setCell] at hz2)
   have hin2:(E.agg [(E.int .i64 (q)),(E.agg [(E.int .i64 (q+1)),(E.int .i64 (q+1+1)),(E.str (aM (q+1+1+1))),(E.lst 4 70 y4A y4c (E.mkcL y4l (q+1+1+1+1)))]),(E.lst 6 106 y5A y5c y5l)]).Ho w2 lo hi:=(Ho_repl (i:=1) (H5.out.el (bV HML.out _)) (bk (show (E.fpL (ms.set k (E.agg [(E.int .i64 (q)),(E.agg [(E.int .i64 (q+1)),(E.int .i64 (q+1+1)),(E.str (aM (q+1+1+1))),(E.lst 4 70 y4A y4c y4l)]),(E.lst 6 106 y5A y5c y5l)]))).Nodup from (List.nodup_append.1 (show List.Nodup (_++_) from HN2.out (E.agg [(E.int .i64 (q)),(E.agg [(E.int .i64 (q+1)),(E.int .i64 (q+1+1)),(E.str (aM (q+1+1+1))),(E.lst 4 70 y4A y4c y4l)]),(E.lst 6 106 y5A y5c y5l)]) (by first|rfl|(simp only [E.fp,E.fpL,E.mkcL_fp,E.mk0L_fp,E.mk0_fp,E.mkc_fp];done)|fail))).2.1) (bV HML.out _)) (by simp) (show Fr (E.agg [(E.int .i64 (q+1)),(E.int .i64 (q+1+1)),(E.str (aM (q+1+1+1))),(E.lst 4 70 y4A y4c y4l)]).fp _ _ from hf2.sub (fun b hb=>by simp only [E.fp,E.fpL,List.mem_append] at hb ⊢;simp [hb])) (Ho_repl (i:=3) (E.Ho.fld (i:=1) (H5.out.el (bV HML.out _)) rfl) (bk (show (E.fpL [(E.int .i64 (q)),(E.agg [(E.int .i64 (q+1)),(E.int .i64 (q+1+1)),(E.str (aM (q+1+1+1))),(E.lst 4 70 y4A y4c y4l)]),(E.lst 6 106 y5A y5c y5l)]).Nodup from (bk (show (E.fpL (ms.set k (E.agg [(E.int .i64 (q)),(E.agg [(E.int .i64 (q+1)),(E.int .i64 (q+1+1)),(E.str (aM (q+1+1+1))),(E.lst 4 70 y4A y4c y4l)]),(E.lst 6 106 y5A y5c y5l)]))).Nodup from (List.nodup_append.1 (show List.Nodup (_++_) from HN2.out (E.agg [(E.int .i64 (q)),(E.agg [(E.int .i64 (q+1)),(E.int .i64 (q+1+1)),(E.str (aM (q+1+1+1))),(E.lst 4 70 y4A y4c y4l)]),(E.lst 6 106 y5A y5c y5l)]) (by first|rfl|(simp only [E.fp,E.fpL,E.mkcL_fp,E.mk0L_fp,E.mk0_fp,E.mkc_fp];done)|fail))).2.1) (bV HML.out _))) (show (E.agg [(E.int .i64 (q+1)),(E.int .i64 (q+1+1)),(E.str (aM (q+1+1+1))),(E.lst 4 70 y4A y4c y4l)])∈[(E.int .i64 (q)),(E.agg [(E.int .i64 (q+1)),(E.int .i64 (q+1+1)),(E.str (aM (q+1+1+1))),(E.lst 4 70 y4A y4c y4l)]),(E.lst 6 106 y5A y5c y5l)] by simp)) (by simp) (show Fr (E.lst 4 70 y4A y4c y4l).fp _ _ from hf2) hm2))
   have H6:=Lib.hid (H5.out.inside (HN2.out _ (by first|rfl|(simp only [E.fp,E.fpL,E.mkcL_fp,E.mk0L_fp,E.mk0_fp,E.mkc_fp];done)|fail)) HML.out (E.agg [(E.int .i64 (q)),(E.agg [(E.int .i64 (q+1)),(E.int .i64 (q+1+1)),(E.str (aM (q+1+1+1))),(E.lst 4 70 y4A y4c (E.mkcL y4l (q+1+1+1+1)))]),(E.lst 6 106 y5A y5c y5l)]) hf2 (fun b hb=>by simp only [E.fp,E.fpL,List.mem_append,List.nil_append,List.append_nil] at hb ⊢;simp [hb]) (by simp only [E.enc,E.encL,E.mkcL_len]) hin2)
   clear H5 hin2 ho2 hm2
   have hF2:Fr (E.lst 6 87 (some ⟨g,0,none⟩) c l).fp w w2:=(hF1.set HGM.out (.string (aM (q+1+1+1)))).trans (hf2.sub (fun b hb=>HSB.out b (by simp only [E.fp,E.fpL,List.mem_append,List.nil_append,List.append_nil] at hb ⊢;simp [hb])))
   have c2_0:w2.cell? ⟨g,k*6,none⟩=some (.int .i64 (q)):=H6.out.cellx (j:=0) (u:=.int .i64 (q)) (by simpa using HML.out) (a7 HML.out _) rfl
   have c2_1:w2.cell? ⟨g,k*6+1,none⟩=some (.int .i64 (q+1)):=H6.out.cellx (j:=1) (u:=.int .i64 (q+1)) (by simpa using HML.out) (a7 HML.out _) rfl
   have c2_2:w2.cell? ⟨g,k*6+2,none⟩=some (.int .i64 (q+1+1)):=H6.out.cellx (j:=2) (u:=.int .i64 (q+1+1)) (by simpa using HML.out) (a7 HML.out _) rfl
   have c2_3:w2.cell? ⟨g,k*6+3,none⟩=some (.string (aM (q+1+1+1))):=H6.out.cellx (j:=3) (u:=.string (aM (q+1+1+1))) (by simpa using HML.out) (a7 HML.out _) rfl
   have c2_4:w2.cell? ⟨g,k*6+4,none⟩=some (.slice y4A (E.mkcL y4l (q+1+1+1+1)).length y4c):=H6.out.cellx (j:=4) (u:=.slice y4A (E.mkcL y4l (q+1+1+1+1)).length y4c) (by simpa using HML.out) (a7 HML.out _) rfl
   have c2_5:w2.cell? ⟨g,k*6+5,none⟩=some (.slice y5A y5l.length y5c):=H6.out.cellx (j:=5) (u:=.slice y5A y5l.length y5c) (by simpa using HML.out) (a7 HML.out _) rfl
   have fz2:=H6.out.frzx
   go_wp2_with fail
   clear c2_0 c2_1 c2_2 c2_3 c2_4 c2_5 fz2
   have ho3:(E.lst 6 106 y5A y5c y5l).Ho w2 lo hi:=(E.Ho.fld (i:=2) (H6.out.el (bV HML.out _)) rfl)
   have HNn3:Hid ((E.lst 6 106 y5A y5c y5l).fp.Nodup):=(bk (show (E.fpL [(E.int .i64 (q)),(E.agg [(E.int .i64 (q+1)),(E.int .i64 (q+1+1)),(E.str (aM (q+1+1+1))),(E.lst 4 70 y4A y4c (E.mkcL y4l (q+1+1+1+1)))]),(E.lst 6 106 y5A y5c y5l)]).Nodup from (bk (show (E.fpL (ms.set k (E.agg [(E.int .i64 (q)),(E.agg [(E.int .i64 (q+1)),(E.int .i64 (q+1+1)),(E.str (aM (q+1+1+1))),(E.lst 4 70 y4A y4c (E.mkcL y4l (q+1+1+1+1)))]),(E.lst 6 106 y5A y5c y5l)]))).Nodup from (List.nodup_append.1 (show List.Nodup (_++_) from HN2.out (E.agg [(E.int .i64 (q)),(E.agg [(E.int .i64 (q+1)),(E.int .i64 (q+1+1)),(E.str (aM (q+1+1+1))),(E.lst 4 70 y4A y4c (E.mkcL y4l (q+1+1+1+1)))]),(E.lst 6 106 y5A y5c y5l)]) (by first|rfl|(simp only [E.fp,E.fpL,E.mkcL_fp,E.mk0L_fp,E.mk0_fp,E.mkc_fp];done)|fail))).2.1) (bV HML.out _))) (show (E.lst 6 106 y5A y5c y5l)∈[(E.int .i64 (q)),(E.agg [(E.int .i64 (q+1)),(E.int .i64 (q+1+1)),(E.str (aM (q+1+1+1))),(E.lst 4 70 y4A y4c (E.mkcL y4l (q+1+1+1+1)))]),(E.lst 6 106 y5A y5c y5l)] by simp))
   go_at_call 127
   refine (HC5.out lo hi _ _ ho3 HNn3.out (by first|omega|(simp;omega)) omq omq).mono ?_;rintro e w3 ⟨rfl,hm3,hf3⟩
   have hz3:=hf3.size;(try simp only [World.size_setCell] at hz3)
   have hin3:(E.agg [(E.int .i64 (q)),(E.agg [(E.int .i64 (q+1)),(E.int .i64 (q+1+1)),(E.str (aM (q+1+1+1))),(E.lst 4 70 y4A y4c (E.mkcL y4l (q+1+1+1+1)))]),(E.lst 6 106 y5A y5c (E.mkcL y5l (q+1+1+1+1+((E.lst 4 70 y4A y4c y4l).cnt:Int))))]).Ho w3 lo hi:=(Ho_repl (i:=2) (H6.out.el (bV HML.out _)) (bk (show (E.fpL (ms.set k (E.agg [(E.int .i64 (q)),(E.agg [(E.int .i64 (q+1)),(E.int .i64 (q+1+1)),(E.str (aM (q+1+1+1))),(E.lst 4 70 y4A y4c (E.mkcL y4l (q+1+1+1+1)))]),(E.lst 6 106 y5A y5c y5l)]))).Nodup from (List.nodup_append.1 (show List.Nodup (_++_) from HN2.out (E.agg [(E.int .i64 (q)),(E.agg [(E.int .i64 (q+1)),(E.int .i64 (q+1+1)),(E.str (aM (q+1+1+1))),(E.lst 4 70 y4A y4c (E.mkcL y4l (q+1+1+1+1)))]),(E.lst 6 106 y5A y5c y5l)]) (by first|rfl|(simp only [E.fp,E.fpL,E.mkcL_fp,E.mk0L_fp,E.mk0_fp,E.mkc_fp];done)|fail))).2.1) (bV HML.out _)) (by simp) (show Fr (E.lst 6 106 y5A y5c y5l).fp _ _ from hf3) hm3)
   have H7:=Lib.hid (H6.out.inside (HN2.out _ (by first|rfl|(simp only [E.fp,E.fpL,E.mkcL_fp,E.mk0L_fp,E.mk0_fp,E.mkc_fp];done)|fail)) HML.out (E.agg [(E.int .i64 (q)),(E.agg [(E.int .i64 (q+1)),(E.int .i64 (q+1+1)),(E.str (aM (q+1+1+1))),(E.lst 4 70 y4A y4c (E.mkcL y4l (q+1+1+1+1)))]),(E.lst 6 106 y5A y5c (E.mkcL y5l (q+1+1+1+1+((E.lst 4 70 y4A y4c y4l).cnt:Int))))]) hf3 (fun b hb=>by simp only [E.fp,E.fpL,List.mem_append,List.nil_append,List.append_nil] at hb ⊢;simp [hb]) (by simp only [E.enc,E.encL,E.mkcL_len]) hin3)
   clear H6 hin3 ho3 hm3
   have hF3:Fr (E.lst 6 87 (some ⟨g,0,none⟩) c l).fp w w3:=hF2.trans (hf3.sub (fun b hb=>HSB.out b (by simp only [E.fp,E.fpL,List.mem_append,List.nil_append,List.append_nil] at hb ⊢;simp [hb])))
   have c3_0:w3.cell? ⟨g,k*6,none⟩=some (.int .i64 (q)):=H7.out.cellx (j:=0) (u:=.int .i64 (q)) (by simpa using HML.out) (a7 HML.out _) rfl
   have c3_1:w3.cell? ⟨g,k*6+1,none⟩=some (.int .i64 (q+1)):=H7.out.cellx (j:=1) (u:=.int .i64 (q+1)) (by simpa using HML.out) (a7 HML.out _) rfl
   have c3_2:w3.cell? ⟨g,k*6+2,none⟩=some (.int .i64 (q+1+1)):=H7.out.cellx (j:=2) (u:=.int .i64 (q+1+1)) (by simpa using HML.out) (a7 HML.out _) rfl
   have c3_3:w3.cell? ⟨g,k*6+3,none⟩=some (.string (aM (q+1+1+1))):=H7.out.cellx (j:=3) (u:=.string (aM (q+1+1+1))) (by simpa using HML.out) (a7 HML.out _) rfl
   have c3_4:w3.cell? ⟨g,k*6+4,none⟩=some (.slice y4A (E.mkcL y4l (q+1+1+1+1)).length y4c):=H7.out.cellx (j:=4) (u:=.slice y4A (E.mkcL y4l (q+1+1+1+1)).length y4c) (by simpa using HML.out) (a7 HML.out _) rfl
   have c3_5:w3.cell? ⟨g,k*6+5,none⟩=some (.slice y5A (E.mkcL y5l (q+1+1+1+1+((E.lst 4 70 y4A y4c y4l).cnt:Int))).length y5c):=H7.out.cellx (j:=5) (u:=.slice y5A (E.mkcL y5l (q+1+1+1+1+((E.lst 4 70 y4A y4c y4l).cnt:Int))).length y5c) (by simpa using HML.out) (a7 HML.out _) rfl
   have fz3:=H7.out.frzx
   go_wp2
   go_roundw
   case rel =>
    have FF:∀t0 t1 t2 t3 t4 t5:Int,(q)=t0→(q+1)=t1→(q+1+1)=t2→(q+1+1+1)=t3→(q+1+1+1+1)=t4→(q+1+1+1+1+((E.lst 4 70 y4A y4c y4l).cnt:Int))=t5→(E.agg [(E.int .i64 (q)),(E.agg [(E.int .i64 (q+1)),(E.int .i64 (q+1+1)),(E.str (aM (q+1+1+1))),(E.lst 4 70 y4A y4c (E.mkcL y4l (q+1+1+1+1)))]),(E.lst 6 106 y5A y5c (E.mkcL y5l (q+1+1+1+1+((E.lst 4 70 y4A y4c y4l).cnt:Int))))])=(E.agg [(E.int .i64 t0),(E.agg [(E.int .i64 t1),(E.int .i64 t2),(E.str (aM t3)),(E.lst 4 70 y4A y4c (E.mkcL y4l t4))]),(E.lst 6 106 y5A y5c (E.mkcL y5l t5))]):=by
     intro t0 t1 t2 t3 t4 t5 ht0 ht1 ht2 ht3 ht4 ht5
     subst ht0
     subst ht1
     subst ht2
     subst ht3
     subst ht4
     subst ht5
     rfl
    have EX:(E.agg [(E.int .i64 (q)),(E.agg [(E.int .i64 (q+1)),(E.int .i64 (q+1+1)),(E.str (aM (q+1+1+1))),(E.lst 4 70 y4A y4c (E.mkcL y4l (q+1+1+1+1)))]),(E.lst 6 106 y5A y5c (E.mkcL y5l (q+1+1+1+1+((E.lst 4 70 y4A y4c y4l).cnt:Int))))])=(E.agg [.int .i64 y0,(.agg [.int .i64 y1,.int .i64 y2,.str y3,.lst 4 70 y4A y4c y4l]),.lst 6 106 y5A y5c y5l]).mkc q:=FF _ _ _ _ _ _ (by first|rfl|omega|(show _=_;simp only [E.cnt,E.cntL,E.cntc,E.cntcL,reduceCtorEq,if_false,if_true,ite_false];omega)) (by first|rfl|omega|(show _=_;simp only [E.cnt,E.cntL,E.cntc,E.cntcL,reduceCtorEq,if_false,if_true,ite_false];omega)) (by first|rfl|omega|(show _=_;simp only [E.cnt,E.cntL,E.cntc,E.cntcL,reduceCtorEq,if_false,if_true,ite_false];omega)) (by first|rfl|omega|(show _=_;simp only [E.cnt,E.cntL,E.cntc,E.cntcL,reduceCtorEq,if_false,if_true,ite_false];omega)) (by first|rfl|omega|(show _=_;simp only [E.cnt,E.cntL,E.cntc,E.cntcL,reduceCtorEq,if_false,if_true,ite_false];omega)) (by first|rfl|omega|(show _=_;simp only [E.cnt,E.cntL,E.cntc,E.cntcL,reduceCtorEq,if_false,if_true,ite_false];omega))
    exact⟨k+1,_,omq,by go_num,rfl,(by show _=_;have e1:=HQ.out;have e2:=HT.out;rw [HEX.out,HCX.out] at e2;omega),hF3,(by show E.Ho _ _ _ _;rw [←fm l k0 k hlt,HEX.out,←HQ.out,←EX,HMS.out];exact H7.out)⟩
   case measure=>simp [intOf];omega
  ·have hk':k=l.length:=by omega
   subst hk'
   go_wp2
   go_ret
   have e1:=HQ.out
   rw [List.take_length] at e1
   have h:=HOW.out
   rw [gC] at h
   exact⟨ri e1,h,hF0⟩
theorem mS {e:E}(ht:e.Ty prog 24):Mar 69 e:=by
 obtain⟨A,c,l,rfl,h1,h2⟩:=ht.lst_ underlying24 (k:=6) (by kernel_rfl)
 exact markRuleS_all' A c l h1 h2
end Go.Proofs.YtmnneflenebgmaaGreat
