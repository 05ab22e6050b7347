/- T -/
import Derived.Test.YtmnneflenebgmaaGreatCnOX
set_option maxHeartbeats 0
set_option maxRecDepth 100000
namespace Go.Proofs.YtmnneflenebgmaaGreat
open Go.RowKit Go.Proofs.Tryz
theorem dV {e:E}(h:e.Ty prog 227):∃(x0:Int) (x1:ByteArray) (x2:ByteArray) (x3A:Option Addr) (x3c:Nat) (x3l:List E) (x4A:Option Addr) (x4c:Nat) (x4l:List E) (x5A:Option Addr) (x5c:Nat) (x5l:List E),e=(E.agg [.int .i64 x0,.str x1,.str x2,.lst 4 152 x3A x3c x3l,.lst 6 227 x4A x4c x4l,.lst 6 227 x5A x5c x5l])∧((Lit.int .i64 x0).wf=true)∧(x1.size≤9223372036854775807)∧(x2.size≤9223372036854775807)∧((∀y∈x3l,y.Ty prog 152)∧(∀y∈x3l,y.enc.length=4))∧((∀y∈x4l,y.Ty prog 227)∧(∀y∈x4l,y.enc.length=6))∧((∀y∈x5l,y.Ty prog 227)∧(∀y∈x5l,y.enc.length=6))∧True:=by
 obtain⟨fs,rfl,q0⟩:=h.agg_ underlying227
 change E.TyF _ _ [3,9,9,150,153,153] at q0
 obtain⟨e0,r0,rfl,h0,q1⟩:=q0.cons_
 obtain⟨e1,r1,rfl,h1,q2⟩:=q1.cons_
 obtain⟨e2,r2,rfl,h2,q3⟩:=q2.cons_
 obtain⟨e3,r3,rfl,h3,q4⟩:=q3.cons_
 obtain⟨e4,r4,rfl,h4,q5⟩:=q4.cons_
 obtain⟨e5,r5,rfl,h5,q6⟩:=q5.cons_
 obtain rfl:=q6.nil_
 obtain⟨x0,rfl,gx0⟩:=h0.int_ underlying3
 obtain⟨x1,rfl,gx1⟩:=h1.str_ underlying9
 obtain⟨x2,rfl,gx2⟩:=h2.str_ underlying9
 obtain⟨x3A,x3c,x3l,rfl,gx3,gx3'⟩:=h3.lst_ underlying150 (k:=4) (by kernel_rfl)
 obtain⟨x4A,x4c,x4l,rfl,gx4,gx4'⟩:=h4.lst_ underlying153 (k:=6) (by kernel_rfl)
 obtain⟨x5A,x5c,x5l,rfl,gx5,gx5'⟩:=h5.lst_ underlying153 (k:=6) (by kernel_rfl)
 exact⟨x0,x1,x2,x3A,x3c,x3l,x4A,x4c,x4l,x5A,x5c,x5l,rfl,gx0,gx1,gx2,⟨gx3,gx3'⟩,⟨gx4,gx4'⟩,⟨gx5,gx5'⟩,trivial⟩
theorem aQ {e:E}(h:e.Ty prog 106):∃(x0:Int) (x1:ByteArray) (x2:ByteArray) (x3A:Option Addr) (x3c:Nat) (x3l:List E) (x4A:Option Addr) (x4c:Nat) (x4l:List E) (x5A:Option Addr) (x5c:Nat) (x5l:List E),e=(E.agg [.int .i64 x0,.str x1,.str x2,.lst 4 70 x3A x3c x3l,.lst 6 106 x4A x4c x4l,.lst 6 106 x5A x5c x5l])∧((Lit.int .i64 x0).wf=true)∧(x1.size≤9223372036854775807)∧(x2.size≤9223372036854775807)∧((∀y∈x3l,y.Ty prog 70)∧(∀y∈x3l,y.enc.length=4))∧((∀y∈x4l,y.Ty prog 106)∧(∀y∈x4l,y.enc.length=6))∧((∀y∈x5l,y.Ty prog 106)∧(∀y∈x5l,y.enc.length=6))∧True:=by
 obtain⟨fs,rfl,q0⟩:=h.agg_ underlying106
 change E.TyF _ _ [3,9,9,68,85,85] at q0
 obtain⟨e0,r0,rfl,h0,q1⟩:=q0.cons_
 obtain⟨e1,r1,rfl,h1,q2⟩:=q1.cons_
 obtain⟨e2,r2,rfl,h2,q3⟩:=q2.cons_
 obtain⟨e3,r3,rfl,h3,q4⟩:=q3.cons_
 obtain⟨e4,r4,rfl,h4,q5⟩:=q4.cons_
 obtain⟨e5,r5,rfl,h5,q6⟩:=q5.cons_
 obtain rfl:=q6.nil_
 obtain⟨x0,rfl,gx0⟩:=h0.int_ underlying3
 obtain⟨x1,rfl,gx1⟩:=h1.str_ underlying9
 obtain⟨x2,rfl,gx2⟩:=h2.str_ underlying9
 obtain⟨x3A,x3c,x3l,rfl,gx3,gx3'⟩:=h3.lst_ underlying68 (k:=4) (by kernel_rfl)
 obtain⟨x4A,x4c,x4l,rfl,gx4,gx4'⟩:=h4.lst_ underlying85 (k:=6) (by kernel_rfl)
 obtain⟨x5A,x5c,x5l,rfl,gx5,gx5'⟩:=h5.lst_ underlying85 (k:=6) (by kernel_rfl)
 exact⟨x0,x1,x2,x3A,x3c,x3l,x4A,x4c,x4l,x5A,x5c,x5l,rfl,gx0,gx1,gx2,⟨gx3,gx3'⟩,⟨gx4,gx4'⟩,⟨gx5,gx5'⟩,trivial⟩
theorem pK {e:E}(ht:e.Ty prog 227)(ih:∀s:E,s.Ty prog 153→s∈e.subs→Sz 176 s):Sz 212 e:=by
 obtain⟨x0,x1,x2,x3A,x3c,x3l,x4A,x4c,x4l,x5A,x5c,x5l,rfl,gx0,gx1,gx2,gx3,gx4,gx5,-⟩:=dV ht
 intro left w hr h0 h1
 have HSZ:Hid ((E.agg [.int .i64 x0,.str x1,.str x2,.lst 4 152 x3A x3c x3l,.lst 6 227 x4A x4c x4l,.lst 6 227 x5A x5c x5l]).sz=(0+(x1.size+(x2.size+((E.lst 4 152 x3A x3c x3l).sz+((E.lst 6 227 x4A x4c x4l).sz+((E.lst 6 227 x5A x5c x5l).sz+0))))))):=rfl
 change Calls _ _ #[.agg #[.int .i64 x0,.string x1,.string x2,.slice x3A x3l.length x3c,.slice x4A x4l.length x4c,.slice x5A x5l.length x5c],.int .i64 left] w _
 have hr3:=(hr.fld (i:=3) rfl).alloc (.cells #[.int .i64 x0,.string x1,.string x2,.slice x3A x3l.length x3c,.slice x4A x4l.length x4c,.slice x5A x5l.length x5c] 227)
 have hr4:=(hr.fld (i:=4) rfl).alloc (.cells #[.int .i64 x0,.string x1,.string x2,.slice x3A x3l.length x3c,.slice x4A x4l.length x4c,.slice x5A x5l.length x5c] 227)
 have hr5:=(hr.fld (i:=5) rfl).alloc (.cells #[.int .i64 x0,.string x1,.string x2,.slice x3A x3l.length x3c,.slice x4A x4l.length x4c,.slice x5A x5l.length x5c] 227)
 go_enter func212,Tryz.ntmps212
 by_cases hn1:left-x1.size<0
 ·go_wp2
  go_ret
  exact⟨-1,rfl,.inl omq,omq,by exact by0⟩
 by_cases hn2:(left-x1.size)-x2.size<0
 ·go_wp2
  go_ret
  exact⟨-1,rfl,.inl omq,omq,by exact by0⟩
 go_wp2_with fail
 go_at_call 211
 refine ((pE (E.Ty.mk_lst underlying150 (by kernel_rfl) gx3.1 gx3.2)) _ _ hr3 omq omq).mono ?_;rintro e w3 ⟨r3,rfl,hr3s,hl3,hb3⟩
 have hz3:=hb3.size;(try simp only [World.size_alloc] at hz3)
 have c3_4:w3.cell? ⟨w.heap.size,4,none⟩=some (.slice x4A x4l.length x4c):=(by repeat (first|(with_reducible assumption)|(with_reducible refine cell_drew ?_)|(with_reducible refine cell_drewN ?_)|(with_reducible exact dH rfl)|(exact cell_new' rfl (by first|rfl|(simp;done)))|(with_reducible refine cQ ?_ ?_)|(refine aJ (by with_reducible assumption) ?_ ?_)|(refine cell_kp (by with_reducible assumption) ?_ ?_)|omega|(·simp)|(·(simp;omega))))
 have c3_5:w3.cell? ⟨w.heap.size,5,none⟩=some (.slice x5A x5l.length x5c):=(by repeat (first|(with_reducible assumption)|(with_reducible refine cell_drew ?_)|(with_reducible refine cell_drewN ?_)|(with_reducible exact dH rfl)|(exact cell_new' rfl (by first|rfl|(simp;done)))|(with_reducible refine cQ ?_ ?_)|(refine aJ (by with_reducible assumption) ?_ ?_)|(refine cell_kp (by with_reducible assumption) ?_ ?_)|omega|(·simp)|(·(simp;omega))))
 have hr4:=hr4.below hb3 (by first|exact Nat.le_refl _|simp)
 have hr5:=hr5.below hb3 (by first|exact Nat.le_refl _|simp)
 by_cases hn3:r3<0
 ·go_wp2
  go_ret
  exact⟨-1,rfl,.inl omq,omq,by exact by0⟩
 have hq3:=hr3s.resolve_left hn3
 go_wp2_with fail
 go_at_call 176
 refine ((ih _ (E.Ty.mk_lst underlying153 (by kernel_rfl) gx4.1 gx4.2) (by simp [E.subs])) _ _ hr4 omq omq).mono ?_;rintro e w4 ⟨r4,rfl,hr4s,hl4,hb4⟩
 have hz4:=hb4.size;(try simp only [World.size_alloc] at hz4)
 have c4_5:w4.cell? ⟨w.heap.size,5,none⟩=some (.slice x5A x5l.length x5c):=(by repeat (first|(with_reducible assumption)|(with_reducible refine cell_drew ?_)|(with_reducible refine cell_drewN ?_)|(with_reducible exact dH rfl)|(exact cell_new' rfl (by first|rfl|(simp;done)))|(with_reducible refine cQ ?_ ?_)|(refine aJ (by with_reducible assumption) ?_ ?_)|(refine cell_kp (by with_reducible assumption) ?_ ?_)|omega|(·simp)|(·(simp;omega))))
 have hr5:=hr5.below hb4 (by first|exact Nat.le_refl _|simp)
 by_cases hn4:r4<0
 ·go_wp2
  go_ret
  exact⟨-1,rfl,.inl omq,omq,by exact by0⟩
 have hq4:=hr4s.resolve_left hn4
 go_wp2_with fail
 go_at_call 176
 refine ((ih _ (E.Ty.mk_lst underlying153 (by kernel_rfl) gx5.1 gx5.2) (by simp [E.subs])) _ _ hr5 omq omq).mono ?_;rintro e w5 ⟨r5,rfl,hr5s,hl5,hb5⟩
 have hz5:=hb5.size;(try simp only [World.size_alloc] at hz5)
 by_cases hn5:r5<0
 ·go_wp2
  go_ret
  exact⟨-1,rfl,.inl omq,omq,by exact by0⟩
 have hq5:=hr5s.resolve_left hn5
 go_wp2
 go_ret
 refine⟨_,rfl,.inr ?_,omq,by exact by0⟩
 show _=_
 rw [HSZ.out]
 have e3:=hq3.out
 have e4:=hq4.out
 have e5:=hq5.out
 push_cast
 omega
theorem szStmtS_step' (A:Option Addr)(c:Nat)(l:List E)(ht:∀y∈l,y.Ty prog 227)(ih:∀y∈l,y.Ty prog 227→Sz 212 y):Sz 176 (.lst 6 227 A c l):=by
 intro left w hr h0 h1
 have hs:=hr.sl
 have hlen:=hs.len_le
 have HSZ:Hid ((E.lst 6 227 A c l).sz=l.length+E.szL l):=rfl
 change Calls _ _ #[.slice A l.length c,.int .i64 left] w _
 by_cases hneg:left-l.length<0
 ·go_enter func176,Tryz.ntmps176
  go_wp2
  go_ret
  exact⟨-1,rfl,.inl omq,omq,by exact by0⟩
 go_enter func176,Tryz.ntmps176
 go_wp2
 go_loopw [1,5] (fun v i wr=>∃(k:Nat) (cur:Int),k≤l.length∧i=.int .i64 k∧v=.int .i64 cur∧0≤cur∧cur≤left∧Hid (cur+E.szL (l.take k)+l.length=left)∧Below w.heap.size w wr) (fun _ i _=>l.length-(intOf i).toNat)
 case atStart=>exact⟨0,_,Nat.zero_le _,rfl,rfl,omq,omq,(by show _=_;simp [E.szL]),Below.refl _ _⟩
 case round =>
  obtain⟨k,cur,hk,rfl,rfl,hc0,hc1,HQ,hb⟩:=hrel
  have hzb:=hb.size
  by_cases hlt:k<l.length
  ·have hs':=hs.below hb (Nat.le_refl _)
   have HT:=Lib.hid (E.szL_take l k hlt)
   obtain⟨b,o,rfl,_,hc⟩:=hs'.at_ hlt
   have hin:=(hr.el (List.getElem_mem hlt)).below hb (Nat.le_refl _)
   have H:=ih _ (List.getElem_mem hlt) (ht _ (List.getElem_mem hlt))
   obtain⟨y0,y1,y2,y3A,y3c,y3l,y4A,y4c,y4l,y5A,y5c,y5l,ex,gy0,gy1,gy2,gy3,gy4,gy5,-⟩:=dV (ht _ (List.getElem_mem hlt))
   have HEX:=Lib.hid ex
   rw [ex] at hc hin H
   clear ex
   have c0:=hc 0 _ rfl;have c1:=hc 1 _ rfl;have c2:=hc 2 _ rfl;have c3:=hc 3 _ rfl;have c4:=hc 4 _ rfl;have c5:=hc 5 _ rfl
   rw [Nat.add_zero] at c0
   clear hc
   go_wp2_with fail
   go_at_call 212
   refine (H _ _ hin hc0 omq).mono ?_;rintro e w1 ⟨r,rfl,hrs,hrl,hb1⟩
   by_cases hn:r<0
   ·go_wp2
    go_ret
    exact⟨-1,rfl,.inl omq,omq,by exact by0⟩
   ·have HR:=hrs.resolve_left hn
    clear hrs
    go_wp2
    go_roundw
    case rel=>exact⟨k+1,r,omq,by go_num,rfl,omq,omq,(by show _=_;have e1:=HQ.out;have e2:=HT.out;have e3:=HR.out;rw [HEX.out] at e2;omega),by exact by0⟩
    case measure=>simp [intOf];omega
  ·have hk':k=l.length:=by omega
   subst hk'
   go_wp2
   go_ret
   refine⟨_,rfl,.inr ?_,omq,hb⟩
   show _=_
   have e1:=HQ.out
   rw [List.take_length] at e1
   rw [HSZ.out]
   push_cast
   omega
theorem og {e:E}(ht:e.Ty prog 153)(ih:∀y:E,y∈e.elems→y.Ty prog 227→Sz 212 y):Sz 176 e:=by
 obtain⟨A,c,l,rfl,h1,_⟩:=ht.lst_ underlying153 (k:=6) (by kernel_rfl)
 exact szStmtS_step' A c l h1 ih
theorem pL:∀e:E,(e.Ty prog 227→Sz 212 e)∧(e.Ty prog 153→Sz 176 e):=by
 intro e
 induction e using E.ind with
 | h1|h2|h3=>exact⟨(fun h=>by obtain⟨_,h,_⟩:=h.agg_ underlying227;cases h),(fun h=>by obtain⟨_,_,_,h,_⟩:=h.lst_ underlying153 rfl;cases h)⟩
 | h4 fs ih=>exact⟨fun h=>pK h (fun s hs hm=>(ih s hm).2 hs),(fun h=>by obtain⟨_,_,_,h,_⟩:=h.lst_ underlying153 rfl;cases h)⟩
 | h5 k T A c l ih=>exact⟨(fun h=>by obtain⟨_,h,_⟩:=h.agg_ underlying227;cases h),fun h=>og h (fun y hm hy=>(ih y hm).1 hy)⟩
theorem kN {e:E}(ht:e.Ty prog 153):Sz 176 e:=(pL e).2 ht
theorem pM {e:E}(ht:e.Ty prog 227)(ih:∀s:E,s.Ty prog 153→s∈e.subs→To 179 85 s):To 214 106 e:=by
 have HT0:=Lib.hid ht
 obtain⟨x0,x1,x2,x3A,x3c,x3l,x4A,x4c,x4l,x5A,x5c,x5l,rfl,gx0,gx1,gx2,gx3,gx4,gx5,-⟩:=dV ht
 intro w hr hsz
 have hsz':(0+(x1.size+(x2.size+((E.lst 4 152 x3A x3c x3l).sz+((E.lst 6 227 x4A x4c x4l).sz+((E.lst 6 227 x5A x5c x5l).sz+0))))))≤1048576:=hsz
 have hs3:(E.lst 4 152 x3A x3c x3l).sz≤1048576:=by omega
 have hs4:(E.lst 6 227 x4A x4c x4l).sz≤1048576:=by omega
 have hs5:(E.lst 6 227 x5A x5c x5l).sz≤1048576:=by omega
 clear hsz hsz'
 have hr3:=hr.fld (i:=3) rfl
 have ty3:(E.lst 4 152 x3A x3c x3l).Ty prog 150:=E.Ty.mk_lst underlying150 (by kernel_rfl) gx3.1 gx3.2
 have HC3:=Lib.hid (pH ty3)
 clear ty3
 have hr4:=hr.fld (i:=4) rfl
 have ty4:(E.lst 6 227 x4A x4c x4l).Ty prog 153:=E.Ty.mk_lst underlying153 (by kernel_rfl) gx4.1 gx4.2
 have HC4:=Lib.hid (ih _ ty4 (by simp [E.subs]))
 clear ty4
 have hr5:=hr.fld (i:=5) rfl
 have ty5:(E.lst 6 227 x5A x5c x5l).Ty prog 153:=E.Ty.mk_lst underlying153 (by kernel_rfl) gx5.1 gx5.2
 have HC5:=Lib.hid (ih _ ty5 (by simp [E.subs]))
 clear ty5
 change Calls _ _ #[.agg #[.int .i64 x0,.string x1,.string x2,.slice x3A x3l.length x3c,.slice x4A x4l.length x4c,.slice x5A x5l.length x5c]] w _
 go_enter func214,Tryz.ntmps214
 go_wp2_with fail
 go_at_call 213
 refine (HC3.out _ (((hr3.alloc _).alloc _).alloc _) hs3).mono ?_;rintro e w1 ⟨v1,he,HD1,ht1,ho1,hn1,hb1⟩
 have HT1:=Lib.hid ht1
 have HN1:=Lib.hid hn1
 obtain⟨A1,q1,l1,rfl,-,-⟩:=ht1.lst_ underlying68 (k:=4) (by kernel_rfl)
 obtain rfl:e=.returned (.slice A1 l1.length q1):=he
 clear hn1 ht1
 have B0_1:w1.heap[w.heap.size]? = some (.cells #[.int .i64 x0,.string x1,.string x2,.slice x3A x3l.length x3c,.slice x4A x4l.length x4c,.slice x5A x5l.length x5c] 227 (0,0)):=(hb1.block (w.heap.size) (by simp;omega)).trans gU.1
 have B1_1:w1.heap[w.heap.size+1]? = some (.cells #[.int .i64 0,.string ByteArray.empty,.string ByteArray.empty,.slice none 0 0,.slice none 0 0,.slice none 0 0] 106 (0,0)):=(hb1.block (w.heap.size+1) (by simp)).trans gU.2.1
 have B2_1:w1.heap[w.heap.size+1+1]? = some (.cells #[.int .i64 x0,.string x1,.string x2,.slice none 0 0,.slice none 0 0,.slice none 0 0] 106 (0,0)):=(hb1.block (w.heap.size+1+1) (by simp)).trans gU.2.2
 have hz1:=hb1.size;simp only [World.size_alloc] at hz1
 have hB1:Below w.heap.size w w1:=(by exact by0:Below w.heap.size w _).trans (hb1.mono (by simp;omega))
 have ho1:=ho1.wider (lo':=w.heap.size+1+1+1) (by simp) (Nat.le_refl _)
 have c1_0:w1.cell? ⟨w.heap.size,0,none⟩=some (.int .i64 x0):=aw B0_1 rfl
 have c1_1:w1.cell? ⟨w.heap.size,1,none⟩=some (.string x1):=aw B0_1 rfl
 have c1_2:w1.cell? ⟨w.heap.size,2,none⟩=some (.string x2):=aw B0_1 rfl
 have c1_3:w1.cell? ⟨w.heap.size,3,none⟩=some (.slice x3A x3l.length x3c):=aw B0_1 rfl
 have c1_4:w1.cell? ⟨w.heap.size,4,none⟩=some (.slice x4A x4l.length x4c):=aw B0_1 rfl
 have c1_5:w1.cell? ⟨w.heap.size,5,none⟩=some (.slice x5A x5l.length x5c):=aw B0_1 rfl
 have d1_0:w1.cell? ⟨w.heap.size+1+1,0,none⟩=some (.int .i64 x0):=aw B2_1 rfl
 have d1_1:w1.cell? ⟨w.heap.size+1+1,1,none⟩=some (.string x1):=aw B2_1 rfl
 have d1_2:w1.cell? ⟨w.heap.size+1+1,2,none⟩=some (.string x2):=aw B2_1 rfl
 have d1_3:w1.cell? ⟨w.heap.size+1+1,3,none⟩=some (.slice none 0 0):=aw B2_1 rfl
 have d1_4:w1.cell? ⟨w.heap.size+1+1,4,none⟩=some (.slice none 0 0):=aw B2_1 rfl
 have d1_5:w1.cell? ⟨w.heap.size+1+1,5,none⟩=some (.slice none 0 0):=aw B2_1 rfl
 have f1:=eJ B2_1
 go_wp2_with fail
 have hK1:Kp (w.heap.size+1+1) (w.heap.size+1+1+1) w1 (w1.setCell ⟨w.heap.size+1+1,3,none⟩ (.slice A1 l1.length q1)):=(by repeat (first|(with_reducible exact Kp.refl _ _ _)|(refine Kp.set ?_ (by first|omega|(dsimp only;omega)|(simp;omega)) (by first|omega|(dsimp only;omega)|(simp;omega)) _)))
 have A0_1:=(hK1.block (w.heap.size) omq (.inl omq)).trans B0_1
 have A1_1:=(hK1.block (w.heap.size+1) omq (.inl omq)).trans B1_1
 have A2_1:(w1.setCell ⟨w.heap.size+1+1,3,none⟩ (.slice A1 l1.length q1)).heap[w.heap.size+1+1]? = some (.cells #[.int .i64 x0,.string x1,.string x2,.slice A1 l1.length q1,.slice none 0 0,.slice none 0 0] 106 (0,0)):=by simp only [eh,B2_1];simp [jW]
 have hW1:(w1.setCell ⟨w.heap.size+1+1,3,none⟩ (.slice A1 l1.length q1)).heap.size=w1.heap.size:=by simp
 have hBW1:Below w.heap.size w (w1.setCell ⟨w.heap.size+1+1,3,none⟩ (.slice A1 l1.length q1)):=hB1.trans (hK1.below omq omq)
 have ho1:=ho1.kp hK1 (.inr omq)
 clear c1_0 c1_1 c1_2 c1_3 c1_4 c1_5 d1_0 d1_1 d1_2 d1_3 d1_4 d1_5 f1 B0_1 B1_1 B2_1 hK1 hB1
 generalize (w1.setCell ⟨w.heap.size+1+1,3,none⟩ (.slice A1 l1.length q1))=W1 at *
 go_at_call 179
 refine (HC4.out _ (E.In.below hr4 hBW1 (Nat.le_refl _)) hs4).mono ?_;rintro e w2 ⟨v2,he,HD2,ht2,ho2,hn2,hb2⟩
 have HT2:=Lib.hid ht2
 have HN2:=Lib.hid hn2
 obtain⟨A2,q2,l2,rfl,-,-⟩:=ht2.lst_ underlying85 (k:=6) (by kernel_rfl)
 obtain rfl:e=.returned (.slice A2 l2.length q2):=he
 clear hn2 ht2
 have B0_2:=(hb2.block (w.heap.size) omq).trans A0_1
 have B1_2:=(hb2.block (w.heap.size+1) omq).trans A1_1
 have B2_2:=(hb2.block (w.heap.size+1+1) omq).trans A2_1
 have hz2:=hb2.size
 have hB2:Below w.heap.size w w2:=hBW1.trans (hb2.mono omq)
 have ho1:=ho1.below hb2 omq
 have ho2:=ho2.wider (lo':=w1.heap.size) omq (Nat.le_refl _)
 clear A0_1 A1_1 A2_1
 have c2_0:w2.cell? ⟨w.heap.size,0,none⟩=some (.int .i64 x0):=aw B0_2 rfl
 have c2_1:w2.cell? ⟨w.heap.size,1,none⟩=some (.string x1):=aw B0_2 rfl
 have c2_2:w2.cell? ⟨w.heap.size,2,none⟩=some (.string x2):=aw B0_2 rfl
 have c2_3:w2.cell? ⟨w.heap.size,3,none⟩=some (.slice x3A x3l.length x3c):=aw B0_2 rfl
 have c2_4:w2.cell? ⟨w.heap.size,4,none⟩=some (.slice x4A x4l.length x4c):=aw B0_2 rfl
 have c2_5:w2.cell? ⟨w.heap.size,5,none⟩=some (.slice x5A x5l.length x5c):=aw B0_2 rfl
 have d2_0:w2.cell? ⟨w.heap.size+1+1,0,none⟩=some (.int .i64 x0):=aw B2_2 rfl
 have d2_1:w2.cell? ⟨w.heap.size+1+1,1,none⟩=some (.string x1):=aw B2_2 rfl
 have d2_2:w2.cell? ⟨w.heap.size+1+1,2,none⟩=some (.string x2):=aw B2_2 rfl
 have d2_3:w2.cell? ⟨w.heap.size+1+1,3,none⟩=some (.slice A1 l1.length q1):=aw B2_2 rfl
 have d2_4:w2.cell? ⟨w.heap.size+1+1,4,none⟩=some (.slice none 0 0):=aw B2_2 rfl
 have d2_5:w2.cell? ⟨w.heap.size+1+1,5,none⟩=some (.slice none 0 0):=aw B2_2 rfl
 have f2:=eJ B2_2
 go_wp2_with fail
 have hK2:Kp (w.heap.size+1+1) (w.heap.size+1+1+1) w2 (w2.setCell ⟨w.heap.size+1+1,4,none⟩ (.slice A2 l2.length q2)):=(by repeat (first|(with_reducible exact Kp.refl _ _ _)|(refine Kp.set ?_ (by first|omega|(dsimp only;omega)|(simp;omega)) (by first|omega|(dsimp only;omega)|(simp;omega)) _)))
 have A0_2:=(hK2.block (w.heap.size) omq (.inl omq)).trans B0_2
 have A1_2:=(hK2.block (w.heap.size+1) omq (.inl omq)).trans B1_2
 have A2_2:(w2.setCell ⟨w.heap.size+1+1,4,none⟩ (.slice A2 l2.length q2)).heap[w.heap.size+1+1]? = some (.cells #[.int .i64 x0,.string x1,.string x2,.slice A1 l1.length q1,.slice A2 l2.length q2,.slice none 0 0] 106 (0,0)):=by simp only [eh,B2_2];simp [jW]
 have hW2:(w2.setCell ⟨w.heap.size+1+1,4,none⟩ (.slice A2 l2.length q2)).heap.size=w2.heap.size:=by simp
 have hBW2:Below w.heap.size w (w2.setCell ⟨w.heap.size+1+1,4,none⟩ (.slice A2 l2.length q2)):=hB2.trans (hK2.below omq omq)
 have ho1:=ho1.kp hK2 (.inr omq)
 have ho2:=ho2.kp hK2 (.inr omq)
 clear c2_0 c2_1 c2_2 c2_3 c2_4 c2_5 d2_0 d2_1 d2_2 d2_3 d2_4 d2_5 f2 B0_2 B1_2 B2_2 hK2 hB2
 generalize (w2.setCell ⟨w.heap.size+1+1,4,none⟩ (.slice A2 l2.length q2))=W2 at *
 go_at_call 179
 refine (HC5.out _ (E.In.below hr5 hBW2 (Nat.le_refl _)) hs5).mono ?_;rintro e w3 ⟨v3,he,HD3,ht3,ho3,hn3,hb3⟩
 have HT3:=Lib.hid ht3
 have HN3:=Lib.hid hn3
 obtain⟨A3,q3,l3,rfl,-,-⟩:=ht3.lst_ underlying85 (k:=6) (by kernel_rfl)
 obtain rfl:e=.returned (.slice A3 l3.length q3):=he
 clear hn3 ht3
 have B0_3:=(hb3.block (w.heap.size) omq).trans A0_2
 have B1_3:=(hb3.block (w.heap.size+1) omq).trans A1_2
 have B2_3:=(hb3.block (w.heap.size+1+1) omq).trans A2_2
 have hz3:=hb3.size
 have hB3:Below w.heap.size w w3:=hBW2.trans (hb3.mono omq)
 have ho1:=ho1.below hb3 omq
 have ho2:=ho2.below hb3 omq
 have ho3:=ho3.wider (lo':=w2.heap.size) omq (Nat.le_refl _)
 clear A0_2 A1_2 A2_2
 have c3_0:w3.cell? ⟨w.heap.size,0,none⟩=some (.int .i64 x0):=aw B0_3 rfl
 have c3_1:w3.cell? ⟨w.heap.size,1,none⟩=some (.string x1):=aw B0_3 rfl
 have c3_2:w3.cell? ⟨w.heap.size,2,none⟩=some (.string x2):=aw B0_3 rfl
 have c3_3:w3.cell? ⟨w.heap.size,3,none⟩=some (.slice x3A x3l.length x3c):=aw B0_3 rfl
 have c3_4:w3.cell? ⟨w.heap.size,4,none⟩=some (.slice x4A x4l.length x4c):=aw B0_3 rfl
 have c3_5:w3.cell? ⟨w.heap.size,5,none⟩=some (.slice x5A x5l.length x5c):=aw B0_3 rfl
 have d3_0:w3.cell? ⟨w.heap.size+1+1,0,none⟩=some (.int .i64 x0):=aw B2_3 rfl
 have d3_1:w3.cell? ⟨w.heap.size+1+1,1,none⟩=some (.string x1):=aw B2_3 rfl
 have d3_2:w3.cell? ⟨w.heap.size+1+1,2,none⟩=some (.string x2):=aw B2_3 rfl
 have d3_3:w3.cell? ⟨w.heap.size+1+1,3,none⟩=some (.slice A1 l1.length q1):=aw B2_3 rfl
 have d3_4:w3.cell? ⟨w.heap.size+1+1,4,none⟩=some (.slice A2 l2.length q2):=aw B2_3 rfl
 have d3_5:w3.cell? ⟨w.heap.size+1+1,5,none⟩=some (.slice none 0 0):=aw B2_3 rfl
 have f3:=eJ B2_3
 have r0':=aw B1_3 (o:=0) rfl;have r1':=aw B1_3 (o:=1) rfl;have r2':=aw B1_3 (o:=2) rfl;have r3':=aw B1_3 (o:=3) rfl;have r4':=aw B1_3 (o:=4) rfl;have r5':=aw B1_3 (o:=5) rfl
 have fr':=eJ B1_3
 go_wp2
 have OWN:Owns w3 (w.heap.size+1+1+1) w3.heap.size [(E.int .i64 x0),(E.str x1),(E.str x2),(E.lst 4 70 A1 q1 l1),(E.lst 6 106 A2 q2 l2),(E.lst 6 106 A3 q3 l3)]:=(Owns.leaf rfl (by simp only [E.Ho]) (Owns.leaf rfl (by simp only [E.Ho]) (Owns.leaf rfl (by simp only [E.Ho]) (Owns.cons (mid:=w1.heap.size) ho1 HN1.out (Owns.cons (mid:=w2.heap.size) ho2 HN2.out (Owns.cons (mid:=w3.heap.size) ho3 HN3.out Owns.nil omq omq) omq omq) omq omq))))
 refine bodyPost_ret (v:=.agg #[.int .i64 x0,.string x1,.string x2,.slice A1 l1.length q1,.slice A2 l2.length q2,.slice A3 l3.length q3]) (ia (t:=106) (fr:=(0,0)) rfl rfl underlying106 (by kernel_rfl) ?_) rfl ⟨(E.agg [(E.int .i64 x0),(E.str x1),(E.str x2),(E.lst 4 70 A1 q1 l1),(E.lst 6 106 A2 q2 l2),(E.lst 6 106 A3 q3 l3)]),rfl,?_,E.Ty.mk_agg underlying106 (E.TyF.mk_cons (show E.Ty _ _ _ from ⟨underlying3,gx0⟩) (E.TyF.mk_cons (show E.Ty _ _ _ from ⟨underlying9,by unfold maxLen;exact gx1⟩) (E.TyF.mk_cons (show E.Ty _ _ _ from ⟨underlying9,by unfold maxLen;exact gx2⟩) (E.TyF.mk_cons HT1.out (E.TyF.mk_cons HT2.out (E.TyF.mk_cons HT3.out (E.TyF.mk_nil))))))),?_,?_,?_⟩
 ·simp only [eh,B1_3,B2_3];simp [jW]
 ·show E.d _=E.d _
  simp only [E.d,E.dL]
  have y1:=HD1.out;simp only [E.d,E.dL] at y1
  have y2:=HD2.out;simp only [E.d,E.dL] at y2
  have y3:=HD3.out;simp only [E.d,E.dL] at y3
  simp only [E.agg.injEq,List.cons.injEq,E.lst.injEq,E.int.injEq,E.str.injEq,E.bool.injEq,true_and,and_true] at *
  simp [*]
 ·exact ((E.Ho.mk_agg OWN.1).kp (lo':=w.heap.size+1) (hi':=w.heap.size+1+1+1) (by repeat (first|(with_reducible exact Kp.refl _ _ _)|(refine Kp.set ?_ (by first|omega|(dsimp only;omega)|(simp;omega)) (by first|omega|(dsimp only;omega)|(simp;omega)) _))) (.inr omq)).wider omq (by simp)
 ·exact OWN.2
 ·exact hB3.trans (Kp.below (lo:=w.heap.size+1) (hi:=w.heap.size+1+1+1) (by repeat (first|(with_reducible exact Kp.refl _ _ _)|(refine Kp.set ?_ (by first|omega|(dsimp only;omega)|(simp;omega)) (by first|omega|(dsimp only;omega)|(simp;omega)) _))) omq omq)
theorem vn:(prog.info? 106).map (fun i=>(i.zero,i.size,i.bytes))=some (some (.agg #[.int .i64 0,.string ByteArray.empty,.string ByteArray.empty,.slice none 0 0,.slice none 0 0,.slice none 0 0]),6,112):=by kernel_rfl
theorem toStmtS_step' (A:Option Addr)(c:Nat)(l:List E)(h1:∀y∈l,y.Ty prog 227)(ih:∀y∈l,y.Ty prog 227→To 214 106 y):To 179 85 (.lst 6 227 A c l):=by
 intro w hr hsz
 have hs:=hr.sl
 have eS:(E.lst 6 227 A c l).sz=l.length+E.szL l:=rfl
 have hn:l.length≤1048576:=by omega
 have HS:=Lib.hid (show l.length+E.szL l≤1048576 by omega)
 clear eS hsz
 have hmk:=sW underlying85 vn l.length omq omq
 have hF:=Fill.new w 106 #[.int .i64 0,.string ByteArray.empty,.string ByteArray.empty,.slice none 0 0,.slice none 0 0,.slice none 0 0] (l.length*6) ([]:List Value)
 change Calls _ _ #[.slice A l.length c] w _
 go_enter func179,Tryz.ntmps179
 go_wp2
 go_loopw [4] (fun i wr=>∃(k:Nat) (us:List E),k≤l.length∧i=.int .i64 k∧Hid (us.length=k)∧Hid (us.map E.d=(l.take k).map E.d)∧Hid (∀u∈us,u.Ty prog 106∧u.enc.length=6)∧Fill wr w.heap.size 106 (l.length*6) (k*6) (E.encL us)∧w.heap.size+1≤wr.heap.size∧Hid (∀u∈us,u.Ho wr (w.heap.size+1) wr.heap.size)∧Hid ((E.fpL us).Nodup)∧Below w.heap.size w wr) (fun i _=>l.length-(intOf i).toNat)
 case atStart=>exact⟨0,[],Nat.zero_le _,rfl,rfl,rfl,(fun u hu=>absurd hu List.not_mem_nil),by exact hF,by simp,(fun u hu=>absurd hu List.not_mem_nil),(by show List.Nodup _;simp [E.fpL]),by exact by0⟩
 case round =>
  obtain⟨k,us,hk,rfl,HL,HD,HT,hf,hge,HO,HN,hb⟩:=hrel
  by_cases hlt:k<l.length
  ·have hs':=hs.below hb (Nat.le_refl _)
   have hzb:=hb.size
   have hmem:=List.getElem_mem hlt
   have hin:=(hr.el hmem).below hb (Nat.le_refl _)
   have H:=ih _ hmem (h1 _ hmem)
   have hsk:l[k].sz≤1048576:=by have:=E.szL_mem hmem;have:=HS.out;omega
   obtain⟨b,o,rfl,_,hc⟩:=hs'.at_ hlt
   obtain⟨y0,y1,y2,y3A,y3c,y3l,y4A,y4c,y4l,y5A,y5c,y5l,ex,gy0,gy1,gy2,gy3,gy4,gy5,-⟩:=dV (h1 _ hmem)
   have HEX:=Lib.hid ex
   rw [ex] at hc hin H hsk
   clear ex
   have c0:=hc 0 _ rfl;have c1:=hc 1 _ rfl;have c2:=hc 2 _ rfl;have c3:=hc 3 _ rfl;have c4:=hc 4 _ rfl;have c5:=hc 5 _ rfl
   rw [Nat.add_zero] at c0
   clear hc
   have HF:=Lib.hid hf
   clear hf
   go_wp2_with fail
   go_at_call 214
   refine (H _ hin hsk).mono ?_;rintro e w1 ⟨x,he,HDX,htx,hox,hnx,hb1⟩
   have HTX:=Lib.hid htx
   obtain⟨z0,z1,z2,z3A,z3c,z3l,z4A,z4c,z4l,z5A,z5c,z5l,rfl,gz0,gz1,gz2,gz3,gz4,gz5,-⟩:=aQ htx
   obtain rfl:e=.returned (.agg #[.int .i64 z0,.string z1,.string z2,.slice z3A z3l.length z3c,.slice z4A z4l.length z4c,.slice z5A z5l.length z5c]):=he
   have hf1:=HF.out.below hb1 HF.out.lt
   obtain⟨u0,c0'⟩:=hf1.cell (j:=k*6) omq;obtain⟨u1,c1'⟩:=hf1.cell (j:=k*6+1) omq;obtain⟨u2,c2'⟩:=hf1.cell (j:=k*6+2) omq;obtain⟨u3,c3'⟩:=hf1.cell (j:=k*6+3) omq;obtain⟨u4,c4'⟩:=hf1.cell (j:=k*6+4) omq;obtain⟨u5,c5'⟩:=hf1.cell (j:=k*6+5) omq
   have zfr:=hf1.frozen
   have hz1:=hb1.size
   have HOX:=Lib.hid hox
   have HNX:=Lib.hid hnx
   have HF1:=Lib.hid hf1
   clear hox hnx hf1 htx
   go_wp2
   go_roundw
   case rel =>
    have hl:=HL.out
    have hf1:=HF1.out
    have hT:∀u∈us++[(E.agg [.int .i64 z0,.str z1,.str z2,.lst 4 70 z3A z3c z3l,.lst 6 106 z4A z4c z4l,.lst 6 106 z5A z5c z5l])],u.Ty prog 106∧u.enc.length=6:=fun u hu=>by
     rcases List.mem_append.1 hu with hu|hu
     ·exact HT.out u hu
     ·obtain rfl:=List.mem_singleton.1 hu
      exact⟨HTX.out,rfl⟩
    have hlen:=E.encL_len fun u hu=>(HT.out u hu).2
    have hk2:k<(us++[(E.agg [.int .i64 z0,.str z1,.str z2,.lst 4 70 z3A z3c z3l,.lst 6 106 z4A z4c z4l,.lst 6 106 z5A z5c z5l])]).length:=by simp;omega
    have ev:=fun j hj=>E.encL_at (fun u hu=>(hT u hu).2) k hk2 j hj
    have eT:(us++[(E.agg [.int .i64 z0,.str z1,.str z2,.lst 4 70 z3A z3c z3l,.lst 6 106 z4A z4c z4l,.lst 6 106 z5A z5c z5l])])[k]=(E.agg [.int .i64 z0,.str z1,.str z2,.lst 4 70 z3A z3c z3l,.lst 6 106 z4A z4c z4l,.lst 6 106 z5A z5c z5l]):=by rw [List.getElem_append_right omq];simp [hl]
    simp only [eT] at ev
    have hf2:Fill w1 w.heap.size 106 (l.length*6) (k*6) (E.encL (us++[(E.agg [.int .i64 z0,.str z1,.str z2,.lst 4 70 z3A z3c z3l,.lst 6 106 z4A z4c z4l,.lst 6 106 z5A z5c z5l])])):=hf1.swap' fun j hj=>E.encL_app_lt us _ j (by rw [hlen,hl];exact hj)
    have K:=fun (W:World) (h:Kp w.heap.size (w.heap.size+1) w1 W) (u:E) (hu:u∈us)=>((HO.out u hu).below hb1 (Nat.le_refl _)).kp h (.inr omq)
    refine⟨k+1,us++[(E.agg [.int .i64 z0,.str z1,.str z2,.lst 4 70 z3A z3c z3l,.lst 6 106 z4A z4c z4l,.lst 6 106 z5A z5c z5l])],omq,by go_num,by show _=_;simp [hl],qi hlt HD.out (HDX.out.trans (by rw [←HEX.out])),hT,by rw [Nat.add_mul];exact ((((((hf2.set omq (ev 0 omq)).set omq (ev 1 omq)).set omq (ev 2 omq)).set omq (ev 3 omq)).set omq (ev 4 omq)).set omq (ev 5 omq)),by simp;omega,?_,?_,by exact by0⟩
    ·intro u hu
     rcases List.mem_append.1 hu with hu|hu
     ·exact (K _ (by repeat (first|(with_reducible exact Kp.refl _ _ _)|(refine Kp.set ?_ (by first|omega|(dsimp only;omega)|(simp;omega)) (by first|omega|(dsimp only;omega)|(simp;omega)) _))) u hu).wider (Nat.le_refl _) (by simp;omega)
     ·obtain rfl:=List.mem_singleton.1 hu
      exact (HOX.out.kp (lo':=w.heap.size) (hi':=w.heap.size+1) (by repeat (first|(with_reducible exact Kp.refl _ _ _)|(refine Kp.set ?_ (by first|omega|(dsimp only;omega)|(simp;omega)) (by first|omega|(dsimp only;omega)|(simp;omega)) _))) (.inr omq)).wider omq (by simp)
    ·refine gD HN.out HNX.out fun g hg hg2=>?_
     obtain⟨u,hu,hg⟩:=E.mem_fpL.1 hg
     have:=(HO.out u hu).lt g hg
     have:=HOX.out.lt g hg2
     omega
   case measure=>simp [intOf];omega
  ·have hk':k=l.length:=by omega
   subst hk'
   go_wp2
   go_ret
   have hl:=HL.out
   have hTy:=HT.out
   have own:wr.ownsRow w.heap.size 106 6 (.slice (some ⟨w.heap.size,0,none⟩) l.length l.length) l.length (E.encL us):=hf.owns (Nat.le_refl _) rfl (by rw [E.encL_len fun u hu=>(hTy u hu).2,hl]) (by unfold maxLen;omega)
   rw [←hl] at own
   refine⟨.lst 6 106 (some ⟨w.heap.size,0,none⟩) us.length us,by rw [←hl];rfl,?_,E.Ty.mk_lst underlying85 (by kernel_rfl) (fun u hu=>(hTy u hu).1) (fun u hu=>(hTy u hu).2),E.Ho.mk (Ow.of_owns own (Nat.le_refl _)) (fun u hu=>(hTy u hu).2) (fun u hu=>(HO.out u hu).wider omq (Nat.le_refl _)),?_,hb⟩
   ·show E.d _=E.d _
    rw [jZ]
    have h:=HD.out
    rwa [List.take_length] at h
   ·simp only [E.fp,List.singleton_append,List.nodup_cons]
    refine⟨fun hm=>?_,HN.out⟩
    obtain⟨u,hu,hg⟩:=E.mem_fpL.1 hm
    have:=(HO.out u hu).lt _ hg
    omega
theorem oh {e:E}(ht:e.Ty prog 153)(ih:∀y:E,y∈e.elems→y.Ty prog 227→To 214 106 y):To 179 85 e:=by
 obtain⟨A,c,l,rfl,h1,_⟩:=ht.lst_ underlying153 (k:=6) (by kernel_rfl)
 exact toStmtS_step' A c l h1 ih
theorem pN:∀e:E,(e.Ty prog 227→To 214 106 e)∧(e.Ty prog 153→To 179 85 e):=by
 intro e
 induction e using E.ind with
 | h1|h2|h3=>exact⟨(fun h=>by obtain⟨_,h,_⟩:=h.agg_ underlying227;cases h),(fun h=>by obtain⟨_,_,_,h,_⟩:=h.lst_ underlying153 rfl;cases h)⟩
 | h4 fs ih=>exact⟨fun h=>pM h (fun s hs hm=>(ih s hm).2 hs),(fun h=>by obtain⟨_,_,_,h,_⟩:=h.lst_ underlying153 rfl;cases h)⟩
 | h5 k T A c l ih=>exact⟨(fun h=>by obtain⟨_,h,_⟩:=h.agg_ underlying227;cases h),fun h=>oh h (fun y hm hy=>(ih y hm).1 hy)⟩
theorem kO {e:E}(ht:e.Ty prog 153):To 179 85 e:=(pN e).2 ht
theorem pO {e e':E}(ht:e.Ty prog 106)(ht':e'.Ty prog 106)(ih:∀s:E,s.Ty prog 85→s∈e.subs→∀s':E,s'.Ty prog 85→Eq 182 s s'):Eq 216 e e':=by
 obtain⟨x0,x1,x2,x3A,x3c,x3l,x4A,x4c,x4l,x5A,x5c,x5l,rfl,gx0,gx1,gx2,gx3,gx4,gx5,-⟩:=aQ ht
 obtain⟨y0,y1,y2,y3A,y3c,y3l,y4A,y4c,y4l,y5A,y5c,y5l,rfl,gy0,gy1,gy2,gy3,gy4,gy5,-⟩:=aQ ht'
 intro hd w hr hr'
 simp only [E.d,E.dL,E.agg.injEq,List.cons.injEq,E.int.injEq,E.str.injEq,E.bool.injEq,E.lst.injEq,true_and,and_true] at hd
 obtain⟨rfl,rfl,rfl,hd3,hd4,hd5⟩:=hd
 have hr3:=((hr.fld (i:=3) rfl).alloc (.cells #[.int .i64 x0,.string x1,.string x2,.slice x3A x3l.length x3c,.slice x4A x4l.length x4c,.slice x5A x5l.length x5c] 106)).alloc (.cells #[.int .i64 x0,.string x1,.string x2,.slice y3A y3l.length y3c,.slice y4A y4l.length y4c,.slice y5A y5l.length y5c] 106)
 have hs3:=((hr'.fld (i:=3) rfl).alloc (.cells #[.int .i64 x0,.string x1,.string x2,.slice x3A x3l.length x3c,.slice x4A x4l.length x4c,.slice x5A x5l.length x5c] 106)).alloc (.cells #[.int .i64 x0,.string x1,.string x2,.slice y3A y3l.length y3c,.slice y4A y4l.length y4c,.slice y5A y5l.length y5c] 106)
 have t3:(E.lst 4 70 x3A x3c x3l).Ty prog 68:=E.Ty.mk_lst underlying68 (by kernel_rfl) gx3.1 gx3.2
 have u3:(E.lst 4 70 y3A y3c y3l).Ty prog 68:=E.Ty.mk_lst underlying68 (by kernel_rfl) gy3.1 gy3.2
 have HC3:=Lib.hid (pJ t3 u3 (by simp only [E.d,E.dL,E.agg.injEq,List.cons.injEq,E.int.injEq,E.str.injEq,E.bool.injEq,E.lst.injEq,true_and,and_true];exact hd3))
 clear t3 u3
 have hr4:=((hr.fld (i:=4) rfl).alloc (.cells #[.int .i64 x0,.string x1,.string x2,.slice x3A x3l.length x3c,.slice x4A x4l.length x4c,.slice x5A x5l.length x5c] 106)).alloc (.cells #[.int .i64 x0,.string x1,.string x2,.slice y3A y3l.length y3c,.slice y4A y4l.length y4c,.slice y5A y5l.length y5c] 106)
 have hs4:=((hr'.fld (i:=4) rfl).alloc (.cells #[.int .i64 x0,.string x1,.string x2,.slice x3A x3l.length x3c,.slice x4A x4l.length x4c,.slice x5A x5l.length x5c] 106)).alloc (.cells #[.int .i64 x0,.string x1,.string x2,.slice y3A y3l.length y3c,.slice y4A y4l.length y4c,.slice y5A y5l.length y5c] 106)
 have t4:(E.lst 6 106 x4A x4c x4l).Ty prog 85:=E.Ty.mk_lst underlying85 (by kernel_rfl) gx4.1 gx4.2
 have u4:(E.lst 6 106 y4A y4c y4l).Ty prog 85:=E.Ty.mk_lst underlying85 (by kernel_rfl) gy4.1 gy4.2
 have HC4:=Lib.hid (ih _ t4 (by simp [E.subs]) _ u4 (by simp only [E.d,E.dL,E.agg.injEq,List.cons.injEq,E.int.injEq,E.str.injEq,E.bool.injEq,E.lst.injEq,true_and,and_true];exact hd4))
 clear t4 u4
 have hr5:=((hr.fld (i:=5) rfl).alloc (.cells #[.int .i64 x0,.string x1,.string x2,.slice x3A x3l.length x3c,.slice x4A x4l.length x4c,.slice x5A x5l.length x5c] 106)).alloc (.cells #[.int .i64 x0,.string x1,.string x2,.slice y3A y3l.length y3c,.slice y4A y4l.length y4c,.slice y5A y5l.length y5c] 106)
 have hs5:=((hr'.fld (i:=5) rfl).alloc (.cells #[.int .i64 x0,.string x1,.string x2,.slice x3A x3l.length x3c,.slice x4A x4l.length x4c,.slice x5A x5l.length x5c] 106)).alloc (.cells #[.int .i64 x0,.string x1,.string x2,.slice y3A y3l.length y3c,.slice y4A y4l.length y4c,.slice y5A y5l.length y5c] 106)
 have t5:(E.lst 6 106 x5A x5c x5l).Ty prog 85:=E.Ty.mk_lst underlying85 (by kernel_rfl) gx5.1 gx5.2
 have u5:(E.lst 6 106 y5A y5c y5l).Ty prog 85:=E.Ty.mk_lst underlying85 (by kernel_rfl) gy5.1 gy5.2
 have HC5:=Lib.hid (ih _ t5 (by simp [E.subs]) _ u5 (by simp only [E.d,E.dL,E.agg.injEq,List.cons.injEq,E.int.injEq,E.str.injEq,E.bool.injEq,E.lst.injEq,true_and,and_true];exact hd5))
 clear t5 u5
 clear hd3 hd4 hd5
 change Calls _ _ #[.agg #[.int .i64 x0,.string x1,.string x2,.slice x3A x3l.length x3c,.slice x4A x4l.length x4c,.slice x5A x5l.length x5c],.agg #[.int .i64 x0,.string x1,.string x2,.slice y3A y3l.length y3c,.slice y4A y4l.length y4c,.slice y5A y5l.length y5c]] w _
 go_enter func216,Tryz.ntmps216
 go_wp2_with fail
 go_at_call 215
 refine (HC3.out _ hr3 hs3).mono ?_;rintro e w1 ⟨rfl,hb1⟩
 have hz1:=hb1.size;(try simp only [World.size_alloc] at hz1)
 have c1_4:w1.cell? ⟨w.heap.size,4,none⟩=some (.slice x4A x4l.length x4c):=aJ hb1 (cQ (dH rfl) (by simp)) (by simp;omega)
 have d1_4:w1.cell? ⟨w.heap.size+1,4,none⟩=some (.slice y4A y4l.length y4c):=aJ hb1 (cell_new' rfl (by simp)) (by simp)
 have c1_5:w1.cell? ⟨w.heap.size,5,none⟩=some (.slice x5A x5l.length x5c):=aJ hb1 (cQ (dH rfl) (by simp)) (by simp;omega)
 have d1_5:w1.cell? ⟨w.heap.size+1,5,none⟩=some (.slice y5A y5l.length y5c):=aJ hb1 (cell_new' rfl (by simp)) (by simp)
 have hr4:=hr4.below hb1 (by first|exact Nat.le_refl _|simp)
 have hs4:=hs4.below hb1 (by first|exact Nat.le_refl _|simp)
 have hr5:=hr5.below hb1 (by first|exact Nat.le_refl _|simp)
 have hs5:=hs5.below hb1 (by first|exact Nat.le_refl _|simp)
 go_wp2_with fail
 go_at_call 182
 refine (HC4.out _ hr4 hs4).mono ?_;rintro e w2 ⟨rfl,hb2⟩
 have hz2:=hb2.size;(try simp only [World.size_alloc] at hz2)
 have c2_5:=aJ hb2 c1_5 omq
 have d2_5:=aJ hb2 d1_5 omq
 clear c1_4 d1_4 c1_5 d1_5
 have hr5:=hr5.below hb2 (by first|exact Nat.le_refl _|simp)
 have hs5:=hs5.below hb2 (by first|exact Nat.le_refl _|simp)
 go_wp2_with fail
 go_at_call 182
 refine (HC5.out _ hr5 hs5).mono ?_;rintro e w3 ⟨rfl,hb3⟩
 have hz3:=hb3.size;(try simp only [World.size_alloc] at hz3)
 clear c2_5 d2_5
 go_wp2
 go_ret
 exact⟨rfl,by0⟩
theorem eqStmtS_step' (A B:Option Addr)(c c':Nat)(l m:List E)(h1:∀y∈l,y.Ty prog 106)(h2:∀y∈m,y.Ty prog 106)(ih:∀y∈l,y.Ty prog 106→∀y':E,y'.Ty prog 106→Eq 216 y y'):Eq 182 (.lst 6 106 A c l) (.lst 6 106 B c' m):=by
 intro hd w hr hr'
 rw [jZ] at hd
 have hs:=hr.sl
 have hs':=hr'.sl
 have hml:=rx hd
 have HD:=Lib.hid hd
 clear hd
 have hlen:=hs.len_le
 change Calls _ _ #[.slice A l.length c,.slice B m.length c'] w _
 obtain⟨N,HN⟩:∃N,Hid (m.length=N):=⟨_,rfl⟩
 have hN:N=l.length:=by have:=HN.out;omega
 subst hN
 rw [HN.out]
 clear hml
 go_enter func182,Tryz.ntmps182
 go_wp2
 go_loopw [5] (fun i wr=>∃(k:Nat),k≤l.length∧i=.int .i64 k∧Below w.heap.size w wr) (fun i _=>l.length-(intOf i).toNat)
 case atStart=>exact⟨0,Nat.zero_le _,rfl,Below.refl _ _⟩
 case round =>
  obtain⟨k,hk,rfl,hb⟩:=hrel
  by_cases hlt:k<l.length
  ·have hltm:k<m.length:=by have:=HN.out;omega
   have hsb:=hs.below hb (Nat.le_refl _)
   have hsb':=hs'.below hb (Nat.le_refl _)
   have hdk:=d_at HD.out hlt hltm
   obtain⟨b,o,rfl,_,hc⟩:=hsb.at_ hlt
   obtain⟨b',o',rfl,_,hd⟩:=hsb'.at_ hltm
   have hin:=(hr.el (List.getElem_mem hlt)).below hb (Nat.le_refl _)
   have hin':=(hr'.el (List.getElem_mem hltm)).below hb (Nat.le_refl _)
   have H:=ih _ (List.getElem_mem hlt) (h1 _ (List.getElem_mem hlt)) _ (h2 _ (List.getElem_mem hltm)) hdk
   obtain⟨x0,x1,x2,x3A,x3c,x3l,x4A,x4c,x4l,x5A,x5c,x5l,ex,gx0,gx1,gx2,gx3,gx4,gx5,-⟩:=aQ (h1 _ (List.getElem_mem hlt))
   obtain⟨y0,y1,y2,y3A,y3c,y3l,y4A,y4c,y4l,y5A,y5c,y5l,ey,gy0,gy1,gy2,gy3,gy4,gy5,-⟩:=aQ (h2 _ (List.getElem_mem hltm))
   rw [ex] at hc hin
   rw [ey] at hd hin'
   rw [ex,ey] at H
   clear ex ey hdk
   have c0:=hc 0 _ rfl;have c1:=hc 1 _ rfl;have c2:=hc 2 _ rfl;have c3:=hc 3 _ rfl;have c4:=hc 4 _ rfl;have c5:=hc 5 _ rfl
   have d0:=hd 0 _ rfl;have d1:=hd 1 _ rfl;have d2:=hd 2 _ rfl;have d3:=hd 3 _ rfl;have d4:=hd 4 _ rfl;have d5:=hd 5 _ rfl
   rw [Nat.add_zero] at c0 d0
   clear hc hd
   have hzb:=hb.size
   have HH:=Lib.hid H
   clear H
   go_wp2
   go_region_held3 (fun w'=>w'.cell? ⟨b,o+k*6,none⟩=some (.int .i64 x0)∧w'.cell? ⟨b,o+k*6+1,none⟩=some (.string x1)∧w'.cell? ⟨b,o+k*6+2,none⟩=some (.string x2)∧w'.cell? ⟨b,o+k*6+3,none⟩=some (.slice x3A x3l.length x3c)∧w'.cell? ⟨b,o+k*6+4,none⟩=some (.slice x4A x4l.length x4c)∧w'.cell? ⟨b,o+k*6+5,none⟩=some (.slice x5A x5l.length x5c)∧w'.cell? ⟨b',o'+k*6,none⟩=some (.int .i64 y0)∧w'.cell? ⟨b',o'+k*6+1,none⟩=some (.string y1)∧w'.cell? ⟨b',o'+k*6+2,none⟩=some (.string y2)∧w'.cell? ⟨b',o'+k*6+3,none⟩=some (.slice y3A y3l.length y3c)∧w'.cell? ⟨b',o'+k*6+4,none⟩=some (.slice y4A y4l.length y4c)∧w'.cell? ⟨b',o'+k*6+5,none⟩=some (.slice y5A y5l.length y5c))
    (first|exact⟨c0,c1,c2,c3,c4,c5,d0,d1,d2,d3,d4,d5⟩|skip)
    ((go_at_call 216;refine (HH.out _ by2 by2).mono ?_;rintro e w1 ⟨rfl,hb1⟩;have c0:=aJ hb1 c0 by1;have c1:=aJ hb1 c1 by1;have c2:=aJ hb1 c2 by1;have c3:=aJ hb1 c3 by1;have c4:=aJ hb1 c4 by1;have c5:=aJ hb1 c5 by1;have d0:=aJ hb1 d0 by1;have d1:=aJ hb1 d1 by1;have d2:=aJ hb1 d2 by1;have d3:=aJ hb1 d3 by1;have d4:=aJ hb1 d4 by1;have d5:=aJ hb1 d5 by1))
   go_wp2
   go_roundw
   case rel=>exact⟨k+1,omq,by go_num,by exact by0⟩
   case measure=>simp [intOf];omega
  ·go_wp2
   go_ret
   exact⟨rfl,hb⟩
theorem ol {e e':E}(ht:e.Ty prog 85)(ht':e'.Ty prog 85)(ih:∀y:E,y∈e.elems→y.Ty prog 106→∀y':E,y'.Ty prog 106→Eq 216 y y'):Eq 182 e e':=by
 obtain⟨A,c,l,rfl,h1,_⟩:=ht.lst_ underlying85 (k:=6) (by kernel_rfl)
 obtain⟨B,c',m,rfl,h2,_⟩:=ht'.lst_ underlying85 (k:=6) (by kernel_rfl)
 exact eqStmtS_step' A B c c' l m h1 h2 ih
theorem pP:∀e:E,(e.Ty prog 106→∀e':E,e'.Ty prog 106→Eq 216 e e')∧(e.Ty prog 85→∀e':E,e'.Ty prog 85→Eq 182 e e'):=by
 intro e
 induction e using E.ind with
 | h1|h2|h3=>exact⟨(fun h=>by obtain⟨_,h,_⟩:=h.agg_ underlying106;cases h),(fun h=>by obtain⟨_,_,_,h,_⟩:=h.lst_ underlying85 rfl;cases h)⟩
 | h4 fs ih=>exact⟨fun h e' h'=>pO h h' (fun s hs hm=>(ih s hm).2 hs),(fun h=>by obtain⟨_,_,_,h,_⟩:=h.lst_ underlying85 rfl;cases h)⟩
 | h5 k T A c l ih=>exact⟨(fun h=>by obtain⟨_,h,_⟩:=h.agg_ underlying106;cases h),fun h e' h'=>ol h h' (fun y hm hy=>(ih y hm).1 hy)⟩
theorem kP {e e':E}(ht:e.Ty prog 85)(ht':e'.Ty prog 85):Eq 182 e e':=(pP e).2 ht e' ht'
theorem markStmtS_step' (A:Option Addr)(c:Nat)(l:List E)(h1:∀y∈l,y.Ty prog 106)(h2:∀y∈l,y.enc.length=6)(ih:∀y∈l,∀s∈y.subs,s.Ty prog 85→Mar 127 s):Mar 127 (.lst 6 106 A c l):=by
 intro lo hi k0 w ho hnd hhi hk0 hk1
 have HCN:Hid ((E.lst 6 106 A c l).cnt=E.cntcL l):=rfl
 rw [HCN.out] at hk1
 have HND:=Lib.hid hnd
 clear hnd
 have hlen:=ho.re.sl.len_le
 have how0:=ho
 rw [←fj l k0] at how0
 clear ho
 change Calls _ _ #[.slice A l.length c,.int .i64 k0] w _
 rw [HCN.out]
 change Calls _ _ _ w fun r w'=>r=.returned (.int .i64 (k0+(E.cntcL l:Nat)))∧(E.lst 6 106 A c (E.mkcL l k0)).Ho w' lo hi∧Fr (E.lst 6 106 A c l).fp w w'
 go_enter func127,Tryz.ntmps127
 go_wp2
 go_loopw [1,5] (fun v i wr=>∃(k:Nat) (q:Int),k≤l.length∧i=.int .i64 k∧v=.int .i64 q∧Hid (q=k0+(E.cntcL (l.take k):Nat))∧Fr (E.lst 6 106 A c l).fp w wr∧Hid ((E.lst 6 106 A c (ec l k0 k)).Ho wr lo hi)) (fun _ i _=>l.length-(intOf i).toNat)
 case atStart=>exact⟨0,k0,Nat.zero_le _,rfl,rfl,(by show _=_;simp [E.cntcL]),Fr.refl _ _,how0⟩
 case round =>
  obtain⟨k,q,hk,rfl,rfl,HQ,hF0,HOW⟩:=hrel
  have hzk:=hF0.size
  by_cases hlt:k<l.length
  ·have HT:=Lib.hid (E.cntcL_take l k hlt)
   have hq0:0≤q:=by have:=HQ.out;omega
   have hml:k<(ec l k0 k).length:=by rw [fI];exact hlt
   have how:=HOW.out
   obtain⟨g,rfl,hg1,hg2,hg3⟩:=how.head omq
   obtain⟨y0,y1,y2,y3A,y3c,y3l,y4A,y4c,y4l,y5A,y5c,y5l,ex,gy0,gy1,gy2,gy3,gy4,gy5,-⟩:=aQ (h1 _ (List.getElem_mem hlt))
   have HC3:=Lib.hid (iG (show (E.lst 4 70 y3A y3c y3l).Ty prog 68 from E.Ty.mk_lst underlying68 (by kernel_rfl) gy3.1 gy3.2))
   have HC4:=Lib.hid (ih _ (List.getElem_mem hlt) (E.lst 6 106 y4A y4c y4l) (by rw [ex];simp [E.subs]) (E.Ty.mk_lst underlying85 (by kernel_rfl) gy4.1 gy4.2))
   have HC5:=Lib.hid (ih _ (List.getElem_mem hlt) (E.lst 6 106 y5A y5c y5l) (by rw [ex];simp [E.subs]) (E.Ty.mk_lst underlying85 (by kernel_rfl) gy5.1 gy5.2))
   have HCX:Hid ((E.agg [.int .i64 y0,.str y1,.str y2,.lst 4 70 y3A y3c y3l,.lst 6 106 y4A y4c y4l,.lst 6 106 y5A y5c y5l]).cntc=(1+(1+(1+((E.lst 4 70 y3A y3c y3l).cnt+((E.lst 6 106 y4A y4c y4l).cnt+((E.lst 6 106 y5A y5c y5l).cnt+0))))))):=rfl
   have hq1:q+(((1+(1+(1+((E.lst 4 70 y3A y3c y3l).cnt+((E.lst 6 106 y4A y4c y4l).cnt+((E.lst 6 106 y5A y5c y5l).cnt+0)))))):Nat):Int)≤1152921504606846976:=by have e1:=HQ.out;have e2:=HT.out;have e3:=E.cntcL_le l (k+1);rw [ex,HCX.out] at e2;omega
   have e0:ec l k0 k=(ec l k0 k).set k (E.agg [.int .i64 y0,.str y1,.str y2,.lst 4 70 y3A y3c y3l,.lst 6 106 y4A y4c y4l,.lst 6 106 y5A y5c y5l]):=by rw [←ex,←ew l k0 k hlt];exact (List.set_getElem_self _).symm
   have HN2:=Lib.hid (fun (z:E) (hz:z.fp=(E.agg [.int .i64 y0,.str y1,.str y2,.lst 4 70 y3A y3c y3l,.lst 6 106 y4A y4c y4l,.lst 6 106 y5A y5c y5l]).fp)=>(show (E.lst 6 106 (some ⟨g,0,none⟩) c ((ec l k0 k).set k z)).fp.Nodup by have hh:=HND.out;have h3:E.fpL ((ec l k0 k).set k z)=E.fpL l:=(E.fpL_set hml (by rw [hz,←ex,ew l k0 k hlt])).trans (iN l k0 k);simp only [E.fp] at hh ⊢;rw [h3];exact hh))
   have HSB:=Lib.hid (fun (b:Nat) (hb:b∈(E.agg [.int .i64 y0,.str y1,.str y2,.lst 4 70 y3A y3c y3l,.lst 6 106 y4A y4c y4l,.lst 6 106 y5A y5c y5l]).fp)=>(show b∈(E.lst 6 106 (some ⟨g,0,none⟩) c l).fp by simp only [E.fp];exact List.mem_append_right _ (E.mem_fpL.2 ⟨l[k],List.getElem_mem hlt,by rw [ex];exact hb⟩)))
   have hgm:g∈(E.lst 6 106 (some ⟨g,0,none⟩) c l).fp:=by simp [E.fp]
   have HGM:=Lib.hid hgm
   clear hgm
   rw [e0] at how
   clear e0
   obtain⟨ms,HMS⟩:∃ms,Hid (ec l k0 k=ms):=⟨_,rfl⟩
   rw [HMS.out] at how hml HN2
   have HEX:=Lib.hid ex
   clear ex
   have HML:=Lib.hid hml
   clear hml
   have H0:=Lib.hid how
   clear how
   have c0_0:wr.cell? ⟨g,k*6,none⟩=some (.int .i64 y0):=H0.out.cellx (j:=0) (u:=.int .i64 y0) (by simpa using HML.out) (a7 HML.out _) rfl
   have c0_1:wr.cell? ⟨g,k*6+1,none⟩=some (.string y1):=H0.out.cellx (j:=1) (u:=.string y1) (by simpa using HML.out) (a7 HML.out _) rfl
   have c0_2:wr.cell? ⟨g,k*6+2,none⟩=some (.string y2):=H0.out.cellx (j:=2) (u:=.string y2) (by simpa using HML.out) (a7 HML.out _) rfl
   have c0_3:wr.cell? ⟨g,k*6+3,none⟩=some (.slice y3A y3l.length y3c):=H0.out.cellx (j:=3) (u:=.slice y3A y3l.length y3c) (by simpa using HML.out) (a7 HML.out _) rfl
   have c0_4:wr.cell? ⟨g,k*6+4,none⟩=some (.slice y4A y4l.length y4c):=H0.out.cellx (j:=4) (u:=.slice y4A y4l.length y4c) (by simpa using HML.out) (a7 HML.out _) rfl
   have c0_5:wr.cell? ⟨g,k*6+5,none⟩=some (.slice y5A y5l.length y5c):=H0.out.cellx (j:=5) (u:=.slice y5A y5l.length y5c) (by simpa using HML.out) (a7 HML.out _) rfl
   have fz0:=H0.out.frzx
   go_wp2_with fail
   have H1:Hid ((E.lst 6 106 (some ⟨g,0,none⟩) c (ms.set k (E.agg [(E.int .i64 (q)),(E.str y1),(E.str y2),(E.lst 4 70 y3A y3c y3l),(E.lst 6 106 y4A y4c y4l),(E.lst 6 106 y5A y5c y5l)]))).Ho (wr.setCell ⟨g,k*6,none⟩ (.int .i64 (q))) lo hi):=H0.out.store (HN2.out _ (by first|rfl|(simp only [E.fp,E.fpL,E.mkcL_fp,E.mk0L_fp,E.mk0_fp,E.mkc_fp];done)|fail)) HML.out (E.agg [(E.int .i64 (q)),(E.str y1),(E.str y2),(E.lst 4 70 y3A y3c y3l),(E.lst 6 106 y4A y4c y4l),(E.lst 6 106 y5A y5c y5l)]) 0 (.int .i64 (q)) omq rfl (fun _ h=>h)
   clear H0
   clear c0_0 c0_1 c0_2 c0_3 c0_4 c0_5 fz0
   go_at_call 71
   refine (db _ _ omq).mono ?_;rintro e w1 ⟨rfl,hb1⟩
   have hz1:=hb1.size;(try simp only [World.size_setCell] at hz1)
   have H2:=Lib.hid (H1.out.below hb1 (by first|omega|(simp;omega)))
   clear H1
   have hF1:Fr (E.lst 6 106 (some ⟨g,0,none⟩) c l).fp w w1:=(hF0.set HGM.out (.int .i64 (q))).trans (Fr.of_below hb1)
   have c1_0:w1.cell? ⟨g,k*6,none⟩=some (.int .i64 (q)):=H2.out.cellx (j:=0) (u:=.int .i64 (q)) (by simpa using HML.out) (a7 HML.out _) rfl
   have c1_1:w1.cell? ⟨g,k*6+1,none⟩=some (.string y1):=H2.out.cellx (j:=1) (u:=.string y1) (by simpa using HML.out) (a7 HML.out _) rfl
   have c1_2:w1.cell? ⟨g,k*6+2,none⟩=some (.string y2):=H2.out.cellx (j:=2) (u:=.string y2) (by simpa using HML.out) (a7 HML.out _) rfl
   have c1_3:w1.cell? ⟨g,k*6+3,none⟩=some (.slice y3A y3l.length y3c):=H2.out.cellx (j:=3) (u:=.slice y3A y3l.length y3c) (by simpa using HML.out) (a7 HML.out _) rfl
   have c1_4:w1.cell? ⟨g,k*6+4,none⟩=some (.slice y4A y4l.length y4c):=H2.out.cellx (j:=4) (u:=.slice y4A y4l.length y4c) (by simpa using HML.out) (a7 HML.out _) rfl
   have c1_5:w1.cell? ⟨g,k*6+5,none⟩=some (.slice y5A y5l.length y5c):=H2.out.cellx (j:=5) (u:=.slice y5A y5l.length y5c) (by simpa using HML.out) (a7 HML.out _) rfl
   have fz1:=H2.out.frzx
   go_wp2_with fail
   have H3:Hid ((E.lst 6 106 (some ⟨g,0,none⟩) c (ms.set k (E.agg [(E.int .i64 (q)),(E.str (aM (q+1))),(E.str y2),(E.lst 4 70 y3A y3c y3l),(E.lst 6 106 y4A y4c y4l),(E.lst 6 106 y5A y5c y5l)]))).Ho (w1.setCell ⟨g,k*6+1,none⟩ (.string (aM (q+1)))) lo hi):=H2.out.store (HN2.out _ (by first|rfl|(simp only [E.fp,E.fpL,E.mkcL_fp,E.mk0L_fp,E.mk0_fp,E.mkc_fp];done)|fail)) HML.out (E.agg [(E.int .i64 (q)),(E.str (aM (q+1))),(E.str y2),(E.lst 4 70 y3A y3c y3l),(E.lst 6 106 y4A y4c y4l),(E.lst 6 106 y5A y5c y5l)]) 1 (.string (aM (q+1))) omq rfl (fun _ h=>h)
   clear H2
   clear c1_0 c1_1 c1_2 c1_3 c1_4 c1_5 fz1
   go_at_call 71
   refine (db _ _ omq).mono ?_;rintro e w2 ⟨rfl,hb2⟩
   have hz2:=hb2.size;(try simp only [World.size_setCell] at hz2)
   have H4:=Lib.hid (H3.out.below hb2 (by first|omega|(simp;omega)))
   clear H3
   have hF2:Fr (E.lst 6 106 (some ⟨g,0,none⟩) c l).fp w w2:=(hF1.set HGM.out (.string (aM (q+1)))).trans (Fr.of_below hb2)
   have c2_0:w2.cell? ⟨g,k*6,none⟩=some (.int .i64 (q)):=H4.out.cellx (j:=0) (u:=.int .i64 (q)) (by simpa using HML.out) (a7 HML.out _) rfl
   have c2_1:w2.cell? ⟨g,k*6+1,none⟩=some (.string (aM (q+1))):=H4.out.cellx (j:=1) (u:=.string (aM (q+1))) (by simpa using HML.out) (a7 HML.out _) rfl
   have c2_2:w2.cell? ⟨g,k*6+2,none⟩=some (.string y2):=H4.out.cellx (j:=2) (u:=.string y2) (by simpa using HML.out) (a7 HML.out _) rfl
   have c2_3:w2.cell? ⟨g,k*6+3,none⟩=some (.slice y3A y3l.length y3c):=H4.out.cellx (j:=3) (u:=.slice y3A y3l.length y3c) (by simpa using HML.out) (a7 HML.out _) rfl
   have c2_4:w2.cell? ⟨g,k*6+4,none⟩=some (.slice y4A y4l.length y4c):=H4.out.cellx (j:=4) (u:=.slice y4A y4l.length y4c) (by simpa using HML.out) (a7 HML.out _) rfl
   have c2_5:w2.cell? ⟨g,k*6+5,none⟩=some (.slice y5A y5l.length y5c):=H4.out.cellx (j:=5) (u:=.slice y5A y5l.length y5c) (by simpa using HML.out) (a7 HML.out _) rfl
   have fz2:=H4.out.frzx
   go_wp2_with fail
   have H5:Hid ((E.lst 6 106 (some ⟨g,0,none⟩) c (ms.set k (E.agg [(E.int .i64 (q)),(E.str (aM (q+1))),(E.str (aM (q+1+1))),(E.lst 4 70 y3A y3c y3l),(E.lst 6 106 y4A y4c y4l),(E.lst 6 106 y5A y5c y5l)]))).Ho (w2.setCell ⟨g,k*6+2,none⟩ (.string (aM (q+1+1)))) lo hi):=H4.out.store (HN2.out _ (by first|rfl|(simp only [E.fp,E.fpL,E.mkcL_fp,E.mk0L_fp,E.mk0_fp,E.mkc_fp];done)|fail)) HML.out (E.agg [(E.int .i64 (q)),(E.str (aM (q+1))),(E.str (aM (q+1+1))),(E.lst 4 70 y3A y3c y3l),(E.lst 6 106 y4A y4c y4l),(E.lst 6 106 y5A y5c y5l)]) 2 (.string (aM (q+1+1))) omq rfl (fun _ h=>h)
   clear H4
   clear c2_0 c2_1 c2_2 c2_3 c2_4 c2_5 fz2
   have ho3:(E.lst 4 70 y3A y3c y3l).Ho (w2.setCell ⟨g,k*6+2,none⟩ (.string (aM (q+1+1)))) lo hi:=(E.Ho.fld (i:=3) (H5.out.el (bV HML.out _)) rfl)
   have HNn3:Hid ((E.lst 4 70 y3A y3c y3l).fp.Nodup):=(bk (show (E.fpL [(E.int .i64 (q)),(E.str (aM (q+1))),(E.str (aM (q+1+1))),(E.lst 4 70 y3A y3c y3l),(E.lst 6 106 y4A y4c y4l),(E.lst 6 106 y5A y5c y5l)]).Nodup from (bk (show (E.fpL (ms.set k (E.agg [(E.int .i64 (q)),(E.str (aM (q+1))),(E.str (aM (q+1+1))),(E.lst 4 70 y3A y3c y3l),(E.lst 6 106 y4A y4c y4l),(E.lst 6 106 y5A y5c y5l)]))).Nodup from (List.nodup_append.1 (show List.Nodup (_++_) from HN2.out (E.agg [(E.int .i64 (q)),(E.str (aM (q+1))),(E.str (aM (q+1+1))),(E.lst 4 70 y3A y3c y3l),(E.lst 6 106 y4A y4c y4l),(E.lst 6 106 y5A y5c y5l)]) (by first|rfl|(simp only [E.fp,E.fpL,E.mkcL_fp,E.mk0L_fp,E.mk0_fp,E.mkc_fp];done)|fail))).2.1) (bV HML.out _))) (show (E.lst 4 70 y3A y3c y3l)∈[(E.int .i64 (q)),(E.str (aM (q+1))),(E.str (aM (q+1+1))),(E.lst 4 70 y3A y3c y3l),(E.lst 6 106 y4A y4c y4l),(E.lst 6 106 y5A y5c y5l)] by simp))
   go_at_call 126
   refine (HC3.out lo hi _ _ ho3 HNn3.out (by first|omega|(simp;omega)) omq omq).mono ?_;rintro e w3 ⟨rfl,hm3,hf3⟩
   have hz3:=hf3.size;(try simp only [World.size_setCell] at hz3)
   have hin3:(E.agg [(E.int .i64 (q)),(E.str (aM (q+1))),(E.str (aM (q+1+1))),(E.lst 4 70 y3A y3c (E.mkcL y3l (q+1+1+1))),(E.lst 6 106 y4A y4c y4l),(E.lst 6 106 y5A y5c y5l)]).Ho w3 lo hi:=(Ho_repl (i:=3) (H5.out.el (bV HML.out _)) (bk (show (E.fpL (ms.set k (E.agg [(E.int .i64 (q)),(E.str (aM (q+1))),(E.str (aM (q+1+1))),(E.lst 4 70 y3A y3c y3l),(E.lst 6 106 y4A y4c y4l),(E.lst 6 106 y5A y5c y5l)]))).Nodup from (List.nodup_append.1 (show List.Nodup (_++_) from HN2.out (E.agg [(E.int .i64 (q)),(E.str (aM (q+1))),(E.str (aM (q+1+1))),(E.lst 4 70 y3A y3c y3l),(E.lst 6 106 y4A y4c y4l),(E.lst 6 106 y5A y5c y5l)]) (by first|rfl|(simp only [E.fp,E.fpL,E.mkcL_fp,E.mk0L_fp,E.mk0_fp,E.mkc_fp];done)|fail))).2.1) (bV HML.out _)) (by simp) (show Fr (E.lst 4 70 y3A y3c y3l).fp _ _ from hf3) hm3)
   have H6:=Lib.hid (H5.out.inside (HN2.out _ (by first|rfl|(simp only [E.fp,E.fpL,E.mkcL_fp,E.mk0L_fp,E.mk0_fp,E.mkc_fp];done)|fail)) HML.out (E.agg [(E.int .i64 (q)),(E.str (aM (q+1))),(E.str (aM (q+1+1))),(E.lst 4 70 y3A y3c (E.mkcL y3l (q+1+1+1))),(E.lst 6 106 y4A y4c y4l),(E.lst 6 106 y5A y5c y5l)]) hf3 (fun b hb=>by simp only [E.fp,E.fpL,List.mem_append,List.nil_append,List.append_nil] at hb ⊢;simp [hb]) (by simp only [E.enc,E.encL,E.mkcL_len]) hin3)
   clear H5 hin3 ho3 hm3
   have hF3:Fr (E.lst 6 106 (some ⟨g,0,none⟩) c l).fp w w3:=(hF2.set HGM.out (.string (aM (q+1+1)))).trans (hf3.sub (fun b hb=>HSB.out b (by simp only [E.fp,E.fpL,List.mem_append,List.nil_append,List.append_nil] at hb ⊢;simp [hb])))
   have c3_0:w3.cell? ⟨g,k*6,none⟩=some (.int .i64 (q)):=H6.out.cellx (j:=0) (u:=.int .i64 (q)) (by simpa using HML.out) (a7 HML.out _) rfl
   have c3_1:w3.cell? ⟨g,k*6+1,none⟩=some (.string (aM (q+1))):=H6.out.cellx (j:=1) (u:=.string (aM (q+1))) (by simpa using HML.out) (a7 HML.out _) rfl
   have c3_2:w3.cell? ⟨g,k*6+2,none⟩=some (.string (aM (q+1+1))):=H6.out.cellx (j:=2) (u:=.string (aM (q+1+1))) (by simpa using HML.out) (a7 HML.out _) rfl
   have c3_3:w3.cell? ⟨g,k*6+3,none⟩=some (.slice y3A (E.mkcL y3l (q+1+1+1)).length y3c):=H6.out.cellx (j:=3) (u:=.slice y3A (E.mkcL y3l (q+1+1+1)).length y3c) (by simpa using HML.out) (a7 HML.out _) rfl
   have c3_4:w3.cell? ⟨g,k*6+4,none⟩=some (.slice y4A y4l.length y4c):=H6.out.cellx (j:=4) (u:=.slice y4A y4l.length y4c) (by simpa using HML.out) (a7 HML.out _) rfl
   have c3_5:w3.cell? ⟨g,k*6+5,none⟩=some (.slice y5A y5l.length y5c):=H6.out.cellx (j:=5) (u:=.slice y5A y5l.length y5c) (by simpa using HML.out) (a7 HML.out _) rfl
   have fz3:=H6.out.frzx
   go_wp2_with fail
   clear c3_0 c3_1 c3_2 c3_3 c3_4 c3_5 fz3
   have ho4:(E.lst 6 106 y4A y4c y4l).Ho w3 lo hi:=(E.Ho.fld (i:=4) (H6.out.el (bV HML.out _)) rfl)
   have HNn4:Hid ((E.lst 6 106 y4A y4c y4l).fp.Nodup):=(bk (show (E.fpL [(E.int .i64 (q)),(E.str (aM (q+1))),(E.str (aM (q+1+1))),(E.lst 4 70 y3A y3c (E.mkcL y3l (q+1+1+1))),(E.lst 6 106 y4A y4c y4l),(E.lst 6 106 y5A y5c y5l)]).Nodup from (bk (show (E.fpL (ms.set k (E.agg [(E.int .i64 (q)),(E.str (aM (q+1))),(E.str (aM (q+1+1))),(E.lst 4 70 y3A y3c (E.mkcL y3l (q+1+1+1))),(E.lst 6 106 y4A y4c y4l),(E.lst 6 106 y5A y5c y5l)]))).Nodup from (List.nodup_append.1 (show List.Nodup (_++_) from HN2.out (E.agg [(E.int .i64 (q)),(E.str (aM (q+1))),(E.str (aM (q+1+1))),(E.lst 4 70 y3A y3c (E.mkcL y3l (q+1+1+1))),(E.lst 6 106 y4A y4c y4l),(E.lst 6 106 y5A y5c y5l)]) (by first|rfl|(simp only [E.fp,E.fpL,E.mkcL_fp,E.mk0L_fp,E.mk0_fp,E.mkc_fp];done)|fail))).2.1) (bV HML.out _))) (show (E.lst 6 106 y4A y4c y4l)∈[(E.int .i64 (q)),(E.str (aM (q+1))),(E.str (aM (q+1+1))),(E.lst 4 70 y3A y3c (E.mkcL y3l (q+1+1+1))),(E.lst 6 106 y4A y4c y4l),(E.lst 6 106 y5A y5c y5l)] by simp))
   go_at_call 127
   refine (HC4.out lo hi _ _ ho4 HNn4.out (by first|omega|(simp;omega)) omq omq).mono ?_;rintro e w4 ⟨rfl,hm4,hf4⟩
   have hz4:=hf4.size;(try simp only [World.size_setCell] at hz4)
   have hin4:(E.agg [(E.int .i64 (q)),(E.str (aM (q+1))),(E.str (aM (q+1+1))),(E.lst 4 70 y3A y3c (E.mkcL y3l (q+1+1+1))),(E.lst 6 106 y4A y4c (E.mkcL y4l (q+1+1+1+((E.lst 4 70 y3A y3c y3l).cnt:Int)))),(E.lst 6 106 y5A y5c y5l)]).Ho w4 lo hi:=(Ho_repl (i:=4) (H6.out.el (bV HML.out _)) (bk (show (E.fpL (ms.set k (E.agg [(E.int .i64 (q)),(E.str (aM (q+1))),(E.str (aM (q+1+1))),(E.lst 4 70 y3A y3c (E.mkcL y3l (q+1+1+1))),(E.lst 6 106 y4A y4c y4l),(E.lst 6 106 y5A y5c y5l)]))).Nodup from (List.nodup_append.1 (show List.Nodup (_++_) from HN2.out (E.agg [(E.int .i64 (q)),(E.str (aM (q+1))),(E.str (aM (q+1+1))),(E.lst 4 70 y3A y3c (E.mkcL y3l (q+1+1+1))),(E.lst 6 106 y4A y4c y4l),(E.lst 6 106 y5A y5c y5l)]) (by first|rfl|(simp only [E.fp,E.fpL,E.mkcL_fp,E.mk0L_fp,E.mk0_fp,E.mkc_fp];done)|fail))).2.1) (bV HML.out _)) (by simp) (show Fr (E.lst 6 106 y4A y4c y4l).fp _ _ from hf4) hm4)
   have H7:=Lib.hid (H6.out.inside (HN2.out _ (by first|rfl|(simp only [E.fp,E.fpL,E.mkcL_fp,E.mk0L_fp,E.mk0_fp,E.mkc_fp];done)|fail)) HML.out (E.agg [(E.int .i64 (q)),(E.str (aM (q+1))),(E.str (aM (q+1+1))),(E.lst 4 70 y3A y3c (E.mkcL y3l (q+1+1+1))),(E.lst 6 106 y4A y4c (E.mkcL y4l (q+1+1+1+((E.lst 4 70 y3A y3c y3l).cnt:Int)))),(E.lst 6 106 y5A y5c y5l)]) hf4 (fun b hb=>by simp only [E.fp,E.fpL,List.mem_append,List.nil_append,List.append_nil] at hb ⊢;simp [hb]) (by simp only [E.enc,E.encL,E.mkcL_len]) hin4)
   clear H6 hin4 ho4 hm4
   have hF4:Fr (E.lst 6 106 (some ⟨g,0,none⟩) c l).fp w w4:=hF3.trans (hf4.sub (fun b hb=>HSB.out b (by simp only [E.fp,E.fpL,List.mem_append,List.nil_append,List.append_nil] at hb ⊢;simp [hb])))
   have c4_0:w4.cell? ⟨g,k*6,none⟩=some (.int .i64 (q)):=H7.out.cellx (j:=0) (u:=.int .i64 (q)) (by simpa using HML.out) (a7 HML.out _) rfl
   have c4_1:w4.cell? ⟨g,k*6+1,none⟩=some (.string (aM (q+1))):=H7.out.cellx (j:=1) (u:=.string (aM (q+1))) (by simpa using HML.out) (a7 HML.out _) rfl
   have c4_2:w4.cell? ⟨g,k*6+2,none⟩=some (.string (aM (q+1+1))):=H7.out.cellx (j:=2) (u:=.string (aM (q+1+1))) (by simpa using HML.out) (a7 HML.out _) rfl
   have c4_3:w4.cell? ⟨g,k*6+3,none⟩=some (.slice y3A (E.mkcL y3l (q+1+1+1)).length y3c):=H7.out.cellx (j:=3) (u:=.slice y3A (E.mkcL y3l (q+1+1+1)).length y3c) (by simpa using HML.out) (a7 HML.out _) rfl
   have c4_4:w4.cell? ⟨g,k*6+4,none⟩=some (.slice y4A (E.mkcL y4l (q+1+1+1+((E.lst 4 70 y3A y3c y3l).cnt:Int))).length y4c):=H7.out.cellx (j:=4) (u:=.slice y4A (E.mkcL y4l (q+1+1+1+((E.lst 4 70 y3A y3c y3l).cnt:Int))).length y4c) (by simpa using HML.out) (a7 HML.out _) rfl
   have c4_5:w4.cell? ⟨g,k*6+5,none⟩=some (.slice y5A y5l.length y5c):=H7.out.cellx (j:=5) (u:=.slice y5A y5l.length y5c) (by simpa using HML.out) (a7 HML.out _) rfl
   have fz4:=H7.out.frzx
   go_wp2_with fail
   clear c4_0 c4_1 c4_2 c4_3 c4_4 c4_5 fz4
   have ho5:(E.lst 6 106 y5A y5c y5l).Ho w4 lo hi:=(E.Ho.fld (i:=5) (H7.out.el (bV HML.out _)) rfl)
   have HNn5:Hid ((E.lst 6 106 y5A y5c y5l).fp.Nodup):=(bk (show (E.fpL [(E.int .i64 (q)),(E.str (aM (q+1))),(E.str (aM (q+1+1))),(E.lst 4 70 y3A y3c (E.mkcL y3l (q+1+1+1))),(E.lst 6 106 y4A y4c (E.mkcL y4l (q+1+1+1+((E.lst 4 70 y3A y3c y3l).cnt:Int)))),(E.lst 6 106 y5A y5c y5l)]).Nodup from (bk (show (E.fpL (ms.set k (E.agg [(E.int .i64 (q)),(E.str (aM (q+1))),(E.str (aM (q+1+1))),(E.lst 4 70 y3A y3c (E.mkcL y3l (q+1+1+1))),(E.lst 6 106 y4A y4c (E.mkcL y4l (q+1+1+1+((E.lst 4 70 y3A y3c y3l).cnt:Int)))),(E.lst 6 106 y5A y5c y5l)]))).Nodup from (List.nodup_append.1 (show List.Nodup (_++_) from HN2.out (E.agg [(E.int .i64 (q)),(E.str (aM (q+1))),(E.str (aM (q+1+1))),(E.lst 4 70 y3A y3c (E.mkcL y3l (q+1+1+1))),(E.lst 6 106 y4A y4c (E.mkcL y4l (q+1+1+1+((E.lst 4 70 y3A y3c y3l).cnt:Int)))),(E.lst 6 106 y5A y5c y5l)]) (by first|rfl|(simp only [E.fp,E.fpL,E.mkcL_fp,E.mk0L_fp,E.mk0_fp,E.mkc_fp];done)|fail))).2.1) (bV HML.out _))) (show (E.lst 6 106 y5A y5c y5l)∈[(E.int .i64 (q)),(E.str (aM (q+1))),(E.str (aM (q+1+1))),(E.lst 4 70 y3A y3c (E.mkcL y3l (q+1+1+1))),(E.lst 6 106 y4A y4c (E.mkcL y4l (q+1+1+1+((E.lst 4 70 y3A y3c y3l).cnt:Int)))),(E.lst 6 106 y5A y5c y5l)] by simp))
   go_at_call 127
   refine (HC5.out lo hi _ _ ho5 HNn5.out (by first|omega|(simp;omega)) omq omq).mono ?_;rintro e w5 ⟨rfl,hm5,hf5⟩
   have hz5:=hf5.size;(try simp only [World.size_setCell] at hz5)
   have hin5:(E.agg [(E.int .i64 (q)),(E.str (aM (q+1))),(E.str (aM (q+1+1))),(E.lst 4 70 y3A y3c (E.mkcL y3l (q+1+1+1))),(E.lst 6 106 y4A y4c (E.mkcL y4l (q+1+1+1+((E.lst 4 70 y3A y3c y3l).cnt:Int)))),(E.lst 6 106 y5A y5c (E.mkcL y5l (q+1+1+1+((E.lst 4 70 y3A y3c y3l).cnt:Int)+((E.lst 6 106 y4A y4c y4l).cnt:Int))))]).Ho w5 lo hi:=(Ho_repl (i:=5) (H7.out.el (bV HML.out _)) (bk (show (E.fpL (ms.set k (E.agg [(E.int .i64 (q)),(E.str (aM (q+1))),(E.str (aM (q+1+1))),(E.lst 4 70 y3A y3c (E.mkcL y3l (q+1+1+1))),(E.lst 6 106 y4A y4c (E.mkcL y4l (q+1+1+1+((E.lst 4 70 y3A y3c y3l).cnt:Int)))),(E.lst 6 106 y5A y5c y5l)]))).Nodup from (List.nodup_append.1 (show List.Nodup (_++_) from HN2.out (E.agg [(E.int .i64 (q)),(E.str (aM (q+1))),(E.str (aM (q+1+1))),(E.lst 4 70 y3A y3c (E.mkcL y3l (q+1+1+1))),(E.lst 6 106 y4A y4c (E.mkcL y4l (q+1+1+1+((E.lst 4 70 y3A y3c y3l).cnt:Int)))),(E.lst 6 106 y5A y5c y5l)]) (by first|rfl|(simp only [E.fp,E.fpL,E.mkcL_fp,E.mk0L_fp,E.mk0_fp,E.mkc_fp];done)|fail))).2.1) (bV HML.out _)) (by simp) (show Fr (E.lst 6 106 y5A y5c y5l).fp _ _ from hf5) hm5)
   have H8:=Lib.hid (H7.out.inside (HN2.out _ (by first|rfl|(simp only [E.fp,E.fpL,E.mkcL_fp,E.mk0L_fp,E.mk0_fp,E.mkc_fp];done)|fail)) HML.out (E.agg [(E.int .i64 (q)),(E.str (aM (q+1))),(E.str (aM (q+1+1))),(E.lst 4 70 y3A y3c (E.mkcL y3l (q+1+1+1))),(E.lst 6 106 y4A y4c (E.mkcL y4l (q+1+1+1+((E.lst 4 70 y3A y3c y3l).cnt:Int)))),(E.lst 6 106 y5A y5c (E.mkcL y5l (q+1+1+1+((E.lst 4 70 y3A y3c y3l).cnt:Int)+((E.lst 6 106 y4A y4c y4l).cnt:Int))))]) hf5 (fun b hb=>by simp only [E.fp,E.fpL,List.mem_append,List.nil_append,List.append_nil] at hb ⊢;simp [hb]) (by simp only [E.enc,E.encL,E.mkcL_len]) hin5)
   clear H7 hin5 ho5 hm5
   have hF5:Fr (E.lst 6 106 (some ⟨g,0,none⟩) c l).fp w w5:=hF4.trans (hf5.sub (fun b hb=>HSB.out b (by simp only [E.fp,E.fpL,List.mem_append,List.nil_append,List.append_nil] at hb ⊢;simp [hb])))
   have c5_0:w5.cell? ⟨g,k*6,none⟩=some (.int .i64 (q)):=H8.out.cellx (j:=0) (u:=.int .i64 (q)) (by simpa using HML.out) (a7 HML.out _) rfl
   have c5_1:w5.cell? ⟨g,k*6+1,none⟩=some (.string (aM (q+1))):=H8.out.cellx (j:=1) (u:=.string (aM (q+1))) (by simpa using HML.out) (a7 HML.out _) rfl
   have c5_2:w5.cell? ⟨g,k*6+2,none⟩=some (.string (aM (q+1+1))):=H8.out.cellx (j:=2) (u:=.string (aM (q+1+1))) (by simpa using HML.out) (a7 HML.out _) rfl
   have c5_3:w5.cell? ⟨g,k*6+3,none⟩=some (.slice y3A (E.mkcL y3l (q+1+1+1)).length y3c):=H8.out.cellx (j:=3) (u:=.slice y3A (E.mkcL y3l (q+1+1+1)).length y3c) (by simpa using HML.out) (a7 HML.out _) rfl
   have c5_4:w5.cell? ⟨g,k*6+4,none⟩=some (.slice y4A (E.mkcL y4l (q+1+1+1+((E.lst 4 70 y3A y3c y3l).cnt:Int))).length y4c):=H8.out.cellx (j:=4) (u:=.slice y4A (E.mkcL y4l (q+1+1+1+((E.lst 4 70 y3A y3c y3l).cnt:Int))).length y4c) (by simpa using HML.out) (a7 HML.out _) rfl
   have c5_5:w5.cell? ⟨g,k*6+5,none⟩=some (.slice y5A (E.mkcL y5l (q+1+1+1+((E.lst 4 70 y3A y3c y3l).cnt:Int)+((E.lst 6 106 y4A y4c y4l).cnt:Int))).length y5c):=H8.out.cellx (j:=5) (u:=.slice y5A (E.mkcL y5l (q+1+1+1+((E.lst 4 70 y3A y3c y3l).cnt:Int)+((E.lst 6 106 y4A y4c y4l).cnt:Int))).length y5c) (by simpa using HML.out) (a7 HML.out _) rfl
   have fz5:=H8.out.frzx
   go_wp2
   go_roundw
   case rel =>
    have FF:∀t0 t1 t2 t3 t4 t5:Int,(q)=t0→(q+1)=t1→(q+1+1)=t2→(q+1+1+1)=t3→(q+1+1+1+((E.lst 4 70 y3A y3c y3l).cnt:Int))=t4→(q+1+1+1+((E.lst 4 70 y3A y3c y3l).cnt:Int)+((E.lst 6 106 y4A y4c y4l).cnt:Int))=t5→(E.agg [(E.int .i64 (q)),(E.str (aM (q+1))),(E.str (aM (q+1+1))),(E.lst 4 70 y3A y3c (E.mkcL y3l (q+1+1+1))),(E.lst 6 106 y4A y4c (E.mkcL y4l (q+1+1+1+((E.lst 4 70 y3A y3c y3l).cnt:Int)))),(E.lst 6 106 y5A y5c (E.mkcL y5l (q+1+1+1+((E.lst 4 70 y3A y3c y3l).cnt:Int)+((E.lst 6 106 y4A y4c y4l).cnt:Int))))])=(E.agg [(E.int .i64 t0),(E.str (aM t1)),(E.str (aM t2)),(E.lst 4 70 y3A y3c (E.mkcL y3l t3)),(E.lst 6 106 y4A y4c (E.mkcL y4l t4)),(E.lst 6 106 y5A y5c (E.mkcL y5l t5))]):=by
     intro t0 t1 t2 t3 t4 t5 ht0 ht1 ht2 ht3 ht4 ht5
     subst ht0
     subst ht1
     subst ht2
     subst ht3
     subst ht4
     subst ht5
     rfl
    have EX:(E.agg [(E.int .i64 (q)),(E.str (aM (q+1))),(E.str (aM (q+1+1))),(E.lst 4 70 y3A y3c (E.mkcL y3l (q+1+1+1))),(E.lst 6 106 y4A y4c (E.mkcL y4l (q+1+1+1+((E.lst 4 70 y3A y3c y3l).cnt:Int)))),(E.lst 6 106 y5A y5c (E.mkcL y5l (q+1+1+1+((E.lst 4 70 y3A y3c y3l).cnt:Int)+((E.lst 6 106 y4A y4c y4l).cnt:Int))))])=(E.agg [.int .i64 y0,.str y1,.str y2,.lst 4 70 y3A y3c y3l,.lst 6 106 y4A y4c y4l,.lst 6 106 y5A y5c y5l]).mkc q:=FF _ _ _ _ _ _ (by first|rfl|omega|(show _=_;simp only [E.cnt,E.cntL,E.cntc,E.cntcL,reduceCtorEq,if_false,if_true,ite_false];omega)) (by first|rfl|omega|(show _=_;simp only [E.cnt,E.cntL,E.cntc,E.cntcL,reduceCtorEq,if_false,if_true,ite_false];omega)) (by first|rfl|omega|(show _=_;simp only [E.cnt,E.cntL,E.cntc,E.cntcL,reduceCtorEq,if_false,if_true,ite_false];omega)) (by first|rfl|omega|(show _=_;simp only [E.cnt,E.cntL,E.cntc,E.cntcL,reduceCtorEq,if_false,if_true,ite_false];omega)) (by first|rfl|omega|(show _=_;simp only [E.cnt,E.cntL,E.cntc,E.cntcL,reduceCtorEq,if_false,if_true,ite_false];omega)) (by first|rfl|omega|(show _=_;simp only [E.cnt,E.cntL,E.cntc,E.cntcL,reduceCtorEq,if_false,if_true,ite_false];omega))
    exact⟨k+1,_,omq,by go_num,rfl,(by show _=_;have e1:=HQ.out;have e2:=HT.out;rw [HEX.out,HCX.out] at e2;omega),hF5,(by show E.Ho _ _ _ _;rw [←fm l k0 k hlt,HEX.out,←HQ.out,←EX,HMS.out];exact H8.out)⟩
   case measure=>simp [intOf];omega
  ·have hk':k=l.length:=by omega
   subst hk'
   go_wp2
   go_ret
   have e1:=HQ.out
   rw [List.take_length] at e1
   have h:=HOW.out
   rw [gC] at h
   exact⟨ri e1,h,hF0⟩
theorem ly {e:E}(ht:e.Ty prog 85)(ih:∀y:E,y∈e.elems→∀s∈y.subs,s.Ty prog 85→Mar 127 s):Mar 127 e:=by
 obtain⟨A,c,l,rfl,h1,h2⟩:=ht.lst_ underlying85 (k:=6) (by kernel_rfl)
 exact markStmtS_step' A c l h1 h2 ih
theorem mR:∀e:E,(e.Ty prog 85→Mar 127 e)∧(∀s∈e.subs,s.Ty prog 85→Mar 127 s):=by
 intro e
 induction e using E.ind with
 | h1|h2|h3=>exact⟨(fun h=>by obtain⟨_,_,_,h,_⟩:=h.lst_ underlying85 rfl;cases h),fun s hs=>by simp [E.subs] at hs⟩
 | h4 fs ih=>exact⟨(fun h=>by obtain⟨_,_,_,h,_⟩:=h.lst_ underlying85 rfl;cases h),fun s hs h=>(ih s hs).1 h⟩
 | h5 k T A c l ih=>exact⟨fun h=>ly h (fun y hm s hs=>(ih y hm).2 s hs),fun s hs=>by simp [E.subs] at hs⟩
theorem iH {e:E}(ht:e.Ty prog 85):Mar 127 e:=(mR e).1 ht
end Go.Proofs.YtmnneflenebgmaaGreat
