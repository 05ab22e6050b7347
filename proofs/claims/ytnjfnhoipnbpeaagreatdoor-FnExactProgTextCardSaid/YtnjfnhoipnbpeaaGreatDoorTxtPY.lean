/- The type Fn, and slices of it: shape; the laws' own functions. -/
import Derived.Test.YtnjfnhoipnbpeaaGreatDoorTxtPX
namespace Go.Proofs.YtnjfnhoipnbpeaaGreatDoor
open Go.RowKit
theorem za5 {e:E}(h:e.Ty Tryz.prog 63):∃(x0:ByteArray) (x1A:Option Addr) (x1c:Nat) (x1l:List E) (x2A:Option Addr) (x2c:Nat) (x2l:List E),e=(E.agg [.str x0,.lst 1 9 x1A x1c x1l,.lst 6 111 x2A x2c x2l])∧(x0.size≤9223372036854775807)∧((∀y∈x1l,y.Ty Tryz.prog 9)∧(∀y∈x1l,y.enc.length=1))∧((∀y∈x2l,y.Ty Tryz.prog 111)∧(∀y∈x2l,y.enc.length=6))∧True:=by
 obtain⟨fs,rfl,q0⟩:=h.agg_ Tryz.underlying63
 change E.TyF _ _ [9,38,58] at q0
 obtain⟨e0,r0,rfl,h0,q1⟩:=q0.cons_
 obtain⟨e1,r1,rfl,h1,q2⟩:=q1.cons_
 obtain⟨e2,r2,rfl,h2,q3⟩:=q2.cons_
 obtain rfl:=q3.nil_
 obtain⟨x0,rfl,gx0⟩:=h0.str_ Tryz.underlying9
 obtain⟨x1A,x1c,x1l,rfl,gx1,gx1'⟩:=h1.lst_ Tryz.underlying38 (k:=1) (by kernel_rfl)
 obtain⟨x2A,x2c,x2l,rfl,gx2,gx2'⟩:=h2.lst_ Tryz.underlying58 (k:=6) (by kernel_rfl)
 exact⟨x0,x1A,x1c,x1l,x2A,x2c,x2l,rfl,gx0,⟨gx1,gx1'⟩,⟨gx2,gx2'⟩,trivial⟩
theorem zx2 {e:E}(h:e.Ty Tryz.prog 41):∃(x0:ByteArray) (x1A:Option Addr) (x1c:Nat) (x1l:List E) (x2A:Option Addr) (x2c:Nat) (x2l:List E),e=(E.agg [.str x0,.lst 1 9 x1A x1c x1l,.lst 6 71 x2A x2c x2l])∧(x0.size≤9223372036854775807)∧((∀y∈x1l,y.Ty Tryz.prog 9)∧(∀y∈x1l,y.enc.length=1))∧((∀y∈x2l,y.Ty Tryz.prog 71)∧(∀y∈x2l,y.enc.length=6))∧True:=by
 obtain⟨fs,rfl,q0⟩:=h.agg_ Tryz.underlying41
 change E.TyF _ _ [9,38,39] at q0
 obtain⟨e0,r0,rfl,h0,q1⟩:=q0.cons_
 obtain⟨e1,r1,rfl,h1,q2⟩:=q1.cons_
 obtain⟨e2,r2,rfl,h2,q3⟩:=q2.cons_
 obtain rfl:=q3.nil_
 obtain⟨x0,rfl,gx0⟩:=h0.str_ Tryz.underlying9
 obtain⟨x1A,x1c,x1l,rfl,gx1,gx1'⟩:=h1.lst_ Tryz.underlying38 (k:=1) (by kernel_rfl)
 obtain⟨x2A,x2c,x2l,rfl,gx2,gx2'⟩:=h2.lst_ Tryz.underlying39 (k:=6) (by kernel_rfl)
 exact⟨x0,x1A,x1c,x1l,x2A,x2c,x2l,rfl,gx0,⟨gx1,gx1'⟩,⟨gx2,gx2'⟩,trivial⟩
set_option maxRecDepth 100000 in
set_option maxHeartbeats 1000000 in
theorem szFn_all {e:E}(ht:e.Ty Tryz.prog 63):Sz 23 e:=by
 obtain⟨x0,x1A,x1c,x1l,x2A,x2c,x2l,rfl,gx0,gx1,gx2,-⟩:=za5 ht
 intro left w hr h0 h1
 have HSZ:Hid ((E.agg [.str x0,.lst 1 9 x1A x1c x1l,.lst 6 111 x2A x2c x2l]).sz=(x0.size+((E.lst 1 9 x1A x1c x1l).sz+((E.lst 6 111 x2A x2c x2l).sz+0)))):=rfl
 change Calls _ _ #[.agg #[.string x0,.slice x1A x1l.length x1c,.slice x2A x2l.length x2c],.int .i64 left] w _
 have hr1:=(hr.fld (i:=1) rfl).alloc (.cells #[.string x0,.slice x1A x1l.length x1c,.slice x2A x2l.length x2c] 63)
 have hr2:=(hr.fld (i:=2) rfl).alloc (.cells #[.string x0,.slice x1A x1l.length x1c,.slice x2A x2l.length x2c] 63)
 go_enter Tryz.func23,Tryz.ntmps23
 by_cases hn1:left-x0.size<0
 ·go_wp2
  go_ret
  exact⟨-1,rfl,.inl (by omega),by omega,by exact by0⟩
 go_wp2_with fail
 go_at_call 49
 refine ((zx13 (E.Ty.mk_lst Tryz.underlying38 (by kernel_rfl) gx1.1 gx1.2)) _ _ hr1 (by omega) (by omega)).mono ?_;rintro e w2 ⟨r2,rfl,hr2s,hl2,hb2⟩
 have hz2:=hb2.size;(try simp only [World.size_alloc] at hz2)
 have c2_2:w2.cell? ⟨w.heap.size,2,none⟩=some (.slice x2A x2l.length x2c):=(by repeat (first|(with_reducible assumption)|(with_reducible refine zb5 ?_)|(with_reducible refine zr4 ?_)|(with_reducible exact zg4 rfl)|(exact cell_new' rfl (by first|rfl|(simp;done)))|(with_reducible refine zo3 ?_ ?_)|(refine zo1 (by with_reducible assumption) ?_ ?_)|(refine zi8 (by with_reducible assumption) ?_ ?_)|omega|(·simp)|(·(simp;omega))))
 have hr2:=hr2.below hb2 (by first|exact Nat.le_refl _|simp)
 by_cases hn2:r2<0
 ·go_wp2
  go_ret
  exact⟨-1,rfl,.inl (by omega),by omega,by exact by0⟩
 have hq2:=hr2s.resolve_left hn2
 go_wp2_with fail
 go_at_call 48
 refine ((zk11 (E.Ty.mk_lst Tryz.underlying58 (by kernel_rfl) gx2.1 gx2.2)) _ _ hr2 (by omega) (by omega)).mono ?_;rintro e w3 ⟨r3,rfl,hr3s,hl3,hb3⟩
 have hz3:=hb3.size;(try simp only [World.size_alloc] at hz3)
 by_cases hn3:r3<0
 ·go_wp2
  go_ret
  exact⟨-1,rfl,.inl (by omega),by omega,by exact by0⟩
 have hq3:=hr3s.resolve_left hn3
 go_wp2
 go_ret
 refine⟨_,rfl,.inr ?_,by omega,by exact by0⟩
 show _=_
 rw [HSZ.out]
 have e2:=hq2.out
 have e3:=hq3.out
 push_cast
 omega
set_option maxRecDepth 100000 in
set_option maxHeartbeats 1000000 in
theorem szFnS_all' (A:Option Addr)(c:Nat)(l:List E)(ht:∀y∈l,y.Ty Tryz.prog 63):Sz 10 (.lst 3 63 A c l):=by
 intro left w hr h0 h1
 have hs:=hr.sl
 have hlen:=hs.len_le
 have HSZ:Hid ((E.lst 3 63 A c l).sz=l.length+E.szL l):=rfl
 change Calls _ _ #[.slice A l.length c,.int .i64 left] w _
 by_cases hneg:left-l.length<0
 ·go_enter Tryz.func10,Tryz.ntmps10
  go_wp2
  go_ret
  exact⟨-1,rfl,.inl (by omega),by omega,by exact by0⟩
 go_enter Tryz.func10,Tryz.ntmps10
 go_wp2
 go_loopw [1,5] (fun v i wr=>∃(k:Nat) (cur:Int),k≤l.length∧i=.int .i64 k∧v=.int .i64 cur∧0≤cur∧cur≤left∧Hid (cur+E.szL (l.take k)+l.length=left)∧Below w.heap.size w wr) (fun _ i _=>l.length-(intOf i).toNat)
 case atStart=>exact⟨0,_,Nat.zero_le _,rfl,rfl,by omega,by omega,(by show _=_;simp [E.szL]),Below.refl _ _⟩
 case round =>
  obtain⟨k,cur,hk,rfl,rfl,hc0,hc1,HQ,hb⟩:=hrel
  have hzb:=hb.size
  by_cases hlt:k<l.length
  ·have hs':=hs.below hb (Nat.le_refl _)
   have HT:=Lib.hid (E.szL_take l k hlt)
   obtain⟨b,o,rfl,_,hc⟩:=hs'.at_ hlt
   have hin:=(hr.el (List.getElem_mem hlt)).below hb (Nat.le_refl _)
   have H:=szFn_all (ht _ (List.getElem_mem hlt))
   obtain⟨y0,y1A,y1c,y1l,y2A,y2c,y2l,ex,gy0,gy1,gy2,-⟩:=za5 (ht _ (List.getElem_mem hlt))
   have HEX:=Lib.hid ex
   rw [ex] at hc hin H
   clear ex
   have c0:=hc 0 _ rfl;have c1:=hc 1 _ rfl;have c2:=hc 2 _ rfl
   rw [Nat.add_zero] at c0
   clear hc
   go_wp2_with fail
   go_at_call 23
   refine (H _ _ hin hc0 (by omega)).mono ?_;rintro e w1 ⟨r,rfl,hrs,hrl,hb1⟩
   by_cases hn:r<0
   ·go_wp2
    go_ret
    exact⟨-1,rfl,.inl (by omega),by omega,by exact by0⟩
   ·have HR:=hrs.resolve_left hn
    clear hrs
    go_wp2
    go_roundw
    case rel=>exact⟨k+1,r,by omega,by go_num,rfl,by omega,by omega,(by show _=_;have e1:=HQ.out;have e2:=HT.out;have e3:=HR.out;rw [HEX.out] at e2;omega),by exact by0⟩
    case measure=>simp [intOf];omega
  ·have hk':k=l.length:=by omega
   subst hk'
   go_wp2
   go_ret
   refine⟨_,rfl,.inr ?_,by omega,hb⟩
   show _=_
   have e1:=HQ.out
   rw [List.take_length] at e1
   rw [HSZ.out]
   push_cast
   omega
theorem szFnS_all {e:E}(ht:e.Ty Tryz.prog 23):Sz 10 e:=by
 obtain⟨A,c,l,rfl,h1,_⟩:=ht.lst_ Tryz.underlying23 (k:=3) (by kernel_rfl)
 exact szFnS_all' A c l h1
set_option maxRecDepth 100000 in
set_option maxHeartbeats 1000000 in
theorem toFn_all {e:E}(ht:e.Ty Tryz.prog 63):To 33 41 e:=by
 have HT0:=Lib.hid ht
 obtain⟨x0,x1A,x1c,x1l,x2A,x2c,x2l,rfl,gx0,gx1,gx2,-⟩:=za5 ht
 intro w hr hsz
 have hsz':(x0.size+((E.lst 1 9 x1A x1c x1l).sz+((E.lst 6 111 x2A x2c x2l).sz+0)))≤1048576:=hsz
 have hs1:(E.lst 1 9 x1A x1c x1l).sz≤1048576:=by omega
 have hs2:(E.lst 6 111 x2A x2c x2l).sz≤1048576:=by omega
 clear hsz hsz'
 have hr1:=hr.fld (i:=1) rfl
 have ty1:(E.lst 1 9 x1A x1c x1l).Ty Tryz.prog 38:=E.Ty.mk_lst Tryz.underlying38 (by kernel_rfl) gx1.1 gx1.2
 have HC1:=Lib.hid (zy13 ty1)
 clear ty1
 have hr2:=hr.fld (i:=2) rfl
 have ty2:(E.lst 6 111 x2A x2c x2l).Ty Tryz.prog 58:=E.Ty.mk_lst Tryz.underlying58 (by kernel_rfl) gx2.1 gx2.2
 have HC2:=Lib.hid (zl11 ty2)
 clear ty2
 change Calls _ _ #[.agg #[.string x0,.slice x1A x1l.length x1c,.slice x2A x2l.length x2c]] w _
 go_enter Tryz.func33,Tryz.ntmps33
 go_wp2_with fail
 go_at_call 58
 refine (HC1.out _ (((hr1.alloc _).alloc _).alloc _) hs1).mono ?_;rintro e w1 ⟨v1,he,HD1,ht1,ho1,hn1,hb1⟩
 have HT1:=Lib.hid ht1
 have HN1:=Lib.hid hn1
 obtain⟨A1,q1,l1,rfl,-,-⟩:=ht1.lst_ Tryz.underlying38 (k:=1) (by kernel_rfl)
 obtain rfl:e=.returned (.slice A1 l1.length q1):=he
 clear hn1 ht1
 have B0_1:w1.heap[w.heap.size]? = some (.cells #[.string x0,.slice x1A x1l.length x1c,.slice x2A x2l.length x2c] 63 (0,0)):=(hb1.block (w.heap.size) (by simp;omega)).trans zv6.1
 have B1_1:w1.heap[w.heap.size+1]? = some (.cells #[.string ByteArray.empty,.slice none 0 0,.slice none 0 0] 41 (0,0)):=(hb1.block (w.heap.size+1) (by simp)).trans zv6.2.1
 have B2_1:w1.heap[w.heap.size+1+1]? = some (.cells #[.string x0,.slice none 0 0,.slice none 0 0] 41 (0,0)):=(hb1.block (w.heap.size+1+1) (by simp)).trans zv6.2.2
 have hz1:=hb1.size;simp only [World.size_alloc] at hz1
 have hB1:Below w.heap.size w w1:=(by exact by0:Below w.heap.size w _).trans (hb1.mono (by simp;omega))
 have ho1:=ho1.wider (lo':=w.heap.size+1+1+1) (by simp) (Nat.le_refl _)
 have c1_0:w1.cell? ⟨w.heap.size,0,none⟩=some (.string x0):=zi1 B0_1 rfl
 have c1_1:w1.cell? ⟨w.heap.size,1,none⟩=some (.slice x1A x1l.length x1c):=zi1 B0_1 rfl
 have c1_2:w1.cell? ⟨w.heap.size,2,none⟩=some (.slice x2A x2l.length x2c):=zi1 B0_1 rfl
 have d1_0:w1.cell? ⟨w.heap.size+1+1,0,none⟩=some (.string x0):=zi1 B2_1 rfl
 have d1_1:w1.cell? ⟨w.heap.size+1+1,1,none⟩=some (.slice none 0 0):=zi1 B2_1 rfl
 have d1_2:w1.cell? ⟨w.heap.size+1+1,2,none⟩=some (.slice none 0 0):=zi1 B2_1 rfl
 have f1:=zc5 B2_1
 go_wp2_with fail
 have hK1:Kp (w.heap.size+1+1) (w.heap.size+1+1+1) w1 (w1.setCell ⟨w.heap.size+1+1,1,none⟩ (.slice A1 l1.length q1)):=(by repeat (first|(with_reducible exact Kp.refl _ _ _)|(refine Kp.set ?_ (by first|omega|(dsimp only;omega)|(simp;omega)) (by first|omega|(dsimp only;omega)|(simp;omega)) _)))
 have A0_1:=(hK1.block (w.heap.size) (by omega) (.inl (by omega))).trans B0_1
 have A1_1:=(hK1.block (w.heap.size+1) (by omega) (.inl (by omega))).trans B1_1
 have A2_1:(w1.setCell ⟨w.heap.size+1+1,1,none⟩ (.slice A1 l1.length q1)).heap[w.heap.size+1+1]? = some (.cells #[.string x0,.slice A1 l1.length q1,.slice none 0 0] 41 (0,0)):=by simp only [zt4,B2_1];simp [setAt]
 have hW1:(w1.setCell ⟨w.heap.size+1+1,1,none⟩ (.slice A1 l1.length q1)).heap.size=w1.heap.size:=by simp
 have hBW1:Below w.heap.size w (w1.setCell ⟨w.heap.size+1+1,1,none⟩ (.slice A1 l1.length q1)):=hB1.trans (hK1.below (by omega) (by omega))
 have ho1:=ho1.kp hK1 (.inr (by omega))
 clear c1_0 c1_1 c1_2 d1_0 d1_1 d1_2 f1 B0_1 B1_1 B2_1 hK1 hB1
 generalize (w1.setCell ⟨w.heap.size+1+1,1,none⟩ (.slice A1 l1.length q1))=W1 at *
 go_at_call 57
 refine (HC2.out _ (E.In.below hr2 hBW1 (Nat.le_refl _)) hs2).mono ?_;rintro e w2 ⟨v2,he,HD2,ht2,ho2,hn2,hb2⟩
 have HT2:=Lib.hid ht2
 have HN2:=Lib.hid hn2
 obtain⟨A2,q2,l2,rfl,-,-⟩:=ht2.lst_ Tryz.underlying39 (k:=6) (by kernel_rfl)
 obtain rfl:e=.returned (.slice A2 l2.length q2):=he
 clear hn2 ht2
 have B0_2:=(hb2.block (w.heap.size) (by omega)).trans A0_1
 have B1_2:=(hb2.block (w.heap.size+1) (by omega)).trans A1_1
 have B2_2:=(hb2.block (w.heap.size+1+1) (by omega)).trans A2_1
 have hz2:=hb2.size
 have hB2:Below w.heap.size w w2:=hBW1.trans (hb2.mono (by omega))
 have ho1:=ho1.below hb2 (by omega)
 have ho2:=ho2.wider (lo':=w1.heap.size) (by omega) (Nat.le_refl _)
 clear A0_1 A1_1 A2_1
 have c2_0:w2.cell? ⟨w.heap.size,0,none⟩=some (.string x0):=zi1 B0_2 rfl
 have c2_1:w2.cell? ⟨w.heap.size,1,none⟩=some (.slice x1A x1l.length x1c):=zi1 B0_2 rfl
 have c2_2:w2.cell? ⟨w.heap.size,2,none⟩=some (.slice x2A x2l.length x2c):=zi1 B0_2 rfl
 have d2_0:w2.cell? ⟨w.heap.size+1+1,0,none⟩=some (.string x0):=zi1 B2_2 rfl
 have d2_1:w2.cell? ⟨w.heap.size+1+1,1,none⟩=some (.slice A1 l1.length q1):=zi1 B2_2 rfl
 have d2_2:w2.cell? ⟨w.heap.size+1+1,2,none⟩=some (.slice none 0 0):=zi1 B2_2 rfl
 have f2:=zc5 B2_2
 have r0':=zi1 B1_2 (o:=0) rfl;have r1':=zi1 B1_2 (o:=1) rfl;have r2':=zi1 B1_2 (o:=2) rfl
 have fr':=zc5 B1_2
 go_wp2
 have OWN:Owns w2 (w.heap.size+1+1+1) w2.heap.size [(E.str x0),(E.lst 1 9 A1 q1 l1),(E.lst 6 71 A2 q2 l2)]:=(Owns.leaf rfl (by simp only [E.Ho]) (Owns.cons (mid:=w1.heap.size) ho1 HN1.out (Owns.cons (mid:=w2.heap.size) ho2 HN2.out Owns.nil (by omega) (by omega)) (by omega) (by omega)))
 refine bodyPost_ret (v:=.agg #[.string x0,.slice A1 l1.length q1,.slice A2 l2.length q2]) (zk7 (t:=41) (fr:=(0,0)) rfl rfl Tryz.underlying41 (by kernel_rfl) ?_) rfl ⟨(E.agg [(E.str x0),(E.lst 1 9 A1 q1 l1),(E.lst 6 71 A2 q2 l2)]),rfl,?_,E.Ty.mk_agg Tryz.underlying41 (E.TyF.mk_cons (show E.Ty _ _ _ from ⟨Tryz.underlying9,by unfold maxLen;exact gx0⟩) (E.TyF.mk_cons HT1.out (E.TyF.mk_cons HT2.out (E.TyF.mk_nil)))),?_,?_,?_⟩
 ·simp only [zt4,B1_2,B2_2];simp [setAt]
 ·show E.d _=E.d _
  simp only [E.d,E.dL]
  have y1:=HD1.out;simp only [E.d,E.dL] at y1
  have y2:=HD2.out;simp only [E.d,E.dL] at y2
  simp only [E.agg.injEq,List.cons.injEq,E.lst.injEq,E.int.injEq,E.str.injEq,E.bool.injEq,true_and,and_true] at *
  simp [*]
 ·exact ((E.Ho.mk_agg OWN.1).kp (lo':=w.heap.size+1) (hi':=w.heap.size+1+1+1) (by repeat (first|(with_reducible exact Kp.refl _ _ _)|(refine Kp.set ?_ (by first|omega|(dsimp only;omega)|(simp;omega)) (by first|omega|(dsimp only;omega)|(simp;omega)) _))) (.inr (by omega))).wider (by omega) (by simp)
 ·exact OWN.2
 ·exact hB2.trans (Kp.below (lo:=w.heap.size+1) (hi:=w.heap.size+1+1+1) (by repeat (first|(with_reducible exact Kp.refl _ _ _)|(refine Kp.set ?_ (by first|omega|(dsimp only;omega)|(simp;omega)) (by first|omega|(dsimp only;omega)|(simp;omega)) _))) (by omega) (by omega))
theorem einfoFn:(Tryz.prog.info? 41).map (fun i=>(i.zero,i.size,i.bytes))=some (some (.agg #[.string ByteArray.empty,.slice none 0 0,.slice none 0 0]),3,64):=by kernel_rfl
set_option maxRecDepth 100000 in
set_option maxHeartbeats 1000000 in
theorem toFnS_all' (A:Option Addr)(c:Nat)(l:List E)(h1:∀y∈l,y.Ty Tryz.prog 63):To 15 29 (.lst 3 63 A c l):=by
 intro w hr hsz
 have hs:=hr.sl
 have eS:(E.lst 3 63 A c l).sz=l.length+E.szL l:=rfl
 have hn:l.length≤1048576:=by omega
 have HS:=Lib.hid (show l.length+E.szL l≤1048576 by omega)
 clear eS hsz
 have hmk:=zu22 Tryz.underlying29 einfoFn l.length (by omega) (by omega)
 have hF:=Fill.new w 41 #[.string ByteArray.empty,.slice none 0 0,.slice none 0 0] (l.length*3) ([]:List Value)
 change Calls _ _ #[.slice A l.length c] w _
 go_enter Tryz.func15,Tryz.ntmps15
 go_wp2
 go_loopw [4] (fun i wr=>∃(k:Nat) (us:List E),k≤l.length∧i=.int .i64 k∧Hid (us.length=k)∧Hid (us.map E.d=(l.take k).map E.d)∧Hid (∀u∈us,u.Ty Tryz.prog 41∧u.enc.length=3)∧Fill wr w.heap.size 41 (l.length*3) (k*3) (E.encL us)∧w.heap.size+1≤wr.heap.size∧Hid (∀u∈us,u.Ho wr (w.heap.size+1) wr.heap.size)∧Hid ((E.fpL us).Nodup)∧Below w.heap.size w wr) (fun i _=>l.length-(intOf i).toNat)
 case atStart=>exact⟨0,[],Nat.zero_le _,rfl,rfl,rfl,(fun u hu=>absurd hu List.not_mem_nil),by exact hF,by simp,(fun u hu=>absurd hu List.not_mem_nil),(by show List.Nodup _;simp [E.fpL]),by exact by0⟩
 case round =>
  obtain⟨k,us,hk,rfl,HL,HD,HT,hf,hge,HO,HN,hb⟩:=hrel
  by_cases hlt:k<l.length
  ·have hs':=hs.below hb (Nat.le_refl _)
   have hzb:=hb.size
   have hmem:=List.getElem_mem hlt
   have hin:=(hr.el hmem).below hb (Nat.le_refl _)
   have H:=toFn_all (h1 _ hmem)
   have hsk:l[k].sz≤1048576:=by have:=E.szL_mem hmem;have:=HS.out;omega
   obtain⟨b,o,rfl,_,hc⟩:=hs'.at_ hlt
   obtain⟨y0,y1A,y1c,y1l,y2A,y2c,y2l,ex,gy0,gy1,gy2,-⟩:=za5 (h1 _ hmem)
   have HEX:=Lib.hid ex
   rw [ex] at hc hin H hsk
   clear ex
   have c0:=hc 0 _ rfl;have c1:=hc 1 _ rfl;have c2:=hc 2 _ rfl
   rw [Nat.add_zero] at c0
   clear hc
   have HF:=Lib.hid hf
   clear hf
   go_wp2_with fail
   go_at_call 33
   refine (H _ hin hsk).mono ?_;rintro e w1 ⟨x,he,HDX,htx,hox,hnx,hb1⟩
   have HTX:=Lib.hid htx
   obtain⟨z0,z1A,z1c,z1l,z2A,z2c,z2l,rfl,gz0,gz1,gz2,-⟩:=zx2 htx
   obtain rfl:e=.returned (.agg #[.string z0,.slice z1A z1l.length z1c,.slice z2A z2l.length z2c]):=he
   have hf1:=HF.out.below hb1 HF.out.lt
   obtain⟨u0,c0'⟩:=hf1.cell (j:=k*3) (by omega);obtain⟨u1,c1'⟩:=hf1.cell (j:=k*3+1) (by omega);obtain⟨u2,c2'⟩:=hf1.cell (j:=k*3+2) (by omega)
   have zfr:=hf1.frozen
   have hz1:=hb1.size
   have HOX:=Lib.hid hox
   have HNX:=Lib.hid hnx
   have HF1:=Lib.hid hf1
   clear hox hnx hf1 htx
   go_wp2
   go_roundw
   case rel =>
    have hl:=HL.out
    have hf1:=HF1.out
    have hT:∀u∈us++[(E.agg [.str z0,.lst 1 9 z1A z1c z1l,.lst 6 71 z2A z2c z2l])],u.Ty Tryz.prog 41∧u.enc.length=3:=fun u hu=>by
     rcases List.mem_append.1 hu with hu|hu
     ·exact HT.out u hu
     ·obtain rfl:=List.mem_singleton.1 hu
      exact⟨HTX.out,rfl⟩
    have hlen:=E.encL_len fun u hu=>(HT.out u hu).2
    have hk2:k<(us++[(E.agg [.str z0,.lst 1 9 z1A z1c z1l,.lst 6 71 z2A z2c z2l])]).length:=by simp;omega
    have ev:=fun j hj=>E.encL_at (fun u hu=>(hT u hu).2) k hk2 j hj
    have eT:(us++[(E.agg [.str z0,.lst 1 9 z1A z1c z1l,.lst 6 71 z2A z2c z2l])])[k]=(E.agg [.str z0,.lst 1 9 z1A z1c z1l,.lst 6 71 z2A z2c z2l]):=by rw [List.getElem_append_right (by omega)];simp [hl]
    simp only [eT] at ev
    have hf2:Fill w1 w.heap.size 41 (l.length*3) (k*3) (E.encL (us++[(E.agg [.str z0,.lst 1 9 z1A z1c z1l,.lst 6 71 z2A z2c z2l])])):=hf1.swap' fun j hj=>E.encL_app_lt us _ j (by rw [hlen,hl];exact hj)
    have K:=fun (W:World) (h:Kp w.heap.size (w.heap.size+1) w1 W) (u:E) (hu:u∈us)=>((HO.out u hu).below hb1 (Nat.le_refl _)).kp h (.inr (by omega))
    refine⟨k+1,us++[(E.agg [.str z0,.lst 1 9 z1A z1c z1l,.lst 6 71 z2A z2c z2l])],by omega,by go_num,by show _=_;simp [hl],zw18 hlt HD.out (HDX.out.trans (by rw [←HEX.out])),hT,by rw [Nat.add_mul];exact (((hf2.set (by omega) (ev 0 (by omega))).set (by omega) (ev 1 (by omega))).set (by omega) (ev 2 (by omega))),by simp;omega,?_,?_,by exact by0⟩
    ·intro u hu
     rcases List.mem_append.1 hu with hu|hu
     ·exact (K _ (by repeat (first|(with_reducible exact Kp.refl _ _ _)|(refine Kp.set ?_ (by first|omega|(dsimp only;omega)|(simp;omega)) (by first|omega|(dsimp only;omega)|(simp;omega)) _))) u hu).wider (Nat.le_refl _) (by simp;omega)
     ·obtain rfl:=List.mem_singleton.1 hu
      exact (HOX.out.kp (lo':=w.heap.size) (hi':=w.heap.size+1) (by repeat (first|(with_reducible exact Kp.refl _ _ _)|(refine Kp.set ?_ (by first|omega|(dsimp only;omega)|(simp;omega)) (by first|omega|(dsimp only;omega)|(simp;omega)) _))) (.inr (by omega))).wider (by omega) (by simp)
    ·refine zm6 HN.out HNX.out fun g hg hg2=>?_
     obtain⟨u,hu,hg⟩:=E.mem_fpL.1 hg
     have:=(HO.out u hu).lt g hg
     have:=HOX.out.lt g hg2
     omega
   case measure=>simp [intOf];omega
  ·have hk':k=l.length:=by omega
   subst hk'
   go_wp2
   go_ret
   have hl:=HL.out
   have hTy:=HT.out
   have own:wr.ownsRow w.heap.size 41 3 (.slice (some ⟨w.heap.size,0,none⟩) l.length l.length) l.length (E.encL us):=hf.owns (Nat.le_refl _) rfl (by rw [E.encL_len fun u hu=>(hTy u hu).2,hl]) (by unfold maxLen;omega)
   rw [←hl] at own
   refine⟨.lst 3 41 (some ⟨w.heap.size,0,none⟩) us.length us,by rw [←hl];rfl,?_,E.Ty.mk_lst Tryz.underlying29 (by kernel_rfl) (fun u hu=>(hTy u hu).1) (fun u hu=>(hTy u hu).2),E.Ho.mk (Ow.of_owns own (Nat.le_refl _)) (fun u hu=>(hTy u hu).2) (fun u hu=>(HO.out u hu).wider (by omega) (Nat.le_refl _)),?_,hb⟩
   ·show E.d _=E.d _
    rw [zw11]
    have h:=HD.out
    rwa [List.take_length] at h
   ·simp only [E.fp,List.singleton_append,List.nodup_cons]
    refine⟨fun hm=>?_,HN.out⟩
    obtain⟨u,hu,hg⟩:=E.mem_fpL.1 hm
    have:=(HO.out u hu).lt _ hg
    omega
theorem toFnS_all {e:E}(ht:e.Ty Tryz.prog 23):To 15 29 e:=by
 obtain⟨A,c,l,rfl,h1,_⟩:=ht.lst_ Tryz.underlying23 (k:=3) (by kernel_rfl)
 exact toFnS_all' A c l h1
set_option maxRecDepth 100000 in
set_option maxHeartbeats 1000000 in
theorem eqFn_all {e e':E}(ht:e.Ty Tryz.prog 41)(ht':e'.Ty Tryz.prog 41):Eq 46 e e':=by
 obtain⟨x0,x1A,x1c,x1l,x2A,x2c,x2l,rfl,gx0,gx1,gx2,-⟩:=zx2 ht
 obtain⟨y0,y1A,y1c,y1l,y2A,y2c,y2l,rfl,gy0,gy1,gy2,-⟩:=zx2 ht'
 intro hd w hr hr'
 simp only [E.d,E.dL,E.agg.injEq,List.cons.injEq,E.int.injEq,E.str.injEq,E.bool.injEq,E.lst.injEq,true_and,and_true] at hd
 obtain⟨rfl,hd1,hd2⟩:=hd
 have hr1:=((hr.fld (i:=1) rfl).alloc (.cells #[.string x0,.slice x1A x1l.length x1c,.slice x2A x2l.length x2c] 41)).alloc (.cells #[.string x0,.slice y1A y1l.length y1c,.slice y2A y2l.length y2c] 41)
 have hs1:=((hr'.fld (i:=1) rfl).alloc (.cells #[.string x0,.slice x1A x1l.length x1c,.slice x2A x2l.length x2c] 41)).alloc (.cells #[.string x0,.slice y1A y1l.length y1c,.slice y2A y2l.length y2c] 41)
 have t1:(E.lst 1 9 x1A x1c x1l).Ty Tryz.prog 38:=E.Ty.mk_lst Tryz.underlying38 (by kernel_rfl) gx1.1 gx1.2
 have u1:(E.lst 1 9 y1A y1c y1l).Ty Tryz.prog 38:=E.Ty.mk_lst Tryz.underlying38 (by kernel_rfl) gy1.1 gy1.2
 have HC1:=Lib.hid (zz13 t1 u1 (by simp only [E.d,E.dL,E.agg.injEq,List.cons.injEq,E.int.injEq,E.str.injEq,E.bool.injEq,E.lst.injEq,true_and,and_true];exact hd1))
 clear t1 u1
 have hr2:=((hr.fld (i:=2) rfl).alloc (.cells #[.string x0,.slice x1A x1l.length x1c,.slice x2A x2l.length x2c] 41)).alloc (.cells #[.string x0,.slice y1A y1l.length y1c,.slice y2A y2l.length y2c] 41)
 have hs2:=((hr'.fld (i:=2) rfl).alloc (.cells #[.string x0,.slice x1A x1l.length x1c,.slice x2A x2l.length x2c] 41)).alloc (.cells #[.string x0,.slice y1A y1l.length y1c,.slice y2A y2l.length y2c] 41)
 have t2:(E.lst 6 71 x2A x2c x2l).Ty Tryz.prog 39:=E.Ty.mk_lst Tryz.underlying39 (by kernel_rfl) gx2.1 gx2.2
 have u2:(E.lst 6 71 y2A y2c y2l).Ty Tryz.prog 39:=E.Ty.mk_lst Tryz.underlying39 (by kernel_rfl) gy2.1 gy2.2
 have HC2:=Lib.hid (zm11 t2 u2 (by simp only [E.d,E.dL,E.agg.injEq,List.cons.injEq,E.int.injEq,E.str.injEq,E.bool.injEq,E.lst.injEq,true_and,and_true];exact hd2))
 clear t2 u2
 clear hd1 hd2
 change Calls _ _ #[.agg #[.string x0,.slice x1A x1l.length x1c,.slice x2A x2l.length x2c],.agg #[.string x0,.slice y1A y1l.length y1c,.slice y2A y2l.length y2c]] w _
 go_enter Tryz.func46,Tryz.ntmps46
 go_wp2_with fail
 go_at_call 75
 refine (HC1.out _ hr1 hs1).mono ?_;rintro e w1 ⟨rfl,hb1⟩
 have hz1:=hb1.size;(try simp only [World.size_alloc] at hz1)
 have c1_2:w1.cell? ⟨w.heap.size,2,none⟩=some (.slice x2A x2l.length x2c):=zo1 hb1 (zo3 (zg4 rfl) (by simp)) (by simp;omega)
 have d1_2:w1.cell? ⟨w.heap.size+1,2,none⟩=some (.slice y2A y2l.length y2c):=zo1 hb1 (cell_new' rfl (by simp)) (by simp)
 have hr2:=hr2.below hb1 (by first|exact Nat.le_refl _|simp)
 have hs2:=hs2.below hb1 (by first|exact Nat.le_refl _|simp)
 go_wp2_with fail
 go_at_call 74
 refine (HC2.out _ hr2 hs2).mono ?_;rintro e w2 ⟨rfl,hb2⟩
 have hz2:=hb2.size;(try simp only [World.size_alloc] at hz2)
 clear c1_2 d1_2
 go_wp2
 go_ret
 exact⟨rfl,by0⟩
set_option maxRecDepth 100000 in
set_option maxHeartbeats 1000000 in
theorem eqFnS_all' (A B:Option Addr)(c c':Nat)(l m:List E)(h1:∀y∈l,y.Ty Tryz.prog 41)(h2:∀y∈m,y.Ty Tryz.prog 41):Eq 21 (.lst 3 41 A c l) (.lst 3 41 B c' m):=by
 intro hd w hr hr'
 rw [zw11] at hd
 have hs:=hr.sl
 have hs':=hr'.sl
 have hml:=zy22 hd
 have HD:=Lib.hid hd
 clear hd
 have hlen:=hs.len_le
 change Calls _ _ #[.slice A l.length c,.slice B m.length c'] w _
 obtain⟨N,HN⟩:∃N,Hid (m.length=N):=⟨_,rfl⟩
 have hN:N=l.length:=by have:=HN.out;omega
 subst hN
 rw [HN.out]
 clear hml
 go_enter Tryz.func21,Tryz.ntmps21
 go_wp2
 go_loopw [5] (fun i wr=>∃(k:Nat),k≤l.length∧i=.int .i64 k∧Below w.heap.size w wr) (fun i _=>l.length-(intOf i).toNat)
 case atStart=>exact⟨0,Nat.zero_le _,rfl,Below.refl _ _⟩
 case round =>
  obtain⟨k,hk,rfl,hb⟩:=hrel
  by_cases hlt:k<l.length
  ·have hltm:k<m.length:=by have:=HN.out;omega
   have hsb:=hs.below hb (Nat.le_refl _)
   have hsb':=hs'.below hb (Nat.le_refl _)
   have hdk:=d_at HD.out hlt hltm
   obtain⟨b,o,rfl,_,hc⟩:=hsb.at_ hlt
   obtain⟨b',o',rfl,_,hd⟩:=hsb'.at_ hltm
   have hin:=(hr.el (List.getElem_mem hlt)).below hb (Nat.le_refl _)
   have hin':=(hr'.el (List.getElem_mem hltm)).below hb (Nat.le_refl _)
   have H:=eqFn_all (h1 _ (List.getElem_mem hlt)) (h2 _ (List.getElem_mem hltm)) hdk
   obtain⟨x0,x1A,x1c,x1l,x2A,x2c,x2l,ex,gx0,gx1,gx2,-⟩:=zx2 (h1 _ (List.getElem_mem hlt))
   obtain⟨y0,y1A,y1c,y1l,y2A,y2c,y2l,ey,gy0,gy1,gy2,-⟩:=zx2 (h2 _ (List.getElem_mem hltm))
   rw [ex] at hc hin
   rw [ey] at hd hin'
   rw [ex,ey] at H
   clear ex ey hdk
   have c0:=hc 0 _ rfl;have c1:=hc 1 _ rfl;have c2:=hc 2 _ rfl
   have d0:=hd 0 _ rfl;have d1:=hd 1 _ rfl;have d2:=hd 2 _ rfl
   rw [Nat.add_zero] at c0 d0
   clear hc hd
   have hzb:=hb.size
   have HH:=Lib.hid H
   clear H
   go_wp2
   go_region_held3 (fun w'=>w'.cell? ⟨b,o+k*3,none⟩=some (.string x0)∧w'.cell? ⟨b,o+k*3+1,none⟩=some (.slice x1A x1l.length x1c)∧w'.cell? ⟨b,o+k*3+2,none⟩=some (.slice x2A x2l.length x2c)∧w'.cell? ⟨b',o'+k*3,none⟩=some (.string y0)∧w'.cell? ⟨b',o'+k*3+1,none⟩=some (.slice y1A y1l.length y1c)∧w'.cell? ⟨b',o'+k*3+2,none⟩=some (.slice y2A y2l.length y2c))
    (first|exact⟨c0,c1,c2,d0,d1,d2⟩|skip)
    ((go_at_call 46;refine (HH.out _ by2 by2).mono ?_;rintro e w1 ⟨rfl,hb1⟩;have c0:=zo1 hb1 c0 by1;have c1:=zo1 hb1 c1 by1;have c2:=zo1 hb1 c2 by1;have d0:=zo1 hb1 d0 by1;have d1:=zo1 hb1 d1 by1;have d2:=zo1 hb1 d2 by1))
   go_wp2
   go_roundw
   case rel=>exact⟨k+1,by omega,by go_num,by exact by0⟩
   case measure=>simp [intOf];omega
  ·go_wp2
   go_ret
   exact⟨rfl,hb⟩
theorem eqFnS_all {e e':E}(ht:e.Ty Tryz.prog 29)(ht':e'.Ty Tryz.prog 29):Eq 21 e e':=by
 obtain⟨A,c,l,rfl,h1,_⟩:=ht.lst_ Tryz.underlying29 (k:=3) (by kernel_rfl)
 obtain⟨B,c',m,rfl,h2,_⟩:=ht'.lst_ Tryz.underlying29 (k:=3) (by kernel_rfl)
 exact eqFnS_all' A B c c' l m h1 h2
end Go.Proofs.YtnjfnhoipnbpeaaGreatDoor
