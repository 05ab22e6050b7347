/- The type Expr, and slices of it: shape; the laws' own functions. -/
import Derived.Test.YtnjfnhoipnbpeaaGreatDoorTxtPU
namespace Go.Proofs.YtnjfnhoipnbpeaaGreatDoor
open Go.RowKit
theorem by2 {p:Prop}(h:p:=by repeat (first|(with_reducible assumption)|(with_reducible refine E.In.drew ?_)|(with_reducible refine E.In.drewN ?_ _)|(with_reducible refine E.In.alloc ?_ _)|(refine E.In.below ?_ (by with_reducible assumption) ?_)|omega|(·simp)|(·(simp;omega)))):p:=h
theorem zc4 {e:E}(h:e.Ty Tryz.prog 57):∃(x0:Int) (x1:Int) (x2:ByteArray) (x3A:Option Addr) (x3c:Nat) (x3l:List E),e=(E.agg [.int .i64 x0,.int .i64 x1,.str x2,.lst 4 57 x3A x3c x3l])∧((Lit.int .i64 x0).wf=true)∧((Lit.int .i64 x1).wf=true)∧(x2.size≤9223372036854775807)∧((∀y∈x3l,y.Ty Tryz.prog 57)∧(∀y∈x3l,y.enc.length=4))∧True:=by
 obtain⟨fs,rfl,q0⟩:=h.agg_ Tryz.underlying57
 change E.TyF _ _ [3,3,9,55] at q0
 obtain⟨e0,r0,rfl,h0,q1⟩:=q0.cons_
 obtain⟨e1,r1,rfl,h1,q2⟩:=q1.cons_
 obtain⟨e2,r2,rfl,h2,q3⟩:=q2.cons_
 obtain⟨e3,r3,rfl,h3,q4⟩:=q3.cons_
 obtain rfl:=q4.nil_
 obtain⟨x0,rfl,gx0⟩:=h0.int_ Tryz.underlying3
 obtain⟨x1,rfl,gx1⟩:=h1.int_ Tryz.underlying3
 obtain⟨x2,rfl,gx2⟩:=h2.str_ Tryz.underlying9
 obtain⟨x3A,x3c,x3l,rfl,gx3,gx3'⟩:=h3.lst_ Tryz.underlying55 (k:=4) (by kernel_rfl)
 exact⟨x0,x1,x2,x3A,x3c,x3l,rfl,gx0,gx1,gx2,⟨gx3,gx3'⟩,trivial⟩
theorem zh1 {e:E}(h:e.Ty Tryz.prog 45):∃(x0:Int) (x1:Int) (x2:ByteArray) (x3A:Option Addr) (x3c:Nat) (x3l:List E),e=(E.agg [.int .i64 x0,.int .i64 x1,.str x2,.lst 4 45 x3A x3c x3l])∧((Lit.int .i64 x0).wf=true)∧((Lit.int .i64 x1).wf=true)∧(x2.size≤9223372036854775807)∧((∀y∈x3l,y.Ty Tryz.prog 45)∧(∀y∈x3l,y.enc.length=4))∧True:=by
 obtain⟨fs,rfl,q0⟩:=h.agg_ Tryz.underlying45
 change E.TyF _ _ [3,3,9,43] at q0
 obtain⟨e0,r0,rfl,h0,q1⟩:=q0.cons_
 obtain⟨e1,r1,rfl,h1,q2⟩:=q1.cons_
 obtain⟨e2,r2,rfl,h2,q3⟩:=q2.cons_
 obtain⟨e3,r3,rfl,h3,q4⟩:=q3.cons_
 obtain rfl:=q4.nil_
 obtain⟨x0,rfl,gx0⟩:=h0.int_ Tryz.underlying3
 obtain⟨x1,rfl,gx1⟩:=h1.int_ Tryz.underlying3
 obtain⟨x2,rfl,gx2⟩:=h2.str_ Tryz.underlying9
 obtain⟨x3A,x3c,x3l,rfl,gx3,gx3'⟩:=h3.lst_ Tryz.underlying43 (k:=4) (by kernel_rfl)
 exact⟨x0,x1,x2,x3A,x3c,x3l,rfl,gx0,gx1,gx2,⟨gx3,gx3'⟩,trivial⟩
set_option maxRecDepth 100000 in
set_option maxHeartbeats 1000000 in
theorem za18 {e:E}(ht:e.Ty Tryz.prog 57)(ih:∀s:E,s.Ty Tryz.prog 55→s∈e.subs→Sz 76 s):Sz 47 e:=by
 obtain⟨x0,x1,x2,x3A,x3c,x3l,rfl,gx0,gx1,gx2,gx3,-⟩:=zc4 ht
 intro left w hr h0 h1
 have HSZ:Hid ((E.agg [.int .i64 x0,.int .i64 x1,.str x2,.lst 4 57 x3A x3c x3l]).sz=(0+(0+(x2.size+((E.lst 4 57 x3A x3c x3l).sz+0))))):=rfl
 change Calls _ _ #[.agg #[.int .i64 x0,.int .i64 x1,.string x2,.slice x3A x3l.length x3c],.int .i64 left] w _
 have hr3:=(hr.fld (i:=3) rfl).alloc (.cells #[.int .i64 x0,.int .i64 x1,.string x2,.slice x3A x3l.length x3c] 57)
 go_enter Tryz.func47,Tryz.ntmps47
 by_cases hn1:left-x2.size<0
 ·go_wp2
  go_ret
  exact⟨-1,rfl,.inl (by omega),by omega,by exact by0⟩
 go_wp2_with fail
 go_at_call 76
 refine ((ih _ (E.Ty.mk_lst Tryz.underlying55 (by kernel_rfl) gx3.1 gx3.2) (by simp [E.subs])) _ _ hr3 (by omega) (by omega)).mono ?_;rintro e w2 ⟨r2,rfl,hr2s,hl2,hb2⟩
 have hz2:=hb2.size;(try simp only [World.size_alloc] at hz2)
 by_cases hn2:r2<0
 ·go_wp2
  go_ret
  exact⟨-1,rfl,.inl (by omega),by omega,by exact by0⟩
 have hq2:=hr2s.resolve_left hn2
 go_wp2
 go_ret
 refine⟨_,rfl,.inr ?_,by omega,by exact by0⟩
 show _=_
 rw [HSZ.out]
 have e2:=hq2.out
 push_cast
 omega
set_option maxRecDepth 100000 in
set_option maxHeartbeats 1000000 in
theorem szExprS_step' (A:Option Addr)(c:Nat)(l:List E)(ht:∀y∈l,y.Ty Tryz.prog 57)(ih:∀y∈l,y.Ty Tryz.prog 57→Sz 47 y):Sz 76 (.lst 4 57 A c l):=by
 intro left w hr h0 h1
 have hs:=hr.sl
 have hlen:=hs.len_le
 have HSZ:Hid ((E.lst 4 57 A c l).sz=l.length+E.szL l):=rfl
 change Calls _ _ #[.slice A l.length c,.int .i64 left] w _
 by_cases hneg:left-l.length<0
 ·go_enter Tryz.func76,Tryz.ntmps76
  go_wp2
  go_ret
  exact⟨-1,rfl,.inl (by omega),by omega,by exact by0⟩
 go_enter Tryz.func76,Tryz.ntmps76
 go_wp2
 go_loopw [1,5] (fun v i wr=>∃(k:Nat) (cur:Int),k≤l.length∧i=.int .i64 k∧v=.int .i64 cur∧0≤cur∧cur≤left∧Hid (cur+E.szL (l.take k)+l.length=left)∧Below w.heap.size w wr) (fun _ i _=>l.length-(intOf i).toNat)
 case atStart=>exact⟨0,_,Nat.zero_le _,rfl,rfl,by omega,by omega,(by show _=_;simp [E.szL]),Below.refl _ _⟩
 case round =>
  obtain⟨k,cur,hk,rfl,rfl,hc0,hc1,HQ,hb⟩:=hrel
  have hzb:=hb.size
  by_cases hlt:k<l.length
  ·have hs':=hs.below hb (Nat.le_refl _)
   have HT:=Lib.hid (E.szL_take l k hlt)
   obtain⟨b,o,rfl,_,hc⟩:=hs'.at_ hlt
   have hin:=(hr.el (List.getElem_mem hlt)).below hb (Nat.le_refl _)
   have H:=ih _ (List.getElem_mem hlt) (ht _ (List.getElem_mem hlt))
   obtain⟨y0,y1,y2,y3A,y3c,y3l,ex,gy0,gy1,gy2,gy3,-⟩:=zc4 (ht _ (List.getElem_mem hlt))
   have HEX:=Lib.hid ex
   rw [ex] at hc hin H
   clear ex
   have c0:=hc 0 _ rfl;have c1:=hc 1 _ rfl;have c2:=hc 2 _ rfl;have c3:=hc 3 _ rfl
   rw [Nat.add_zero] at c0
   clear hc
   go_wp2_with fail
   go_at_call 47
   refine (H _ _ hin hc0 (by omega)).mono ?_;rintro e w1 ⟨r,rfl,hrs,hrl,hb1⟩
   by_cases hn:r<0
   ·go_wp2
    go_ret
    exact⟨-1,rfl,.inl (by omega),by omega,by exact by0⟩
   ·have HR:=hrs.resolve_left hn
    clear hrs
    go_wp2
    go_roundw
    case rel=>exact⟨k+1,r,by omega,by go_num,rfl,by omega,by omega,(by show _=_;have e1:=HQ.out;have e2:=HT.out;have e3:=HR.out;rw [HEX.out] at e2;omega),by exact by0⟩
    case measure=>simp [intOf];omega
  ·have hk':k=l.length:=by omega
   subst hk'
   go_wp2
   go_ret
   refine⟨_,rfl,.inr ?_,by omega,hb⟩
   show _=_
   have e1:=HQ.out
   rw [List.take_length] at e1
   rw [HSZ.out]
   push_cast
   omega
theorem zz15 {e:E}(ht:e.Ty Tryz.prog 55)(ih:∀y:E,y∈e.elems→y.Ty Tryz.prog 57→Sz 47 y):Sz 76 e:=by
 obtain⟨A,c,l,rfl,h1,_⟩:=ht.lst_ Tryz.underlying55 (k:=4) (by kernel_rfl)
 exact szExprS_step' A c l h1 ih
theorem zh11:∀e:E,(e.Ty Tryz.prog 57→Sz 47 e)∧(e.Ty Tryz.prog 55→Sz 76 e):=by
 intro e
 induction e using E.ind with
 | h1|h2|h3=>exact⟨(fun h=>by obtain⟨_,h,_⟩:=h.agg_ Tryz.underlying57;cases h),(fun h=>by obtain⟨_,_,_,h,_⟩:=h.lst_ Tryz.underlying55 rfl;cases h)⟩
 | h4 fs ih=>exact⟨fun h=>za18 h (fun s hs hm=>(ih s hm).2 hs),(fun h=>by obtain⟨_,_,_,h,_⟩:=h.lst_ Tryz.underlying55 rfl;cases h)⟩
 | h5 k T A c l ih=>exact⟨(fun h=>by obtain⟨_,h,_⟩:=h.agg_ Tryz.underlying57;cases h),fun h=>zz15 h (fun y hm hy=>(ih y hm).1 hy)⟩
theorem zs21 {e:E}(ht:e.Ty Tryz.prog 57):Sz 47 e:=(zh11 e).1 ht
theorem zb18 {e:E}(ht:e.Ty Tryz.prog 55):Sz 76 e:=(zh11 e).2 ht
set_option maxRecDepth 100000 in
set_option maxHeartbeats 1000000 in
theorem zc18 {e:E}(ht:e.Ty Tryz.prog 57)(ih:∀s:E,s.Ty Tryz.prog 55→s∈e.subs→To 85 43 s):To 56 45 e:=by
 have HT0:=Lib.hid ht
 obtain⟨x0,x1,x2,x3A,x3c,x3l,rfl,gx0,gx1,gx2,gx3,-⟩:=zc4 ht
 intro w hr hsz
 have hsz':(0+(0+(x2.size+((E.lst 4 57 x3A x3c x3l).sz+0))))≤1048576:=hsz
 have hs3:(E.lst 4 57 x3A x3c x3l).sz≤1048576:=by omega
 clear hsz hsz'
 have hr3:=hr.fld (i:=3) rfl
 have ty3:(E.lst 4 57 x3A x3c x3l).Ty Tryz.prog 55:=E.Ty.mk_lst Tryz.underlying55 (by kernel_rfl) gx3.1 gx3.2
 have HC3:=Lib.hid (ih _ ty3 (by simp [E.subs]))
 clear ty3
 change Calls _ _ #[.agg #[.int .i64 x0,.int .i64 x1,.string x2,.slice x3A x3l.length x3c]] w _
 go_enter Tryz.func56,Tryz.ntmps56
 go_wp2_with fail
 go_at_call 85
 refine (HC3.out _ (((hr3.alloc _).alloc _).alloc _) hs3).mono ?_;rintro e w1 ⟨v1,he,HD1,ht1,ho1,hn1,hb1⟩
 have HT1:=Lib.hid ht1
 have HN1:=Lib.hid hn1
 obtain⟨A1,q1,l1,rfl,-,-⟩:=ht1.lst_ Tryz.underlying43 (k:=4) (by kernel_rfl)
 obtain rfl:e=.returned (.slice A1 l1.length q1):=he
 clear hn1 ht1
 have B0_1:w1.heap[w.heap.size]? = some (.cells #[.int .i64 x0,.int .i64 x1,.string x2,.slice x3A x3l.length x3c] 57 (0,0)):=(hb1.block (w.heap.size) (by simp;omega)).trans zv6.1
 have B1_1:w1.heap[w.heap.size+1]? = some (.cells #[.int .i64 0,.int .i64 0,.string ByteArray.empty,.slice none 0 0] 45 (0,0)):=(hb1.block (w.heap.size+1) (by simp)).trans zv6.2.1
 have B2_1:w1.heap[w.heap.size+1+1]? = some (.cells #[.int .i64 x0,.int .i64 x1,.string x2,.slice none 0 0] 45 (0,0)):=(hb1.block (w.heap.size+1+1) (by simp)).trans zv6.2.2
 have hz1:=hb1.size;simp only [World.size_alloc] at hz1
 have hB1:Below w.heap.size w w1:=(by exact by0:Below w.heap.size w _).trans (hb1.mono (by simp;omega))
 have ho1:=ho1.wider (lo':=w.heap.size+1+1+1) (by simp) (Nat.le_refl _)
 have c1_0:w1.cell? ⟨w.heap.size,0,none⟩=some (.int .i64 x0):=zi1 B0_1 rfl
 have c1_1:w1.cell? ⟨w.heap.size,1,none⟩=some (.int .i64 x1):=zi1 B0_1 rfl
 have c1_2:w1.cell? ⟨w.heap.size,2,none⟩=some (.string x2):=zi1 B0_1 rfl
 have c1_3:w1.cell? ⟨w.heap.size,3,none⟩=some (.slice x3A x3l.length x3c):=zi1 B0_1 rfl
 have d1_0:w1.cell? ⟨w.heap.size+1+1,0,none⟩=some (.int .i64 x0):=zi1 B2_1 rfl
 have d1_1:w1.cell? ⟨w.heap.size+1+1,1,none⟩=some (.int .i64 x1):=zi1 B2_1 rfl
 have d1_2:w1.cell? ⟨w.heap.size+1+1,2,none⟩=some (.string x2):=zi1 B2_1 rfl
 have d1_3:w1.cell? ⟨w.heap.size+1+1,3,none⟩=some (.slice none 0 0):=zi1 B2_1 rfl
 have f1:=zc5 B2_1
 have r0':=zi1 B1_1 (o:=0) rfl;have r1':=zi1 B1_1 (o:=1) rfl;have r2':=zi1 B1_1 (o:=2) rfl;have r3':=zi1 B1_1 (o:=3) rfl
 have fr':=zc5 B1_1
 go_wp2
 have OWN:Owns w1 (w.heap.size+1+1+1) w1.heap.size [(E.int .i64 x0),(E.int .i64 x1),(E.str x2),(E.lst 4 45 A1 q1 l1)]:=(Owns.leaf rfl (by simp only [E.Ho]) (Owns.leaf rfl (by simp only [E.Ho]) (Owns.leaf rfl (by simp only [E.Ho]) (Owns.cons (mid:=w1.heap.size) ho1 HN1.out Owns.nil (by omega) (by omega)))))
 refine bodyPost_ret (v:=.agg #[.int .i64 x0,.int .i64 x1,.string x2,.slice A1 l1.length q1]) (zk7 (t:=45) (fr:=(0,0)) rfl rfl Tryz.underlying45 (by kernel_rfl) ?_) rfl ⟨(E.agg [(E.int .i64 x0),(E.int .i64 x1),(E.str x2),(E.lst 4 45 A1 q1 l1)]),rfl,?_,E.Ty.mk_agg Tryz.underlying45 (E.TyF.mk_cons (show E.Ty _ _ _ from ⟨Tryz.underlying3,gx0⟩) (E.TyF.mk_cons (show E.Ty _ _ _ from ⟨Tryz.underlying3,gx1⟩) (E.TyF.mk_cons (show E.Ty _ _ _ from ⟨Tryz.underlying9,by unfold maxLen;exact gx2⟩) (E.TyF.mk_cons HT1.out (E.TyF.mk_nil))))),?_,?_,?_⟩
 ·simp only [zt4,B1_1,B2_1];simp [setAt]
 ·show E.d _=E.d _
  simp only [E.d,E.dL]
  have y1:=HD1.out;simp only [E.d,E.dL] at y1
  simp only [E.agg.injEq,List.cons.injEq,E.lst.injEq,E.int.injEq,E.str.injEq,E.bool.injEq,true_and,and_true] at *
  simp [*]
 ·exact ((E.Ho.mk_agg OWN.1).kp (lo':=w.heap.size+1) (hi':=w.heap.size+1+1+1) (by repeat (first|(with_reducible exact Kp.refl _ _ _)|(refine Kp.set ?_ (by first|omega|(dsimp only;omega)|(simp;omega)) (by first|omega|(dsimp only;omega)|(simp;omega)) _))) (.inr (by omega))).wider (by omega) (by simp)
 ·exact OWN.2
 ·exact hB1.trans (Kp.below (lo:=w.heap.size+1) (hi:=w.heap.size+1+1+1) (by repeat (first|(with_reducible exact Kp.refl _ _ _)|(refine Kp.set ?_ (by first|omega|(dsimp only;omega)|(simp;omega)) (by first|omega|(dsimp only;omega)|(simp;omega)) _))) (by omega) (by omega))
theorem einfoExpr:(Tryz.prog.info? 45).map (fun i=>(i.zero,i.size,i.bytes))=some (some (.agg #[.int .i64 0,.int .i64 0,.string ByteArray.empty,.slice none 0 0]),4,56):=by kernel_rfl
set_option maxRecDepth 100000 in
set_option maxHeartbeats 1000000 in
theorem toExprS_step' (A:Option Addr)(c:Nat)(l:List E)(h1:∀y∈l,y.Ty Tryz.prog 57)(ih:∀y∈l,y.Ty Tryz.prog 57→To 56 45 y):To 85 43 (.lst 4 57 A c l):=by
 intro w hr hsz
 have hs:=hr.sl
 have eS:(E.lst 4 57 A c l).sz=l.length+E.szL l:=rfl
 have hn:l.length≤1048576:=by omega
 have HS:=Lib.hid (show l.length+E.szL l≤1048576 by omega)
 clear eS hsz
 have hmk:=zu22 Tryz.underlying43 einfoExpr l.length (by omega) (by omega)
 have hF:=Fill.new w 45 #[.int .i64 0,.int .i64 0,.string ByteArray.empty,.slice none 0 0] (l.length*4) ([]:List Value)
 change Calls _ _ #[.slice A l.length c] w _
 go_enter Tryz.func85,Tryz.ntmps85
 go_wp2
 go_loopw [4] (fun i wr=>∃(k:Nat) (us:List E),k≤l.length∧i=.int .i64 k∧Hid (us.length=k)∧Hid (us.map E.d=(l.take k).map E.d)∧Hid (∀u∈us,u.Ty Tryz.prog 45∧u.enc.length=4)∧Fill wr w.heap.size 45 (l.length*4) (k*4) (E.encL us)∧w.heap.size+1≤wr.heap.size∧Hid (∀u∈us,u.Ho wr (w.heap.size+1) wr.heap.size)∧Hid ((E.fpL us).Nodup)∧Below w.heap.size w wr) (fun i _=>l.length-(intOf i).toNat)
 case atStart=>exact⟨0,[],Nat.zero_le _,rfl,rfl,rfl,(fun u hu=>absurd hu List.not_mem_nil),by exact hF,by simp,(fun u hu=>absurd hu List.not_mem_nil),(by show List.Nodup _;simp [E.fpL]),by exact by0⟩
 case round =>
  obtain⟨k,us,hk,rfl,HL,HD,HT,hf,hge,HO,HN,hb⟩:=hrel
  by_cases hlt:k<l.length
  ·have hs':=hs.below hb (Nat.le_refl _)
   have hzb:=hb.size
   have hmem:=List.getElem_mem hlt
   have hin:=(hr.el hmem).below hb (Nat.le_refl _)
   have H:=ih _ hmem (h1 _ hmem)
   have hsk:l[k].sz≤1048576:=by have:=E.szL_mem hmem;have:=HS.out;omega
   obtain⟨b,o,rfl,_,hc⟩:=hs'.at_ hlt
   obtain⟨y0,y1,y2,y3A,y3c,y3l,ex,gy0,gy1,gy2,gy3,-⟩:=zc4 (h1 _ hmem)
   have HEX:=Lib.hid ex
   rw [ex] at hc hin H hsk
   clear ex
   have c0:=hc 0 _ rfl;have c1:=hc 1 _ rfl;have c2:=hc 2 _ rfl;have c3:=hc 3 _ rfl
   rw [Nat.add_zero] at c0
   clear hc
   have HF:=Lib.hid hf
   clear hf
   go_wp2_with fail
   go_at_call 56
   refine (H _ hin hsk).mono ?_;rintro e w1 ⟨x,he,HDX,htx,hox,hnx,hb1⟩
   have HTX:=Lib.hid htx
   obtain⟨z0,z1,z2,z3A,z3c,z3l,rfl,gz0,gz1,gz2,gz3,-⟩:=zh1 htx
   obtain rfl:e=.returned (.agg #[.int .i64 z0,.int .i64 z1,.string z2,.slice z3A z3l.length z3c]):=he
   have hf1:=HF.out.below hb1 HF.out.lt
   obtain⟨u0,c0'⟩:=hf1.cell (j:=k*4) (by omega);obtain⟨u1,c1'⟩:=hf1.cell (j:=k*4+1) (by omega);obtain⟨u2,c2'⟩:=hf1.cell (j:=k*4+2) (by omega);obtain⟨u3,c3'⟩:=hf1.cell (j:=k*4+3) (by omega)
   have zfr:=hf1.frozen
   have hz1:=hb1.size
   have HOX:=Lib.hid hox
   have HNX:=Lib.hid hnx
   have HF1:=Lib.hid hf1
   clear hox hnx hf1 htx
   go_wp2
   go_roundw
   case rel =>
    have hl:=HL.out
    have hf1:=HF1.out
    have hT:∀u∈us++[(E.agg [.int .i64 z0,.int .i64 z1,.str z2,.lst 4 45 z3A z3c z3l])],u.Ty Tryz.prog 45∧u.enc.length=4:=fun u hu=>by
     rcases List.mem_append.1 hu with hu|hu
     ·exact HT.out u hu
     ·obtain rfl:=List.mem_singleton.1 hu
      exact⟨HTX.out,rfl⟩
    have hlen:=E.encL_len fun u hu=>(HT.out u hu).2
    have hk2:k<(us++[(E.agg [.int .i64 z0,.int .i64 z1,.str z2,.lst 4 45 z3A z3c z3l])]).length:=by simp;omega
    have ev:=fun j hj=>E.encL_at (fun u hu=>(hT u hu).2) k hk2 j hj
    have eT:(us++[(E.agg [.int .i64 z0,.int .i64 z1,.str z2,.lst 4 45 z3A z3c z3l])])[k]=(E.agg [.int .i64 z0,.int .i64 z1,.str z2,.lst 4 45 z3A z3c z3l]):=by rw [List.getElem_append_right (by omega)];simp [hl]
    simp only [eT] at ev
    have hf2:Fill w1 w.heap.size 45 (l.length*4) (k*4) (E.encL (us++[(E.agg [.int .i64 z0,.int .i64 z1,.str z2,.lst 4 45 z3A z3c z3l])])):=hf1.swap' fun j hj=>E.encL_app_lt us _ j (by rw [hlen,hl];exact hj)
    have K:=fun (W:World) (h:Kp w.heap.size (w.heap.size+1) w1 W) (u:E) (hu:u∈us)=>((HO.out u hu).below hb1 (Nat.le_refl _)).kp h (.inr (by omega))
    refine⟨k+1,us++[(E.agg [.int .i64 z0,.int .i64 z1,.str z2,.lst 4 45 z3A z3c z3l])],by omega,by go_num,by show _=_;simp [hl],zw18 hlt HD.out (HDX.out.trans (by rw [←HEX.out])),hT,by rw [Nat.add_mul];exact ((((hf2.set (by omega) (ev 0 (by omega))).set (by omega) (ev 1 (by omega))).set (by omega) (ev 2 (by omega))).set (by omega) (ev 3 (by omega))),by simp;omega,?_,?_,by exact by0⟩
    ·intro u hu
     rcases List.mem_append.1 hu with hu|hu
     ·exact (K _ (by repeat (first|(with_reducible exact Kp.refl _ _ _)|(refine Kp.set ?_ (by first|omega|(dsimp only;omega)|(simp;omega)) (by first|omega|(dsimp only;omega)|(simp;omega)) _))) u hu).wider (Nat.le_refl _) (by simp;omega)
     ·obtain rfl:=List.mem_singleton.1 hu
      exact (HOX.out.kp (lo':=w.heap.size) (hi':=w.heap.size+1) (by repeat (first|(with_reducible exact Kp.refl _ _ _)|(refine Kp.set ?_ (by first|omega|(dsimp only;omega)|(simp;omega)) (by first|omega|(dsimp only;omega)|(simp;omega)) _))) (.inr (by omega))).wider (by omega) (by simp)
    ·refine zm6 HN.out HNX.out fun g hg hg2=>?_
     obtain⟨u,hu,hg⟩:=E.mem_fpL.1 hg
     have:=(HO.out u hu).lt g hg
     have:=HOX.out.lt g hg2
     omega
   case measure=>simp [intOf];omega
  ·have hk':k=l.length:=by omega
   subst hk'
   go_wp2
   go_ret
   have hl:=HL.out
   have hTy:=HT.out
   have own:wr.ownsRow w.heap.size 45 4 (.slice (some ⟨w.heap.size,0,none⟩) l.length l.length) l.length (E.encL us):=hf.owns (Nat.le_refl _) rfl (by rw [E.encL_len fun u hu=>(hTy u hu).2,hl]) (by unfold maxLen;omega)
   rw [←hl] at own
   refine⟨.lst 4 45 (some ⟨w.heap.size,0,none⟩) us.length us,by rw [←hl];rfl,?_,E.Ty.mk_lst Tryz.underlying43 (by kernel_rfl) (fun u hu=>(hTy u hu).1) (fun u hu=>(hTy u hu).2),E.Ho.mk (Ow.of_owns own (Nat.le_refl _)) (fun u hu=>(hTy u hu).2) (fun u hu=>(HO.out u hu).wider (by omega) (Nat.le_refl _)),?_,hb⟩
   ·show E.d _=E.d _
    rw [zw11]
    have h:=HD.out
    rwa [List.take_length] at h
   ·simp only [E.fp,List.singleton_append,List.nodup_cons]
    refine⟨fun hm=>?_,HN.out⟩
    obtain⟨u,hu,hg⟩:=E.mem_fpL.1 hm
    have:=(HO.out u hu).lt _ hg
    omega
theorem za16 {e:E}(ht:e.Ty Tryz.prog 55)(ih:∀y:E,y∈e.elems→y.Ty Tryz.prog 57→To 56 45 y):To 85 43 e:=by
 obtain⟨A,c,l,rfl,h1,_⟩:=ht.lst_ Tryz.underlying55 (k:=4) (by kernel_rfl)
 exact toExprS_step' A c l h1 ih
theorem zi11:∀e:E,(e.Ty Tryz.prog 57→To 56 45 e)∧(e.Ty Tryz.prog 55→To 85 43 e):=by
 intro e
 induction e using E.ind with
 | h1|h2|h3=>exact⟨(fun h=>by obtain⟨_,h,_⟩:=h.agg_ Tryz.underlying57;cases h),(fun h=>by obtain⟨_,_,_,h,_⟩:=h.lst_ Tryz.underlying55 rfl;cases h)⟩
 | h4 fs ih=>exact⟨fun h=>zc18 h (fun s hs hm=>(ih s hm).2 hs),(fun h=>by obtain⟨_,_,_,h,_⟩:=h.lst_ Tryz.underlying55 rfl;cases h)⟩
 | h5 k T A c l ih=>exact⟨(fun h=>by obtain⟨_,h,_⟩:=h.agg_ Tryz.underlying57;cases h),fun h=>za16 h (fun y hm hy=>(ih y hm).1 hy)⟩
theorem zt21 {e:E}(ht:e.Ty Tryz.prog 57):To 56 45 e:=(zi11 e).1 ht
theorem zd18 {e:E}(ht:e.Ty Tryz.prog 55):To 85 43 e:=(zi11 e).2 ht
set_option maxRecDepth 100000 in
set_option maxHeartbeats 1000000 in
theorem ze18 {e e':E}(ht:e.Ty Tryz.prog 45)(ht':e'.Ty Tryz.prog 45)(ih:∀s:E,s.Ty Tryz.prog 43→s∈e.subs→∀s':E,s'.Ty Tryz.prog 43→Eq 98 s s'):Eq 73 e e':=by
 obtain⟨x0,x1,x2,x3A,x3c,x3l,rfl,gx0,gx1,gx2,gx3,-⟩:=zh1 ht
 obtain⟨y0,y1,y2,y3A,y3c,y3l,rfl,gy0,gy1,gy2,gy3,-⟩:=zh1 ht'
 intro hd w hr hr'
 simp only [E.d,E.dL,E.agg.injEq,List.cons.injEq,E.int.injEq,E.str.injEq,E.bool.injEq,E.lst.injEq,true_and,and_true] at hd
 obtain⟨rfl,rfl,rfl,hd3⟩:=hd
 have hr3:=((hr.fld (i:=3) rfl).alloc (.cells #[.int .i64 x0,.int .i64 x1,.string x2,.slice x3A x3l.length x3c] 45)).alloc (.cells #[.int .i64 x0,.int .i64 x1,.string x2,.slice y3A y3l.length y3c] 45)
 have hs3:=((hr'.fld (i:=3) rfl).alloc (.cells #[.int .i64 x0,.int .i64 x1,.string x2,.slice x3A x3l.length x3c] 45)).alloc (.cells #[.int .i64 x0,.int .i64 x1,.string x2,.slice y3A y3l.length y3c] 45)
 have t3:(E.lst 4 45 x3A x3c x3l).Ty Tryz.prog 43:=E.Ty.mk_lst Tryz.underlying43 (by kernel_rfl) gx3.1 gx3.2
 have u3:(E.lst 4 45 y3A y3c y3l).Ty Tryz.prog 43:=E.Ty.mk_lst Tryz.underlying43 (by kernel_rfl) gy3.1 gy3.2
 have HC3:=Lib.hid (ih _ t3 (by simp [E.subs]) _ u3 (by simp only [E.d,E.dL,E.agg.injEq,List.cons.injEq,E.int.injEq,E.str.injEq,E.bool.injEq,E.lst.injEq,true_and,and_true];exact hd3))
 clear t3 u3
 clear hd3
 change Calls _ _ #[.agg #[.int .i64 x0,.int .i64 x1,.string x2,.slice x3A x3l.length x3c],.agg #[.int .i64 x0,.int .i64 x1,.string x2,.slice y3A y3l.length y3c]] w _
 go_enter Tryz.func73,Tryz.ntmps73
 go_wp2_with fail
 go_at_call 98
 refine (HC3.out _ hr3 hs3).mono ?_;rintro e w1 ⟨rfl,hb1⟩
 have hz1:=hb1.size;(try simp only [World.size_alloc] at hz1)
 go_wp2
 go_ret
 exact⟨rfl,by0⟩
set_option maxRecDepth 100000 in
set_option maxHeartbeats 1000000 in
theorem eqExprS_step' (A B:Option Addr)(c c':Nat)(l m:List E)(h1:∀y∈l,y.Ty Tryz.prog 45)(h2:∀y∈m,y.Ty Tryz.prog 45)(ih:∀y∈l,y.Ty Tryz.prog 45→∀y':E,y'.Ty Tryz.prog 45→Eq 73 y y'):Eq 98 (.lst 4 45 A c l) (.lst 4 45 B c' m):=by
 intro hd w hr hr'
 rw [zw11] at hd
 have hs:=hr.sl
 have hs':=hr'.sl
 have hml:=zy22 hd
 have HD:=Lib.hid hd
 clear hd
 have hlen:=hs.len_le
 change Calls _ _ #[.slice A l.length c,.slice B m.length c'] w _
 obtain⟨N,HN⟩:∃N,Hid (m.length=N):=⟨_,rfl⟩
 have hN:N=l.length:=by have:=HN.out;omega
 subst hN
 rw [HN.out]
 clear hml
 go_enter Tryz.func98,Tryz.ntmps98
 go_wp2
 go_loopw [5] (fun i wr=>∃(k:Nat),k≤l.length∧i=.int .i64 k∧Below w.heap.size w wr) (fun i _=>l.length-(intOf i).toNat)
 case atStart=>exact⟨0,Nat.zero_le _,rfl,Below.refl _ _⟩
 case round =>
  obtain⟨k,hk,rfl,hb⟩:=hrel
  by_cases hlt:k<l.length
  ·have hltm:k<m.length:=by have:=HN.out;omega
   have hsb:=hs.below hb (Nat.le_refl _)
   have hsb':=hs'.below hb (Nat.le_refl _)
   have hdk:=d_at HD.out hlt hltm
   obtain⟨b,o,rfl,_,hc⟩:=hsb.at_ hlt
   obtain⟨b',o',rfl,_,hd⟩:=hsb'.at_ hltm
   have hin:=(hr.el (List.getElem_mem hlt)).below hb (Nat.le_refl _)
   have hin':=(hr'.el (List.getElem_mem hltm)).below hb (Nat.le_refl _)
   have H:=ih _ (List.getElem_mem hlt) (h1 _ (List.getElem_mem hlt)) _ (h2 _ (List.getElem_mem hltm)) hdk
   obtain⟨x0,x1,x2,x3A,x3c,x3l,ex,gx0,gx1,gx2,gx3,-⟩:=zh1 (h1 _ (List.getElem_mem hlt))
   obtain⟨y0,y1,y2,y3A,y3c,y3l,ey,gy0,gy1,gy2,gy3,-⟩:=zh1 (h2 _ (List.getElem_mem hltm))
   rw [ex] at hc hin
   rw [ey] at hd hin'
   rw [ex,ey] at H
   clear ex ey hdk
   have c0:=hc 0 _ rfl;have c1:=hc 1 _ rfl;have c2:=hc 2 _ rfl;have c3:=hc 3 _ rfl
   have d0:=hd 0 _ rfl;have d1:=hd 1 _ rfl;have d2:=hd 2 _ rfl;have d3:=hd 3 _ rfl
   rw [Nat.add_zero] at c0 d0
   clear hc hd
   have hzb:=hb.size
   have HH:=Lib.hid H
   clear H
   go_wp2
   go_region_held3 (fun w'=>w'.cell? ⟨b,o+k*4,none⟩=some (.int .i64 x0)∧w'.cell? ⟨b,o+k*4+1,none⟩=some (.int .i64 x1)∧w'.cell? ⟨b,o+k*4+2,none⟩=some (.string x2)∧w'.cell? ⟨b,o+k*4+3,none⟩=some (.slice x3A x3l.length x3c)∧w'.cell? ⟨b',o'+k*4,none⟩=some (.int .i64 y0)∧w'.cell? ⟨b',o'+k*4+1,none⟩=some (.int .i64 y1)∧w'.cell? ⟨b',o'+k*4+2,none⟩=some (.string y2)∧w'.cell? ⟨b',o'+k*4+3,none⟩=some (.slice y3A y3l.length y3c))
    (first|exact⟨c0,c1,c2,c3,d0,d1,d2,d3⟩|skip)
    ((go_at_call 73;refine (HH.out _ by2 by2).mono ?_;rintro e w1 ⟨rfl,hb1⟩;have c0:=zo1 hb1 c0 by1;have c1:=zo1 hb1 c1 by1;have c2:=zo1 hb1 c2 by1;have c3:=zo1 hb1 c3 by1;have d0:=zo1 hb1 d0 by1;have d1:=zo1 hb1 d1 by1;have d2:=zo1 hb1 d2 by1;have d3:=zo1 hb1 d3 by1))
   go_wp2
   go_roundw
   case rel=>exact⟨k+1,by omega,by go_num,by exact by0⟩
   case measure=>simp [intOf];omega
  ·go_wp2
   go_ret
   exact⟨rfl,hb⟩
theorem zb16 {e e':E}(ht:e.Ty Tryz.prog 43)(ht':e'.Ty Tryz.prog 43)(ih:∀y:E,y∈e.elems→y.Ty Tryz.prog 45→∀y':E,y'.Ty Tryz.prog 45→Eq 73 y y'):Eq 98 e e':=by
 obtain⟨A,c,l,rfl,h1,_⟩:=ht.lst_ Tryz.underlying43 (k:=4) (by kernel_rfl)
 obtain⟨B,c',m,rfl,h2,_⟩:=ht'.lst_ Tryz.underlying43 (k:=4) (by kernel_rfl)
 exact eqExprS_step' A B c c' l m h1 h2 ih
theorem zj11:∀e:E,(e.Ty Tryz.prog 45→∀e':E,e'.Ty Tryz.prog 45→Eq 73 e e')∧(e.Ty Tryz.prog 43→∀e':E,e'.Ty Tryz.prog 43→Eq 98 e e'):=by
 intro e
 induction e using E.ind with
 | h1|h2|h3=>exact⟨(fun h=>by obtain⟨_,h,_⟩:=h.agg_ Tryz.underlying45;cases h),(fun h=>by obtain⟨_,_,_,h,_⟩:=h.lst_ Tryz.underlying43 rfl;cases h)⟩
 | h4 fs ih=>exact⟨fun h e' h'=>ze18 h h' (fun s hs hm=>(ih s hm).2 hs),(fun h=>by obtain⟨_,_,_,h,_⟩:=h.lst_ Tryz.underlying43 rfl;cases h)⟩
 | h5 k T A c l ih=>exact⟨(fun h=>by obtain⟨_,h,_⟩:=h.agg_ Tryz.underlying45;cases h),fun h e' h'=>zb16 h h' (fun y hm hy=>(ih y hm).1 hy)⟩
theorem zu21 {e e':E}(ht:e.Ty Tryz.prog 45)(ht':e'.Ty Tryz.prog 45):Eq 73 e e':=(zj11 e).1 ht e' ht'
theorem zf18 {e e':E}(ht:e.Ty Tryz.prog 43)(ht':e'.Ty Tryz.prog 43):Eq 98 e e':=(zj11 e).2 ht e' ht'
end Go.Proofs.YtnjfnhoipnbpeaaGreatDoor
