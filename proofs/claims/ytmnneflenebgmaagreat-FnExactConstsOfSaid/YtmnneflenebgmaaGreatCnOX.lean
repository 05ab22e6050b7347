/- T -/
import Derived.Test.YtmnneflenebgmaaGreatCnOW
set_option maxHeartbeats 0
set_option maxRecDepth 100000
namespace Go.Proofs.YtmnneflenebgmaaGreat
open Go.RowKit Go.Proofs.Tryz
theorem by2 {p:Prop}(h:p:=by repeat (first|(with_reducible assumption)|(with_reducible refine E.In.drew ?_)|(with_reducible refine E.In.drewN ?_ _)|(with_reducible refine E.In.alloc ?_ _)|(refine E.In.below ?_ (by with_reducible assumption) ?_)|omega|(·simp)|(·(simp;omega)))):p:=h
theorem dv {e:E}(h:e.Ty prog 152):∃(x0:Int) (x1:Int) (x2:ByteArray) (x3A:Option Addr) (x3c:Nat) (x3l:List E),e=(E.agg [.int .i64 x0,.int .i64 x1,.str x2,.lst 4 152 x3A x3c x3l])∧((Lit.int .i64 x0).wf=true)∧((Lit.int .i64 x1).wf=true)∧(x2.size≤9223372036854775807)∧((∀y∈x3l,y.Ty prog 152)∧(∀y∈x3l,y.enc.length=4))∧True:=by
 obtain⟨fs,rfl,q0⟩:=h.agg_ underlying152
 change E.TyF _ _ [3,3,9,150] at q0
 obtain⟨e0,r0,rfl,h0,q1⟩:=q0.cons_
 obtain⟨e1,r1,rfl,h1,q2⟩:=q1.cons_
 obtain⟨e2,r2,rfl,h2,q3⟩:=q2.cons_
 obtain⟨e3,r3,rfl,h3,q4⟩:=q3.cons_
 obtain rfl:=q4.nil_
 obtain⟨x0,rfl,gx0⟩:=h0.int_ underlying3
 obtain⟨x1,rfl,gx1⟩:=h1.int_ underlying3
 obtain⟨x2,rfl,gx2⟩:=h2.str_ underlying9
 obtain⟨x3A,x3c,x3l,rfl,gx3,gx3'⟩:=h3.lst_ underlying150 (k:=4) (by kernel_rfl)
 exact⟨x0,x1,x2,x3A,x3c,x3l,rfl,gx0,gx1,gx2,⟨gx3,gx3'⟩,trivial⟩
theorem aB {e:E}(h:e.Ty prog 70):∃(x0:Int) (x1:Int) (x2:ByteArray) (x3A:Option Addr) (x3c:Nat) (x3l:List E),e=(E.agg [.int .i64 x0,.int .i64 x1,.str x2,.lst 4 70 x3A x3c x3l])∧((Lit.int .i64 x0).wf=true)∧((Lit.int .i64 x1).wf=true)∧(x2.size≤9223372036854775807)∧((∀y∈x3l,y.Ty prog 70)∧(∀y∈x3l,y.enc.length=4))∧True:=by
 obtain⟨fs,rfl,q0⟩:=h.agg_ underlying70
 change E.TyF _ _ [3,3,9,68] at q0
 obtain⟨e0,r0,rfl,h0,q1⟩:=q0.cons_
 obtain⟨e1,r1,rfl,h1,q2⟩:=q1.cons_
 obtain⟨e2,r2,rfl,h2,q3⟩:=q2.cons_
 obtain⟨e3,r3,rfl,h3,q4⟩:=q3.cons_
 obtain rfl:=q4.nil_
 obtain⟨x0,rfl,gx0⟩:=h0.int_ underlying3
 obtain⟨x1,rfl,gx1⟩:=h1.int_ underlying3
 obtain⟨x2,rfl,gx2⟩:=h2.str_ underlying9
 obtain⟨x3A,x3c,x3l,rfl,gx3,gx3'⟩:=h3.lst_ underlying68 (k:=4) (by kernel_rfl)
 exact⟨x0,x1,x2,x3A,x3c,x3l,rfl,gx0,gx1,gx2,⟨gx3,gx3'⟩,trivial⟩
theorem pD {e:E}(ht:e.Ty prog 152)(ih:∀s:E,s.Ty prog 150→s∈e.subs→Sz 211 s):Sz 175 e:=by
 obtain⟨x0,x1,x2,x3A,x3c,x3l,rfl,gx0,gx1,gx2,gx3,-⟩:=dv ht
 intro left w hr h0 h1
 have HSZ:Hid ((E.agg [.int .i64 x0,.int .i64 x1,.str x2,.lst 4 152 x3A x3c x3l]).sz=(0+(0+(x2.size+((E.lst 4 152 x3A x3c x3l).sz+0))))):=rfl
 change Calls _ _ #[.agg #[.int .i64 x0,.int .i64 x1,.string x2,.slice x3A x3l.length x3c],.int .i64 left] w _
 have hr3:=(hr.fld (i:=3) rfl).alloc (.cells #[.int .i64 x0,.int .i64 x1,.string x2,.slice x3A x3l.length x3c] 152)
 go_enter func175,Tryz.ntmps175
 by_cases hn1:left-x2.size<0
 ·go_wp2
  go_ret
  exact⟨-1,rfl,.inl omq,omq,by exact by0⟩
 go_wp2_with fail
 go_at_call 211
 refine ((ih _ (E.Ty.mk_lst underlying150 (by kernel_rfl) gx3.1 gx3.2) (by simp [E.subs])) _ _ hr3 omq omq).mono ?_;rintro e w2 ⟨r2,rfl,hr2s,hl2,hb2⟩
 have hz2:=hb2.size;(try simp only [World.size_alloc] at hz2)
 by_cases hn2:r2<0
 ·go_wp2
  go_ret
  exact⟨-1,rfl,.inl omq,omq,by exact by0⟩
 have hq2:=hr2s.resolve_left hn2
 go_wp2
 go_ret
 refine⟨_,rfl,.inr ?_,omq,by exact by0⟩
 show _=_
 rw [HSZ.out]
 have e2:=hq2.out
 push_cast
 omega
theorem szExprS_step' (A:Option Addr)(c:Nat)(l:List E)(ht:∀y∈l,y.Ty prog 152)(ih:∀y∈l,y.Ty prog 152→Sz 175 y):Sz 211 (.lst 4 152 A c l):=by
 intro left w hr h0 h1
 have hs:=hr.sl
 have hlen:=hs.len_le
 have HSZ:Hid ((E.lst 4 152 A c l).sz=l.length+E.szL l):=rfl
 change Calls _ _ #[.slice A l.length c,.int .i64 left] w _
 by_cases hneg:left-l.length<0
 ·go_enter func211,Tryz.ntmps211
  go_wp2
  go_ret
  exact⟨-1,rfl,.inl omq,omq,by exact by0⟩
 go_enter func211,Tryz.ntmps211
 go_wp2
 go_loopw [1,5] (fun v i wr=>∃(k:Nat) (cur:Int),k≤l.length∧i=.int .i64 k∧v=.int .i64 cur∧0≤cur∧cur≤left∧Hid (cur+E.szL (l.take k)+l.length=left)∧Below w.heap.size w wr) (fun _ i _=>l.length-(intOf i).toNat)
 case atStart=>exact⟨0,_,Nat.zero_le _,rfl,rfl,omq,omq,(by show _=_;simp [E.szL]),Below.refl _ _⟩
 case round =>
  obtain⟨k,cur,hk,rfl,rfl,hc0,hc1,HQ,hb⟩:=hrel
  have hzb:=hb.size
  by_cases hlt:k<l.length
  ·have hs':=hs.below hb (Nat.le_refl _)
   have HT:=Lib.hid (E.szL_take l k hlt)
   obtain⟨b,o,rfl,_,hc⟩:=hs'.at_ hlt
   have hin:=(hr.el (List.getElem_mem hlt)).below hb (Nat.le_refl _)
   have H:=ih _ (List.getElem_mem hlt) (ht _ (List.getElem_mem hlt))
   obtain⟨y0,y1,y2,y3A,y3c,y3l,ex,gy0,gy1,gy2,gy3,-⟩:=dv (ht _ (List.getElem_mem hlt))
   have HEX:=Lib.hid ex
   rw [ex] at hc hin H
   clear ex
   have c0:=hc 0 _ rfl;have c1:=hc 1 _ rfl;have c2:=hc 2 _ rfl;have c3:=hc 3 _ rfl
   rw [Nat.add_zero] at c0
   clear hc
   go_wp2_with fail
   go_at_call 175
   refine (H _ _ hin hc0 omq).mono ?_;rintro e w1 ⟨r,rfl,hrs,hrl,hb1⟩
   by_cases hn:r<0
   ·go_wp2
    go_ret
    exact⟨-1,rfl,.inl omq,omq,by exact by0⟩
   ·have HR:=hrs.resolve_left hn
    clear hrs
    go_wp2
    go_roundw
    case rel=>exact⟨k+1,r,omq,by go_num,rfl,omq,omq,(by show _=_;have e1:=HQ.out;have e2:=HT.out;have e3:=HR.out;rw [HEX.out] at e2;omega),by exact by0⟩
    case measure=>simp [intOf];omega
  ·have hk':k=l.length:=by omega
   subst hk'
   go_wp2
   go_ret
   refine⟨_,rfl,.inr ?_,omq,hb⟩
   show _=_
   have e1:=HQ.out
   rw [List.take_length] at e1
   rw [HSZ.out]
   push_cast
   omega
theorem oc {e:E}(ht:e.Ty prog 150)(ih:∀y:E,y∈e.elems→y.Ty prog 152→Sz 175 y):Sz 211 e:=by
 obtain⟨A,c,l,rfl,h1,_⟩:=ht.lst_ underlying150 (k:=4) (by kernel_rfl)
 exact szExprS_step' A c l h1 ih
theorem kK:∀e:E,(e.Ty prog 152→Sz 175 e)∧(e.Ty prog 150→Sz 211 e):=by
 intro e
 induction e using E.ind with
 | h1|h2|h3=>exact⟨(fun h=>by obtain⟨_,h,_⟩:=h.agg_ underlying152;cases h),(fun h=>by obtain⟨_,_,_,h,_⟩:=h.lst_ underlying150 rfl;cases h)⟩
 | h4 fs ih=>exact⟨fun h=>pD h (fun s hs hm=>(ih s hm).2 hs),(fun h=>by obtain⟨_,_,_,h,_⟩:=h.lst_ underlying150 rfl;cases h)⟩
 | h5 k T A c l ih=>exact⟨(fun h=>by obtain⟨_,h,_⟩:=h.agg_ underlying152;cases h),fun h=>oc h (fun y hm hy=>(ih y hm).1 hy)⟩
theorem r8 {e:E}(ht:e.Ty prog 152):Sz 175 e:=(kK e).1 ht
theorem pE {e:E}(ht:e.Ty prog 150):Sz 211 e:=(kK e).2 ht
theorem pG {e:E}(ht:e.Ty prog 152)(ih:∀s:E,s.Ty prog 150→s∈e.subs→To 213 68 s):To 178 70 e:=by
 have HT0:=Lib.hid ht
 obtain⟨x0,x1,x2,x3A,x3c,x3l,rfl,gx0,gx1,gx2,gx3,-⟩:=dv ht
 intro w hr hsz
 have hsz':(0+(0+(x2.size+((E.lst 4 152 x3A x3c x3l).sz+0))))≤1048576:=hsz
 have hs3:(E.lst 4 152 x3A x3c x3l).sz≤1048576:=by omega
 clear hsz hsz'
 have hr3:=hr.fld (i:=3) rfl
 have ty3:(E.lst 4 152 x3A x3c x3l).Ty prog 150:=E.Ty.mk_lst underlying150 (by kernel_rfl) gx3.1 gx3.2
 have HC3:=Lib.hid (ih _ ty3 (by simp [E.subs]))
 clear ty3
 change Calls _ _ #[.agg #[.int .i64 x0,.int .i64 x1,.string x2,.slice x3A x3l.length x3c]] w _
 go_enter func178,Tryz.ntmps178
 go_wp2_with fail
 go_at_call 213
 refine (HC3.out _ (((hr3.alloc _).alloc _).alloc _) hs3).mono ?_;rintro e w1 ⟨v1,he,HD1,ht1,ho1,hn1,hb1⟩
 have HT1:=Lib.hid ht1
 have HN1:=Lib.hid hn1
 obtain⟨A1,q1,l1,rfl,-,-⟩:=ht1.lst_ underlying68 (k:=4) (by kernel_rfl)
 obtain rfl:e=.returned (.slice A1 l1.length q1):=he
 clear hn1 ht1
 have B0_1:w1.heap[w.heap.size]? = some (.cells #[.int .i64 x0,.int .i64 x1,.string x2,.slice x3A x3l.length x3c] 152 (0,0)):=(hb1.block (w.heap.size) (by simp;omega)).trans gU.1
 have B1_1:w1.heap[w.heap.size+1]? = some (.cells #[.int .i64 0,.int .i64 0,.string ByteArray.empty,.slice none 0 0] 70 (0,0)):=(hb1.block (w.heap.size+1) (by simp)).trans gU.2.1
 have B2_1:w1.heap[w.heap.size+1+1]? = some (.cells #[.int .i64 x0,.int .i64 x1,.string x2,.slice none 0 0] 70 (0,0)):=(hb1.block (w.heap.size+1+1) (by simp)).trans gU.2.2
 have hz1:=hb1.size;simp only [World.size_alloc] at hz1
 have hB1:Below w.heap.size w w1:=(by exact by0:Below w.heap.size w _).trans (hb1.mono (by simp;omega))
 have ho1:=ho1.wider (lo':=w.heap.size+1+1+1) (by simp) (Nat.le_refl _)
 have c1_0:w1.cell? ⟨w.heap.size,0,none⟩=some (.int .i64 x0):=aw B0_1 rfl
 have c1_1:w1.cell? ⟨w.heap.size,1,none⟩=some (.int .i64 x1):=aw B0_1 rfl
 have c1_2:w1.cell? ⟨w.heap.size,2,none⟩=some (.string x2):=aw B0_1 rfl
 have c1_3:w1.cell? ⟨w.heap.size,3,none⟩=some (.slice x3A x3l.length x3c):=aw B0_1 rfl
 have d1_0:w1.cell? ⟨w.heap.size+1+1,0,none⟩=some (.int .i64 x0):=aw B2_1 rfl
 have d1_1:w1.cell? ⟨w.heap.size+1+1,1,none⟩=some (.int .i64 x1):=aw B2_1 rfl
 have d1_2:w1.cell? ⟨w.heap.size+1+1,2,none⟩=some (.string x2):=aw B2_1 rfl
 have d1_3:w1.cell? ⟨w.heap.size+1+1,3,none⟩=some (.slice none 0 0):=aw B2_1 rfl
 have f1:=eJ B2_1
 have r0':=aw B1_1 (o:=0) rfl;have r1':=aw B1_1 (o:=1) rfl;have r2':=aw B1_1 (o:=2) rfl;have r3':=aw B1_1 (o:=3) rfl
 have fr':=eJ B1_1
 go_wp2
 have OWN:Owns w1 (w.heap.size+1+1+1) w1.heap.size [(E.int .i64 x0),(E.int .i64 x1),(E.str x2),(E.lst 4 70 A1 q1 l1)]:=(Owns.leaf rfl (by simp only [E.Ho]) (Owns.leaf rfl (by simp only [E.Ho]) (Owns.leaf rfl (by simp only [E.Ho]) (Owns.cons (mid:=w1.heap.size) ho1 HN1.out Owns.nil omq omq))))
 refine bodyPost_ret (v:=.agg #[.int .i64 x0,.int .i64 x1,.string x2,.slice A1 l1.length q1]) (ia (t:=70) (fr:=(0,0)) rfl rfl underlying70 (by kernel_rfl) ?_) rfl ⟨(E.agg [(E.int .i64 x0),(E.int .i64 x1),(E.str x2),(E.lst 4 70 A1 q1 l1)]),rfl,?_,E.Ty.mk_agg underlying70 (E.TyF.mk_cons (show E.Ty _ _ _ from ⟨underlying3,gx0⟩) (E.TyF.mk_cons (show E.Ty _ _ _ from ⟨underlying3,gx1⟩) (E.TyF.mk_cons (show E.Ty _ _ _ from ⟨underlying9,by unfold maxLen;exact gx2⟩) (E.TyF.mk_cons HT1.out (E.TyF.mk_nil))))),?_,?_,?_⟩
 ·simp only [eh,B1_1,B2_1];simp [jW]
 ·show E.d _=E.d _
  simp only [E.d,E.dL]
  have y1:=HD1.out;simp only [E.d,E.dL] at y1
  simp only [E.agg.injEq,List.cons.injEq,E.lst.injEq,E.int.injEq,E.str.injEq,E.bool.injEq,true_and,and_true] at *
  simp [*]
 ·exact ((E.Ho.mk_agg OWN.1).kp (lo':=w.heap.size+1) (hi':=w.heap.size+1+1+1) (by repeat (first|(with_reducible exact Kp.refl _ _ _)|(refine Kp.set ?_ (by first|omega|(dsimp only;omega)|(simp;omega)) (by first|omega|(dsimp only;omega)|(simp;omega)) _))) (.inr omq)).wider omq (by simp)
 ·exact OWN.2
 ·exact hB1.trans (Kp.below (lo:=w.heap.size+1) (hi:=w.heap.size+1+1+1) (by repeat (first|(with_reducible exact Kp.refl _ _ _)|(refine Kp.set ?_ (by first|omega|(dsimp only;omega)|(simp;omega)) (by first|omega|(dsimp only;omega)|(simp;omega)) _))) omq omq)
theorem vm:(prog.info? 70).map (fun i=>(i.zero,i.size,i.bytes))=some (some (.agg #[.int .i64 0,.int .i64 0,.string ByteArray.empty,.slice none 0 0]),4,56):=by kernel_rfl
theorem toExprS_step' (A:Option Addr)(c:Nat)(l:List E)(h1:∀y∈l,y.Ty prog 152)(ih:∀y∈l,y.Ty prog 152→To 178 70 y):To 213 68 (.lst 4 152 A c l):=by
 intro w hr hsz
 have hs:=hr.sl
 have eS:(E.lst 4 152 A c l).sz=l.length+E.szL l:=rfl
 have hn:l.length≤1048576:=by omega
 have HS:=Lib.hid (show l.length+E.szL l≤1048576 by omega)
 clear eS hsz
 have hmk:=sW underlying68 vm l.length omq omq
 have hF:=Fill.new w 70 #[.int .i64 0,.int .i64 0,.string ByteArray.empty,.slice none 0 0] (l.length*4) ([]:List Value)
 change Calls _ _ #[.slice A l.length c] w _
 go_enter func213,Tryz.ntmps213
 go_wp2
 go_loopw [4] (fun i wr=>∃(k:Nat) (us:List E),k≤l.length∧i=.int .i64 k∧Hid (us.length=k)∧Hid (us.map E.d=(l.take k).map E.d)∧Hid (∀u∈us,u.Ty prog 70∧u.enc.length=4)∧Fill wr w.heap.size 70 (l.length*4) (k*4) (E.encL us)∧w.heap.size+1≤wr.heap.size∧Hid (∀u∈us,u.Ho wr (w.heap.size+1) wr.heap.size)∧Hid ((E.fpL us).Nodup)∧Below w.heap.size w wr) (fun i _=>l.length-(intOf i).toNat)
 case atStart=>exact⟨0,[],Nat.zero_le _,rfl,rfl,rfl,(fun u hu=>absurd hu List.not_mem_nil),by exact hF,by simp,(fun u hu=>absurd hu List.not_mem_nil),(by show List.Nodup _;simp [E.fpL]),by exact by0⟩
 case round =>
  obtain⟨k,us,hk,rfl,HL,HD,HT,hf,hge,HO,HN,hb⟩:=hrel
  by_cases hlt:k<l.length
  ·have hs':=hs.below hb (Nat.le_refl _)
   have hzb:=hb.size
   have hmem:=List.getElem_mem hlt
   have hin:=(hr.el hmem).below hb (Nat.le_refl _)
   have H:=ih _ hmem (h1 _ hmem)
   have hsk:l[k].sz≤1048576:=by have:=E.szL_mem hmem;have:=HS.out;omega
   obtain⟨b,o,rfl,_,hc⟩:=hs'.at_ hlt
   obtain⟨y0,y1,y2,y3A,y3c,y3l,ex,gy0,gy1,gy2,gy3,-⟩:=dv (h1 _ hmem)
   have HEX:=Lib.hid ex
   rw [ex] at hc hin H hsk
   clear ex
   have c0:=hc 0 _ rfl;have c1:=hc 1 _ rfl;have c2:=hc 2 _ rfl;have c3:=hc 3 _ rfl
   rw [Nat.add_zero] at c0
   clear hc
   have HF:=Lib.hid hf
   clear hf
   go_wp2_with fail
   go_at_call 178
   refine (H _ hin hsk).mono ?_;rintro e w1 ⟨x,he,HDX,htx,hox,hnx,hb1⟩
   have HTX:=Lib.hid htx
   obtain⟨z0,z1,z2,z3A,z3c,z3l,rfl,gz0,gz1,gz2,gz3,-⟩:=aB htx
   obtain rfl:e=.returned (.agg #[.int .i64 z0,.int .i64 z1,.string z2,.slice z3A z3l.length z3c]):=he
   have hf1:=HF.out.below hb1 HF.out.lt
   obtain⟨u0,c0'⟩:=hf1.cell (j:=k*4) omq;obtain⟨u1,c1'⟩:=hf1.cell (j:=k*4+1) omq;obtain⟨u2,c2'⟩:=hf1.cell (j:=k*4+2) omq;obtain⟨u3,c3'⟩:=hf1.cell (j:=k*4+3) omq
   have zfr:=hf1.frozen
   have hz1:=hb1.size
   have HOX:=Lib.hid hox
   have HNX:=Lib.hid hnx
   have HF1:=Lib.hid hf1
   clear hox hnx hf1 htx
   go_wp2
   go_roundw
   case rel =>
    have hl:=HL.out
    have hf1:=HF1.out
    have hT:∀u∈us++[(E.agg [.int .i64 z0,.int .i64 z1,.str z2,.lst 4 70 z3A z3c z3l])],u.Ty prog 70∧u.enc.length=4:=fun u hu=>by
     rcases List.mem_append.1 hu with hu|hu
     ·exact HT.out u hu
     ·obtain rfl:=List.mem_singleton.1 hu
      exact⟨HTX.out,rfl⟩
    have hlen:=E.encL_len fun u hu=>(HT.out u hu).2
    have hk2:k<(us++[(E.agg [.int .i64 z0,.int .i64 z1,.str z2,.lst 4 70 z3A z3c z3l])]).length:=by simp;omega
    have ev:=fun j hj=>E.encL_at (fun u hu=>(hT u hu).2) k hk2 j hj
    have eT:(us++[(E.agg [.int .i64 z0,.int .i64 z1,.str z2,.lst 4 70 z3A z3c z3l])])[k]=(E.agg [.int .i64 z0,.int .i64 z1,.str z2,.lst 4 70 z3A z3c z3l]):=by rw [List.getElem_append_right omq];simp [hl]
    simp only [eT] at ev
    have hf2:Fill w1 w.heap.size 70 (l.length*4) (k*4) (E.encL (us++[(E.agg [.int .i64 z0,.int .i64 z1,.str z2,.lst 4 70 z3A z3c z3l])])):=hf1.swap' fun j hj=>E.encL_app_lt us _ j (by rw [hlen,hl];exact hj)
    have K:=fun (W:World) (h:Kp w.heap.size (w.heap.size+1) w1 W) (u:E) (hu:u∈us)=>((HO.out u hu).below hb1 (Nat.le_refl _)).kp h (.inr omq)
    refine⟨k+1,us++[(E.agg [.int .i64 z0,.int .i64 z1,.str z2,.lst 4 70 z3A z3c z3l])],omq,by go_num,by show _=_;simp [hl],qi hlt HD.out (HDX.out.trans (by rw [←HEX.out])),hT,by rw [Nat.add_mul];exact ((((hf2.set omq (ev 0 omq)).set omq (ev 1 omq)).set omq (ev 2 omq)).set omq (ev 3 omq)),by simp;omega,?_,?_,by exact by0⟩
    ·intro u hu
     rcases List.mem_append.1 hu with hu|hu
     ·exact (K _ (by repeat (first|(with_reducible exact Kp.refl _ _ _)|(refine Kp.set ?_ (by first|omega|(dsimp only;omega)|(simp;omega)) (by first|omega|(dsimp only;omega)|(simp;omega)) _))) u hu).wider (Nat.le_refl _) (by simp;omega)
     ·obtain rfl:=List.mem_singleton.1 hu
      exact (HOX.out.kp (lo':=w.heap.size) (hi':=w.heap.size+1) (by repeat (first|(with_reducible exact Kp.refl _ _ _)|(refine Kp.set ?_ (by first|omega|(dsimp only;omega)|(simp;omega)) (by first|omega|(dsimp only;omega)|(simp;omega)) _))) (.inr omq)).wider omq (by simp)
    ·refine gD HN.out HNX.out fun g hg hg2=>?_
     obtain⟨u,hu,hg⟩:=E.mem_fpL.1 hg
     have:=(HO.out u hu).lt g hg
     have:=HOX.out.lt g hg2
     omega
   case measure=>simp [intOf];omega
  ·have hk':k=l.length:=by omega
   subst hk'
   go_wp2
   go_ret
   have hl:=HL.out
   have hTy:=HT.out
   have own:wr.ownsRow w.heap.size 70 4 (.slice (some ⟨w.heap.size,0,none⟩) l.length l.length) l.length (E.encL us):=hf.owns (Nat.le_refl _) rfl (by rw [E.encL_len fun u hu=>(hTy u hu).2,hl]) (by unfold maxLen;omega)
   rw [←hl] at own
   refine⟨.lst 4 70 (some ⟨w.heap.size,0,none⟩) us.length us,by rw [←hl];rfl,?_,E.Ty.mk_lst underlying68 (by kernel_rfl) (fun u hu=>(hTy u hu).1) (fun u hu=>(hTy u hu).2),E.Ho.mk (Ow.of_owns own (Nat.le_refl _)) (fun u hu=>(hTy u hu).2) (fun u hu=>(HO.out u hu).wider omq (Nat.le_refl _)),?_,hb⟩
   ·show E.d _=E.d _
    rw [jZ]
    have h:=HD.out
    rwa [List.take_length] at h
   ·simp only [E.fp,List.singleton_append,List.nodup_cons]
    refine⟨fun hm=>?_,HN.out⟩
    obtain⟨u,hu,hg⟩:=E.mem_fpL.1 hm
    have:=(HO.out u hu).lt _ hg
    omega
theorem od {e:E}(ht:e.Ty prog 150)(ih:∀y:E,y∈e.elems→y.Ty prog 152→To 178 70 y):To 213 68 e:=by
 obtain⟨A,c,l,rfl,h1,_⟩:=ht.lst_ underlying150 (k:=4) (by kernel_rfl)
 exact toExprS_step' A c l h1 ih
theorem kL:∀e:E,(e.Ty prog 152→To 178 70 e)∧(e.Ty prog 150→To 213 68 e):=by
 intro e
 induction e using E.ind with
 | h1|h2|h3=>exact⟨(fun h=>by obtain⟨_,h,_⟩:=h.agg_ underlying152;cases h),(fun h=>by obtain⟨_,_,_,h,_⟩:=h.lst_ underlying150 rfl;cases h)⟩
 | h4 fs ih=>exact⟨fun h=>pG h (fun s hs hm=>(ih s hm).2 hs),(fun h=>by obtain⟨_,_,_,h,_⟩:=h.lst_ underlying150 rfl;cases h)⟩
 | h5 k T A c l ih=>exact⟨(fun h=>by obtain⟨_,h,_⟩:=h.agg_ underlying152;cases h),fun h=>od h (fun y hm hy=>(ih y hm).1 hy)⟩
theorem r9 {e:E}(ht:e.Ty prog 152):To 178 70 e:=(kL e).1 ht
theorem pH {e:E}(ht:e.Ty prog 150):To 213 68 e:=(kL e).2 ht
theorem pI {e e':E}(ht:e.Ty prog 70)(ht':e'.Ty prog 70)(ih:∀s:E,s.Ty prog 68→s∈e.subs→∀s':E,s'.Ty prog 68→Eq 215 s s'):Eq 181 e e':=by
 obtain⟨x0,x1,x2,x3A,x3c,x3l,rfl,gx0,gx1,gx2,gx3,-⟩:=aB ht
 obtain⟨y0,y1,y2,y3A,y3c,y3l,rfl,gy0,gy1,gy2,gy3,-⟩:=aB ht'
 intro hd w hr hr'
 simp only [E.d,E.dL,E.agg.injEq,List.cons.injEq,E.int.injEq,E.str.injEq,E.bool.injEq,E.lst.injEq,true_and,and_true] at hd
 obtain⟨rfl,rfl,rfl,hd3⟩:=hd
 have hr3:=((hr.fld (i:=3) rfl).alloc (.cells #[.int .i64 x0,.int .i64 x1,.string x2,.slice x3A x3l.length x3c] 70)).alloc (.cells #[.int .i64 x0,.int .i64 x1,.string x2,.slice y3A y3l.length y3c] 70)
 have hs3:=((hr'.fld (i:=3) rfl).alloc (.cells #[.int .i64 x0,.int .i64 x1,.string x2,.slice x3A x3l.length x3c] 70)).alloc (.cells #[.int .i64 x0,.int .i64 x1,.string x2,.slice y3A y3l.length y3c] 70)
 have t3:(E.lst 4 70 x3A x3c x3l).Ty prog 68:=E.Ty.mk_lst underlying68 (by kernel_rfl) gx3.1 gx3.2
 have u3:(E.lst 4 70 y3A y3c y3l).Ty prog 68:=E.Ty.mk_lst underlying68 (by kernel_rfl) gy3.1 gy3.2
 have HC3:=Lib.hid (ih _ t3 (by simp [E.subs]) _ u3 (by simp only [E.d,E.dL,E.agg.injEq,List.cons.injEq,E.int.injEq,E.str.injEq,E.bool.injEq,E.lst.injEq,true_and,and_true];exact hd3))
 clear t3 u3
 clear hd3
 change Calls _ _ #[.agg #[.int .i64 x0,.int .i64 x1,.string x2,.slice x3A x3l.length x3c],.agg #[.int .i64 x0,.int .i64 x1,.string x2,.slice y3A y3l.length y3c]] w _
 go_enter func181,Tryz.ntmps181
 go_wp2_with fail
 go_at_call 215
 refine (HC3.out _ hr3 hs3).mono ?_;rintro e w1 ⟨rfl,hb1⟩
 have hz1:=hb1.size;(try simp only [World.size_alloc] at hz1)
 go_wp2
 go_ret
 exact⟨rfl,by0⟩
theorem eqExprS_step' (A B:Option Addr)(c c':Nat)(l m:List E)(h1:∀y∈l,y.Ty prog 70)(h2:∀y∈m,y.Ty prog 70)(ih:∀y∈l,y.Ty prog 70→∀y':E,y'.Ty prog 70→Eq 181 y y'):Eq 215 (.lst 4 70 A c l) (.lst 4 70 B c' m):=by
 intro hd w hr hr'
 rw [jZ] at hd
 have hs:=hr.sl
 have hs':=hr'.sl
 have hml:=rx hd
 have HD:=Lib.hid hd
 clear hd
 have hlen:=hs.len_le
 change Calls _ _ #[.slice A l.length c,.slice B m.length c'] w _
 obtain⟨N,HN⟩:∃N,Hid (m.length=N):=⟨_,rfl⟩
 have hN:N=l.length:=by have:=HN.out;omega
 subst hN
 rw [HN.out]
 clear hml
 go_enter func215,Tryz.ntmps215
 go_wp2
 go_loopw [5] (fun i wr=>∃(k:Nat),k≤l.length∧i=.int .i64 k∧Below w.heap.size w wr) (fun i _=>l.length-(intOf i).toNat)
 case atStart=>exact⟨0,Nat.zero_le _,rfl,Below.refl _ _⟩
 case round =>
  obtain⟨k,hk,rfl,hb⟩:=hrel
  by_cases hlt:k<l.length
  ·have hltm:k<m.length:=by have:=HN.out;omega
   have hsb:=hs.below hb (Nat.le_refl _)
   have hsb':=hs'.below hb (Nat.le_refl _)
   have hdk:=d_at HD.out hlt hltm
   obtain⟨b,o,rfl,_,hc⟩:=hsb.at_ hlt
   obtain⟨b',o',rfl,_,hd⟩:=hsb'.at_ hltm
   have hin:=(hr.el (List.getElem_mem hlt)).below hb (Nat.le_refl _)
   have hin':=(hr'.el (List.getElem_mem hltm)).below hb (Nat.le_refl _)
   have H:=ih _ (List.getElem_mem hlt) (h1 _ (List.getElem_mem hlt)) _ (h2 _ (List.getElem_mem hltm)) hdk
   obtain⟨x0,x1,x2,x3A,x3c,x3l,ex,gx0,gx1,gx2,gx3,-⟩:=aB (h1 _ (List.getElem_mem hlt))
   obtain⟨y0,y1,y2,y3A,y3c,y3l,ey,gy0,gy1,gy2,gy3,-⟩:=aB (h2 _ (List.getElem_mem hltm))
   rw [ex] at hc hin
   rw [ey] at hd hin'
   rw [ex,ey] at H
   clear ex ey hdk
   have c0:=hc 0 _ rfl;have c1:=hc 1 _ rfl;have c2:=hc 2 _ rfl;have c3:=hc 3 _ rfl
   have d0:=hd 0 _ rfl;have d1:=hd 1 _ rfl;have d2:=hd 2 _ rfl;have d3:=hd 3 _ rfl
   rw [Nat.add_zero] at c0 d0
   clear hc hd
   have hzb:=hb.size
   have HH:=Lib.hid H
   clear H
   go_wp2
   go_region_held3 (fun w'=>w'.cell? ⟨b,o+k*4,none⟩=some (.int .i64 x0)∧w'.cell? ⟨b,o+k*4+1,none⟩=some (.int .i64 x1)∧w'.cell? ⟨b,o+k*4+2,none⟩=some (.string x2)∧w'.cell? ⟨b,o+k*4+3,none⟩=some (.slice x3A x3l.length x3c)∧w'.cell? ⟨b',o'+k*4,none⟩=some (.int .i64 y0)∧w'.cell? ⟨b',o'+k*4+1,none⟩=some (.int .i64 y1)∧w'.cell? ⟨b',o'+k*4+2,none⟩=some (.string y2)∧w'.cell? ⟨b',o'+k*4+3,none⟩=some (.slice y3A y3l.length y3c))
    (first|exact⟨c0,c1,c2,c3,d0,d1,d2,d3⟩|skip)
    ((go_at_call 181;refine (HH.out _ by2 by2).mono ?_;rintro e w1 ⟨rfl,hb1⟩;have c0:=aJ hb1 c0 by1;have c1:=aJ hb1 c1 by1;have c2:=aJ hb1 c2 by1;have c3:=aJ hb1 c3 by1;have d0:=aJ hb1 d0 by1;have d1:=aJ hb1 d1 by1;have d2:=aJ hb1 d2 by1;have d3:=aJ hb1 d3 by1))
   go_wp2
   go_roundw
   case rel=>exact⟨k+1,omq,by go_num,by exact by0⟩
   case measure=>simp [intOf];omega
  ·go_wp2
   go_ret
   exact⟨rfl,hb⟩
theorem oe {e e':E}(ht:e.Ty prog 68)(ht':e'.Ty prog 68)(ih:∀y:E,y∈e.elems→y.Ty prog 70→∀y':E,y'.Ty prog 70→Eq 181 y y'):Eq 215 e e':=by
 obtain⟨A,c,l,rfl,h1,_⟩:=ht.lst_ underlying68 (k:=4) (by kernel_rfl)
 obtain⟨B,c',m,rfl,h2,_⟩:=ht'.lst_ underlying68 (k:=4) (by kernel_rfl)
 exact eqExprS_step' A B c c' l m h1 h2 ih
theorem kM:∀e:E,(e.Ty prog 70→∀e':E,e'.Ty prog 70→Eq 181 e e')∧(e.Ty prog 68→∀e':E,e'.Ty prog 68→Eq 215 e e'):=by
 intro e
 induction e using E.ind with
 | h1|h2|h3=>exact⟨(fun h=>by obtain⟨_,h,_⟩:=h.agg_ underlying70;cases h),(fun h=>by obtain⟨_,_,_,h,_⟩:=h.lst_ underlying68 rfl;cases h)⟩
 | h4 fs ih=>exact⟨fun h e' h'=>pI h h' (fun s hs hm=>(ih s hm).2 hs),(fun h=>by obtain⟨_,_,_,h,_⟩:=h.lst_ underlying68 rfl;cases h)⟩
 | h5 k T A c l ih=>exact⟨(fun h=>by obtain⟨_,h,_⟩:=h.agg_ underlying70;cases h),fun h e' h'=>oe h h' (fun y hm hy=>(ih y hm).1 hy)⟩
theorem sa {e e':E}(ht:e.Ty prog 70)(ht':e'.Ty prog 70):Eq 181 e e':=(kM e).1 ht e' ht'
theorem pJ {e e':E}(ht:e.Ty prog 68)(ht':e'.Ty prog 68):Eq 215 e e':=(kM e).2 ht e' ht'
theorem markExprS_step' (A:Option Addr)(c:Nat)(l:List E)(h1:∀y∈l,y.Ty prog 70)(h2:∀y∈l,y.enc.length=4)(ih:∀y∈l,∀s∈y.subs,s.Ty prog 68→Mar 126 s):Mar 126 (.lst 4 70 A c l):=by
 intro lo hi k0 w ho hnd hhi hk0 hk1
 have HCN:Hid ((E.lst 4 70 A c l).cnt=E.cntcL l):=rfl
 rw [HCN.out] at hk1
 have HND:=Lib.hid hnd
 clear hnd
 have hlen:=ho.re.sl.len_le
 have how0:=ho
 rw [←fj l k0] at how0
 clear ho
 change Calls _ _ #[.slice A l.length c,.int .i64 k0] w _
 rw [HCN.out]
 change Calls _ _ _ w fun r w'=>r=.returned (.int .i64 (k0+(E.cntcL l:Nat)))∧(E.lst 4 70 A c (E.mkcL l k0)).Ho w' lo hi∧Fr (E.lst 4 70 A c l).fp w w'
 go_enter func126,Tryz.ntmps126
 go_wp2
 go_loopw [1,5] (fun v i wr=>∃(k:Nat) (q:Int),k≤l.length∧i=.int .i64 k∧v=.int .i64 q∧Hid (q=k0+(E.cntcL (l.take k):Nat))∧Fr (E.lst 4 70 A c l).fp w wr∧Hid ((E.lst 4 70 A c (ec l k0 k)).Ho wr lo hi)) (fun _ i _=>l.length-(intOf i).toNat)
 case atStart=>exact⟨0,k0,Nat.zero_le _,rfl,rfl,(by show _=_;simp [E.cntcL]),Fr.refl _ _,how0⟩
 case round =>
  obtain⟨k,q,hk,rfl,rfl,HQ,hF0,HOW⟩:=hrel
  have hzk:=hF0.size
  by_cases hlt:k<l.length
  ·have HT:=Lib.hid (E.cntcL_take l k hlt)
   have hq0:0≤q:=by have:=HQ.out;omega
   have hml:k<(ec l k0 k).length:=by rw [fI];exact hlt
   have how:=HOW.out
   obtain⟨g,rfl,hg1,hg2,hg3⟩:=how.head omq
   obtain⟨y0,y1,y2,y3A,y3c,y3l,ex,gy0,gy1,gy2,gy3,-⟩:=aB (h1 _ (List.getElem_mem hlt))
   have HC3:=Lib.hid (ih _ (List.getElem_mem hlt) (E.lst 4 70 y3A y3c y3l) (by rw [ex];simp [E.subs]) (E.Ty.mk_lst underlying68 (by kernel_rfl) gy3.1 gy3.2))
   have HCX:Hid ((E.agg [.int .i64 y0,.int .i64 y1,.str y2,.lst 4 70 y3A y3c y3l]).cntc=(1+(1+(1+((E.lst 4 70 y3A y3c y3l).cnt+0))))):=rfl
   have hq1:q+(((1+(1+(1+((E.lst 4 70 y3A y3c y3l).cnt+0)))):Nat):Int)≤1152921504606846976:=by have e1:=HQ.out;have e2:=HT.out;have e3:=E.cntcL_le l (k+1);rw [ex,HCX.out] at e2;omega
   have e0:ec l k0 k=(ec l k0 k).set k (E.agg [.int .i64 y0,.int .i64 y1,.str y2,.lst 4 70 y3A y3c y3l]):=by rw [←ex,←ew l k0 k hlt];exact (List.set_getElem_self _).symm
   have HN2:=Lib.hid (fun (z:E) (hz:z.fp=(E.agg [.int .i64 y0,.int .i64 y1,.str y2,.lst 4 70 y3A y3c y3l]).fp)=>(show (E.lst 4 70 (some ⟨g,0,none⟩) c ((ec l k0 k).set k z)).fp.Nodup by have hh:=HND.out;have h3:E.fpL ((ec l k0 k).set k z)=E.fpL l:=(E.fpL_set hml (by rw [hz,←ex,ew l k0 k hlt])).trans (iN l k0 k);simp only [E.fp] at hh ⊢;rw [h3];exact hh))
   have HSB:=Lib.hid (fun (b:Nat) (hb:b∈(E.agg [.int .i64 y0,.int .i64 y1,.str y2,.lst 4 70 y3A y3c y3l]).fp)=>(show b∈(E.lst 4 70 (some ⟨g,0,none⟩) c l).fp by simp only [E.fp];exact List.mem_append_right _ (E.mem_fpL.2 ⟨l[k],List.getElem_mem hlt,by rw [ex];exact hb⟩)))
   have hgm:g∈(E.lst 4 70 (some ⟨g,0,none⟩) c l).fp:=by simp [E.fp]
   have HGM:=Lib.hid hgm
   clear hgm
   rw [e0] at how
   clear e0
   obtain⟨ms,HMS⟩:∃ms,Hid (ec l k0 k=ms):=⟨_,rfl⟩
   rw [HMS.out] at how hml HN2
   have HEX:=Lib.hid ex
   clear ex
   have HML:=Lib.hid hml
   clear hml
   have H0:=Lib.hid how
   clear how
   have c0_0:wr.cell? ⟨g,k*4,none⟩=some (.int .i64 y0):=H0.out.cellx (j:=0) (u:=.int .i64 y0) (by simpa using HML.out) (a7 HML.out _) rfl
   have c0_1:wr.cell? ⟨g,k*4+1,none⟩=some (.int .i64 y1):=H0.out.cellx (j:=1) (u:=.int .i64 y1) (by simpa using HML.out) (a7 HML.out _) rfl
   have c0_2:wr.cell? ⟨g,k*4+2,none⟩=some (.string y2):=H0.out.cellx (j:=2) (u:=.string y2) (by simpa using HML.out) (a7 HML.out _) rfl
   have c0_3:wr.cell? ⟨g,k*4+3,none⟩=some (.slice y3A y3l.length y3c):=H0.out.cellx (j:=3) (u:=.slice y3A y3l.length y3c) (by simpa using HML.out) (a7 HML.out _) rfl
   have fz0:=H0.out.frzx
   go_wp2_with fail
   have H1:Hid ((E.lst 4 70 (some ⟨g,0,none⟩) c (ms.set k (E.agg [(E.int .i64 (q)),(E.int .i64 y1),(E.str y2),(E.lst 4 70 y3A y3c y3l)]))).Ho (wr.setCell ⟨g,k*4,none⟩ (.int .i64 (q))) lo hi):=H0.out.store (HN2.out _ (by first|rfl|(simp only [E.fp,E.fpL,E.mkcL_fp,E.mk0L_fp,E.mk0_fp,E.mkc_fp];done)|fail)) HML.out (E.agg [(E.int .i64 (q)),(E.int .i64 y1),(E.str y2),(E.lst 4 70 y3A y3c y3l)]) 0 (.int .i64 (q)) omq rfl (fun _ h=>h)
   clear H0
   have H2:Hid ((E.lst 4 70 (some ⟨g,0,none⟩) c (ms.set k (E.agg [(E.int .i64 (q)),(E.int .i64 (q+1)),(E.str y2),(E.lst 4 70 y3A y3c y3l)]))).Ho ((wr.setCell ⟨g,k*4,none⟩ (.int .i64 (q))).setCell ⟨g,k*4+1,none⟩ (.int .i64 (q+1))) lo hi):=H1.out.store (HN2.out _ (by first|rfl|(simp only [E.fp,E.fpL,E.mkcL_fp,E.mk0L_fp,E.mk0_fp,E.mkc_fp];done)|fail)) HML.out (E.agg [(E.int .i64 (q)),(E.int .i64 (q+1)),(E.str y2),(E.lst 4 70 y3A y3c y3l)]) 1 (.int .i64 (q+1)) omq rfl (fun _ h=>h)
   clear H1
   clear c0_0 c0_1 c0_2 c0_3 fz0
   go_at_call 71
   refine (db _ _ omq).mono ?_;rintro e w1 ⟨rfl,hb1⟩
   have hz1:=hb1.size;(try simp only [World.size_setCell] at hz1)
   have H3:=Lib.hid (H2.out.below hb1 (by first|omega|(simp;omega)))
   clear H2
   have hF1:Fr (E.lst 4 70 (some ⟨g,0,none⟩) c l).fp w w1:=((hF0.set HGM.out (.int .i64 (q))).set HGM.out (.int .i64 (q+1))).trans (Fr.of_below hb1)
   have c1_0:w1.cell? ⟨g,k*4,none⟩=some (.int .i64 (q)):=H3.out.cellx (j:=0) (u:=.int .i64 (q)) (by simpa using HML.out) (a7 HML.out _) rfl
   have c1_1:w1.cell? ⟨g,k*4+1,none⟩=some (.int .i64 (q+1)):=H3.out.cellx (j:=1) (u:=.int .i64 (q+1)) (by simpa using HML.out) (a7 HML.out _) rfl
   have c1_2:w1.cell? ⟨g,k*4+2,none⟩=some (.string y2):=H3.out.cellx (j:=2) (u:=.string y2) (by simpa using HML.out) (a7 HML.out _) rfl
   have c1_3:w1.cell? ⟨g,k*4+3,none⟩=some (.slice y3A y3l.length y3c):=H3.out.cellx (j:=3) (u:=.slice y3A y3l.length y3c) (by simpa using HML.out) (a7 HML.out _) rfl
   have fz1:=H3.out.frzx
   go_wp2_with fail
   have H4:Hid ((E.lst 4 70 (some ⟨g,0,none⟩) c (ms.set k (E.agg [(E.int .i64 (q)),(E.int .i64 (q+1)),(E.str (aM (q+1+1))),(E.lst 4 70 y3A y3c y3l)]))).Ho (w1.setCell ⟨g,k*4+2,none⟩ (.string (aM (q+1+1)))) lo hi):=H3.out.store (HN2.out _ (by first|rfl|(simp only [E.fp,E.fpL,E.mkcL_fp,E.mk0L_fp,E.mk0_fp,E.mkc_fp];done)|fail)) HML.out (E.agg [(E.int .i64 (q)),(E.int .i64 (q+1)),(E.str (aM (q+1+1))),(E.lst 4 70 y3A y3c y3l)]) 2 (.string (aM (q+1+1))) omq rfl (fun _ h=>h)
   clear H3
   clear c1_0 c1_1 c1_2 c1_3 fz1
   have ho2:(E.lst 4 70 y3A y3c y3l).Ho (w1.setCell ⟨g,k*4+2,none⟩ (.string (aM (q+1+1)))) lo hi:=(E.Ho.fld (i:=3) (H4.out.el (bV HML.out _)) rfl)
   have HNn2:Hid ((E.lst 4 70 y3A y3c y3l).fp.Nodup):=(bk (show (E.fpL [(E.int .i64 (q)),(E.int .i64 (q+1)),(E.str (aM (q+1+1))),(E.lst 4 70 y3A y3c y3l)]).Nodup from (bk (show (E.fpL (ms.set k (E.agg [(E.int .i64 (q)),(E.int .i64 (q+1)),(E.str (aM (q+1+1))),(E.lst 4 70 y3A y3c y3l)]))).Nodup from (List.nodup_append.1 (show List.Nodup (_++_) from HN2.out (E.agg [(E.int .i64 (q)),(E.int .i64 (q+1)),(E.str (aM (q+1+1))),(E.lst 4 70 y3A y3c y3l)]) (by first|rfl|(simp only [E.fp,E.fpL,E.mkcL_fp,E.mk0L_fp,E.mk0_fp,E.mkc_fp];done)|fail))).2.1) (bV HML.out _))) (show (E.lst 4 70 y3A y3c y3l)∈[(E.int .i64 (q)),(E.int .i64 (q+1)),(E.str (aM (q+1+1))),(E.lst 4 70 y3A y3c y3l)] by simp))
   go_at_call 126
   refine (HC3.out lo hi _ _ ho2 HNn2.out (by first|omega|(simp;omega)) omq omq).mono ?_;rintro e w2 ⟨rfl,hm2,hf2⟩
   have hz2:=hf2.size;(try simp only [World.size_setCell] at hz2)
   have hin2:(E.agg [(E.int .i64 (q)),(E.int .i64 (q+1)),(E.str (aM (q+1+1))),(E.lst 4 70 y3A y3c (E.mkcL y3l (q+1+1+1)))]).Ho w2 lo hi:=(Ho_repl (i:=3) (H4.out.el (bV HML.out _)) (bk (show (E.fpL (ms.set k (E.agg [(E.int .i64 (q)),(E.int .i64 (q+1)),(E.str (aM (q+1+1))),(E.lst 4 70 y3A y3c y3l)]))).Nodup from (List.nodup_append.1 (show List.Nodup (_++_) from HN2.out (E.agg [(E.int .i64 (q)),(E.int .i64 (q+1)),(E.str (aM (q+1+1))),(E.lst 4 70 y3A y3c y3l)]) (by first|rfl|(simp only [E.fp,E.fpL,E.mkcL_fp,E.mk0L_fp,E.mk0_fp,E.mkc_fp];done)|fail))).2.1) (bV HML.out _)) (by simp) (show Fr (E.lst 4 70 y3A y3c y3l).fp _ _ from hf2) hm2)
   have H5:=Lib.hid (H4.out.inside (HN2.out _ (by first|rfl|(simp only [E.fp,E.fpL,E.mkcL_fp,E.mk0L_fp,E.mk0_fp,E.mkc_fp];done)|fail)) HML.out (E.agg [(E.int .i64 (q)),(E.int .i64 (q+1)),(E.str (aM (q+1+1))),(E.lst 4 70 y3A y3c (E.mkcL y3l (q+1+1+1)))]) hf2 (fun b hb=>by simp only [E.fp,E.fpL,List.mem_append,List.nil_append,List.append_nil] at hb ⊢;simp [hb]) (by simp only [E.enc,E.encL,E.mkcL_len]) hin2)
   clear H4 hin2 ho2 hm2
   have hF2:Fr (E.lst 4 70 (some ⟨g,0,none⟩) c l).fp w w2:=(hF1.set HGM.out (.string (aM (q+1+1)))).trans (hf2.sub (fun b hb=>HSB.out b (by simp only [E.fp,E.fpL,List.mem_append,List.nil_append,List.append_nil] at hb ⊢;simp [hb])))
   have c2_0:w2.cell? ⟨g,k*4,none⟩=some (.int .i64 (q)):=H5.out.cellx (j:=0) (u:=.int .i64 (q)) (by simpa using HML.out) (a7 HML.out _) rfl
   have c2_1:w2.cell? ⟨g,k*4+1,none⟩=some (.int .i64 (q+1)):=H5.out.cellx (j:=1) (u:=.int .i64 (q+1)) (by simpa using HML.out) (a7 HML.out _) rfl
   have c2_2:w2.cell? ⟨g,k*4+2,none⟩=some (.string (aM (q+1+1))):=H5.out.cellx (j:=2) (u:=.string (aM (q+1+1))) (by simpa using HML.out) (a7 HML.out _) rfl
   have c2_3:w2.cell? ⟨g,k*4+3,none⟩=some (.slice y3A (E.mkcL y3l (q+1+1+1)).length y3c):=H5.out.cellx (j:=3) (u:=.slice y3A (E.mkcL y3l (q+1+1+1)).length y3c) (by simpa using HML.out) (a7 HML.out _) rfl
   have fz2:=H5.out.frzx
   go_wp2
   go_roundw
   case rel =>
    have FF:∀t0 t1 t2 t3:Int,(q)=t0→(q+1)=t1→(q+1+1)=t2→(q+1+1+1)=t3→(E.agg [(E.int .i64 (q)),(E.int .i64 (q+1)),(E.str (aM (q+1+1))),(E.lst 4 70 y3A y3c (E.mkcL y3l (q+1+1+1)))])=(E.agg [(E.int .i64 t0),(E.int .i64 t1),(E.str (aM t2)),(E.lst 4 70 y3A y3c (E.mkcL y3l t3))]):=by
     intro t0 t1 t2 t3 ht0 ht1 ht2 ht3
     subst ht0
     subst ht1
     subst ht2
     subst ht3
     rfl
    have EX:(E.agg [(E.int .i64 (q)),(E.int .i64 (q+1)),(E.str (aM (q+1+1))),(E.lst 4 70 y3A y3c (E.mkcL y3l (q+1+1+1)))])=(E.agg [.int .i64 y0,.int .i64 y1,.str y2,.lst 4 70 y3A y3c y3l]).mkc q:=FF _ _ _ _ (by first|rfl|omega|(show _=_;simp only [E.cnt,E.cntL,E.cntc,E.cntcL,reduceCtorEq,if_false,if_true,ite_false];omega)) (by first|rfl|omega|(show _=_;simp only [E.cnt,E.cntL,E.cntc,E.cntcL,reduceCtorEq,if_false,if_true,ite_false];omega)) (by first|rfl|omega|(show _=_;simp only [E.cnt,E.cntL,E.cntc,E.cntcL,reduceCtorEq,if_false,if_true,ite_false];omega)) (by first|rfl|omega|(show _=_;simp only [E.cnt,E.cntL,E.cntc,E.cntcL,reduceCtorEq,if_false,if_true,ite_false];omega))
    exact⟨k+1,_,omq,by go_num,rfl,(by show _=_;have e1:=HQ.out;have e2:=HT.out;rw [HEX.out,HCX.out] at e2;omega),hF2,(by show E.Ho _ _ _ _;rw [←fm l k0 k hlt,HEX.out,←HQ.out,←EX,HMS.out];exact H5.out)⟩
   case measure=>simp [intOf];omega
  ·have hk':k=l.length:=by omega
   subst hk'
   go_wp2
   go_ret
   have e1:=HQ.out
   rw [List.take_length] at e1
   have h:=HOW.out
   rw [gC] at h
   exact⟨ri e1,h,hF0⟩
theorem lx {e:E}(ht:e.Ty prog 68)(ih:∀y:E,y∈e.elems→∀s∈y.subs,s.Ty prog 68→Mar 126 s):Mar 126 e:=by
 obtain⟨A,c,l,rfl,h1,h2⟩:=ht.lst_ underlying68 (k:=4) (by kernel_rfl)
 exact markExprS_step' A c l h1 h2 ih
theorem mQ:∀e:E,(e.Ty prog 68→Mar 126 e)∧(∀s∈e.subs,s.Ty prog 68→Mar 126 s):=by
 intro e
 induction e using E.ind with
 | h1|h2|h3=>exact⟨(fun h=>by obtain⟨_,_,_,h,_⟩:=h.lst_ underlying68 rfl;cases h),fun s hs=>by simp [E.subs] at hs⟩
 | h4 fs ih=>exact⟨(fun h=>by obtain⟨_,_,_,h,_⟩:=h.lst_ underlying68 rfl;cases h),fun s hs h=>(ih s hs).1 h⟩
 | h5 k T A c l ih=>exact⟨fun h=>lx h (fun y hm s hs=>(ih y hm).2 s hs),fun s hs=>by simp [E.subs] at hs⟩
theorem iG {e:E}(ht:e.Ty prog 68):Mar 126 e:=(mQ e).1 ht
end Go.Proofs.YtmnneflenebgmaaGreat
