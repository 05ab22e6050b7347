/- The type MTable, and slices of it: shape; the laws' own functions. -/
import Derived.Test.YtfemkmnkofgaaaaGreatClearO
namespace Go.Proofs.YtfemkmnkofgaaaaGreat
open Go.RowKit
theorem zs2 {e:E}(h:e.Ty Tryz.prog 90):∃(x0A:Option Addr) (x0c:Nat) (x0l:List E),e=(E.agg [.lst 2 151 x0A x0c x0l])∧((∀y∈x0l,y.Ty Tryz.prog 151)∧(∀y∈x0l,y.enc.length=2))∧True:=by
 obtain⟨fs,rfl,q0⟩:=h.agg_ Tryz.underlying90
 change E.TyF _ _ [88] at q0
 obtain⟨e0,r0,rfl,h0,q1⟩:=q0.cons_
 obtain rfl:=q1.nil_
 obtain⟨x0A,x0c,x0l,rfl,gx0,gx0'⟩:=h0.lst_ Tryz.underlying88 (k:=2) (by kernel_rfl)
 exact⟨x0A,x0c,x0l,rfl,⟨gx0,gx0'⟩,trivial⟩
theorem zk1 {e:E}(h:e.Ty Tryz.prog 65):∃(x0A:Option Addr) (x0c:Nat) (x0l:List E),e=(E.agg [.lst 2 67 x0A x0c x0l])∧((∀y∈x0l,y.Ty Tryz.prog 67)∧(∀y∈x0l,y.enc.length=2))∧True:=by
 obtain⟨fs,rfl,q0⟩:=h.agg_ Tryz.underlying65
 change E.TyF _ _ [63] at q0
 obtain⟨e0,r0,rfl,h0,q1⟩:=q0.cons_
 obtain rfl:=q1.nil_
 obtain⟨x0A,x0c,x0l,rfl,gx0,gx0'⟩:=h0.lst_ Tryz.underlying63 (k:=2) (by kernel_rfl)
 exact⟨x0A,x0c,x0l,rfl,⟨gx0,gx0'⟩,trivial⟩
set_option maxRecDepth 100000 in
set_option maxHeartbeats 1000000 in
theorem za11 {e:E}(ht:e.Ty Tryz.prog 90):Sz 49 e:=by
 obtain⟨x0A,x0c,x0l,rfl,gx0,-⟩:=zs2 ht
 intro left w hr h0 h1
 have HSZ:Hid ((E.agg [.lst 2 151 x0A x0c x0l]).sz=((E.lst 2 151 x0A x0c x0l).sz+0)):=rfl
 change Calls _ _ #[.agg #[.slice x0A x0l.length x0c],.int .i64 left] w _
 have hr0:=(hr.fld (i:=0) rfl).alloc (.cells #[.slice x0A x0l.length x0c] 90)
 go_enter Tryz.func49,Tryz.ntmps49
 go_wp2_with fail
 go_at_call 84
 refine ((zl9 (E.Ty.mk_lst Tryz.underlying88 (by kernel_rfl) gx0.1 gx0.2)) _ _ hr0 (by omega) (by omega)).mono ?_;rintro e w1 ⟨r1,rfl,hr1s,hl1,hb1⟩
 have hz1:=hb1.size;(try simp only [World.size_alloc] at hz1)
 by_cases hn1:r1<0
 ·go_wp2
  go_ret
  exact⟨-1,rfl,.inl (by omega),by omega,by exact by0⟩
 have hq1:=hr1s.resolve_left hn1
 go_wp2
 go_ret
 refine⟨_,rfl,.inr ?_,by omega,by exact by0⟩
 show _=_
 rw [HSZ.out]
 have e1:=hq1.out
 push_cast
 omega
set_option maxRecDepth 100000 in
set_option maxHeartbeats 1000000 in
theorem szMTableS_all' (A:Option Addr)(c:Nat)(l:List E)(ht:∀y∈l,y.Ty Tryz.prog 90):Sz 13 (.lst 1 90 A c l):=by
 intro left w hr h0 h1
 have hs:=hr.sl
 have hlen:=hs.len_le
 have HSZ:Hid ((E.lst 1 90 A c l).sz=l.length+E.szL l):=rfl
 change Calls _ _ #[.slice A l.length c,.int .i64 left] w _
 by_cases hneg:left-l.length<0
 ·go_enter Tryz.func13,Tryz.ntmps13
  go_wp2
  go_ret
  exact⟨-1,rfl,.inl (by omega),by omega,by exact by0⟩
 go_enter Tryz.func13,Tryz.ntmps13
 go_wp2
 go_loopw [1,5] (fun v i wr=>∃(k:Nat) (cur:Int),k≤l.length∧i=.int .i64 k∧v=.int .i64 cur∧0≤cur∧cur≤left∧Hid (cur+E.szL (l.take k)+l.length=left)∧Below w.heap.size w wr) (fun _ i _=>l.length-(intOf i).toNat)
 case atStart=>exact⟨0,_,Nat.zero_le _,rfl,rfl,by omega,by omega,(by show _=_;simp [E.szL]),Below.refl _ _⟩
 case round =>
  obtain⟨k,cur,hk,rfl,rfl,hc0,hc1,HQ,hb⟩:=hrel
  have hzb:=hb.size
  by_cases hlt:k<l.length
  ·have hs':=hs.below hb (Nat.le_refl _)
   have HT:=Lib.hid (E.szL_take l k hlt)
   obtain⟨b,o,rfl,_,hc⟩:=hs'.at_ hlt
   have hin:=(hr.el (List.getElem_mem hlt)).below hb (Nat.le_refl _)
   have H:=za11 (ht _ (List.getElem_mem hlt))
   obtain⟨y0A,y0c,y0l,ex,gy0,-⟩:=zs2 (ht _ (List.getElem_mem hlt))
   have HEX:=Lib.hid ex
   rw [ex] at hc hin H
   clear ex
   have c0:=hc 0 _ rfl
   rw [Nat.add_zero] at c0
   rw [Nat.mul_one] at c0
   clear hc
   go_wp2_with fail
   go_at_call 49
   refine (H _ _ hin hc0 (by omega)).mono ?_;rintro e w1 ⟨r,rfl,hrs,hrl,hb1⟩
   by_cases hn:r<0
   ·go_wp2
    go_ret
    exact⟨-1,rfl,.inl (by omega),by omega,by exact by0⟩
   ·have HR:=hrs.resolve_left hn
    clear hrs
    go_wp2
    go_roundw
    case rel=>exact⟨k+1,r,by omega,by go_num,rfl,by omega,by omega,(by show _=_;have e1:=HQ.out;have e2:=HT.out;have e3:=HR.out;rw [HEX.out] at e2;omega),by exact by0⟩
    case measure=>simp [intOf];omega
  ·have hk':k=l.length:=by omega
   subst hk'
   go_wp2
   go_ret
   refine⟨_,rfl,.inr ?_,by omega,hb⟩
   show _=_
   have e1:=HQ.out
   rw [List.take_length] at e1
   rw [HSZ.out]
   push_cast
   omega
theorem zo9 {e:E}(ht:e.Ty Tryz.prog 26):Sz 13 e:=by
 obtain⟨A,c,l,rfl,h1,_⟩:=ht.lst_ Tryz.underlying26 (k:=1) (by kernel_rfl)
 exact szMTableS_all' A c l h1
set_option maxRecDepth 100000 in
set_option maxHeartbeats 1000000 in
theorem zb11 {e:E}(ht:e.Ty Tryz.prog 90):To 58 65 e:=by
 have HT0:=Lib.hid ht
 obtain⟨x0A,x0c,x0l,rfl,gx0,-⟩:=zs2 ht
 intro w hr hsz
 have hsz':((E.lst 2 151 x0A x0c x0l).sz+0)≤1048576:=hsz
 have hs0:(E.lst 2 151 x0A x0c x0l).sz≤1048576:=by omega
 clear hsz hsz'
 have hr0:=hr.fld (i:=0) rfl
 have ty0:(E.lst 2 151 x0A x0c x0l).Ty Tryz.prog 88:=E.Ty.mk_lst Tryz.underlying88 (by kernel_rfl) gx0.1 gx0.2
 have HC0:=Lib.hid (zm9 ty0)
 clear ty0
 change Calls _ _ #[.agg #[.slice x0A x0l.length x0c]] w _
 go_enter Tryz.func58,Tryz.ntmps58
 go_wp2_with fail
 go_at_call 89
 refine (HC0.out _ (((hr0.alloc _).alloc _).alloc _) hs0).mono ?_;rintro e w1 ⟨v1,he,HD1,ht1,ho1,hn1,hb1⟩
 have HT1:=Lib.hid ht1
 have HN1:=Lib.hid hn1
 obtain⟨A1,q1,l1,rfl,-,-⟩:=ht1.lst_ Tryz.underlying63 (k:=2) (by kernel_rfl)
 obtain rfl:e=.returned (.slice A1 l1.length q1):=he
 clear hn1 ht1
 have B0_1:w1.heap[w.heap.size]? = some (.cells #[.slice x0A x0l.length x0c] 90 (0,0)):=(hb1.block (w.heap.size) (by simp;omega)).trans zh4.1
 have B1_1:w1.heap[w.heap.size+1]? = some (.cells #[.slice none 0 0] 65 (0,0)):=(hb1.block (w.heap.size+1) (by simp)).trans zh4.2.1
 have B2_1:w1.heap[w.heap.size+1+1]? = some (.cells #[.slice none 0 0] 65 (0,0)):=(hb1.block (w.heap.size+1+1) (by simp)).trans zh4.2.2
 have hz1:=hb1.size;simp only [World.size_alloc] at hz1
 have hB1:Below w.heap.size w w1:=(by exact by0:Below w.heap.size w _).trans (hb1.mono (by simp;omega))
 have ho1:=ho1.wider (lo':=w.heap.size+1+1+1) (by simp) (Nat.le_refl _)
 have c1_0:w1.cell? ⟨w.heap.size,0,none⟩=some (.slice x0A x0l.length x0c):=za B0_1 rfl
 have d1_0:w1.cell? ⟨w.heap.size+1+1,0,none⟩=some (.slice none 0 0):=za B2_1 rfl
 have f1:=zt2 B2_1
 have r0':=za B1_1 (o:=0) rfl
 have fr':=zt2 B1_1
 go_wp2
 have OWN:Owns w1 (w.heap.size+1+1+1) w1.heap.size [(E.lst 2 67 A1 q1 l1)]:=(Owns.cons (mid:=w1.heap.size) ho1 HN1.out Owns.nil (by omega) (by omega))
 refine bodyPost_ret (v:=.agg #[.slice A1 l1.length q1]) (zp4 (t:=65) (fr:=(0,0)) rfl rfl Tryz.underlying65 (by kernel_rfl) ?_) rfl ⟨(E.agg [(E.lst 2 67 A1 q1 l1)]),rfl,?_,E.Ty.mk_agg Tryz.underlying65 (E.TyF.mk_cons HT1.out (E.TyF.mk_nil)),?_,?_,?_⟩
 ·simp only [zn2,B1_1,B2_1];simp [setAt]
 ·show E.d _=E.d _
  simp only [E.d,E.dL]
  have y1:=HD1.out;simp only [E.d,E.dL] at y1
  simp only [E.agg.injEq,List.cons.injEq,E.lst.injEq,E.int.injEq,E.str.injEq,E.bool.injEq,true_and,and_true] at *
  simp [*]
 ·exact ((E.Ho.mk_agg OWN.1).kp (lo':=w.heap.size+1) (hi':=w.heap.size+1+1+1) (by repeat (first|(with_reducible exact Kp.refl _ _ _)|(refine Kp.set ?_ (by first|omega|(dsimp only;omega)|(simp;omega)) (by first|omega|(dsimp only;omega)|(simp;omega)) _))) (.inr (by omega))).wider (by omega) (by simp)
 ·exact OWN.2
 ·exact hB1.trans (Kp.below (lo:=w.heap.size+1) (hi:=w.heap.size+1+1+1) (by repeat (first|(with_reducible exact Kp.refl _ _ _)|(refine Kp.set ?_ (by first|omega|(dsimp only;omega)|(simp;omega)) (by first|omega|(dsimp only;omega)|(simp;omega)) _))) (by omega) (by omega))
theorem zn12:(Tryz.prog.info? 65).map (fun i=>(i.zero,i.size,i.bytes))=some (some (.agg #[.slice none 0 0]),1,24):=by kernel_rfl
set_option maxRecDepth 100000 in
set_option maxHeartbeats 1000000 in
theorem toMTableS_all' (A:Option Addr)(c:Nat)(l:List E)(h1:∀y∈l,y.Ty Tryz.prog 90):To 22 38 (.lst 1 90 A c l):=by
 intro w hr hsz
 have hs:=hr.sl
 have eS:(E.lst 1 90 A c l).sz=l.length+E.szL l:=rfl
 have hn:l.length≤1048576:=by omega
 have HS:=Lib.hid (show l.length+E.szL l≤1048576 by omega)
 clear eS hsz
 have hmk:=zn7 Tryz.underlying38 zn12 l.length (by omega) (by omega)
 have hF:=Fill.new w 65 #[.slice none 0 0] (l.length*1) ([]:List Value)
 change Calls _ _ #[.slice A l.length c] w _
 go_enter Tryz.func22,Tryz.ntmps22
 go_wp2
 go_loopw [4] (fun i wr=>∃(k:Nat) (us:List E),k≤l.length∧i=.int .i64 k∧Hid (us.length=k)∧Hid (us.map E.d=(l.take k).map E.d)∧Hid (∀u∈us,u.Ty Tryz.prog 65∧u.enc.length=1)∧Fill wr w.heap.size 65 (l.length*1) (k*1) (E.encL us)∧w.heap.size+1≤wr.heap.size∧Hid (∀u∈us,u.Ho wr (w.heap.size+1) wr.heap.size)∧Hid ((E.fpL us).Nodup)∧Below w.heap.size w wr) (fun i _=>l.length-(intOf i).toNat)
 case atStart=>exact⟨0,[],Nat.zero_le _,rfl,rfl,rfl,(fun u hu=>absurd hu List.not_mem_nil),by simp only [Nat.mul_one,Nat.zero_mul] at hF ⊢;exact hF,by simp,(fun u hu=>absurd hu List.not_mem_nil),(by show List.Nodup _;simp [E.fpL]),by exact by0⟩
 case round =>
  obtain⟨k,us,hk,rfl,HL,HD,HT,hf,hge,HO,HN,hb⟩:=hrel
  by_cases hlt:k<l.length
  ·have hs':=hs.below hb (Nat.le_refl _)
   have hzb:=hb.size
   have hmem:=List.getElem_mem hlt
   have hin:=(hr.el hmem).below hb (Nat.le_refl _)
   have H:=zb11 (h1 _ hmem)
   have hsk:l[k].sz≤1048576:=by have:=E.szL_mem hmem;have:=HS.out;omega
   obtain⟨b,o,rfl,_,hc⟩:=hs'.at_ hlt
   obtain⟨y0A,y0c,y0l,ex,gy0,-⟩:=zs2 (h1 _ hmem)
   have HEX:=Lib.hid ex
   rw [ex] at hc hin H hsk
   clear ex
   have c0:=hc 0 _ rfl
   rw [Nat.add_zero] at c0
   rw [Nat.mul_one] at c0
   clear hc
   have HF:=Lib.hid hf
   clear hf
   go_wp2_with fail
   go_at_call 58
   refine (H _ hin hsk).mono ?_;rintro e w1 ⟨x,he,HDX,htx,hox,hnx,hb1⟩
   have HTX:=Lib.hid htx
   obtain⟨z0A,z0c,z0l,rfl,gz0,-⟩:=zk1 htx
   obtain rfl:e=.returned (.agg #[.slice z0A z0l.length z0c]):=he
   have hf1:=HF.out.below hb1 HF.out.lt
   obtain⟨u0,c0'⟩:=hf1.cell (j:=k) (by omega)
   have zfr:=hf1.frozen
   have hz1:=hb1.size
   have HOX:=Lib.hid hox
   have HNX:=Lib.hid hnx
   have HF1:=Lib.hid hf1
   clear hox hnx hf1 htx
   go_wp2
   go_roundw
   case rel =>
    have hl:=HL.out
    have hf1:=HF1.out
    have hT:∀u∈us++[(E.agg [.lst 2 67 z0A z0c z0l])],u.Ty Tryz.prog 65∧u.enc.length=1:=fun u hu=>by
     rcases List.mem_append.1 hu with hu|hu
     ·exact HT.out u hu
     ·obtain rfl:=List.mem_singleton.1 hu
      exact⟨HTX.out,rfl⟩
    have hlen:=E.encL_len fun u hu=>(HT.out u hu).2
    have hk2:k<(us++[(E.agg [.lst 2 67 z0A z0c z0l])]).length:=by simp;omega
    have ev:=fun j hj=>E.encL_at (fun u hu=>(hT u hu).2) k hk2 j hj
    have eT:(us++[(E.agg [.lst 2 67 z0A z0c z0l])])[k]=(E.agg [.lst 2 67 z0A z0c z0l]):=by rw [List.getElem_append_right (by omega)];simp [hl]
    simp only [eT,Nat.mul_one] at ev
    have hf2:Fill w1 w.heap.size 65 (l.length*1) (k*1) (E.encL (us++[(E.agg [.lst 2 67 z0A z0c z0l])])):=hf1.swap' fun j hj=>E.encL_app_lt us _ j (by rw [hlen,hl];exact hj)
    rw [Nat.mul_one k] at hf2
    have K:=fun (W:World) (h:Kp w.heap.size (w.heap.size+1) w1 W) (u:E) (hu:u∈us)=>((HO.out u hu).below hb1 (Nat.le_refl _)).kp h (.inr (by omega))
    refine⟨k+1,us++[(E.agg [.lst 2 67 z0A z0c z0l])],by omega,by go_num,by show _=_;simp [hl],zl6 hlt HD.out (HDX.out.trans (by rw [←HEX.out])),hT,by have hst:=(hf2.set (by omega) (ev 0 (by omega)));simp only [Nat.mul_one,Nat.add_mul,Nat.one_mul] at hst ⊢;exact hst,by simp;omega,?_,?_,by exact by0⟩
    ·intro u hu
     rcases List.mem_append.1 hu with hu|hu
     ·exact (K _ (by repeat (first|(with_reducible exact Kp.refl _ _ _)|(refine Kp.set ?_ (by first|omega|(dsimp only;omega)|(simp;omega)) (by first|omega|(dsimp only;omega)|(simp;omega)) _))) u hu).wider (Nat.le_refl _) (by simp;omega)
     ·obtain rfl:=List.mem_singleton.1 hu
      exact (HOX.out.kp (lo':=w.heap.size) (hi':=w.heap.size+1) (by repeat (first|(with_reducible exact Kp.refl _ _ _)|(refine Kp.set ?_ (by first|omega|(dsimp only;omega)|(simp;omega)) (by first|omega|(dsimp only;omega)|(simp;omega)) _))) (.inr (by omega))).wider (by omega) (by simp)
    ·refine zn3 HN.out HNX.out fun g hg hg2=>?_
     obtain⟨u,hu,hg⟩:=E.mem_fpL.1 hg
     have:=(HO.out u hu).lt g hg
     have:=HOX.out.lt g hg2
     omega
   case measure=>simp [intOf];omega
  ·have hk':k=l.length:=by omega
   subst hk'
   go_wp2
   go_ret
   have hl:=HL.out
   have hTy:=HT.out
   have own:wr.ownsRow w.heap.size 65 1 (.slice (some ⟨w.heap.size,0,none⟩) l.length l.length) l.length (E.encL us):=hf.owns (Nat.le_refl _) rfl (by rw [E.encL_len fun u hu=>(hTy u hu).2,hl]) (by unfold maxLen;omega)
   rw [←hl] at own
   refine⟨.lst 1 65 (some ⟨w.heap.size,0,none⟩) us.length us,by rw [←hl];rfl,?_,E.Ty.mk_lst Tryz.underlying38 (by kernel_rfl) (fun u hu=>(hTy u hu).1) (fun u hu=>(hTy u hu).2),E.Ho.mk (Ow.of_owns own (Nat.le_refl _)) (fun u hu=>(hTy u hu).2) (fun u hu=>(HO.out u hu).wider (by omega) (Nat.le_refl _)),?_,hb⟩
   ·show E.d _=E.d _
    rw [zk4]
    have h:=HD.out
    rwa [List.take_length] at h
   ·simp only [E.fp,List.singleton_append,List.nodup_cons]
    refine⟨fun hm=>?_,HN.out⟩
    obtain⟨u,hu,hg⟩:=E.mem_fpL.1 hm
    have:=(HO.out u hu).lt _ hg
    omega
theorem zp9 {e:E}(ht:e.Ty Tryz.prog 26):To 22 38 e:=by
 obtain⟨A,c,l,rfl,h1,_⟩:=ht.lst_ Tryz.underlying26 (k:=1) (by kernel_rfl)
 exact toMTableS_all' A c l h1
set_option maxRecDepth 100000 in
set_option maxHeartbeats 1000000 in
theorem zc11 {e e':E}(ht:e.Ty Tryz.prog 65)(ht':e'.Ty Tryz.prog 65):Eq 68 e e':=by
 obtain⟨x0A,x0c,x0l,rfl,gx0,-⟩:=zk1 ht
 obtain⟨y0A,y0c,y0l,rfl,gy0,-⟩:=zk1 ht'
 intro hd w hr hr'
 simp only [E.d,E.dL,E.agg.injEq,List.cons.injEq,E.int.injEq,E.str.injEq,E.bool.injEq,E.lst.injEq,true_and,and_true] at hd
 have hd0:=hd
 clear hd
 have hr0:=((hr.fld (i:=0) rfl).alloc (.cells #[.slice x0A x0l.length x0c] 65)).alloc (.cells #[.slice y0A y0l.length y0c] 65)
 have hs0:=((hr'.fld (i:=0) rfl).alloc (.cells #[.slice x0A x0l.length x0c] 65)).alloc (.cells #[.slice y0A y0l.length y0c] 65)
 have t0:(E.lst 2 67 x0A x0c x0l).Ty Tryz.prog 63:=E.Ty.mk_lst Tryz.underlying63 (by kernel_rfl) gx0.1 gx0.2
 have u0:(E.lst 2 67 y0A y0c y0l).Ty Tryz.prog 63:=E.Ty.mk_lst Tryz.underlying63 (by kernel_rfl) gy0.1 gy0.2
 have HC0:=Lib.hid (zn9 t0 u0 (by simp only [E.d,E.dL,E.agg.injEq,List.cons.injEq,E.int.injEq,E.str.injEq,E.bool.injEq,E.lst.injEq,true_and,and_true];exact hd0))
 clear t0 u0
 clear hd0
 change Calls _ _ #[.agg #[.slice x0A x0l.length x0c],.agg #[.slice y0A y0l.length y0c]] w _
 go_enter Tryz.func68,Tryz.ntmps68
 go_wp2_with fail
 go_at_call 96
 refine (HC0.out _ hr0 hs0).mono ?_;rintro e w1 ⟨rfl,hb1⟩
 have hz1:=hb1.size;(try simp only [World.size_alloc] at hz1)
 go_wp2
 go_ret
 exact⟨rfl,by0⟩
set_option maxRecDepth 100000 in
set_option maxHeartbeats 1000000 in
theorem eqMTableS_all' (A B:Option Addr)(c c':Nat)(l m:List E)(h1:∀y∈l,y.Ty Tryz.prog 65)(h2:∀y∈m,y.Ty Tryz.prog 65):Eq 32 (.lst 1 65 A c l) (.lst 1 65 B c' m):=by
 intro hd w hr hr'
 rw [zk4] at hd
 have hs:=hr.sl
 have hs':=hr'.sl
 have hml:=zo7 hd
 have HD:=Lib.hid hd
 clear hd
 have hlen:=hs.len_le
 change Calls _ _ #[.slice A l.length c,.slice B m.length c'] w _
 obtain⟨N,HN⟩:∃N,Hid (m.length=N):=⟨_,rfl⟩
 have hN:N=l.length:=by have:=HN.out;omega
 subst hN
 rw [HN.out]
 clear hml
 go_enter Tryz.func32,Tryz.ntmps32
 go_wp2
 go_loopw [5] (fun i wr=>∃(k:Nat),k≤l.length∧i=.int .i64 k∧Below w.heap.size w wr) (fun i _=>l.length-(intOf i).toNat)
 case atStart=>exact⟨0,Nat.zero_le _,rfl,Below.refl _ _⟩
 case round =>
  obtain⟨k,hk,rfl,hb⟩:=hrel
  by_cases hlt:k<l.length
  ·have hltm:k<m.length:=by have:=HN.out;omega
   have hsb:=hs.below hb (Nat.le_refl _)
   have hsb':=hs'.below hb (Nat.le_refl _)
   have hdk:=d_at HD.out hlt hltm
   obtain⟨b,o,rfl,_,hc⟩:=hsb.at_ hlt
   obtain⟨b',o',rfl,_,hd⟩:=hsb'.at_ hltm
   have hin:=(hr.el (List.getElem_mem hlt)).below hb (Nat.le_refl _)
   have hin':=(hr'.el (List.getElem_mem hltm)).below hb (Nat.le_refl _)
   have H:=zc11 (h1 _ (List.getElem_mem hlt)) (h2 _ (List.getElem_mem hltm)) hdk
   obtain⟨x0A,x0c,x0l,ex,gx0,-⟩:=zk1 (h1 _ (List.getElem_mem hlt))
   obtain⟨y0A,y0c,y0l,ey,gy0,-⟩:=zk1 (h2 _ (List.getElem_mem hltm))
   rw [ex] at hc hin
   rw [ey] at hd hin'
   rw [ex,ey] at H
   clear ex ey hdk
   have c0:=hc 0 _ rfl
   have d0:=hd 0 _ rfl
   rw [Nat.add_zero] at c0 d0
   rw [Nat.mul_one] at c0 d0
   clear hc hd
   have hzb:=hb.size
   have HH:=Lib.hid H
   clear H
   go_wp2
   go_region_held3 (fun w'=>w'.cell? ⟨b,o+k,none⟩=some (.slice x0A x0l.length x0c)∧w'.cell? ⟨b',o'+k,none⟩=some (.slice y0A y0l.length y0c))
    (first|exact⟨c0,d0⟩|skip)
    ((go_at_call 68;refine (HH.out _ by2 by2).mono ?_;rintro e w1 ⟨rfl,hb1⟩;have c0:=zb hb1 c0 by1;have d0:=zb hb1 d0 by1))
   go_wp2
   go_roundw
   case rel=>exact⟨k+1,by omega,by go_num,by exact by0⟩
   case measure=>simp [intOf];omega
  ·go_wp2
   go_ret
   exact⟨rfl,hb⟩
theorem zq9 {e e':E}(ht:e.Ty Tryz.prog 38)(ht':e'.Ty Tryz.prog 38):Eq 32 e e':=by
 obtain⟨A,c,l,rfl,h1,_⟩:=ht.lst_ Tryz.underlying38 (k:=1) (by kernel_rfl)
 obtain⟨B,c',m,rfl,h2,_⟩:=ht'.lst_ Tryz.underlying38 (k:=1) (by kernel_rfl)
 exact eqMTableS_all' A B c c' l m h1 h2
set_option maxRecDepth 100000 in
set_option maxHeartbeats 1000000 in
theorem markMTableS_all' (A:Option Addr)(c:Nat)(l:List E)(h1:∀y∈l,y.Ty Tryz.prog 65)(h2:∀y∈l,y.enc.length=1):Mar 38 (.lst 1 65 A c l):=by
 intro lo hi k0 w ho hnd hhi hk0 hk1
 have HCN:Hid ((E.lst 1 65 A c l).cnt=E.cntcL l):=rfl
 rw [HCN.out] at hk1
 have HND:=Lib.hid hnd
 clear hnd
 have hlen:=ho.re.sl.len_le
 have how0:=ho
 rw [←zv2 l k0] at how0
 clear ho
 change Calls _ _ #[.slice A l.length c,.int .i64 k0] w _
 rw [HCN.out]
 change Calls _ _ _ w fun r w'=>r=.returned (.int .i64 (k0+(E.cntcL l:Nat)))∧(E.lst 1 65 A c (E.mkcL l k0)).Ho w' lo hi∧Fr (E.lst 1 65 A c l).fp w w'
 go_enter Tryz.func38,Tryz.ntmps38
 go_wp2
 go_loopw [1,5] (fun v i wr=>∃(k:Nat) (q:Int),k≤l.length∧i=.int .i64 k∧v=.int .i64 q∧Hid (q=k0+(E.cntcL (l.take k):Nat))∧Fr (E.lst 1 65 A c l).fp w wr∧Hid ((E.lst 1 65 A c (mixM l k0 k)).Ho wr lo hi)) (fun _ i _=>l.length-(intOf i).toNat)
 case atStart=>exact⟨0,k0,Nat.zero_le _,rfl,rfl,(by show _=_;simp [E.cntcL]),Fr.refl _ _,how0⟩
 case round =>
  obtain⟨k,q,hk,rfl,rfl,HQ,hF0,HOW⟩:=hrel
  have hzk:=hF0.size
  by_cases hlt:k<l.length
  ·have HT:=Lib.hid (E.cntcL_take l k hlt)
   have hq0:0≤q:=by have:=HQ.out;omega
   have hml:k<(mixM l k0 k).length:=by rw [zg3];exact hlt
   have how:=HOW.out
   obtain⟨g,rfl,hg1,hg2,hg3⟩:=how.head (by omega)
   obtain⟨y0A,y0c,y0l,ex,gy0,-⟩:=zk1 (h1 _ (List.getElem_mem hlt))
   have HC0:=Lib.hid (zf7 (show (E.lst 2 67 y0A y0c y0l).Ty Tryz.prog 63 from E.Ty.mk_lst Tryz.underlying63 (by kernel_rfl) gy0.1 gy0.2))
   have HCX:Hid ((E.agg [.lst 2 67 y0A y0c y0l]).cntc=((E.lst 2 67 y0A y0c y0l).cnt+0)):=rfl
   have hq1:q+((((E.lst 2 67 y0A y0c y0l).cnt+0):Nat):Int)≤1152921504606846976:=by have e1:=HQ.out;have e2:=HT.out;have e3:=E.cntcL_le l (k+1);rw [ex,HCX.out] at e2;omega
   have e0:mixM l k0 k=(mixM l k0 k).set k (E.agg [.lst 2 67 y0A y0c y0l]):=by rw [←ex,←zl2 l k0 k hlt];exact (List.set_getElem_self _).symm
   have HN2:=Lib.hid (fun (z:E) (hz:z.fp=(E.agg [.lst 2 67 y0A y0c y0l]).fp)=>(show (E.lst 1 65 (some ⟨g,0,none⟩) c ((mixM l k0 k).set k z)).fp.Nodup by have hh:=HND.out;have h3:E.fpL ((mixM l k0 k).set k z)=E.fpL l:=(E.fpL_set hml (by rw [hz,←ex,zl2 l k0 k hlt])).trans (zg4 l k0 k);simp only [E.fp] at hh ⊢;rw [h3];exact hh))
   have HSB:=Lib.hid (fun (b:Nat) (hb:b∈(E.agg [.lst 2 67 y0A y0c y0l]).fp)=>(show b∈(E.lst 1 65 (some ⟨g,0,none⟩) c l).fp by simp only [E.fp];exact List.mem_append_right _ (E.mem_fpL.2 ⟨l[k],List.getElem_mem hlt,by rw [ex];exact hb⟩)))
   have hgm:g∈(E.lst 1 65 (some ⟨g,0,none⟩) c l).fp:=by simp [E.fp]
   have HGM:=Lib.hid hgm
   clear hgm
   rw [e0] at how
   clear e0
   obtain⟨ms,HMS⟩:∃ms,Hid (mixM l k0 k=ms):=⟨_,rfl⟩
   rw [HMS.out] at how hml HN2
   have HEX:=Lib.hid ex
   clear ex
   have HML:=Lib.hid hml
   clear hml
   have H0:=Lib.hid how
   clear how
   have c0_0:wr.cell? ⟨g,k,none⟩=some (.slice y0A y0l.length y0c):=by have h:=H0.out.cellx (j:=0) (u:=.slice y0A y0l.length y0c) (by simpa using HML.out) (zg1 HML.out _) rfl;simpa only [Nat.mul_one,Nat.add_zero] using h
   have fz0:=H0.out.frzx
   go_wp2_with fail
   clear c0_0 fz0
   have ho1:(E.lst 2 67 y0A y0c y0l).Ho wr lo hi:=(E.Ho.fld (i:=0) (H0.out.el (zd2 HML.out _)) rfl)
   have HNn1:Hid ((E.lst 2 67 y0A y0c y0l).fp.Nodup):=(zi1 (show (E.fpL [(E.lst 2 67 y0A y0c y0l)]).Nodup from (zi1 (show (E.fpL (ms.set k (E.agg [(E.lst 2 67 y0A y0c y0l)]))).Nodup from (List.nodup_append.1 (show List.Nodup (_++_) from HN2.out (E.agg [(E.lst 2 67 y0A y0c y0l)]) (by first|rfl|(simp only [E.fp,E.fpL,E.mkcL_fp,E.mk0L_fp,E.mk0_fp,E.mkc_fp];done)|fail))).2.1) (zd2 HML.out _))) (show (E.lst 2 67 y0A y0c y0l)∈[(E.lst 2 67 y0A y0c y0l)] by simp))
   go_at_call 72
   refine (HC0.out lo hi _ _ ho1 HNn1.out (by first|omega|(simp;omega)) (by omega) (by omega)).mono ?_;rintro e w1 ⟨rfl,hm1,hf1⟩
   have hz1:=hf1.size;(try simp only [World.size_setCell] at hz1)
   have hin1:(E.agg [(E.lst 2 67 y0A y0c (E.mkcL y0l (q)))]).Ho w1 lo hi:=(Ho_repl (i:=0) (H0.out.el (zd2 HML.out _)) (zi1 (show (E.fpL (ms.set k (E.agg [(E.lst 2 67 y0A y0c y0l)]))).Nodup from (List.nodup_append.1 (show List.Nodup (_++_) from HN2.out (E.agg [(E.lst 2 67 y0A y0c y0l)]) (by first|rfl|(simp only [E.fp,E.fpL,E.mkcL_fp,E.mk0L_fp,E.mk0_fp,E.mkc_fp];done)|fail))).2.1) (zd2 HML.out _)) (by simp) (show Fr (E.lst 2 67 y0A y0c y0l).fp _ _ from hf1) hm1)
   have H1:=Lib.hid (H0.out.inside (HN2.out _ (by first|rfl|(simp only [E.fp,E.fpL,E.mkcL_fp,E.mk0L_fp,E.mk0_fp,E.mkc_fp];done)|fail)) HML.out (E.agg [(E.lst 2 67 y0A y0c (E.mkcL y0l (q)))]) hf1 (fun b hb=>by simp only [E.fp,E.fpL,List.mem_append,List.nil_append,List.append_nil] at hb ⊢;simp [hb]) (by simp only [E.enc,E.encL,E.mkcL_len]) hin1)
   clear H0 hin1 ho1 hm1
   have hF1:Fr (E.lst 1 65 (some ⟨g,0,none⟩) c l).fp w w1:=hF0.trans (hf1.sub (fun b hb=>HSB.out b (by simp only [E.fp,E.fpL,List.mem_append,List.nil_append,List.append_nil] at hb ⊢;simp [hb])))
   have c1_0:w1.cell? ⟨g,k,none⟩=some (.slice y0A (E.mkcL y0l (q)).length y0c):=by have h:=H1.out.cellx (j:=0) (u:=.slice y0A (E.mkcL y0l (q)).length y0c) (by simpa using HML.out) (zg1 HML.out _) rfl;simpa only [Nat.mul_one,Nat.add_zero] using h
   have fz1:=H1.out.frzx
   go_wp2
   go_roundw
   case rel =>
    have FF:∀t0:Int,(q)=t0→(E.agg [(E.lst 2 67 y0A y0c (E.mkcL y0l (q)))])=(E.agg [(E.lst 2 67 y0A y0c (E.mkcL y0l t0))]):=by
     intro t0 ht0
     subst ht0
     rfl
    have EX:(E.agg [(E.lst 2 67 y0A y0c (E.mkcL y0l (q)))])=(E.agg [.lst 2 67 y0A y0c y0l]).mkc q:=FF _ (by first|rfl|omega|(show _=_;simp only [E.cnt,E.cntL,E.cntc,E.cntcL,reduceCtorEq,if_false,if_true,ite_false];omega))
    exact⟨k+1,_,by omega,by go_num,rfl,(by show _=_;have e1:=HQ.out;have e2:=HT.out;rw [HEX.out,HCX.out] at e2;omega),hF1,(by show E.Ho _ _ _ _;rw [←zw2 l k0 k hlt,HEX.out,←HQ.out,←EX,HMS.out];exact H1.out)⟩
   case measure=>simp [intOf];omega
  ·have hk':k=l.length:=by omega
   subst hk'
   go_wp2
   go_ret
   have e1:=HQ.out
   rw [List.take_length] at e1
   have h:=HOW.out
   rw [zp3] at h
   exact⟨ri e1,h,hF0⟩
set_option maxRecDepth 100000 in
set_option maxHeartbeats 1000000 in
theorem heldMTableS_all' (A:Option Addr)(c:Nat)(l:List E)(h1:∀y∈l,y.Ty Tryz.prog 65)(h2:∀y∈l,y.enc.length=1):Hel 44 (.lst 1 65 A c l):=by
 intro k0 w hr h0 hk1
 have HCN:Hid ((E.lst 1 65 A c l).cnt=E.cntcL l):=rfl
 rw [HCN.out] at hk1
 change (E.lst 1 65 A c (E.mkcL l k0)).In w at hr
 have hs:=hr.sl
 have hlen:=hs.len_le
 rw [E.mkcL_len] at hlen
 change Calls _ _ #[.slice A l.length c,.int .i64 k0] w _
 rw [HCN.out]
 change Calls _ _ _ w fun r w'=>r=.returned (.int .i64 (k0+(E.cntcL l:Nat)))∧Below w.heap.size w w'
 go_enter Tryz.func44,Tryz.ntmps44
 go_wp2
 go_loopw [1,5] (fun v i wr=>∃(k:Nat) (q:Int),k≤l.length∧i=.int .i64 k∧v=.int .i64 q∧Hid (q=k0+(E.cntcL (l.take k):Nat))∧Below w.heap.size w wr) (fun _ i _=>l.length-(intOf i).toNat)
 case atStart=>exact⟨0,k0,Nat.zero_le _,rfl,rfl,(by show _=_;simp [E.cntcL]),Below.refl _ _⟩
 case round =>
  obtain⟨k,q,hk,rfl,rfl,HQ,hb⟩:=hrel
  have hzb:=hb.size
  by_cases hlt:k<l.length
  ·have HT:=Lib.hid (E.cntcL_take l k hlt)
   have hq0:0≤q:=by have:=HQ.out;omega
   have hlm:k<(E.mkcL l k0).length:=by rw [E.mkcL_len];exact hlt
   obtain⟨y0A,y0c,y0l,ex,gy0,-⟩:=zk1 (h1 _ (List.getElem_mem hlt))
   have HC0:=Lib.hid (zg7 (show (E.lst 2 67 y0A y0c y0l).Ty Tryz.prog 63 from E.Ty.mk_lst Tryz.underlying63 (by kernel_rfl) gy0.1 gy0.2))
   have HCX:Hid ((E.agg [.lst 2 67 y0A y0c y0l]).cntc=((E.lst 2 67 y0A y0c y0l).cnt+0)):=rfl
   have hq1:q+((((E.lst 2 67 y0A y0c y0l).cnt+0):Nat):Int)≤1152921504606846976:=by have e1:=HQ.out;have e2:=HT.out;have e3:=E.cntcL_le l (k+1);rw [ex,HCX.out] at e2;omega
   have FF:∀t0:Int,(q)=t0→(E.agg [(E.lst 2 67 y0A y0c (E.mkcL y0l (q)))])=(E.agg [(E.lst 2 67 y0A y0c (E.mkcL y0l t0))]):=by
    intro t0 ht0
    subst ht0
    rfl
   have EX:(E.agg [(E.lst 2 67 y0A y0c (E.mkcL y0l (q)))])=(E.agg [.lst 2 67 y0A y0c y0l]).mkc q:=FF _ (by first|rfl|omega|(show _=_;simp only [E.cnt,E.cntL,E.cntc,E.cntcL,reduceCtorEq,if_false,if_true,ite_false];omega))
   have hs':=hs.below hb (Nat.le_refl _)
   have hin:=(hr.el (List.getElem_mem hlm)).below hb (Nat.le_refl _)
   obtain⟨b,o,rfl,hbl,hc⟩:=hs'.at_ hlm
   rw [E.mkcL_at l k0 k hlt,ex,←HQ.out,←EX] at hc hin
   clear EX FF
   have HEX:=Lib.hid ex
   clear ex hlm hs'
   have c0_0:wr.cell? ⟨b,o+k,none⟩=some (.slice y0A y0l.length y0c):=by have h:=hc 0 _ rfl;simpa only [Nat.mul_one,Nat.add_zero,E.mkcL_len] using h
   clear hc
   have hi0:((E.lst 2 67 y0A y0c y0l).mk0 (q)).In wr:=(E.In.fld (i:=0) hin rfl)
   clear hin
   go_wp2_with fail
   go_at_call 78
   refine (HC0.out _ _ hi0 (by omega) (by omega)).mono ?_;rintro e w1 ⟨rfl,hb1⟩;have hz1:=hb1.size;have c1_0:=zb hb1 c0_0 (by first|omega|(simp;omega))
   go_wp2_with fail
   go_roundw
   case rel=>exact⟨k+1,_,by omega,by go_num,rfl,(by show _=_;have e1:=HQ.out;have e2:=HT.out;rw [HEX.out,HCX.out] at e2;omega),by exact by0⟩
   case measure=>simp [intOf];omega
  ·have hk':k=l.length:=by omega
   subst hk'
   go_wp2
   go_ret
   have e1:=HQ.out
   rw [List.take_length] at e1
   exact⟨ri e1,hb⟩
theorem zh7 {e:E}(ht:e.Ty Tryz.prog 38):Mar 38 e:=by
 obtain⟨A,c,l,rfl,h1,h2⟩:=ht.lst_ Tryz.underlying38 (k:=1) (by kernel_rfl)
 exact markMTableS_all' A c l h1 h2
theorem zi7 {e:E}(ht:e.Ty Tryz.prog 38):Hel 44 e:=by
 obtain⟨A,c,l,rfl,h1,h2⟩:=ht.lst_ Tryz.underlying38 (k:=1) (by kernel_rfl)
 exact heldMTableS_all' A c l h1 h2
end Go.Proofs.YtfemkmnkofgaaaaGreat
