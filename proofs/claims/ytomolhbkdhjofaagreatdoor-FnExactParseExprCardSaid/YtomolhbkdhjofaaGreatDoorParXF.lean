/- T -/
import Derived.Test.YtomolhbkdhjofaaGreatDoorParXE
set_option maxHeartbeats 0
set_option maxRecDepth 100000
namespace Go.Proofs.YtomolhbkdhjofaaGreatDoor
open Go.RowKit Go.Proofs.Tryz
theorem by3 {p:Prop}(h:p:=by repeat (first|(with_reducible assumption)|(with_reducible refine E.In.drew ?_)|(with_reducible refine E.In.drewN ?_ _)|(with_reducible refine E.In.alloc ?_ _)|(refine E.In.below ?_ (by with_reducible assumption) ?_)|omega|(·simp)|(·(simp;omega)))):p:=h
theorem aO {e:E}(h:e.Ty prog 26):∃(x0:Int) (x1:Int) (x2:ByteArray) (x3A:Option Addr) (x3c:Nat) (x3l:List E),e=(E.agg [.int .i64 x0,.int .i64 x1,.str x2,.lst 4 26 x3A x3c x3l])∧((Lit.int .i64 x0).wf=true)∧((Lit.int .i64 x1).wf=true)∧(x2.size≤9223372036854775807)∧((∀y∈x3l,y.Ty prog 26)∧(∀y∈x3l,y.enc.length=4))∧True:=by
 obtain⟨fs,rfl,q0⟩:=h.agg_ underlying26
 change E.TyF _ _ [3,3,9,24] at q0
 obtain⟨e0,r0,rfl,h0,q1⟩:=q0.cons_
 obtain⟨e1,r1,rfl,h1,q2⟩:=q1.cons_
 obtain⟨e2,r2,rfl,h2,q3⟩:=q2.cons_
 obtain⟨e3,r3,rfl,h3,q4⟩:=q3.cons_
 obtain rfl:=q4.nil_
 obtain⟨x0,rfl,gx0⟩:=h0.int_ underlying3
 obtain⟨x1,rfl,gx1⟩:=h1.int_ underlying3
 obtain⟨x2,rfl,gx2⟩:=h2.str_ underlying9
 obtain⟨x3A,x3c,x3l,rfl,gx3,gx3'⟩:=h3.lst_ underlying24 (k:=4) (by kernel_rfl)
 exact⟨x0,x1,x2,x3A,x3c,x3l,rfl,gx0,gx1,gx2,⟨gx3,gx3'⟩,trivial⟩
theorem qh {e e':E}(ht:e.Ty prog 26)(ht':e'.Ty prog 26)(ih:∀s:E,s.Ty prog 24→s∈e.subs→∀s':E,s'.Ty prog 24→Eq 31 s s'):Eq 14 e e':=by
 obtain⟨x0,x1,x2,x3A,x3c,x3l,rfl,gx0,gx1,gx2,gx3,-⟩:=aO ht
 obtain⟨y0,y1,y2,y3A,y3c,y3l,rfl,gy0,gy1,gy2,gy3,-⟩:=aO ht'
 intro hd w hr hr'
 simp only [E.d,E.dL,E.agg.injEq,List.cons.injEq,E.int.injEq,E.str.injEq,E.bool.injEq,E.lst.injEq,true_and,and_true] at hd
 obtain⟨rfl,rfl,rfl,hd3⟩:=hd
 have hr3:=((hr.fld (i:=3) rfl).alloc (.cells #[.int .i64 x0,.int .i64 x1,.string x2,.slice x3A x3l.length x3c] 26)).alloc (.cells #[.int .i64 x0,.int .i64 x1,.string x2,.slice y3A y3l.length y3c] 26)
 have hs3:=((hr'.fld (i:=3) rfl).alloc (.cells #[.int .i64 x0,.int .i64 x1,.string x2,.slice x3A x3l.length x3c] 26)).alloc (.cells #[.int .i64 x0,.int .i64 x1,.string x2,.slice y3A y3l.length y3c] 26)
 have t3:(E.lst 4 26 x3A x3c x3l).Ty prog 24:=E.Ty.mk_lst underlying24 (by kernel_rfl) gx3.1 gx3.2
 have u3:(E.lst 4 26 y3A y3c y3l).Ty prog 24:=E.Ty.mk_lst underlying24 (by kernel_rfl) gy3.1 gy3.2
 have HC3:=Lib.hid (ih _ t3 (by simp [E.subs]) _ u3 (by simp only [E.d,E.dL,E.agg.injEq,List.cons.injEq,E.int.injEq,E.str.injEq,E.bool.injEq,E.lst.injEq,true_and,and_true];exact hd3))
 clear t3 u3
 clear hd3
 change Calls _ _ #[.agg #[.int .i64 x0,.int .i64 x1,.string x2,.slice x3A x3l.length x3c],.agg #[.int .i64 x0,.int .i64 x1,.string x2,.slice y3A y3l.length y3c]] w _
 go_enter func14,Tryz.ntmps14
 go_wp2_with fail
 go_at_call 31
 refine (HC3.out _ hr3 hs3).mono ?_;rintro e w1 ⟨rfl,hb1⟩
 have hz1:=hb1.size;(try simp only [World.size_alloc] at hz1)
 go_wp2
 go_ret
 exact⟨rfl,by0⟩
theorem eqExprS_step' (A B:Option Addr)(c c':Nat)(l m:List E)(h1:∀y∈l,y.Ty prog 26)(h2:∀y∈m,y.Ty prog 26)(ih:∀y∈l,y.Ty prog 26→∀y':E,y'.Ty prog 26→Eq 14 y y'):Eq 31 (.lst 4 26 A c l) (.lst 4 26 B c' m):=by
 intro hd w hr hr'
 rw [lst_d] at hd
 have hs:=hr.sl
 have hs':=hr'.sl
 have hml:=d_len hd
 have HD:=Lib.hid hd
 clear hd
 have hlen:=hs.len_le
 change Calls _ _ #[.slice A l.length c,.slice B m.length c'] w _
 obtain⟨N,HN⟩:∃N,Hid (m.length=N):=⟨_,rfl⟩
 have hN:N=l.length:=by have:=HN.out;omega
 subst hN
 rw [HN.out]
 clear hml
 go_enter func31,Tryz.ntmps31
 go_wp2
 go_loopw [5] (fun i wr=>∃(k:Nat),k≤l.length∧i=.int .i64 k∧Below w.heap.size w wr) (fun i _=>l.length-(intOf i).toNat)
 case atStart=>exact⟨0,Nat.zero_le _,rfl,Below.refl _ _⟩
 case round =>
  obtain⟨k,hk,rfl,hb⟩:=hrel
  by_cases hlt:k<l.length
  ·have hltm:k<m.length:=by have:=HN.out;omega
   have hsb:=hs.below hb (Nat.le_refl _)
   have hsb':=hs'.below hb (Nat.le_refl _)
   have hdk:=d_at HD.out hlt hltm
   obtain⟨b,o,rfl,_,hc⟩:=hsb.at_ hlt
   obtain⟨b',o',rfl,_,hd⟩:=hsb'.at_ hltm
   have hin:=(hr.el (List.getElem_mem hlt)).below hb (Nat.le_refl _)
   have hin':=(hr'.el (List.getElem_mem hltm)).below hb (Nat.le_refl _)
   have H:=ih _ (List.getElem_mem hlt) (h1 _ (List.getElem_mem hlt)) _ (h2 _ (List.getElem_mem hltm)) hdk
   obtain⟨x0,x1,x2,x3A,x3c,x3l,ex,gx0,gx1,gx2,gx3,-⟩:=aO (h1 _ (List.getElem_mem hlt))
   obtain⟨y0,y1,y2,y3A,y3c,y3l,ey,gy0,gy1,gy2,gy3,-⟩:=aO (h2 _ (List.getElem_mem hltm))
   rw [ex] at hc hin
   rw [ey] at hd hin'
   rw [ex,ey] at H
   clear ex ey hdk
   have c0:=hc 0 _ rfl;have c1:=hc 1 _ rfl;have c2:=hc 2 _ rfl;have c3:=hc 3 _ rfl
   have d0:=hd 0 _ rfl;have d1:=hd 1 _ rfl;have d2:=hd 2 _ rfl;have d3:=hd 3 _ rfl
   rw [Nat.add_zero] at c0 d0
   clear hc hd
   have hzb:=hb.size
   have HH:=Lib.hid H
   clear H
   go_wp2
   go_region_held3 (fun w'=>w'.cell? ⟨b,o+k*4,none⟩=some (.int .i64 x0)∧w'.cell? ⟨b,o+k*4+1,none⟩=some (.int .i64 x1)∧w'.cell? ⟨b,o+k*4+2,none⟩=some (.string x2)∧w'.cell? ⟨b,o+k*4+3,none⟩=some (.slice x3A x3l.length x3c)∧w'.cell? ⟨b',o'+k*4,none⟩=some (.int .i64 y0)∧w'.cell? ⟨b',o'+k*4+1,none⟩=some (.int .i64 y1)∧w'.cell? ⟨b',o'+k*4+2,none⟩=some (.string y2)∧w'.cell? ⟨b',o'+k*4+3,none⟩=some (.slice y3A y3l.length y3c))
    (first|exact⟨c0,c1,c2,c3,d0,d1,d2,d3⟩|skip)
    ((go_at_call 14;refine (HH.out _ by3 by3).mono ?_;rintro e w1 ⟨rfl,hb1⟩;have c0:=dh hb1 c0 by1;have c1:=dh hb1 c1 by1;have c2:=dh hb1 c2 by1;have c3:=dh hb1 c3 by1;have d0:=dh hb1 d0 by1;have d1:=dh hb1 d1 by1;have d2:=dh hb1 d2 by1;have d3:=dh hb1 d3 by1))
   go_wp2
   go_roundw
   case rel=>exact⟨k+1,omq,by go_num,by exact by0⟩
   case measure=>simp [intOf];omega
  ·go_wp2
   go_ret
   exact⟨rfl,hb⟩
theorem oP {e e':E}(ht:e.Ty prog 24)(ht':e'.Ty prog 24)(ih:∀y:E,y∈e.elems→y.Ty prog 26→∀y':E,y'.Ty prog 26→Eq 14 y y'):Eq 31 e e':=by
 obtain⟨A,c,l,rfl,h1,_⟩:=ht.lst_ underlying24 (k:=4) (by kernel_rfl)
 obtain⟨B,c',m,rfl,h2,_⟩:=ht'.lst_ underlying24 (k:=4) (by kernel_rfl)
 exact eqExprS_step' A B c c' l m h1 h2 ih
theorem qi:∀e:E,(e.Ty prog 26→∀e':E,e'.Ty prog 26→Eq 14 e e')∧(e.Ty prog 24→∀e':E,e'.Ty prog 24→Eq 31 e e'):=by
 intro e
 induction e using E.ind with
 | h1|h2|h3=>exact⟨(fun h=>by obtain⟨_,h,_⟩:=h.agg_ underlying26;cases h),(fun h=>by obtain⟨_,_,_,h,_⟩:=h.lst_ underlying24 rfl;cases h)⟩
 | h4 fs ih=>exact⟨fun h e' h'=>qh h h' (fun s hs hm=>(ih s hm).2 hs),(fun h=>by obtain⟨_,_,_,h,_⟩:=h.lst_ underlying24 rfl;cases h)⟩
 | h5 k T A c l ih=>exact⟨(fun h=>by obtain⟨_,h,_⟩:=h.agg_ underlying26;cases h),fun h e' h'=>oP h h' (fun y hm hy=>(ih y hm).1 hy)⟩
theorem mJ {e e':E}(ht:e.Ty prog 26)(ht':e'.Ty prog 26):Eq 14 e e':=(qi e).1 ht e' ht'
theorem ni {e:E}(ht:e.Ty prog 26)(ih:∀s:E,s.Ty prog 24→s∈e.subs→Mar 32 s):Mar 15 e:=by
 obtain⟨x0,x1,x2,x3A,x3c,x3l,rfl,gx0,gx1,gx2,gx3,-⟩:=aO ht
 have ty3:(E.lst 4 26 x3A x3c x3l).Ty prog 24:=E.Ty.mk_lst underlying24 (by kernel_rfl) gx3.1 gx3.2
 have HC3:=Lib.hid (ih _ ty3 (by simp [E.subs]))
 clear ty3
 intro lo hi k0 w ho hnd hhi h0 h1
 have HCN:Hid ((E.agg [.int .i64 x0,.int .i64 x1,.str x2,.lst 4 26 x3A x3c x3l]).cnt=(0+(0+(0+((E.lst 4 26 x3A x3c x3l).cnt+0))))):=rfl
 have h1':=h1
 rw [HCN.out] at h1'
 clear h1
 change (E.fpL [(E.int .i64 x0),(E.int .i64 x1),(E.str x2),(E.lst 4 26 x3A x3c x3l)]).Nodup at hnd
 have ho3:=(ho.fld (i:=3) rfl).alloc hhi (.cells #[.int .i64 x0,.int .i64 x1,.string x2,.slice x3A x3l.length x3c] 26)
 have HN3:=Lib.hid (gK hnd (show (E.lst 4 26 x3A x3c x3l)∈[(E.int .i64 x0),(E.int .i64 x1),(E.str x2),(E.lst 4 26 x3A x3c x3l)] by simp))
 have HS3:=Lib.hid (fun b (hb:b∈(E.lst 4 26 x3A x3c x3l).fp)=>(E.mem_fpL.2 ⟨_,(show (E.lst 4 26 x3A x3c x3l)∈[(E.int .i64 x0),(E.int .i64 x1),(E.str x2),(E.lst 4 26 x3A x3c x3l)] by simp),hb⟩:b∈E.fpL [(E.int .i64 x0),(E.int .i64 x1),(E.str x2),(E.lst 4 26 x3A x3c x3l)]))
 clear hnd ho
 change Calls _ _ #[.agg #[.int .i64 x0,.int .i64 x1,.string x2,.slice x3A x3l.length x3c],.int .i64 k0] w _
 go_enter func15,Tryz.ntmps15
 go_wp2_with fail
 go_at_call 32
 refine (HC3.out lo hi _ _ ho3 HN3.out (by first|omega|(simp;omega)) omq omq).mono ?_;rintro e w1 ⟨rfl,hm3,hf1⟩
 have hz1:=hf1.size;(try simp only [World.size_alloc] at hz1)
 have B1:w1.heap[w.heap.size]? = some (.cells #[.int .i64 x0,.int .i64 x1,.string x2,.slice x3A x3l.length x3c] 26 (0,0)):=(hf1.block w.heap.size (by first|omega|simp) (fun hm=>by have:=ho3.lt _ hm;omega)).trans (heap_alloc_new w _)
 go_wp2
 go_ret
 exact⟨ri (by have:=HCN.out;omega),E.Ho.mk_agg (E.HoL.mk_cons trivial (E.HoL.mk_cons trivial (E.HoL.mk_cons trivial (E.HoL.mk_cons (zs2 hm3 (by first|rfl|omega|(show _=_;simp only [E.cnt,E.cntL,E.cntc,E.cntcL,reduceCtorEq,if_false,if_true,ite_false];omega))) (show E.HoL _ _ _ [] by simp only [E.HoL]))))),((Fr.of_below ((Below.refl _ _).alloc (Nat.le_refl _) _)).trans (hf1.sub HS3.out))⟩
theorem nj {e:E}(ht:e.Ty prog 26)(ih:∀s:E,s.Ty prog 24→s∈e.subs→Hel 33 s):Hel 16 e:=by
 obtain⟨x0,x1,x2,x3A,x3c,x3l,rfl,gx0,gx1,gx2,gx3,-⟩:=aO ht
 have ty3:(E.lst 4 26 x3A x3c x3l).Ty prog 24:=E.Ty.mk_lst underlying24 (by kernel_rfl) gx3.1 gx3.2
 have HC3:=Lib.hid (ih _ ty3 (by simp [E.subs]))
 clear ty3
 intro k0 w hr h0 h1
 have HCN:Hid ((E.agg [.int .i64 x0,.int .i64 x1,.str x2,.lst 4 26 x3A x3c x3l]).cnt=(0+(0+(0+((E.lst 4 26 x3A x3c x3l).cnt+0))))):=rfl
 have h1':=h1
 rw [HCN.out] at h1'
 clear h1
 have hr3:=(E.In.fld (i:=3) hr rfl).alloc (.cells #[.int .i64 x0,.int .i64 x1,.string x2,.slice x3A x3l.length x3c] 26)
 change Calls _ _ #[.agg #[.int .i64 x0,.int .i64 x1,.string x2,.slice x3A x3l.length x3c],.int .i64 k0] w _
 go_enter func16,Tryz.ntmps16
 go_wp2_with fail
 go_at_call 33
 refine (HC3.out _ _ (zt2 hr3 (by first|rfl|omega|(show _=_;simp only [E.cnt,E.cntL,E.cntc,E.cntcL,reduceCtorEq,if_false,if_true,ite_false];omega))) omq omq).mono ?_;rintro e w1 ⟨rfl,hb1⟩
 have hz1:=hb1.size;(try simp only [World.size_alloc] at hz1)
 go_wp2
 go_ret
 exact⟨ri (by have:=HCN.out;omega),by exact by0⟩
theorem markExprS_step' (A:Option Addr)(c:Nat)(l:List E)(h1:∀y∈l,y.Ty prog 26)(h2:∀y∈l,y.enc.length=4)(ih:∀y∈l,∀s∈y.subs,s.Ty prog 24→Mar 32 s):Mar 32 (.lst 4 26 A c l):=by
 intro lo hi k0 w ho hnd hhi hk0 hk1
 have HCN:Hid ((E.lst 4 26 A c l).cnt=E.cntcL l):=rfl
 rw [HCN.out] at hk1
 have HND:=Lib.hid hnd
 clear hnd
 have hlen:=ho.re.sl.len_le
 have how0:=ho
 rw [←uh l k0] at how0
 clear ho
 change Calls _ _ #[.slice A l.length c,.int .i64 k0] w _
 rw [HCN.out]
 change Calls _ _ _ w fun r w'=>r=.returned (.int .i64 (k0+(E.cntcL l:Nat)))∧(E.lst 4 26 A c (E.mkcL l k0)).Ho w' lo hi∧Fr (E.lst 4 26 A c l).fp w w'
 go_enter func32,Tryz.ntmps32
 go_wp2
 go_loopw [1,5] (fun v i wr=>∃(k:Nat) (q:Int),k≤l.length∧i=.int .i64 k∧v=.int .i64 q∧Hid (q=k0+(E.cntcL (l.take k):Nat))∧Fr (E.lst 4 26 A c l).fp w wr∧Hid ((E.lst 4 26 A c (mB l k0 k)).Ho wr lo hi)) (fun _ i _=>l.length-(intOf i).toNat)
 case atStart=>exact⟨0,k0,Nat.zero_le _,rfl,rfl,(by show _=_;simp [E.cntcL]),Fr.refl _ _,how0⟩
 case round =>
  obtain⟨k,q,hk,rfl,rfl,HQ,hF0,HOW⟩:=hrel
  have hzk:=hF0.size
  by_cases hlt:k<l.length
  ·have HT:=Lib.hid (E.cntcL_take l k hlt)
   have hq0:0≤q:=by have:=HQ.out;omega
   have hml:k<(mB l k0 k).length:=by rw [rh];exact hlt
   have how:=HOW.out
   obtain⟨g,rfl,hg1,hg2,hg3⟩:=how.head omq
   obtain⟨y0,y1,y2,y3A,y3c,y3l,ex,gy0,gy1,gy2,gy3,-⟩:=aO (h1 _ (List.getElem_mem hlt))
   have HC3:=Lib.hid (ih _ (List.getElem_mem hlt) (E.lst 4 26 y3A y3c y3l) (by rw [ex];simp [E.subs]) (E.Ty.mk_lst underlying24 (by kernel_rfl) gy3.1 gy3.2))
   have HCX:Hid ((E.agg [.int .i64 y0,.int .i64 y1,.str y2,.lst 4 26 y3A y3c y3l]).cntc=(1+(1+(1+((E.lst 4 26 y3A y3c y3l).cnt+0))))):=rfl
   have hq1:q+(((1+(1+(1+((E.lst 4 26 y3A y3c y3l).cnt+0)))):Nat):Int)≤1152921504606846976:=by have e1:=HQ.out;have e2:=HT.out;have e3:=E.cntcL_le l (k+1);rw [ex,HCX.out] at e2;omega
   have e0:mB l k0 k=(mB l k0 k).set k (E.agg [.int .i64 y0,.int .i64 y1,.str y2,.lst 4 26 y3A y3c y3l]):=by rw [←ex,←uj l k0 k hlt];exact (List.set_getElem_self _).symm
   have HN2:=Lib.hid (fun (z:E) (hz:z.fp=(E.agg [.int .i64 y0,.int .i64 y1,.str y2,.lst 4 26 y3A y3c y3l]).fp)=>(show (E.lst 4 26 (some ⟨g,0,none⟩) c ((mB l k0 k).set k z)).fp.Nodup by have hh:=HND.out;have h3:E.fpL ((mB l k0 k).set k z)=E.fpL l:=(E.fpL_set hml (by rw [hz,←ex,uj l k0 k hlt])).trans (zq2 l k0 k);simp only [E.fp] at hh ⊢;rw [h3];exact hh))
   have HSB:=Lib.hid (fun (b:Nat) (hb:b∈(E.agg [.int .i64 y0,.int .i64 y1,.str y2,.lst 4 26 y3A y3c y3l]).fp)=>(show b∈(E.lst 4 26 (some ⟨g,0,none⟩) c l).fp by simp only [E.fp];exact List.mem_append_right _ (E.mem_fpL.2 ⟨l[k],List.getElem_mem hlt,by rw [ex];exact hb⟩)))
   have hgm:g∈(E.lst 4 26 (some ⟨g,0,none⟩) c l).fp:=by simp [E.fp]
   have HGM:=Lib.hid hgm
   clear hgm
   rw [e0] at how
   clear e0
   obtain⟨ms,HMS⟩:∃ms,Hid (mB l k0 k=ms):=⟨_,rfl⟩
   rw [HMS.out] at how hml HN2
   have HEX:=Lib.hid ex
   clear ex
   have HML:=Lib.hid hml
   clear hml
   have H0:=Lib.hid how
   clear how
   have c0_0:wr.cell? ⟨g,k*4,none⟩=some (.int .i64 y0):=H0.out.cellx (j:=0) (u:=.int .i64 y0) (by simpa using HML.out) (gz HML.out _) rfl
   have c0_1:wr.cell? ⟨g,k*4+1,none⟩=some (.int .i64 y1):=H0.out.cellx (j:=1) (u:=.int .i64 y1) (by simpa using HML.out) (gz HML.out _) rfl
   have c0_2:wr.cell? ⟨g,k*4+2,none⟩=some (.string y2):=H0.out.cellx (j:=2) (u:=.string y2) (by simpa using HML.out) (gz HML.out _) rfl
   have c0_3:wr.cell? ⟨g,k*4+3,none⟩=some (.slice y3A y3l.length y3c):=H0.out.cellx (j:=3) (u:=.slice y3A y3l.length y3c) (by simpa using HML.out) (gz HML.out _) rfl
   have fz0:=H0.out.frzx
   go_wp2_with fail
   have H1:Hid ((E.lst 4 26 (some ⟨g,0,none⟩) c (ms.set k (E.agg [(E.int .i64 (q)),(E.int .i64 y1),(E.str y2),(E.lst 4 26 y3A y3c y3l)]))).Ho (wr.setCell ⟨g,k*4,none⟩ (.int .i64 (q))) lo hi):=H0.out.store (HN2.out _ (by first|rfl|(simp only [E.fp,E.fpL,E.mkcL_fp,E.mk0L_fp,E.mk0_fp,E.mkc_fp];done)|fail)) HML.out (E.agg [(E.int .i64 (q)),(E.int .i64 y1),(E.str y2),(E.lst 4 26 y3A y3c y3l)]) 0 (.int .i64 (q)) omq rfl (fun _ h=>h)
   clear H0
   have H2:Hid ((E.lst 4 26 (some ⟨g,0,none⟩) c (ms.set k (E.agg [(E.int .i64 (q)),(E.int .i64 (q+1)),(E.str y2),(E.lst 4 26 y3A y3c y3l)]))).Ho ((wr.setCell ⟨g,k*4,none⟩ (.int .i64 (q))).setCell ⟨g,k*4+1,none⟩ (.int .i64 (q+1))) lo hi):=H1.out.store (HN2.out _ (by first|rfl|(simp only [E.fp,E.fpL,E.mkcL_fp,E.mk0L_fp,E.mk0_fp,E.mkc_fp];done)|fail)) HML.out (E.agg [(E.int .i64 (q)),(E.int .i64 (q+1)),(E.str y2),(E.lst 4 26 y3A y3c y3l)]) 1 (.int .i64 (q+1)) omq rfl (fun _ h=>h)
   clear H1
   clear c0_0 c0_1 c0_2 c0_3 fz0
   go_at_call 55
   refine (jP _ _ omq).mono ?_;rintro e w1 ⟨rfl,hb1⟩
   have hz1:=hb1.size;(try simp only [World.size_setCell] at hz1)
   have H3:=Lib.hid (H2.out.below hb1 (by first|omega|(simp;omega)))
   clear H2
   have hF1:Fr (E.lst 4 26 (some ⟨g,0,none⟩) c l).fp w w1:=((hF0.set HGM.out (.int .i64 (q))).set HGM.out (.int .i64 (q+1))).trans (Fr.of_below hb1)
   have c1_0:w1.cell? ⟨g,k*4,none⟩=some (.int .i64 (q)):=H3.out.cellx (j:=0) (u:=.int .i64 (q)) (by simpa using HML.out) (gz HML.out _) rfl
   have c1_1:w1.cell? ⟨g,k*4+1,none⟩=some (.int .i64 (q+1)):=H3.out.cellx (j:=1) (u:=.int .i64 (q+1)) (by simpa using HML.out) (gz HML.out _) rfl
   have c1_2:w1.cell? ⟨g,k*4+2,none⟩=some (.string y2):=H3.out.cellx (j:=2) (u:=.string y2) (by simpa using HML.out) (gz HML.out _) rfl
   have c1_3:w1.cell? ⟨g,k*4+3,none⟩=some (.slice y3A y3l.length y3c):=H3.out.cellx (j:=3) (u:=.slice y3A y3l.length y3c) (by simpa using HML.out) (gz HML.out _) rfl
   have fz1:=H3.out.frzx
   go_wp2_with fail
   have H4:Hid ((E.lst 4 26 (some ⟨g,0,none⟩) c (ms.set k (E.agg [(E.int .i64 (q)),(E.int .i64 (q+1)),(E.str (d7 (q+1+1))),(E.lst 4 26 y3A y3c y3l)]))).Ho (w1.setCell ⟨g,k*4+2,none⟩ (.string (d7 (q+1+1)))) lo hi):=H3.out.store (HN2.out _ (by first|rfl|(simp only [E.fp,E.fpL,E.mkcL_fp,E.mk0L_fp,E.mk0_fp,E.mkc_fp];done)|fail)) HML.out (E.agg [(E.int .i64 (q)),(E.int .i64 (q+1)),(E.str (d7 (q+1+1))),(E.lst 4 26 y3A y3c y3l)]) 2 (.string (d7 (q+1+1))) omq rfl (fun _ h=>h)
   clear H3
   clear c1_0 c1_1 c1_2 c1_3 fz1
   have ho2:(E.lst 4 26 y3A y3c y3l).Ho (w1.setCell ⟨g,k*4+2,none⟩ (.string (d7 (q+1+1)))) lo hi:=(E.Ho.fld (i:=3) (H4.out.el (m0 HML.out _)) rfl)
   have HNn2:Hid ((E.lst 4 26 y3A y3c y3l).fp.Nodup):=(gK (show (E.fpL [(E.int .i64 (q)),(E.int .i64 (q+1)),(E.str (d7 (q+1+1))),(E.lst 4 26 y3A y3c y3l)]).Nodup from (gK (show (E.fpL (ms.set k (E.agg [(E.int .i64 (q)),(E.int .i64 (q+1)),(E.str (d7 (q+1+1))),(E.lst 4 26 y3A y3c y3l)]))).Nodup from (List.nodup_append.1 (show List.Nodup (_++_) from HN2.out (E.agg [(E.int .i64 (q)),(E.int .i64 (q+1)),(E.str (d7 (q+1+1))),(E.lst 4 26 y3A y3c y3l)]) (by first|rfl|(simp only [E.fp,E.fpL,E.mkcL_fp,E.mk0L_fp,E.mk0_fp,E.mkc_fp];done)|fail))).2.1) (m0 HML.out _))) (show (E.lst 4 26 y3A y3c y3l)∈[(E.int .i64 (q)),(E.int .i64 (q+1)),(E.str (d7 (q+1+1))),(E.lst 4 26 y3A y3c y3l)] by simp))
   go_at_call 32
   refine (HC3.out lo hi _ _ ho2 HNn2.out (by first|omega|(simp;omega)) omq omq).mono ?_;rintro e w2 ⟨rfl,hm2,hf2⟩
   have hz2:=hf2.size;(try simp only [World.size_setCell] at hz2)
   have hin2:(E.agg [(E.int .i64 (q)),(E.int .i64 (q+1)),(E.str (d7 (q+1+1))),(E.lst 4 26 y3A y3c (E.mkcL y3l (q+1+1+1)))]).Ho w2 lo hi:=(Ho_repl (i:=3) (H4.out.el (m0 HML.out _)) (gK (show (E.fpL (ms.set k (E.agg [(E.int .i64 (q)),(E.int .i64 (q+1)),(E.str (d7 (q+1+1))),(E.lst 4 26 y3A y3c y3l)]))).Nodup from (List.nodup_append.1 (show List.Nodup (_++_) from HN2.out (E.agg [(E.int .i64 (q)),(E.int .i64 (q+1)),(E.str (d7 (q+1+1))),(E.lst 4 26 y3A y3c y3l)]) (by first|rfl|(simp only [E.fp,E.fpL,E.mkcL_fp,E.mk0L_fp,E.mk0_fp,E.mkc_fp];done)|fail))).2.1) (m0 HML.out _)) (by simp) (show Fr (E.lst 4 26 y3A y3c y3l).fp _ _ from hf2) hm2)
   have H5:=Lib.hid (H4.out.inside (HN2.out _ (by first|rfl|(simp only [E.fp,E.fpL,E.mkcL_fp,E.mk0L_fp,E.mk0_fp,E.mkc_fp];done)|fail)) HML.out (E.agg [(E.int .i64 (q)),(E.int .i64 (q+1)),(E.str (d7 (q+1+1))),(E.lst 4 26 y3A y3c (E.mkcL y3l (q+1+1+1)))]) hf2 (fun b hb=>by simp only [E.fp,E.fpL,List.mem_append,List.nil_append,List.append_nil] at hb ⊢;simp [hb]) (by simp only [E.enc,E.encL,E.mkcL_len]) hin2)
   clear H4 hin2 ho2 hm2
   have hF2:Fr (E.lst 4 26 (some ⟨g,0,none⟩) c l).fp w w2:=(hF1.set HGM.out (.string (d7 (q+1+1)))).trans (hf2.sub (fun b hb=>HSB.out b (by simp only [E.fp,E.fpL,List.mem_append,List.nil_append,List.append_nil] at hb ⊢;simp [hb])))
   have c2_0:w2.cell? ⟨g,k*4,none⟩=some (.int .i64 (q)):=H5.out.cellx (j:=0) (u:=.int .i64 (q)) (by simpa using HML.out) (gz HML.out _) rfl
   have c2_1:w2.cell? ⟨g,k*4+1,none⟩=some (.int .i64 (q+1)):=H5.out.cellx (j:=1) (u:=.int .i64 (q+1)) (by simpa using HML.out) (gz HML.out _) rfl
   have c2_2:w2.cell? ⟨g,k*4+2,none⟩=some (.string (d7 (q+1+1))):=H5.out.cellx (j:=2) (u:=.string (d7 (q+1+1))) (by simpa using HML.out) (gz HML.out _) rfl
   have c2_3:w2.cell? ⟨g,k*4+3,none⟩=some (.slice y3A (E.mkcL y3l (q+1+1+1)).length y3c):=H5.out.cellx (j:=3) (u:=.slice y3A (E.mkcL y3l (q+1+1+1)).length y3c) (by simpa using HML.out) (gz HML.out _) rfl
   have fz2:=H5.out.frzx
   go_wp2
   go_roundw
   case rel =>
    have FF:∀t0 t1 t2 t3:Int,(q)=t0→(q+1)=t1→(q+1+1)=t2→(q+1+1+1)=t3→(E.agg [(E.int .i64 (q)),(E.int .i64 (q+1)),(E.str (d7 (q+1+1))),(E.lst 4 26 y3A y3c (E.mkcL y3l (q+1+1+1)))])=(E.agg [(E.int .i64 t0),(E.int .i64 t1),(E.str (d7 t2)),(E.lst 4 26 y3A y3c (E.mkcL y3l t3))]):=by
     intro t0 t1 t2 t3 ht0 ht1 ht2 ht3
     subst ht0
     subst ht1
     subst ht2
     subst ht3
     rfl
    have EX:(E.agg [(E.int .i64 (q)),(E.int .i64 (q+1)),(E.str (d7 (q+1+1))),(E.lst 4 26 y3A y3c (E.mkcL y3l (q+1+1+1)))])=(E.agg [.int .i64 y0,.int .i64 y1,.str y2,.lst 4 26 y3A y3c y3l]).mkc q:=FF _ _ _ _ (by first|rfl|omega|(show _=_;simp only [E.cnt,E.cntL,E.cntc,E.cntcL,reduceCtorEq,if_false,if_true,ite_false];omega)) (by first|rfl|omega|(show _=_;simp only [E.cnt,E.cntL,E.cntc,E.cntcL,reduceCtorEq,if_false,if_true,ite_false];omega)) (by first|rfl|omega|(show _=_;simp only [E.cnt,E.cntL,E.cntc,E.cntcL,reduceCtorEq,if_false,if_true,ite_false];omega)) (by first|rfl|omega|(show _=_;simp only [E.cnt,E.cntL,E.cntc,E.cntcL,reduceCtorEq,if_false,if_true,ite_false];omega))
    exact⟨k+1,_,omq,by go_num,rfl,(by show _=_;have e1:=HQ.out;have e2:=HT.out;rw [HEX.out,HCX.out] at e2;omega),hF2,(by show E.Ho _ _ _ _;rw [←uk l k0 k hlt,HEX.out,←HQ.out,←EX,HMS.out];exact H5.out)⟩
   case measure=>simp [intOf];omega
  ·have hk':k=l.length:=by omega
   subst hk'
   go_wp2
   go_ret
   have e1:=HQ.out
   rw [List.take_length] at e1
   have h:=HOW.out
   rw [yb] at h
   exact⟨ri e1,h,hF0⟩
theorem heldExprS_step' (A:Option Addr)(c:Nat)(l:List E)(h1:∀y∈l,y.Ty prog 26)(h2:∀y∈l,y.enc.length=4)(ih:∀y∈l,∀s∈y.subs,s.Ty prog 24→Hel 33 s):Hel 33 (.lst 4 26 A c l):=by
 intro k0 w hr h0 hk1
 have HCN:Hid ((E.lst 4 26 A c l).cnt=E.cntcL l):=rfl
 rw [HCN.out] at hk1
 change (E.lst 4 26 A c (E.mkcL l k0)).In w at hr
 have hs:=hr.sl
 have hlen:=hs.len_le
 rw [E.mkcL_len] at hlen
 change Calls _ _ #[.slice A l.length c,.int .i64 k0] w _
 rw [HCN.out]
 change Calls _ _ _ w fun r w'=>r=.returned (.int .i64 (k0+(E.cntcL l:Nat)))∧Below w.heap.size w w'
 go_enter func33,Tryz.ntmps33
 go_wp2
 go_loopw [1,5] (fun v i wr=>∃(k:Nat) (q:Int),k≤l.length∧i=.int .i64 k∧v=.int .i64 q∧Hid (q=k0+(E.cntcL (l.take k):Nat))∧Below w.heap.size w wr) (fun _ i _=>l.length-(intOf i).toNat)
 case atStart=>exact⟨0,k0,Nat.zero_le _,rfl,rfl,(by show _=_;simp [E.cntcL]),Below.refl _ _⟩
 case round =>
  obtain⟨k,q,hk,rfl,rfl,HQ,hb⟩:=hrel
  have hzb:=hb.size
  by_cases hlt:k<l.length
  ·have HT:=Lib.hid (E.cntcL_take l k hlt)
   have hq0:0≤q:=by have:=HQ.out;omega
   have hlm:k<(E.mkcL l k0).length:=by rw [E.mkcL_len];exact hlt
   obtain⟨y0,y1,y2,y3A,y3c,y3l,ex,gy0,gy1,gy2,gy3,-⟩:=aO (h1 _ (List.getElem_mem hlt))
   have HC3:=Lib.hid (ih _ (List.getElem_mem hlt) (E.lst 4 26 y3A y3c y3l) (by rw [ex];simp [E.subs]) (E.Ty.mk_lst underlying24 (by kernel_rfl) gy3.1 gy3.2))
   have HCX:Hid ((E.agg [.int .i64 y0,.int .i64 y1,.str y2,.lst 4 26 y3A y3c y3l]).cntc=(1+(1+(1+((E.lst 4 26 y3A y3c y3l).cnt+0))))):=rfl
   have hq1:q+(((1+(1+(1+((E.lst 4 26 y3A y3c y3l).cnt+0)))):Nat):Int)≤1152921504606846976:=by have e1:=HQ.out;have e2:=HT.out;have e3:=E.cntcL_le l (k+1);rw [ex,HCX.out] at e2;omega
   have FF:∀t0 t1 t2 t3:Int,(q)=t0→(q+1)=t1→(q+1+1)=t2→(q+1+1+1)=t3→(E.agg [(E.int .i64 (q)),(E.int .i64 (q+1)),(E.str (d7 (q+1+1))),(E.lst 4 26 y3A y3c (E.mkcL y3l (q+1+1+1)))])=(E.agg [(E.int .i64 t0),(E.int .i64 t1),(E.str (d7 t2)),(E.lst 4 26 y3A y3c (E.mkcL y3l t3))]):=by
    intro t0 t1 t2 t3 ht0 ht1 ht2 ht3
    subst ht0
    subst ht1
    subst ht2
    subst ht3
    rfl
   have EX:(E.agg [(E.int .i64 (q)),(E.int .i64 (q+1)),(E.str (d7 (q+1+1))),(E.lst 4 26 y3A y3c (E.mkcL y3l (q+1+1+1)))])=(E.agg [.int .i64 y0,.int .i64 y1,.str y2,.lst 4 26 y3A y3c y3l]).mkc q:=FF _ _ _ _ (by first|rfl|omega|(show _=_;simp only [E.cnt,E.cntL,E.cntc,E.cntcL,reduceCtorEq,if_false,if_true,ite_false];omega)) (by first|rfl|omega|(show _=_;simp only [E.cnt,E.cntL,E.cntc,E.cntcL,reduceCtorEq,if_false,if_true,ite_false];omega)) (by first|rfl|omega|(show _=_;simp only [E.cnt,E.cntL,E.cntc,E.cntcL,reduceCtorEq,if_false,if_true,ite_false];omega)) (by first|rfl|omega|(show _=_;simp only [E.cnt,E.cntL,E.cntc,E.cntcL,reduceCtorEq,if_false,if_true,ite_false];omega))
   have hs':=hs.below hb (Nat.le_refl _)
   have hin:=(hr.el (List.getElem_mem hlm)).below hb (Nat.le_refl _)
   obtain⟨b,o,rfl,hbl,hc⟩:=hs'.at_ hlm
   rw [E.mkcL_at l k0 k hlt,ex,←HQ.out,←EX] at hc hin
   clear EX FF
   have HEX:=Lib.hid ex
   clear ex hlm hs'
   have c0_0:wr.cell? ⟨b,o+k*4,none⟩=some (.int .i64 (q)):=by have h:=hc 0 _ rfl;exact h
   have c0_1:wr.cell? ⟨b,o+k*4+1,none⟩=some (.int .i64 (q+1)):=by have h:=hc 1 _ rfl;exact h
   have c0_2:wr.cell? ⟨b,o+k*4+2,none⟩=some (.string (d7 (q+1+1))):=by have h:=hc 2 _ rfl;exact h
   have c0_3:wr.cell? ⟨b,o+k*4+3,none⟩=some (.slice y3A y3l.length y3c):=by have h:=hc 3 _ rfl;simpa only [Nat.mul_one,Nat.add_zero,E.mkcL_len] using h
   clear hc
   have hi3:((E.lst 4 26 y3A y3c y3l).mk0 (q+1+1+1)).In wr:=(E.In.fld (i:=3) hin rfl)
   clear hin
   go_wp2_with fail
   go_region_held3 (fun w'=>w'.cell? ⟨b,o+k*4+2,none⟩=some (.string (d7 (q+1+1)))) (first|assumption|skip) ((go_at_call 55;refine (jP _ _ omq).mono ?_;rintro e w1 ⟨rfl,hb1⟩;have hz1:=hb1.size;(try simp only [World.size_alloc,World.size_drew,World.heap_drewN,World.size_setCell] at hz1);have c1_2:=dh hb1 c0_2 (by first|omega|(simp;omega));have c1_3:=dh hb1 c0_3 (by first|omega|(simp;omega));have hi3:((E.lst 4 26 y3A y3c y3l).mk0 (q+1+1+1)).In w1:=by3))
   go_wp2_with fail
   go_at_call 33
   refine (HC3.out _ _ hi3 omq omq).mono ?_;rintro e w2 ⟨rfl,hb2⟩;have hz2:=hb2.size;have c2_3:=dh hb2 c1_3 (by first|omega|(simp;omega))
   go_wp2_with fail
   go_roundw
   case rel=>exact⟨k+1,_,omq,by go_num,rfl,(by show _=_;have e1:=HQ.out;have e2:=HT.out;rw [HEX.out,HCX.out] at e2;omega),by exact by0⟩
   case measure=>simp [intOf];omega
  ·have hk':k=l.length:=by omega
   subst hk'
   go_wp2
   go_ret
   have e1:=HQ.out
   rw [List.take_length] at e1
   exact⟨ri e1,hb⟩
theorem ml {e:E}(ht:e.Ty prog 24)(ih:∀y:E,y∈e.elems→∀s∈y.subs,s.Ty prog 24→Mar 32 s):Mar 32 e:=by
 obtain⟨A,c,l,rfl,h1,h2⟩:=ht.lst_ underlying24 (k:=4) (by kernel_rfl)
 exact markExprS_step' A c l h1 h2 ih
theorem mm {e:E}(ht:e.Ty prog 24)(ih:∀y:E,y∈e.elems→∀s∈y.subs,s.Ty prog 24→Hel 33 s):Hel 33 e:=by
 obtain⟨A,c,l,rfl,h1,h2⟩:=ht.lst_ underlying24 (k:=4) (by kernel_rfl)
 exact heldExprS_step' A c l h1 h2 ih
theorem nk:∀e:E,(e.Ty prog 24→Mar 32 e)∧(∀s∈e.subs,s.Ty prog 24→Mar 32 s):=by
 intro e
 induction e using E.ind with
 | h1|h2|h3=>exact⟨(fun h=>by obtain⟨_,_,_,h,_⟩:=h.lst_ underlying24 rfl;cases h),fun s hs=>by simp [E.subs] at hs⟩
 | h4 fs ih=>exact⟨(fun h=>by obtain⟨_,_,_,h,_⟩:=h.lst_ underlying24 rfl;cases h),fun s hs h=>(ih s hs).1 h⟩
 | h5 k T A c l ih=>exact⟨fun h=>ml h (fun y hm s hs=>(ih y hm).2 s hs),fun s hs=>by simp [E.subs] at hs⟩
theorem np {e:E}(ht:e.Ty prog 24):Mar 32 e:=(nk e).1 ht
theorem oQ {e:E}(ht:e.Ty prog 26):Mar 15 e:=ni ht (fun s hs hm=>np hs)
theorem nq:∀e:E,(e.Ty prog 24→Hel 33 e)∧(∀s∈e.subs,s.Ty prog 24→Hel 33 s):=by
 intro e
 induction e using E.ind with
 | h1|h2|h3=>exact⟨(fun h=>by obtain⟨_,_,_,h,_⟩:=h.lst_ underlying24 rfl;cases h),fun s hs=>by simp [E.subs] at hs⟩
 | h4 fs ih=>exact⟨(fun h=>by obtain⟨_,_,_,h,_⟩:=h.lst_ underlying24 rfl;cases h),fun s hs h=>(ih s hs).1 h⟩
 | h5 k T A c l ih=>exact⟨fun h=>mm h (fun y hm s hs=>(ih y hm).2 s hs),fun s hs=>by simp [E.subs] at hs⟩
theorem nu {e:E}(ht:e.Ty prog 24):Hel 33 e:=(nq e).1 ht
theorem jQ {e:E}(ht:e.Ty prog 26):Hel 16 e:=nj ht (fun s hs hm=>nu hs)
section
variable {P:Program}{tm:Nat→AV}{hp:Nat→Option Row}{gn L:Nat}{us:List Nat}
theorem jR (id:Nat){t:Nat}(T:TypeId)(k:Nat)(ht:tm t=.c (.v (.slice none 0 0)))(hf:(Nat.ble gn id&&!us.contains id)=true) :
 Gh ⟨tm,hp,gn,us,L⟩ ⟨upd tm t (.c (.sl id 0)),upd hp id (some ⟨T,k,0,false,[]⟩),gn,id :: us,L⟩:=by
 simp only [Bool.and_eq_true,Nat.ble_eq,Bool.not_eq_true'] at hf
 rintro C a w ⟨φ,F,St,h⟩
 obtain⟨φ',F',St',h',hv⟩:=h.newSlice (id:=id) hf.1 (fun hm=>by have:=hf.2;simp at this;exact this hm) (Stp.refl none w) (fun b hb=>by cases hb) (CRL.nil) (fun b hb=>absurd hb List.not_mem_nil) (World.ownsRow_nil w 0 T k) (by simp [obl,Value.ownBlock]) (fun b hb=>by simp [obl,Value.ownBlock] at hb)
 refine⟨φ',F',St',h'.dfr,h'.len,fun t'=>?_,h'.row,h'.nod,h'.dis,h'.bxF,h'.bxd,h'.stF,h'.stB,h'.frm,h'.own,h'.par,h'.new,h'.gnN,h'.stS⟩
 show VR w St' φ' _ (upd tm t _ t') _
 by_cases e:t'=t
 ·subst e
  rw [aM]
  have:=h.tms t'
  change VR w St φ _ (tm t') _ at this
  rw [ht] at this
  simp only [VR,CR] at this
  rw [this.1];exact hv
 ·rw [aY _ _ e];exact h'.tms t'
end
section
variable {P:Program}{ops:Array Oper}{Q:Exit→Act→World→Prop}{C:Ctx}{H H':List (Nat×Oper×Inf)}{i:Nat}{r:List Nat}{o:Oper}{dr:Bool}
variable {tm:Nat→AV}{hp:Nat→Option Row}{gn L:Nat}{us:List Nat}{x:AV}
theorem bp {I:Inf}:chk false ops i o I H=true:=rfl
theorem w_eq {t:Nat}{y:AV}(hop:ops[i]? = some o)(hd:o.dst=some t)(ht:Nat.blt t L=true)(hg:gw ops tm o=some true)(he:EffD P o (AS.ev ⟨tm,hp,gn,us,L⟩) hp 0=some (x,.nop))(hy:x=y)
 (hc:chk dr ops i o ⟨fpO (AS.ev ⟨tm,hp,gn,us,L⟩) o,[],[],y⟩ H=true) (h:Walk P ops Q C dr (bE dr (i,o,⟨fpO (AS.ev ⟨tm,hp,gn,us,L⟩) o,[],[],y⟩) H) r ⟨upd tm t y,hp,gn,us,L⟩):Walk P ops Q C dr H (i :: r) ⟨tm,hp,gn,us,L⟩:=by
 subst hy
 exact sX 0 hop hd ht hg he hc h
theorem zp6 {t:Nat}{b:Bool}(hop:ops[i]? = some o)(hd:o.dst=some t)(ht:Nat.blt t L=true)(hg:gw ops tm o=some true)(he:EffD P o (AS.ev ⟨tm,hp,gn,us,L⟩) hp 0=some (.c (.v (.bool b)),.nop))
 (hc1:chk dr ops i o ⟨fpO (AS.ev ⟨tm,hp,gn,us,L⟩) o,[],[],.c (.v (.bool true))⟩ H=true) (hc2:chk dr ops i o ⟨fpO (AS.ev ⟨tm,hp,gn,us,L⟩) o,[],[],.c (.v (.bool false))⟩ H=true)
 (h1:b=true→Walk P ops Q C dr (bE dr (i,o,⟨fpO (AS.ev ⟨tm,hp,gn,us,L⟩) o,[],[],.c (.v (.bool true))⟩) H) r ⟨upd tm t (.c (.v (.bool true))),hp,gn,us,L⟩)
 (h2:b=false→Walk P ops Q C dr (bE dr (i,o,⟨fpO (AS.ev ⟨tm,hp,gn,us,L⟩) o,[],[],.c (.v (.bool false))⟩) H) r ⟨upd tm t (.c (.v (.bool false))),hp,gn,us,L⟩):Walk P ops Q C dr H (i :: r) ⟨tm,hp,gn,us,L⟩:=by
 cases b with
 | true=>exact sX 0 hop hd ht hg he hc1 (h1 rfl)
 | false=>exact sX 0 hop hd ht hg he hc2 (h2 rfl)
end
theorem cvC_sl' {hp:Nat→Option Row}{D:List Nat}{i n k:Nat}{rw:Row}{l:List AC}(hr:hp i=some rw)(hb:rw.box=false)(hn:rw.n=n)(hk:rw.k=k)(hc:bl rw.cs=true)(hl:gh rw.cs=l):cvC hp D (.sl i n)=.ro n k l:=by
 subst hk
 exact zo6 hr hb hn hc hl
end Go.Proofs.YtomolhbkdhjofaaGreatDoor
