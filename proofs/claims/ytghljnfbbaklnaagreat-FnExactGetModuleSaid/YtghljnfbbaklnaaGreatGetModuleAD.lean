/- The type MFn, and slices of it: shape; the laws' own functions. -/
import Derived.Test.YtghljnfbbaklnaaGreatGetModuleAC
namespace Go.Proofs.YtghljnfbbaklnaaGreat
open Go.RowKit
theorem za3 {e:E}(h:e.Ty Tryz.prog 79):∃(x0:Int) (x1A:Option Addr) (x1c:Nat) (x1l:List E),e=(E.agg [.int .i64 x0,.lst 2 82 x1A x1c x1l])∧((Lit.int .i64 x0).wf=true)∧((∀y∈x1l,y.Ty Tryz.prog 82)∧(∀y∈x1l,y.enc.length=2))∧True:=by
 obtain⟨fs,rfl,q0⟩:=h.agg_ Tryz.underlying79
 change E.TyF _ _ [3,77] at q0
 obtain⟨e0,r0,rfl,h0,q1⟩:=q0.cons_
 obtain⟨e1,r1,rfl,h1,q2⟩:=q1.cons_
 obtain rfl:=q2.nil_
 obtain⟨x0,rfl,gx0⟩:=h0.int_ Tryz.underlying3
 obtain⟨x1A,x1c,x1l,rfl,gx1,gx1'⟩:=h1.lst_ Tryz.underlying77 (k:=2) (by kernel_rfl)
 exact⟨x0,x1A,x1c,x1l,rfl,gx0,⟨gx1,gx1'⟩,trivial⟩
set_option maxRecDepth 100000 in
set_option maxHeartbeats 1000000 in
theorem eqMFn_all {e e':E}(ht:e.Ty Tryz.prog 79)(ht':e'.Ty Tryz.prog 79):Eq 116 e e':=by
 obtain⟨x0,x1A,x1c,x1l,rfl,gx0,gx1,-⟩:=za3 ht
 obtain⟨y0,y1A,y1c,y1l,rfl,gy0,gy1,-⟩:=za3 ht'
 intro hd w hr hr'
 simp only [E.d,E.dL,E.agg.injEq,List.cons.injEq,E.int.injEq,E.str.injEq,E.bool.injEq,E.lst.injEq,true_and,and_true] at hd
 obtain⟨rfl,hd1⟩:=hd
 have hr1:=((hr.fld (i:=1) rfl).alloc (.cells #[.int .i64 x0,.slice x1A x1l.length x1c] 79)).alloc (.cells #[.int .i64 x0,.slice y1A y1l.length y1c] 79)
 have hs1:=((hr'.fld (i:=1) rfl).alloc (.cells #[.int .i64 x0,.slice x1A x1l.length x1c] 79)).alloc (.cells #[.int .i64 x0,.slice y1A y1l.length y1c] 79)
 have t1:(E.lst 2 82 x1A x1c x1l).Ty Tryz.prog 77:=E.Ty.mk_lst Tryz.underlying77 (by kernel_rfl) gx1.1 gx1.2
 have u1:(E.lst 2 82 y1A y1c y1l).Ty Tryz.prog 77:=E.Ty.mk_lst Tryz.underlying77 (by kernel_rfl) gy1.1 gy1.2
 have HC1:=Lib.hid (zl21 t1 u1 (by simp only [E.d,E.dL,E.agg.injEq,List.cons.injEq,E.int.injEq,E.str.injEq,E.bool.injEq,E.lst.injEq,true_and,and_true];exact hd1))
 clear t1 u1
 clear hd1
 change Calls _ _ #[.agg #[.int .i64 x0,.slice x1A x1l.length x1c],.agg #[.int .i64 x0,.slice y1A y1l.length y1c]] w _
 go_enter Tryz.func116,Tryz.ntmps116
 go_wp2_with fail
 go_at_call 167
 refine (HC1.out _ hr1 hs1).mono ?_;rintro e w1 ⟨rfl,hb1⟩
 have hz1:=hb1.size;(try simp only [World.size_alloc] at hz1)
 go_wp2
 go_ret
 exact⟨rfl,by0⟩
set_option maxRecDepth 100000 in
set_option maxHeartbeats 1000000 in
theorem eqMFnS_all' (A B:Option Addr)(c c':Nat)(l m:List E)(h1:∀y∈l,y.Ty Tryz.prog 79)(h2:∀y∈m,y.Ty Tryz.prog 79):Eq 44 (.lst 2 79 A c l) (.lst 2 79 B c' m):=by
 intro hd w hr hr'
 rw [ze20] at hd
 have hs:=hr.sl
 have hs':=hr'.sl
 have hml:=zu21 hd
 have HD:=Lib.hid hd
 clear hd
 have hlen:=hs.len_le
 change Calls _ _ #[.slice A l.length c,.slice B m.length c'] w _
 obtain⟨N,HN⟩:∃N,Hid (m.length=N):=⟨_,rfl⟩
 have hN:N=l.length:=by have:=HN.out;omega
 subst hN
 rw [HN.out]
 clear hml
 go_enter Tryz.func44,Tryz.ntmps44
 go_wp2
 go_loopw [5] (fun i wr=>∃(k:Nat),k≤l.length∧i=.int .i64 k∧Below w.heap.size w wr) (fun i _=>l.length-(intOf i).toNat)
 case atStart=>exact⟨0,Nat.zero_le _,rfl,Below.refl _ _⟩
 case round =>
  obtain⟨k,hk,rfl,hb⟩:=hrel
  by_cases hlt:k<l.length
  ·have hltm:k<m.length:=by have:=HN.out;omega
   have hsb:=hs.below hb (Nat.le_refl _)
   have hsb':=hs'.below hb (Nat.le_refl _)
   have hdk:=d_at HD.out hlt hltm
   obtain⟨b,o,rfl,_,hc⟩:=hsb.at_ hlt
   obtain⟨b',o',rfl,_,hd⟩:=hsb'.at_ hltm
   have hin:=(hr.el (List.getElem_mem hlt)).below hb (Nat.le_refl _)
   have hin':=(hr'.el (List.getElem_mem hltm)).below hb (Nat.le_refl _)
   have H:=eqMFn_all (h1 _ (List.getElem_mem hlt)) (h2 _ (List.getElem_mem hltm)) hdk
   obtain⟨x0,x1A,x1c,x1l,ex,gx0,gx1,-⟩:=za3 (h1 _ (List.getElem_mem hlt))
   obtain⟨y0,y1A,y1c,y1l,ey,gy0,gy1,-⟩:=za3 (h2 _ (List.getElem_mem hltm))
   rw [ex] at hc hin
   rw [ey] at hd hin'
   rw [ex,ey] at H
   clear ex ey hdk
   have c0:=hc 0 _ rfl;have c1:=hc 1 _ rfl
   have d0:=hd 0 _ rfl;have d1:=hd 1 _ rfl
   rw [Nat.add_zero] at c0 d0
   clear hc hd
   have hzb:=hb.size
   have HH:=Lib.hid H
   clear H
   go_wp2
   go_region_held3 (fun w'=>w'.cell? ⟨b,o+k*2,none⟩=some (.int .i64 x0)∧w'.cell? ⟨b,o+k*2+1,none⟩=some (.slice x1A x1l.length x1c)∧w'.cell? ⟨b',o'+k*2,none⟩=some (.int .i64 y0)∧w'.cell? ⟨b',o'+k*2+1,none⟩=some (.slice y1A y1l.length y1c))
    (first|exact⟨c0,c1,d0,d1⟩|skip)
    ((go_at_call 116;refine (HH.out _ by2 by2).mono ?_;rintro e w1 ⟨rfl,hb1⟩;have c0:=zc1 hb1 c0 by1;have c1:=zc1 hb1 c1 by1;have d0:=zc1 hb1 d0 by1;have d1:=zc1 hb1 d1 by1))
   go_wp2
   go_roundw
   case rel=>exact⟨k+1,by omega,by go_num,by exact by0⟩
   case measure=>simp [intOf];omega
  ·go_wp2
   go_ret
   exact⟨rfl,hb⟩
theorem zn21 {e e':E}(ht:e.Ty Tryz.prog 31)(ht':e'.Ty Tryz.prog 31):Eq 44 e e':=by
 obtain⟨A,c,l,rfl,h1,_⟩:=ht.lst_ Tryz.underlying31 (k:=2) (by kernel_rfl)
 obtain⟨B,c',m,rfl,h2,_⟩:=ht'.lst_ Tryz.underlying31 (k:=2) (by kernel_rfl)
 exact eqMFnS_all' A B c c' l m h1 h2
set_option maxRecDepth 100000 in
set_option maxHeartbeats 1000000 in
theorem markMFnS_all' (A:Option Addr)(c:Nat)(l:List E)(h1:∀y∈l,y.Ty Tryz.prog 79)(h2:∀y∈l,y.enc.length=2):Mar 47 (.lst 2 79 A c l):=by
 intro lo hi k0 w ho hnd hhi hk0 hk1
 have HCN:Hid ((E.lst 2 79 A c l).cnt=E.cntcL l):=rfl
 rw [HCN.out] at hk1
 have HND:=Lib.hid hnd
 clear hnd
 have hlen:=ho.re.sl.len_le
 have how0:=ho
 rw [←ze6 l k0] at how0
 clear ho
 change Calls _ _ #[.slice A l.length c,.int .i64 k0] w _
 rw [HCN.out]
 change Calls _ _ _ w fun r w'=>r=.returned (.int .i64 (k0+(E.cntcL l:Nat)))∧(E.lst 2 79 A c (E.mkcL l k0)).Ho w' lo hi∧Fr (E.lst 2 79 A c l).fp w w'
 go_enter Tryz.func47,Tryz.ntmps47
 go_wp2
 go_loopw [1,5] (fun v i wr=>∃(k:Nat) (q:Int),k≤l.length∧i=.int .i64 k∧v=.int .i64 q∧Hid (q=k0+(E.cntcL (l.take k):Nat))∧Fr (E.lst 2 79 A c l).fp w wr∧Hid ((E.lst 2 79 A c (mixM l k0 k)).Ho wr lo hi)) (fun _ i _=>l.length-(intOf i).toNat)
 case atStart=>exact⟨0,k0,Nat.zero_le _,rfl,rfl,(by show _=_;simp [E.cntcL]),Fr.refl _ _,how0⟩
 case round =>
  obtain⟨k,q,hk,rfl,rfl,HQ,hF0,HOW⟩:=hrel
  have hzk:=hF0.size
  by_cases hlt:k<l.length
  ·have HT:=Lib.hid (E.cntcL_take l k hlt)
   have hq0:0≤q:=by have:=HQ.out;omega
   have hml:k<(mixM l k0 k).length:=by rw [zr6];exact hlt
   have how:=HOW.out
   obtain⟨g,rfl,hg1,hg2,hg3⟩:=how.head (by omega)
   obtain⟨y0,y1A,y1c,y1l,ex,gy0,gy1,-⟩:=za3 (h1 _ (List.getElem_mem hlt))
   have HC1:=Lib.hid (zg16 (show (E.lst 2 82 y1A y1c y1l).Ty Tryz.prog 77 from E.Ty.mk_lst Tryz.underlying77 (by kernel_rfl) gy1.1 gy1.2))
   have HCX:Hid ((E.agg [.int .i64 y0,.lst 2 82 y1A y1c y1l]).cntc=(1+((E.lst 2 82 y1A y1c y1l).cnt+0))):=rfl
   have hq1:q+(((1+((E.lst 2 82 y1A y1c y1l).cnt+0)):Nat):Int)≤1152921504606846976:=by have e1:=HQ.out;have e2:=HT.out;have e3:=E.cntcL_le l (k+1);rw [ex,HCX.out] at e2;omega
   have e0:mixM l k0 k=(mixM l k0 k).set k (E.agg [.int .i64 y0,.lst 2 82 y1A y1c y1l]):=by rw [←ex,←zn5 l k0 k hlt];exact (List.set_getElem_self _).symm
   have HN2:=Lib.hid (fun (z:E) (hz:z.fp=(E.agg [.int .i64 y0,.lst 2 82 y1A y1c y1l]).fp)=>(show (E.lst 2 79 (some ⟨g,0,none⟩) c ((mixM l k0 k).set k z)).fp.Nodup by have hh:=HND.out;have h3:E.fpL ((mixM l k0 k).set k z)=E.fpL l:=(E.fpL_set hml (by rw [hz,←ex,zn5 l k0 k hlt])).trans (zf10 l k0 k);simp only [E.fp] at hh ⊢;rw [h3];exact hh))
   have HSB:=Lib.hid (fun (b:Nat) (hb:b∈(E.agg [.int .i64 y0,.lst 2 82 y1A y1c y1l]).fp)=>(show b∈(E.lst 2 79 (some ⟨g,0,none⟩) c l).fp by simp only [E.fp];exact List.mem_append_right _ (E.mem_fpL.2 ⟨l[k],List.getElem_mem hlt,by rw [ex];exact hb⟩)))
   have hgm:g∈(E.lst 2 79 (some ⟨g,0,none⟩) c l).fp:=by simp [E.fp]
   have HGM:=Lib.hid hgm
   clear hgm
   rw [e0] at how
   clear e0
   obtain⟨ms,HMS⟩:∃ms,Hid (mixM l k0 k=ms):=⟨_,rfl⟩
   rw [HMS.out] at how hml HN2
   have HEX:=Lib.hid ex
   clear ex
   have HML:=Lib.hid hml
   clear hml
   have H0:=Lib.hid how
   clear how
   have c0_0:wr.cell? ⟨g,k*2,none⟩=some (.int .i64 y0):=H0.out.cellx (j:=0) (u:=.int .i64 y0) (by simpa using HML.out) (zy4 HML.out _) rfl
   have c0_1:wr.cell? ⟨g,k*2+1,none⟩=some (.slice y1A y1l.length y1c):=H0.out.cellx (j:=1) (u:=.slice y1A y1l.length y1c) (by simpa using HML.out) (zy4 HML.out _) rfl
   have fz0:=H0.out.frzx
   go_wp2_with fail
   have H1:Hid ((E.lst 2 79 (some ⟨g,0,none⟩) c (ms.set k (E.agg [(E.int .i64 (q)),(E.lst 2 82 y1A y1c y1l)]))).Ho (wr.setCell ⟨g,k*2,none⟩ (.int .i64 (q))) lo hi):=H0.out.store (HN2.out _ rfl) HML.out (E.agg [(E.int .i64 (q)),(E.lst 2 82 y1A y1c y1l)]) 0 (.int .i64 (q)) (by omega) rfl (fun _ h=>h)
   clear H0
   clear c0_0 c0_1 fz0
   have ho1:(E.lst 2 82 y1A y1c y1l).Ho (wr.setCell ⟨g,k*2,none⟩ (.int .i64 (q))) lo hi:=(E.Ho.fld (i:=1) (H1.out.el (ze13 HML.out _)) rfl)
   have HNn1:Hid ((E.lst 2 82 y1A y1c y1l).fp.Nodup):=(zx4 (show (E.fpL [(E.int .i64 (q)),(E.lst 2 82 y1A y1c y1l)]).Nodup from (zx4 (show (E.fpL (ms.set k (E.agg [(E.int .i64 (q)),(E.lst 2 82 y1A y1c y1l)]))).Nodup from (List.nodup_append.1 (show List.Nodup (_++_) from HN2.out (E.agg [(E.int .i64 (q)),(E.lst 2 82 y1A y1c y1l)]) rfl)).2.1) (ze13 HML.out _))) (show (E.lst 2 82 y1A y1c y1l)∈[(E.int .i64 (q)),(E.lst 2 82 y1A y1c y1l)] by simp))
   go_at_call 118
   refine (HC1.out lo hi _ _ ho1 HNn1.out (by first|omega|(simp;omega)) (by omega) (by omega)).mono ?_;rintro e w1 ⟨rfl,hm1,hf1⟩
   have hz1:=hf1.size;(try simp only [World.size_setCell] at hz1)
   have hin1:(E.agg [(E.int .i64 (q)),(E.lst 2 82 y1A y1c (E.mkcL y1l (q+1)))]).Ho w1 lo hi:=(Ho_repl (i:=1) (H1.out.el (ze13 HML.out _)) (zx4 (show (E.fpL (ms.set k (E.agg [(E.int .i64 (q)),(E.lst 2 82 y1A y1c y1l)]))).Nodup from (List.nodup_append.1 (show List.Nodup (_++_) from HN2.out (E.agg [(E.int .i64 (q)),(E.lst 2 82 y1A y1c y1l)]) rfl)).2.1) (ze13 HML.out _)) (by simp) (show Fr (E.lst 2 82 y1A y1c y1l).fp _ _ from hf1) hm1)
   have H2:=Lib.hid (H1.out.inside (HN2.out _ rfl) HML.out (E.agg [(E.int .i64 (q)),(E.lst 2 82 y1A y1c (E.mkcL y1l (q+1)))]) hf1 (fun b hb=>by simp only [E.fp,E.fpL,List.mem_append,List.nil_append,List.append_nil] at hb ⊢;simp [hb]) (by simp only [E.enc,E.encL,E.mkcL_len]) hin1)
   clear H1 hin1 ho1 hm1
   have hF1:Fr (E.lst 2 79 (some ⟨g,0,none⟩) c l).fp w w1:=(hF0.set HGM.out (.int .i64 (q))).trans (hf1.sub (fun b hb=>HSB.out b (by simp only [E.fp,E.fpL,List.mem_append,List.nil_append,List.append_nil] at hb ⊢;simp [hb])))
   have c1_0:w1.cell? ⟨g,k*2,none⟩=some (.int .i64 (q)):=H2.out.cellx (j:=0) (u:=.int .i64 (q)) (by simpa using HML.out) (zy4 HML.out _) rfl
   have c1_1:w1.cell? ⟨g,k*2+1,none⟩=some (.slice y1A (E.mkcL y1l (q+1)).length y1c):=H2.out.cellx (j:=1) (u:=.slice y1A (E.mkcL y1l (q+1)).length y1c) (by simpa using HML.out) (zy4 HML.out _) rfl
   have fz1:=H2.out.frzx
   go_wp2
   go_roundw
   case rel =>
    have FF:∀t0 t1:Int,(q)=t0→(q+1)=t1→(E.agg [(E.int .i64 (q)),(E.lst 2 82 y1A y1c (E.mkcL y1l (q+1)))])=(E.agg [(E.int .i64 t0),(E.lst 2 82 y1A y1c (E.mkcL y1l t1))]):=by
     intro t0 t1 ht0 ht1
     subst ht0
     subst ht1
     rfl
    have EX:(E.agg [(E.int .i64 (q)),(E.lst 2 82 y1A y1c (E.mkcL y1l (q+1)))])=(E.agg [.int .i64 y0,.lst 2 82 y1A y1c y1l]).mkc q:=FF _ _ (by first|rfl|omega|(show _=_;simp only [E.cnt,E.cntL,E.cntc,E.cntcL,reduceCtorEq,if_false,if_true,ite_false];omega)) (by first|rfl|omega|(show _=_;simp only [E.cnt,E.cntL,E.cntc,E.cntcL,reduceCtorEq,if_false,if_true,ite_false];omega))
    exact⟨k+1,_,by omega,by go_num,rfl,(by show _=_;have e1:=HQ.out;have e2:=HT.out;rw [HEX.out,HCX.out] at e2;omega),hF1,(by show E.Ho _ _ _ _;rw [←zf6 l k0 k hlt,HEX.out,←HQ.out,←EX,HMS.out];exact H2.out)⟩
   case measure=>simp [intOf];omega
  ·have hk':k=l.length:=by omega
   subst hk'
   go_wp2
   go_ret
   have e1:=HQ.out
   rw [List.take_length] at e1
   have h:=HOW.out
   rw [zl7] at h
   exact⟨ri e1,h,hF0⟩
set_option maxRecDepth 100000 in
set_option maxHeartbeats 1000000 in
theorem heldMFnS_all' (A:Option Addr)(c:Nat)(l:List E)(h1:∀y∈l,y.Ty Tryz.prog 79)(h2:∀y∈l,y.enc.length=2):Hel 91 (.lst 2 79 A c l):=by
 intro k0 w hr h0 hk1
 have HCN:Hid ((E.lst 2 79 A c l).cnt=E.cntcL l):=rfl
 rw [HCN.out] at hk1
 change (E.lst 2 79 A c (E.mkcL l k0)).In w at hr
 have hs:=hr.sl
 have hlen:=hs.len_le
 rw [E.mkcL_len] at hlen
 change Calls _ _ #[.slice A l.length c,.int .i64 k0] w _
 rw [HCN.out]
 change Calls _ _ _ w fun r w'=>r=.returned (.int .i64 (k0+(E.cntcL l:Nat)))∧Below w.heap.size w w'
 go_enter Tryz.func91,Tryz.ntmps91
 go_wp2
 go_loopw [1,5] (fun v i wr=>∃(k:Nat) (q:Int),k≤l.length∧i=.int .i64 k∧v=.int .i64 q∧Hid (q=k0+(E.cntcL (l.take k):Nat))∧Below w.heap.size w wr) (fun _ i _=>l.length-(intOf i).toNat)
 case atStart=>exact⟨0,k0,Nat.zero_le _,rfl,rfl,(by show _=_;simp [E.cntcL]),Below.refl _ _⟩
 case round =>
  obtain⟨k,q,hk,rfl,rfl,HQ,hb⟩:=hrel
  have hzb:=hb.size
  by_cases hlt:k<l.length
  ·have HT:=Lib.hid (E.cntcL_take l k hlt)
   have hq0:0≤q:=by have:=HQ.out;omega
   have hlm:k<(E.mkcL l k0).length:=by rw [E.mkcL_len];exact hlt
   obtain⟨y0,y1A,y1c,y1l,ex,gy0,gy1,-⟩:=za3 (h1 _ (List.getElem_mem hlt))
   have HC1:=Lib.hid (zh16 (show (E.lst 2 82 y1A y1c y1l).Ty Tryz.prog 77 from E.Ty.mk_lst Tryz.underlying77 (by kernel_rfl) gy1.1 gy1.2))
   have HCX:Hid ((E.agg [.int .i64 y0,.lst 2 82 y1A y1c y1l]).cntc=(1+((E.lst 2 82 y1A y1c y1l).cnt+0))):=rfl
   have hq1:q+(((1+((E.lst 2 82 y1A y1c y1l).cnt+0)):Nat):Int)≤1152921504606846976:=by have e1:=HQ.out;have e2:=HT.out;have e3:=E.cntcL_le l (k+1);rw [ex,HCX.out] at e2;omega
   have FF:∀t0 t1:Int,(q)=t0→(q+1)=t1→(E.agg [(E.int .i64 (q)),(E.lst 2 82 y1A y1c (E.mkcL y1l (q+1)))])=(E.agg [(E.int .i64 t0),(E.lst 2 82 y1A y1c (E.mkcL y1l t1))]):=by
    intro t0 t1 ht0 ht1
    subst ht0
    subst ht1
    rfl
   have EX:(E.agg [(E.int .i64 (q)),(E.lst 2 82 y1A y1c (E.mkcL y1l (q+1)))])=(E.agg [.int .i64 y0,.lst 2 82 y1A y1c y1l]).mkc q:=FF _ _ (by first|rfl|omega|(show _=_;simp only [E.cnt,E.cntL,E.cntc,E.cntcL,reduceCtorEq,if_false,if_true,ite_false];omega)) (by first|rfl|omega|(show _=_;simp only [E.cnt,E.cntL,E.cntc,E.cntcL,reduceCtorEq,if_false,if_true,ite_false];omega))
   have hs':=hs.below hb (Nat.le_refl _)
   have hin:=(hr.el (List.getElem_mem hlm)).below hb (Nat.le_refl _)
   obtain⟨b,o,rfl,hbl,hc⟩:=hs'.at_ hlm
   rw [E.mkcL_at l k0 k hlt,ex,←HQ.out,←EX] at hc hin
   clear EX FF
   have HEX:=Lib.hid ex
   clear ex hlm hs'
   have c0_0:wr.cell? ⟨b,o+k*2,none⟩=some (.int .i64 (q)):=by have h:=hc 0 _ rfl;exact h
   have c0_1:wr.cell? ⟨b,o+k*2+1,none⟩=some (.slice y1A y1l.length y1c):=by have h:=hc 1 _ rfl;simpa only [Nat.mul_one,Nat.add_zero,E.mkcL_len] using h
   clear hc
   have hi1:((E.lst 2 82 y1A y1c y1l).mk0 (q+1)).In wr:=(E.In.fld (i:=1) hin rfl)
   clear hin
   go_wp2_with fail
   go_at_call 156
   refine (HC1.out _ _ hi1 (by omega) (by omega)).mono ?_;rintro e w1 ⟨rfl,hb1⟩;have hz1:=hb1.size;have c1_1:=zc1 hb1 c0_1 (by first|omega|(simp;omega))
   go_wp2_with fail
   go_roundw
   case rel=>exact⟨k+1,_,by omega,by go_num,rfl,(by show _=_;have e1:=HQ.out;have e2:=HT.out;rw [HEX.out,HCX.out] at e2;omega),by exact by0⟩
   case measure=>simp [intOf];omega
  ·have hk':k=l.length:=by omega
   subst hk'
   go_wp2
   go_ret
   have e1:=HQ.out
   rw [List.take_length] at e1
   exact⟨ri e1,hb⟩
theorem zk16 {e:E}(ht:e.Ty Tryz.prog 31):Mar 47 e:=by
 obtain⟨A,c,l,rfl,h1,h2⟩:=ht.lst_ Tryz.underlying31 (k:=2) (by kernel_rfl)
 exact markMFnS_all' A c l h1 h2
theorem zl16 {e:E}(ht:e.Ty Tryz.prog 31):Hel 91 e:=by
 obtain⟨A,c,l,rfl,h1,h2⟩:=ht.lst_ Tryz.underlying31 (k:=2) (by kernel_rfl)
 exact heldMFnS_all' A c l h1 h2
theorem zn2 {e:E}(h:e.Ty Tryz.prog 33):∃(x0A:Option Addr) (x0c:Nat) (x0l:List E) (x1A:Option Addr) (x1c:Nat) (x1l:List E) (x2:Int) (x3:Int) (x4A:Option Addr) (x4c:Nat) (x4l:List E),e=(E.agg [.lst 3 75 x0A x0c x0l,.lst 1 9 x1A x1c x1l,.int .i64 x2,.int .i64 x3,.lst 2 79 x4A x4c x4l])∧((∀y∈x0l,y.Ty Tryz.prog 75)∧(∀y∈x0l,y.enc.length=3))∧((∀y∈x1l,y.Ty Tryz.prog 9)∧(∀y∈x1l,y.enc.length=1))∧((Lit.int .i64 x2).wf=true)∧((Lit.int .i64 x3).wf=true)∧((∀y∈x4l,y.Ty Tryz.prog 79)∧(∀y∈x4l,y.enc.length=2))∧True:=by
 obtain⟨fs,rfl,q0⟩:=h.agg_ Tryz.underlying33
 change E.TyF _ _ [30,23,3,3,31] at q0
 obtain⟨e0,r0,rfl,h0,q1⟩:=q0.cons_
 obtain⟨e1,r1,rfl,h1,q2⟩:=q1.cons_
 obtain⟨e2,r2,rfl,h2,q3⟩:=q2.cons_
 obtain⟨e3,r3,rfl,h3,q4⟩:=q3.cons_
 obtain⟨e4,r4,rfl,h4,q5⟩:=q4.cons_
 obtain rfl:=q5.nil_
 obtain⟨x0A,x0c,x0l,rfl,gx0,gx0'⟩:=h0.lst_ Tryz.underlying30 (k:=3) (by kernel_rfl)
 obtain⟨x1A,x1c,x1l,rfl,gx1,gx1'⟩:=h1.lst_ Tryz.underlying23 (k:=1) (by kernel_rfl)
 obtain⟨x2,rfl,gx2⟩:=h2.int_ Tryz.underlying3
 obtain⟨x3,rfl,gx3⟩:=h3.int_ Tryz.underlying3
 obtain⟨x4A,x4c,x4l,rfl,gx4,gx4'⟩:=h4.lst_ Tryz.underlying31 (k:=2) (by kernel_rfl)
 exact⟨x0A,x0c,x0l,x1A,x1c,x1l,x2,x3,x4A,x4c,x4l,rfl,⟨gx0,gx0'⟩,⟨gx1,gx1'⟩,gx2,gx3,⟨gx4,gx4'⟩,trivial⟩
set_option maxRecDepth 100000 in
set_option maxHeartbeats 1000000 in
theorem zo6 {e e':E}(ht:e.Ty Tryz.prog 33)(ht':e'.Ty Tryz.prog 33):Eq 11 e e':=by
 obtain⟨x0A,x0c,x0l,x1A,x1c,x1l,x2,x3,x4A,x4c,x4l,rfl,gx0,gx1,gx2,gx3,gx4,-⟩:=zn2 ht
 obtain⟨y0A,y0c,y0l,y1A,y1c,y1l,y2,y3,y4A,y4c,y4l,rfl,gy0,gy1,gy2,gy3,gy4,-⟩:=zn2 ht'
 intro hd w hr hr'
 simp only [E.d,E.dL,E.agg.injEq,List.cons.injEq,E.int.injEq,E.str.injEq,E.bool.injEq,E.lst.injEq,true_and,and_true] at hd
 obtain⟨hd0,hd1,rfl,rfl,hd4⟩:=hd
 have hr0:=((hr.fld (i:=0) rfl).alloc (.cells #[.slice x0A x0l.length x0c,.slice x1A x1l.length x1c,.int .i64 x2,.int .i64 x3,.slice x4A x4l.length x4c] 33)).alloc (.cells #[.slice y0A y0l.length y0c,.slice y1A y1l.length y1c,.int .i64 x2,.int .i64 x3,.slice y4A y4l.length y4c] 33)
 have hs0:=((hr'.fld (i:=0) rfl).alloc (.cells #[.slice x0A x0l.length x0c,.slice x1A x1l.length x1c,.int .i64 x2,.int .i64 x3,.slice x4A x4l.length x4c] 33)).alloc (.cells #[.slice y0A y0l.length y0c,.slice y1A y1l.length y1c,.int .i64 x2,.int .i64 x3,.slice y4A y4l.length y4c] 33)
 have t0:(E.lst 3 75 x0A x0c x0l).Ty Tryz.prog 30:=E.Ty.mk_lst Tryz.underlying30 (by kernel_rfl) gx0.1 gx0.2
 have u0:(E.lst 3 75 y0A y0c y0l).Ty Tryz.prog 30:=E.Ty.mk_lst Tryz.underlying30 (by kernel_rfl) gy0.1 gy0.2
 have HC0:=Lib.hid (zz20 t0 u0 (by simp only [E.d,E.dL,E.agg.injEq,List.cons.injEq,E.int.injEq,E.str.injEq,E.bool.injEq,E.lst.injEq,true_and,and_true];exact hd0))
 clear t0 u0
 have hr1:=((hr.fld (i:=1) rfl).alloc (.cells #[.slice x0A x0l.length x0c,.slice x1A x1l.length x1c,.int .i64 x2,.int .i64 x3,.slice x4A x4l.length x4c] 33)).alloc (.cells #[.slice y0A y0l.length y0c,.slice y1A y1l.length y1c,.int .i64 x2,.int .i64 x3,.slice y4A y4l.length y4c] 33)
 have hs1:=((hr'.fld (i:=1) rfl).alloc (.cells #[.slice x0A x0l.length x0c,.slice x1A x1l.length x1c,.int .i64 x2,.int .i64 x3,.slice x4A x4l.length x4c] 33)).alloc (.cells #[.slice y0A y0l.length y0c,.slice y1A y1l.length y1c,.int .i64 x2,.int .i64 x3,.slice y4A y4l.length y4c] 33)
 have t1:(E.lst 1 9 x1A x1c x1l).Ty Tryz.prog 23:=E.Ty.mk_lst Tryz.underlying23 (by kernel_rfl) gx1.1 gx1.2
 have u1:(E.lst 1 9 y1A y1c y1l).Ty Tryz.prog 23:=E.Ty.mk_lst Tryz.underlying23 (by kernel_rfl) gy1.1 gy1.2
 have HC1:=Lib.hid (zz13 t1 u1 (by simp only [E.d,E.dL,E.agg.injEq,List.cons.injEq,E.int.injEq,E.str.injEq,E.bool.injEq,E.lst.injEq,true_and,and_true];exact hd1))
 clear t1 u1
 have hr4:=((hr.fld (i:=4) rfl).alloc (.cells #[.slice x0A x0l.length x0c,.slice x1A x1l.length x1c,.int .i64 x2,.int .i64 x3,.slice x4A x4l.length x4c] 33)).alloc (.cells #[.slice y0A y0l.length y0c,.slice y1A y1l.length y1c,.int .i64 x2,.int .i64 x3,.slice y4A y4l.length y4c] 33)
 have hs4:=((hr'.fld (i:=4) rfl).alloc (.cells #[.slice x0A x0l.length x0c,.slice x1A x1l.length x1c,.int .i64 x2,.int .i64 x3,.slice x4A x4l.length x4c] 33)).alloc (.cells #[.slice y0A y0l.length y0c,.slice y1A y1l.length y1c,.int .i64 x2,.int .i64 x3,.slice y4A y4l.length y4c] 33)
 have t4:(E.lst 2 79 x4A x4c x4l).Ty Tryz.prog 31:=E.Ty.mk_lst Tryz.underlying31 (by kernel_rfl) gx4.1 gx4.2
 have u4:(E.lst 2 79 y4A y4c y4l).Ty Tryz.prog 31:=E.Ty.mk_lst Tryz.underlying31 (by kernel_rfl) gy4.1 gy4.2
 have HC4:=Lib.hid (zn21 t4 u4 (by simp only [E.d,E.dL,E.agg.injEq,List.cons.injEq,E.int.injEq,E.str.injEq,E.bool.injEq,E.lst.injEq,true_and,and_true];exact hd4))
 clear t4 u4
 clear hd0 hd1 hd4
 change Calls _ _ #[.agg #[.slice x0A x0l.length x0c,.slice x1A x1l.length x1c,.int .i64 x2,.int .i64 x3,.slice x4A x4l.length x4c],.agg #[.slice y0A y0l.length y0c,.slice y1A y1l.length y1c,.int .i64 x2,.int .i64 x3,.slice y4A y4l.length y4c]] w _
 go_enter Tryz.func11,Tryz.ntmps11
 go_wp2_with fail
 go_at_call 42
 refine (HC0.out _ hr0 hs0).mono ?_;rintro e w1 ⟨rfl,hb1⟩
 have hz1:=hb1.size;(try simp only [World.size_alloc] at hz1)
 have c1_1:w1.cell? ⟨w.heap.size,1,none⟩=some (.slice x1A x1l.length x1c):=zc1 hb1 (zq6 (zr4 rfl) (by simp)) (by simp;omega)
 have d1_1:w1.cell? ⟨w.heap.size+1,1,none⟩=some (.slice y1A y1l.length y1c):=zc1 hb1 (cell_new' rfl (by simp)) (by simp)
 have c1_2:w1.cell? ⟨w.heap.size,2,none⟩=some (.int .i64 x2):=zc1 hb1 (zq6 (zr4 rfl) (by simp)) (by simp;omega)
 have d1_2:w1.cell? ⟨w.heap.size+1,2,none⟩=some (.int .i64 x2):=zc1 hb1 (cell_new' rfl (by simp)) (by simp)
 have c1_3:w1.cell? ⟨w.heap.size,3,none⟩=some (.int .i64 x3):=zc1 hb1 (zq6 (zr4 rfl) (by simp)) (by simp;omega)
 have d1_3:w1.cell? ⟨w.heap.size+1,3,none⟩=some (.int .i64 x3):=zc1 hb1 (cell_new' rfl (by simp)) (by simp)
 have c1_4:w1.cell? ⟨w.heap.size,4,none⟩=some (.slice x4A x4l.length x4c):=zc1 hb1 (zq6 (zr4 rfl) (by simp)) (by simp;omega)
 have d1_4:w1.cell? ⟨w.heap.size+1,4,none⟩=some (.slice y4A y4l.length y4c):=zc1 hb1 (cell_new' rfl (by simp)) (by simp)
 have hr1:=hr1.below hb1 (by first|exact Nat.le_refl _|simp)
 have hs1:=hs1.below hb1 (by first|exact Nat.le_refl _|simp)
 have hr4:=hr4.below hb1 (by first|exact Nat.le_refl _|simp)
 have hs4:=hs4.below hb1 (by first|exact Nat.le_refl _|simp)
 go_wp2_with fail
 go_at_call 43
 refine (HC1.out _ hr1 hs1).mono ?_;rintro e w2 ⟨rfl,hb2⟩
 have hz2:=hb2.size;(try simp only [World.size_alloc] at hz2)
 have c2_2:=zc1 hb2 c1_2 (by omega)
 have d2_2:=zc1 hb2 d1_2 (by omega)
 have c2_3:=zc1 hb2 c1_3 (by omega)
 have d2_3:=zc1 hb2 d1_3 (by omega)
 have c2_4:=zc1 hb2 c1_4 (by omega)
 have d2_4:=zc1 hb2 d1_4 (by omega)
 clear c1_1 d1_1 c1_2 d1_2 c1_3 d1_3 c1_4 d1_4
 have hr4:=hr4.below hb2 (by first|exact Nat.le_refl _|simp)
 have hs4:=hs4.below hb2 (by first|exact Nat.le_refl _|simp)
 go_wp2_with fail
 go_at_call 44
 refine (HC4.out _ hr4 hs4).mono ?_;rintro e w3 ⟨rfl,hb3⟩
 have hz3:=hb3.size;(try simp only [World.size_alloc] at hz3)
 clear c2_2 d2_2 c2_3 d2_3 c2_4 d2_4
 go_wp2
 go_ret
 exact⟨rfl,by0⟩
set_option maxRecDepth 100000 in
set_option maxHeartbeats 1000000 in
theorem zg12 {e:E}(ht:e.Ty Tryz.prog 33):Mar 12 e:=by
 obtain⟨x0A,x0c,x0l,x1A,x1c,x1l,x2,x3,x4A,x4c,x4l,rfl,gx0,gx1,gx2,gx3,gx4,-⟩:=zn2 ht
 have ty0:(E.lst 3 75 x0A x0c x0l).Ty Tryz.prog 30:=E.Ty.mk_lst Tryz.underlying30 (by kernel_rfl) gx0.1 gx0.2
 have HC0:=Lib.hid (zs15 ty0)
 clear ty0
 have ty1:(E.lst 1 9 x1A x1c x1l).Ty Tryz.prog 23:=E.Ty.mk_lst Tryz.underlying23 (by kernel_rfl) gx1.1 gx1.2
 have HC1:=Lib.hid (zy10 ty1)
 clear ty1
 have ty4:(E.lst 2 79 x4A x4c x4l).Ty Tryz.prog 31:=E.Ty.mk_lst Tryz.underlying31 (by kernel_rfl) gx4.1 gx4.2
 have HC4:=Lib.hid (zk16 ty4)
 clear ty4
 intro lo hi k0 w ho hnd hhi h0 h1
 have HCN:Hid ((E.agg [.lst 3 75 x0A x0c x0l,.lst 1 9 x1A x1c x1l,.int .i64 x2,.int .i64 x3,.lst 2 79 x4A x4c x4l]).cnt=((E.lst 3 75 x0A x0c x0l).cnt+((E.lst 1 9 x1A x1c x1l).cnt+(0+(0+((E.lst 2 79 x4A x4c x4l).cnt+0)))))):=rfl
 have h1':=h1
 rw [HCN.out] at h1'
 clear h1
 change (E.fpL [(E.lst 3 75 x0A x0c x0l),(E.lst 1 9 x1A x1c x1l),(E.int .i64 x2),(E.int .i64 x3),(E.lst 2 79 x4A x4c x4l)]).Nodup at hnd
 have ho0:=(ho.fld (i:=0) rfl).alloc hhi (.cells #[.slice x0A x0l.length x0c,.slice x1A x1l.length x1c,.int .i64 x2,.int .i64 x3,.slice x4A x4l.length x4c] 33)
 have HN0:=Lib.hid (zx4 hnd (show (E.lst 3 75 x0A x0c x0l)∈[(E.lst 3 75 x0A x0c x0l),(E.lst 1 9 x1A x1c x1l),(E.int .i64 x2),(E.int .i64 x3),(E.lst 2 79 x4A x4c x4l)] by simp))
 have HS0:=Lib.hid (fun b (hb:b∈(E.lst 3 75 x0A x0c x0l).fp)=>(E.mem_fpL.2 ⟨_,(show (E.lst 3 75 x0A x0c x0l)∈[(E.lst 3 75 x0A x0c x0l),(E.lst 1 9 x1A x1c x1l),(E.int .i64 x2),(E.int .i64 x3),(E.lst 2 79 x4A x4c x4l)] by simp),hb⟩:b∈E.fpL [(E.lst 3 75 x0A x0c x0l),(E.lst 1 9 x1A x1c x1l),(E.int .i64 x2),(E.int .i64 x3),(E.lst 2 79 x4A x4c x4l)]))
 have DJ0_1:=Lib.hid (fun b (hb:b∈(E.lst 3 75 x0A x0c x0l).fp)=>(E.fpL_apart hnd 0 1 (by simp) (by simp) (by omega) b hb:b∉(E.lst 1 9 x1A x1c x1l).fp))
 have DJ0_4:=Lib.hid (fun b (hb:b∈(E.lst 3 75 x0A x0c x0l).fp)=>(E.fpL_apart hnd 0 4 (by simp) (by simp) (by omega) b hb:b∉(E.lst 2 79 x4A x4c x4l).fp))
 have ho1:=(ho.fld (i:=1) rfl).alloc hhi (.cells #[.slice x0A x0l.length x0c,.slice x1A x1l.length x1c,.int .i64 x2,.int .i64 x3,.slice x4A x4l.length x4c] 33)
 have HN1:=Lib.hid (zx4 hnd (show (E.lst 1 9 x1A x1c x1l)∈[(E.lst 3 75 x0A x0c x0l),(E.lst 1 9 x1A x1c x1l),(E.int .i64 x2),(E.int .i64 x3),(E.lst 2 79 x4A x4c x4l)] by simp))
 have HS1:=Lib.hid (fun b (hb:b∈(E.lst 1 9 x1A x1c x1l).fp)=>(E.mem_fpL.2 ⟨_,(show (E.lst 1 9 x1A x1c x1l)∈[(E.lst 3 75 x0A x0c x0l),(E.lst 1 9 x1A x1c x1l),(E.int .i64 x2),(E.int .i64 x3),(E.lst 2 79 x4A x4c x4l)] by simp),hb⟩:b∈E.fpL [(E.lst 3 75 x0A x0c x0l),(E.lst 1 9 x1A x1c x1l),(E.int .i64 x2),(E.int .i64 x3),(E.lst 2 79 x4A x4c x4l)]))
 have DJ1_0:=Lib.hid (fun b (hb:b∈(E.lst 1 9 x1A x1c x1l).fp)=>(E.fpL_apart hnd 1 0 (by simp) (by simp) (by omega) b hb:b∉(E.lst 3 75 x0A x0c x0l).fp))
 have DJ1_4:=Lib.hid (fun b (hb:b∈(E.lst 1 9 x1A x1c x1l).fp)=>(E.fpL_apart hnd 1 4 (by simp) (by simp) (by omega) b hb:b∉(E.lst 2 79 x4A x4c x4l).fp))
 have ho4:=(ho.fld (i:=4) rfl).alloc hhi (.cells #[.slice x0A x0l.length x0c,.slice x1A x1l.length x1c,.int .i64 x2,.int .i64 x3,.slice x4A x4l.length x4c] 33)
 have HN4:=Lib.hid (zx4 hnd (show (E.lst 2 79 x4A x4c x4l)∈[(E.lst 3 75 x0A x0c x0l),(E.lst 1 9 x1A x1c x1l),(E.int .i64 x2),(E.int .i64 x3),(E.lst 2 79 x4A x4c x4l)] by simp))
 have HS4:=Lib.hid (fun b (hb:b∈(E.lst 2 79 x4A x4c x4l).fp)=>(E.mem_fpL.2 ⟨_,(show (E.lst 2 79 x4A x4c x4l)∈[(E.lst 3 75 x0A x0c x0l),(E.lst 1 9 x1A x1c x1l),(E.int .i64 x2),(E.int .i64 x3),(E.lst 2 79 x4A x4c x4l)] by simp),hb⟩:b∈E.fpL [(E.lst 3 75 x0A x0c x0l),(E.lst 1 9 x1A x1c x1l),(E.int .i64 x2),(E.int .i64 x3),(E.lst 2 79 x4A x4c x4l)]))
 have DJ4_0:=Lib.hid (fun b (hb:b∈(E.lst 2 79 x4A x4c x4l).fp)=>(E.fpL_apart hnd 4 0 (by simp) (by simp) (by omega) b hb:b∉(E.lst 3 75 x0A x0c x0l).fp))
 have DJ4_1:=Lib.hid (fun b (hb:b∈(E.lst 2 79 x4A x4c x4l).fp)=>(E.fpL_apart hnd 4 1 (by simp) (by simp) (by omega) b hb:b∉(E.lst 1 9 x1A x1c x1l).fp))
 clear hnd ho
 change Calls _ _ #[.agg #[.slice x0A x0l.length x0c,.slice x1A x1l.length x1c,.int .i64 x2,.int .i64 x3,.slice x4A x4l.length x4c],.int .i64 k0] w _
 go_enter Tryz.func12,Tryz.ntmps12
 go_wp2_with fail
 go_at_call 45
 refine (HC0.out lo hi _ _ ho0 HN0.out (by first|omega|(simp;omega)) (by omega) (by omega)).mono ?_;rintro e w1 ⟨rfl,hm0,hf1⟩
 have hz1:=hf1.size;(try simp only [World.size_alloc] at hz1)
 have B1:w1.heap[w.heap.size]? = some (.cells #[.slice x0A x0l.length x0c,.slice x1A x1l.length x1c,.int .i64 x2,.int .i64 x3,.slice x4A x4l.length x4c] 33 (0,0)):=(hf1.block w.heap.size (by first|omega|simp) (fun hm=>by have:=ho0.lt _ hm;omega)).trans (heap_alloc_new w _)
 have c1_1:w1.cell? ⟨w.heap.size,1,none⟩=some (.slice x1A x1l.length x1c):=zv1 B1 rfl
 have c1_2:w1.cell? ⟨w.heap.size,2,none⟩=some (.int .i64 x2):=zv1 B1 rfl
 have c1_3:w1.cell? ⟨w.heap.size,3,none⟩=some (.int .i64 x3):=zv1 B1 rfl
 have c1_4:w1.cell? ⟨w.heap.size,4,none⟩=some (.slice x4A x4l.length x4c):=zv1 B1 rfl
 have ho1:=ho1.fr hf1 DJ1_0.out
 have ho4:=ho4.fr hf1 DJ4_0.out
 go_wp2_with fail
 go_at_call 46
 refine (HC1.out lo hi _ _ ho1 HN1.out (by first|omega|(simp;omega)) (by omega) (by omega)).mono ?_;rintro e w2 ⟨rfl,hm1,hf2⟩
 have hz2:=hf2.size;(try simp only [World.size_alloc] at hz2)
 have B2:w2.heap[w.heap.size]? = some (.cells #[.slice x0A x0l.length x0c,.slice x1A x1l.length x1c,.int .i64 x2,.int .i64 x3,.slice x4A x4l.length x4c] 33 (0,0)):=(hf2.block w.heap.size (by first|omega|simp) (fun hm=>by have:=ho1.lt _ hm;omega)).trans B1
 have c2_2:w2.cell? ⟨w.heap.size,2,none⟩=some (.int .i64 x2):=zv1 B2 rfl
 have c2_3:w2.cell? ⟨w.heap.size,3,none⟩=some (.int .i64 x3):=zv1 B2 rfl
 have c2_4:w2.cell? ⟨w.heap.size,4,none⟩=some (.slice x4A x4l.length x4c):=zv1 B2 rfl
 clear B1 c1_1 c1_2 c1_3 c1_4
 have ho4:=ho4.fr hf2 DJ4_1.out
 have hm0:=hm0.fr hf2 (fun b hb=>DJ0_1.out b (by rw [E.mk0_fp] at hb;exact hb))
 go_wp2_with fail
 go_at_call 47
 refine (HC4.out lo hi _ _ ho4 HN4.out (by first|omega|(simp;omega)) (by omega) (by omega)).mono ?_;rintro e w3 ⟨rfl,hm4,hf3⟩
 have hz3:=hf3.size;(try simp only [World.size_alloc] at hz3)
 have B3:w3.heap[w.heap.size]? = some (.cells #[.slice x0A x0l.length x0c,.slice x1A x1l.length x1c,.int .i64 x2,.int .i64 x3,.slice x4A x4l.length x4c] 33 (0,0)):=(hf3.block w.heap.size (by first|omega|simp) (fun hm=>by have:=ho4.lt _ hm;omega)).trans B2
 clear B2 c2_2 c2_3 c2_4
 have hm0:=hm0.fr hf3 (fun b hb=>DJ0_4.out b (by rw [E.mk0_fp] at hb;exact hb))
 have hm1:=hm1.fr hf3 (fun b hb=>DJ1_4.out b (by rw [E.mk0_fp] at hb;exact hb))
 go_wp2
 go_ret
 exact⟨ri (by have:=HCN.out;omega),E.Ho.mk_agg (E.HoL.mk_cons (zv16 hm0 (by first|rfl|omega|(show _=_;simp only [E.cnt,E.cntL,E.cntc,E.cntcL,reduceCtorEq,if_false,if_true,ite_false];omega))) (E.HoL.mk_cons (zv16 hm1 (by first|rfl|omega|(show _=_;simp only [E.cnt,E.cntL,E.cntc,E.cntcL,reduceCtorEq,if_false,if_true,ite_false];omega))) (E.HoL.mk_cons trivial (E.HoL.mk_cons trivial (E.HoL.mk_cons (zv16 hm4 (by first|rfl|omega|(show _=_;simp only [E.cnt,E.cntL,E.cntc,E.cntcL,reduceCtorEq,if_false,if_true,ite_false];omega))) (show E.HoL _ _ _ [] by simp only [E.HoL])))))),((((Fr.of_below ((Below.refl _ _).alloc (Nat.le_refl _) _)).trans (hf1.sub HS0.out)).trans (hf2.sub HS1.out)).trans (hf3.sub HS4.out))⟩
set_option maxRecDepth 100000 in
set_option maxHeartbeats 1000000 in
theorem zb7 {e:E}(ht:e.Ty Tryz.prog 33):Hel 25 e:=by
 obtain⟨x0A,x0c,x0l,x1A,x1c,x1l,x2,x3,x4A,x4c,x4l,rfl,gx0,gx1,gx2,gx3,gx4,-⟩:=zn2 ht
 have ty0:(E.lst 3 75 x0A x0c x0l).Ty Tryz.prog 30:=E.Ty.mk_lst Tryz.underlying30 (by kernel_rfl) gx0.1 gx0.2
 have HC0:=Lib.hid (zt15 ty0)
 clear ty0
 have ty1:(E.lst 1 9 x1A x1c x1l).Ty Tryz.prog 23:=E.Ty.mk_lst Tryz.underlying23 (by kernel_rfl) gx1.1 gx1.2
 have HC1:=Lib.hid (zz10 ty1)
 clear ty1
 have ty4:(E.lst 2 79 x4A x4c x4l).Ty Tryz.prog 31:=E.Ty.mk_lst Tryz.underlying31 (by kernel_rfl) gx4.1 gx4.2
 have HC4:=Lib.hid (zl16 ty4)
 clear ty4
 intro k0 w hr h0 h1
 have HCN:Hid ((E.agg [.lst 3 75 x0A x0c x0l,.lst 1 9 x1A x1c x1l,.int .i64 x2,.int .i64 x3,.lst 2 79 x4A x4c x4l]).cnt=((E.lst 3 75 x0A x0c x0l).cnt+((E.lst 1 9 x1A x1c x1l).cnt+(0+(0+((E.lst 2 79 x4A x4c x4l).cnt+0)))))):=rfl
 have h1':=h1
 rw [HCN.out] at h1'
 clear h1
 have hr0:=(E.In.fld (i:=0) hr rfl).alloc (.cells #[.slice x0A x0l.length x0c,.slice x1A x1l.length x1c,.int .i64 x2,.int .i64 x3,.slice x4A x4l.length x4c] 33)
 have hr1:=(E.In.fld (i:=1) hr rfl).alloc (.cells #[.slice x0A x0l.length x0c,.slice x1A x1l.length x1c,.int .i64 x2,.int .i64 x3,.slice x4A x4l.length x4c] 33)
 have hr4:=(E.In.fld (i:=4) hr rfl).alloc (.cells #[.slice x0A x0l.length x0c,.slice x1A x1l.length x1c,.int .i64 x2,.int .i64 x3,.slice x4A x4l.length x4c] 33)
 change Calls _ _ #[.agg #[.slice x0A x0l.length x0c,.slice x1A x1l.length x1c,.int .i64 x2,.int .i64 x3,.slice x4A x4l.length x4c],.int .i64 k0] w _
 go_enter Tryz.func25,Tryz.ntmps25
 go_wp2_with fail
 go_at_call 89
 refine (HC0.out _ _ (zw16 hr0 (by first|rfl|omega|(show _=_;simp only [E.cnt,E.cntL,E.cntc,E.cntcL,reduceCtorEq,if_false,if_true,ite_false];omega))) (by omega) (by omega)).mono ?_;rintro e w1 ⟨rfl,hb1⟩
 have hz1:=hb1.size;(try simp only [World.size_alloc] at hz1)
 have c1_1:w1.cell? ⟨w.heap.size,1,none⟩=some (.slice x1A x1l.length x1c):=zc1 hb1 (zr4 rfl) (by simp)
 have c1_2:w1.cell? ⟨w.heap.size,2,none⟩=some (.int .i64 x2):=zc1 hb1 (zr4 rfl) (by simp)
 have c1_3:w1.cell? ⟨w.heap.size,3,none⟩=some (.int .i64 x3):=zc1 hb1 (zr4 rfl) (by simp)
 have c1_4:w1.cell? ⟨w.heap.size,4,none⟩=some (.slice x4A x4l.length x4c):=zc1 hb1 (zr4 rfl) (by simp)
 have hr1:=hr1.below hb1 (by first|exact Nat.le_refl _|simp)
 have hr4:=hr4.below hb1 (by first|exact Nat.le_refl _|simp)
 go_wp2_with fail
 go_at_call 90
 refine (HC1.out _ _ (zw16 hr1 (by first|rfl|omega|(show _=_;simp only [E.cnt,E.cntL,E.cntc,E.cntcL,reduceCtorEq,if_false,if_true,ite_false];omega))) (by omega) (by omega)).mono ?_;rintro e w2 ⟨rfl,hb2⟩
 have hz2:=hb2.size;(try simp only [World.size_alloc] at hz2)
 have c2_2:w2.cell? ⟨w.heap.size,2,none⟩=some (.int .i64 x2):=zc1 hb2 c1_2 (by omega)
 have c2_3:w2.cell? ⟨w.heap.size,3,none⟩=some (.int .i64 x3):=zc1 hb2 c1_3 (by omega)
 have c2_4:w2.cell? ⟨w.heap.size,4,none⟩=some (.slice x4A x4l.length x4c):=zc1 hb2 c1_4 (by omega)
 clear c1_1 c1_2 c1_3 c1_4
 have hr4:=hr4.below hb2 (by first|exact Nat.le_refl _|simp)
 go_wp2_with fail
 go_at_call 91
 refine (HC4.out _ _ (zw16 hr4 (by first|rfl|omega|(show _=_;simp only [E.cnt,E.cntL,E.cntc,E.cntcL,reduceCtorEq,if_false,if_true,ite_false];omega))) (by omega) (by omega)).mono ?_;rintro e w3 ⟨rfl,hb3⟩
 have hz3:=hb3.size;(try simp only [World.size_alloc] at hz3)
 clear c2_2 c2_3 c2_4
 go_wp2
 go_ret
 exact⟨ri (by have:=HCN.out;omega),by exact by0⟩
end Go.Proofs.YtghljnfbbaklnaaGreat
