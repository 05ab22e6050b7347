/- The type Val, and slices of it: shape; the laws' own functions. -/
import Derived.Test.YtghljnfbbaklnaaGreatGetModuleP
namespace Go.Proofs.YtghljnfbbaklnaaGreat
open Go.RowKit
theorem by2 {p:Prop}(h:p:=by repeat (first|(with_reducible assumption)|(with_reducible refine E.In.drew ?_)|(with_reducible refine E.In.drewN ?_ _)|(with_reducible refine E.In.alloc ?_ _)|(refine E.In.below ?_ (by with_reducible assumption) ?_)|omega|(·simp)|(·(simp;omega)))):p:=h
theorem zk2 {e:E}(h:e.Ty Tryz.prog 75):∃(x0:Int) (x1:Int) (x2:ByteArray),e=(E.agg [.int .i64 x0,.int .i64 x1,.str x2])∧((Lit.int .i64 x0).wf=true)∧((Lit.int .i64 x1).wf=true)∧(x2.size≤9223372036854775807)∧True:=by
 obtain⟨fs,rfl,q0⟩:=h.agg_ Tryz.underlying75
 change E.TyF _ _ [3,3,9] at q0
 obtain⟨e0,r0,rfl,h0,q1⟩:=q0.cons_
 obtain⟨e1,r1,rfl,h1,q2⟩:=q1.cons_
 obtain⟨e2,r2,rfl,h2,q3⟩:=q2.cons_
 obtain rfl:=q3.nil_
 obtain⟨x0,rfl,gx0⟩:=h0.int_ Tryz.underlying3
 obtain⟨x1,rfl,gx1⟩:=h1.int_ Tryz.underlying3
 obtain⟨x2,rfl,gx2⟩:=h2.str_ Tryz.underlying9
 exact⟨x0,x1,x2,rfl,gx0,gx1,gx2,trivial⟩
set_option maxRecDepth 100000 in
set_option maxHeartbeats 1000000 in
theorem eqVal_all {e e':E}(ht:e.Ty Tryz.prog 75)(ht':e'.Ty Tryz.prog 75):Eq 115 e e':=by
 obtain⟨x0,x1,x2,rfl,gx0,gx1,gx2,-⟩:=zk2 ht
 obtain⟨y0,y1,y2,rfl,gy0,gy1,gy2,-⟩:=zk2 ht'
 intro hd w hr hr'
 simp only [E.d,E.dL,E.agg.injEq,List.cons.injEq,E.int.injEq,E.str.injEq,E.bool.injEq,E.lst.injEq,true_and,and_true] at hd
 obtain⟨rfl,rfl,rfl⟩:=hd
 change Calls _ _ #[.agg #[.int .i64 x0,.int .i64 x1,.string x2],.agg #[.int .i64 x0,.int .i64 x1,.string x2]] w _
 go_enter Tryz.func115,Tryz.ntmps115
 go_wp2
 go_ret
 exact⟨rfl,by0⟩
set_option maxRecDepth 100000 in
set_option maxHeartbeats 1000000 in
theorem eqValS_all' (A B:Option Addr)(c c':Nat)(l m:List E)(h1:∀y∈l,y.Ty Tryz.prog 75)(h2:∀y∈m,y.Ty Tryz.prog 75):Eq 42 (.lst 3 75 A c l) (.lst 3 75 B c' m):=by
 intro hd w hr hr'
 rw [ze20] at hd
 have hs:=hr.sl
 have hs':=hr'.sl
 have hml:=zu21 hd
 have HD:=Lib.hid hd
 clear hd
 have hlen:=hs.len_le
 change Calls _ _ #[.slice A l.length c,.slice B m.length c'] w _
 obtain⟨N,HN⟩:∃N,Hid (m.length=N):=⟨_,rfl⟩
 have hN:N=l.length:=by have:=HN.out;omega
 subst hN
 rw [HN.out]
 clear hml
 go_enter Tryz.func42,Tryz.ntmps42
 go_wp2
 go_loopw [5] (fun i wr=>∃(k:Nat),k≤l.length∧i=.int .i64 k∧Below w.heap.size w wr) (fun i _=>l.length-(intOf i).toNat)
 case atStart=>exact⟨0,Nat.zero_le _,rfl,Below.refl _ _⟩
 case round =>
  obtain⟨k,hk,rfl,hb⟩:=hrel
  by_cases hlt:k<l.length
  ·have hltm:k<m.length:=by have:=HN.out;omega
   have hsb:=hs.below hb (Nat.le_refl _)
   have hsb':=hs'.below hb (Nat.le_refl _)
   have hdk:=d_at HD.out hlt hltm
   obtain⟨b,o,rfl,_,hc⟩:=hsb.at_ hlt
   obtain⟨b',o',rfl,_,hd⟩:=hsb'.at_ hltm
   have hin:=(hr.el (List.getElem_mem hlt)).below hb (Nat.le_refl _)
   have hin':=(hr'.el (List.getElem_mem hltm)).below hb (Nat.le_refl _)
   have H:=eqVal_all (h1 _ (List.getElem_mem hlt)) (h2 _ (List.getElem_mem hltm)) hdk
   obtain⟨x0,x1,x2,ex,gx0,gx1,gx2,-⟩:=zk2 (h1 _ (List.getElem_mem hlt))
   obtain⟨y0,y1,y2,ey,gy0,gy1,gy2,-⟩:=zk2 (h2 _ (List.getElem_mem hltm))
   rw [ex] at hc hin
   rw [ey] at hd hin'
   rw [ex,ey] at H
   clear ex ey hdk
   have c0:=hc 0 _ rfl;have c1:=hc 1 _ rfl;have c2:=hc 2 _ rfl
   have d0:=hd 0 _ rfl;have d1:=hd 1 _ rfl;have d2:=hd 2 _ rfl
   rw [Nat.add_zero] at c0 d0
   clear hc hd
   have hzb:=hb.size
   have HH:=Lib.hid H
   clear H
   go_wp2
   go_region_held3 (fun w'=>w'.cell? ⟨b,o+k*3,none⟩=some (.int .i64 x0)∧w'.cell? ⟨b,o+k*3+1,none⟩=some (.int .i64 x1)∧w'.cell? ⟨b,o+k*3+2,none⟩=some (.string x2)∧w'.cell? ⟨b',o'+k*3,none⟩=some (.int .i64 y0)∧w'.cell? ⟨b',o'+k*3+1,none⟩=some (.int .i64 y1)∧w'.cell? ⟨b',o'+k*3+2,none⟩=some (.string y2))
    (first|exact⟨c0,c1,c2,d0,d1,d2⟩|skip)
    ((go_at_call 115;refine (HH.out _ by2 by2).mono ?_;rintro e w1 ⟨rfl,hb1⟩;have c0:=zc1 hb1 c0 by1;have c1:=zc1 hb1 c1 by1;have c2:=zc1 hb1 c2 by1;have d0:=zc1 hb1 d0 by1;have d1:=zc1 hb1 d1 by1;have d2:=zc1 hb1 d2 by1))
   go_wp2
   go_roundw
   case rel=>exact⟨k+1,by omega,by go_num,by exact by0⟩
   case measure=>simp [intOf];omega
  ·go_wp2
   go_ret
   exact⟨rfl,hb⟩
theorem zz20 {e e':E}(ht:e.Ty Tryz.prog 30)(ht':e'.Ty Tryz.prog 30):Eq 42 e e':=by
 obtain⟨A,c,l,rfl,h1,_⟩:=ht.lst_ Tryz.underlying30 (k:=3) (by kernel_rfl)
 obtain⟨B,c',m,rfl,h2,_⟩:=ht'.lst_ Tryz.underlying30 (k:=3) (by kernel_rfl)
 exact eqValS_all' A B c c' l m h1 h2
set_option maxRecDepth 100000 in
set_option maxHeartbeats 1000000 in
theorem markValS_all' (A:Option Addr)(c:Nat)(l:List E)(h1:∀y∈l,y.Ty Tryz.prog 75)(h2:∀y∈l,y.enc.length=3):Mar 45 (.lst 3 75 A c l):=by
 intro lo hi k0 w ho hnd hhi hk0 hk1
 have HCN:Hid ((E.lst 3 75 A c l).cnt=E.cntcL l):=rfl
 rw [HCN.out] at hk1
 have HND:=Lib.hid hnd
 clear hnd
 have hlen:=ho.re.sl.len_le
 have how0:=ho
 rw [←ze6 l k0] at how0
 clear ho
 change Calls _ _ #[.slice A l.length c,.int .i64 k0] w _
 rw [HCN.out]
 change Calls _ _ _ w fun r w'=>r=.returned (.int .i64 (k0+(E.cntcL l:Nat)))∧(E.lst 3 75 A c (E.mkcL l k0)).Ho w' lo hi∧Fr (E.lst 3 75 A c l).fp w w'
 go_enter Tryz.func45,Tryz.ntmps45
 go_wp2
 go_loopw [1,5] (fun v i wr=>∃(k:Nat) (q:Int),k≤l.length∧i=.int .i64 k∧v=.int .i64 q∧Hid (q=k0+(E.cntcL (l.take k):Nat))∧Fr (E.lst 3 75 A c l).fp w wr∧Hid ((E.lst 3 75 A c (mixM l k0 k)).Ho wr lo hi)) (fun _ i _=>l.length-(intOf i).toNat)
 case atStart=>exact⟨0,k0,Nat.zero_le _,rfl,rfl,(by show _=_;simp [E.cntcL]),Fr.refl _ _,how0⟩
 case round =>
  obtain⟨k,q,hk,rfl,rfl,HQ,hF0,HOW⟩:=hrel
  have hzk:=hF0.size
  by_cases hlt:k<l.length
  ·have HT:=Lib.hid (E.cntcL_take l k hlt)
   have hq0:0≤q:=by have:=HQ.out;omega
   have hml:k<(mixM l k0 k).length:=by rw [zr6];exact hlt
   have how:=HOW.out
   obtain⟨g,rfl,hg1,hg2,hg3⟩:=how.head (by omega)
   obtain⟨y0,y1,y2,ex,gy0,gy1,gy2,-⟩:=zk2 (h1 _ (List.getElem_mem hlt))
   have HCX:Hid ((E.agg [.int .i64 y0,.int .i64 y1,.str y2]).cntc=(1+(1+(1+0)))):=rfl
   have hq1:q+(((1+(1+(1+0))):Nat):Int)≤1152921504606846976:=by have e1:=HQ.out;have e2:=HT.out;have e3:=E.cntcL_le l (k+1);rw [ex,HCX.out] at e2;omega
   have e0:mixM l k0 k=(mixM l k0 k).set k (E.agg [.int .i64 y0,.int .i64 y1,.str y2]):=by rw [←ex,←zn5 l k0 k hlt];exact (List.set_getElem_self _).symm
   have HN2:=Lib.hid (fun (z:E) (hz:z.fp=(E.agg [.int .i64 y0,.int .i64 y1,.str y2]).fp)=>(show (E.lst 3 75 (some ⟨g,0,none⟩) c ((mixM l k0 k).set k z)).fp.Nodup by have hh:=HND.out;have h3:E.fpL ((mixM l k0 k).set k z)=E.fpL l:=(E.fpL_set hml (by rw [hz,←ex,zn5 l k0 k hlt])).trans (zf10 l k0 k);simp only [E.fp] at hh ⊢;rw [h3];exact hh))
   have HSB:=Lib.hid (fun (b:Nat) (hb:b∈(E.agg [.int .i64 y0,.int .i64 y1,.str y2]).fp)=>(show b∈(E.lst 3 75 (some ⟨g,0,none⟩) c l).fp by simp only [E.fp];exact List.mem_append_right _ (E.mem_fpL.2 ⟨l[k],List.getElem_mem hlt,by rw [ex];exact hb⟩)))
   have hgm:g∈(E.lst 3 75 (some ⟨g,0,none⟩) c l).fp:=by simp [E.fp]
   have HGM:=Lib.hid hgm
   clear hgm
   rw [e0] at how
   clear e0
   obtain⟨ms,HMS⟩:∃ms,Hid (mixM l k0 k=ms):=⟨_,rfl⟩
   rw [HMS.out] at how hml HN2
   have HEX:=Lib.hid ex
   clear ex
   have HML:=Lib.hid hml
   clear hml
   have H0:=Lib.hid how
   clear how
   have c0_0:wr.cell? ⟨g,k*3,none⟩=some (.int .i64 y0):=H0.out.cellx (j:=0) (u:=.int .i64 y0) (by simpa using HML.out) (zy4 HML.out _) rfl
   have c0_1:wr.cell? ⟨g,k*3+1,none⟩=some (.int .i64 y1):=H0.out.cellx (j:=1) (u:=.int .i64 y1) (by simpa using HML.out) (zy4 HML.out _) rfl
   have c0_2:wr.cell? ⟨g,k*3+2,none⟩=some (.string y2):=H0.out.cellx (j:=2) (u:=.string y2) (by simpa using HML.out) (zy4 HML.out _) rfl
   have fz0:=H0.out.frzx
   go_wp2_with fail
   have H1:Hid ((E.lst 3 75 (some ⟨g,0,none⟩) c (ms.set k (E.agg [(E.int .i64 (q)),(E.int .i64 y1),(E.str y2)]))).Ho (wr.setCell ⟨g,k*3,none⟩ (.int .i64 (q))) lo hi):=H0.out.store (HN2.out _ rfl) HML.out (E.agg [(E.int .i64 (q)),(E.int .i64 y1),(E.str y2)]) 0 (.int .i64 (q)) (by omega) rfl (fun _ h=>h)
   clear H0
   have H2:Hid ((E.lst 3 75 (some ⟨g,0,none⟩) c (ms.set k (E.agg [(E.int .i64 (q)),(E.int .i64 (q+1)),(E.str y2)]))).Ho ((wr.setCell ⟨g,k*3,none⟩ (.int .i64 (q))).setCell ⟨g,k*3+1,none⟩ (.int .i64 (q+1))) lo hi):=H1.out.store (HN2.out _ rfl) HML.out (E.agg [(E.int .i64 (q)),(E.int .i64 (q+1)),(E.str y2)]) 1 (.int .i64 (q+1)) (by omega) rfl (fun _ h=>h)
   clear H1
   clear c0_0 c0_1 c0_2 fz0
   go_at_call 117
   refine (zd5 _ _ (by omega)).mono ?_;rintro e w1 ⟨rfl,hb1⟩
   have hz1:=hb1.size;(try simp only [World.size_setCell] at hz1)
   have H3:=Lib.hid (H2.out.below hb1 (by first|omega|(simp;omega)))
   clear H2
   have hF1:Fr (E.lst 3 75 (some ⟨g,0,none⟩) c l).fp w w1:=((hF0.set HGM.out (.int .i64 (q))).set HGM.out (.int .i64 (q+1))).trans (Fr.of_below hb1)
   have c1_0:w1.cell? ⟨g,k*3,none⟩=some (.int .i64 (q)):=H3.out.cellx (j:=0) (u:=.int .i64 (q)) (by simpa using HML.out) (zy4 HML.out _) rfl
   have c1_1:w1.cell? ⟨g,k*3+1,none⟩=some (.int .i64 (q+1)):=H3.out.cellx (j:=1) (u:=.int .i64 (q+1)) (by simpa using HML.out) (zy4 HML.out _) rfl
   have c1_2:w1.cell? ⟨g,k*3+2,none⟩=some (.string y2):=H3.out.cellx (j:=2) (u:=.string y2) (by simpa using HML.out) (zy4 HML.out _) rfl
   have fz1:=H3.out.frzx
   go_wp2
   go_roundw
   case rel =>
    have H4:Hid ((E.lst 3 75 (some ⟨g,0,none⟩) c (ms.set k (E.agg [(E.int .i64 (q)),(E.int .i64 (q+1)),(E.str (markT (q+1+1)))]))).Ho (w1.setCell ⟨g,k*3+2,none⟩ (.string (markT (q+1+1)))) lo hi):=H3.out.store (HN2.out _ (by simp only [E.fp,E.fpL,E.mkcL_fp])) HML.out (E.agg [(E.int .i64 (q)),(E.int .i64 (q+1)),(E.str (markT (q+1+1)))]) 2 (.string (markT (q+1+1))) (by omega) rfl (fun _ h=>h)
    have FF:∀t0 t1 t2:Int,(q)=t0→(q+1)=t1→(q+1+1)=t2→(E.agg [(E.int .i64 (q)),(E.int .i64 (q+1)),(E.str (markT (q+1+1)))])=(E.agg [(E.int .i64 t0),(E.int .i64 t1),(E.str (markT t2))]):=by
     intro t0 t1 t2 ht0 ht1 ht2
     subst ht0
     subst ht1
     subst ht2
     rfl
    have EX:(E.agg [(E.int .i64 (q)),(E.int .i64 (q+1)),(E.str (markT (q+1+1)))])=(E.agg [.int .i64 y0,.int .i64 y1,.str y2]).mkc q:=FF _ _ _ (by first|rfl|omega|(show _=_;simp only [E.cnt,E.cntL,E.cntc,E.cntcL,reduceCtorEq,if_false,if_true,ite_false];omega)) (by first|rfl|omega|(show _=_;simp only [E.cnt,E.cntL,E.cntc,E.cntcL,reduceCtorEq,if_false,if_true,ite_false];omega)) (by first|rfl|omega|(show _=_;simp only [E.cnt,E.cntL,E.cntc,E.cntcL,reduceCtorEq,if_false,if_true,ite_false];omega))
    exact⟨k+1,_,by omega,by go_num,rfl,(by show _=_;have e1:=HQ.out;have e2:=HT.out;rw [HEX.out,HCX.out] at e2;omega),(hF1.set HGM.out (.string (markT (q+1+1)))),(by show E.Ho _ _ _ _;rw [←zf6 l k0 k hlt,HEX.out,←HQ.out,←EX,HMS.out];exact H4.out)⟩
   case measure=>simp [intOf];omega
  ·have hk':k=l.length:=by omega
   subst hk'
   go_wp2
   go_ret
   have e1:=HQ.out
   rw [List.take_length] at e1
   have h:=HOW.out
   rw [zl7] at h
   exact⟨ri e1,h,hF0⟩
set_option maxRecDepth 100000 in
set_option maxHeartbeats 1000000 in
theorem heldValS_all' (A:Option Addr)(c:Nat)(l:List E)(h1:∀y∈l,y.Ty Tryz.prog 75)(h2:∀y∈l,y.enc.length=3):Hel 89 (.lst 3 75 A c l):=by
 intro k0 w hr h0 hk1
 have HCN:Hid ((E.lst 3 75 A c l).cnt=E.cntcL l):=rfl
 rw [HCN.out] at hk1
 change (E.lst 3 75 A c (E.mkcL l k0)).In w at hr
 have hs:=hr.sl
 have hlen:=hs.len_le
 rw [E.mkcL_len] at hlen
 change Calls _ _ #[.slice A l.length c,.int .i64 k0] w _
 rw [HCN.out]
 change Calls _ _ _ w fun r w'=>r=.returned (.int .i64 (k0+(E.cntcL l:Nat)))∧Below w.heap.size w w'
 go_enter Tryz.func89,Tryz.ntmps89
 go_wp2
 go_loopw [1,5] (fun v i wr=>∃(k:Nat) (q:Int),k≤l.length∧i=.int .i64 k∧v=.int .i64 q∧Hid (q=k0+(E.cntcL (l.take k):Nat))∧Below w.heap.size w wr) (fun _ i _=>l.length-(intOf i).toNat)
 case atStart=>exact⟨0,k0,Nat.zero_le _,rfl,rfl,(by show _=_;simp [E.cntcL]),Below.refl _ _⟩
 case round =>
  obtain⟨k,q,hk,rfl,rfl,HQ,hb⟩:=hrel
  have hzb:=hb.size
  by_cases hlt:k<l.length
  ·have HT:=Lib.hid (E.cntcL_take l k hlt)
   have hq0:0≤q:=by have:=HQ.out;omega
   have hlm:k<(E.mkcL l k0).length:=by rw [E.mkcL_len];exact hlt
   obtain⟨y0,y1,y2,ex,gy0,gy1,gy2,-⟩:=zk2 (h1 _ (List.getElem_mem hlt))
   have HCX:Hid ((E.agg [.int .i64 y0,.int .i64 y1,.str y2]).cntc=(1+(1+(1+0)))):=rfl
   have hq1:q+(((1+(1+(1+0))):Nat):Int)≤1152921504606846976:=by have e1:=HQ.out;have e2:=HT.out;have e3:=E.cntcL_le l (k+1);rw [ex,HCX.out] at e2;omega
   have FF:∀t0 t1 t2:Int,(q)=t0→(q+1)=t1→(q+1+1)=t2→(E.agg [(E.int .i64 (q)),(E.int .i64 (q+1)),(E.str (markT (q+1+1)))])=(E.agg [(E.int .i64 t0),(E.int .i64 t1),(E.str (markT t2))]):=by
    intro t0 t1 t2 ht0 ht1 ht2
    subst ht0
    subst ht1
    subst ht2
    rfl
   have EX:(E.agg [(E.int .i64 (q)),(E.int .i64 (q+1)),(E.str (markT (q+1+1)))])=(E.agg [.int .i64 y0,.int .i64 y1,.str y2]).mkc q:=FF _ _ _ (by first|rfl|omega|(show _=_;simp only [E.cnt,E.cntL,E.cntc,E.cntcL,reduceCtorEq,if_false,if_true,ite_false];omega)) (by first|rfl|omega|(show _=_;simp only [E.cnt,E.cntL,E.cntc,E.cntcL,reduceCtorEq,if_false,if_true,ite_false];omega)) (by first|rfl|omega|(show _=_;simp only [E.cnt,E.cntL,E.cntc,E.cntcL,reduceCtorEq,if_false,if_true,ite_false];omega))
   have hs':=hs.below hb (Nat.le_refl _)
   have hin:=(hr.el (List.getElem_mem hlm)).below hb (Nat.le_refl _)
   obtain⟨b,o,rfl,hbl,hc⟩:=hs'.at_ hlm
   rw [E.mkcL_at l k0 k hlt,ex,←HQ.out,←EX] at hc hin
   clear EX FF
   have HEX:=Lib.hid ex
   clear ex hlm hs'
   have c0_0:wr.cell? ⟨b,o+k*3,none⟩=some (.int .i64 (q)):=by have h:=hc 0 _ rfl;exact h
   have c0_1:wr.cell? ⟨b,o+k*3+1,none⟩=some (.int .i64 (q+1)):=by have h:=hc 1 _ rfl;exact h
   have c0_2:wr.cell? ⟨b,o+k*3+2,none⟩=some (.string (markT (q+1+1))):=by have h:=hc 2 _ rfl;exact h
   clear hc
   clear hin
   go_wp2_with fail
   go_region_held3 (fun w'=>w'.cell? ⟨b,o+k*3+2,none⟩=some (.string (markT (q+1+1)))) (first|assumption|skip) ((go_at_call 117;refine (zd5 _ _ (by omega)).mono ?_;rintro e w1 ⟨rfl,hb1⟩;have hz1:=hb1.size;(try simp only [World.size_alloc,World.size_drew,World.heap_drewN,World.size_setCell] at hz1);have c1_2:=zc1 hb1 c0_2 (by first|omega|(simp;omega))))
   go_wp2_with fail
   go_roundw
   case rel=>exact⟨k+1,_,by omega,by go_num,rfl,(by show _=_;have e1:=HQ.out;have e2:=HT.out;rw [HEX.out,HCX.out] at e2;omega),by exact by0⟩
   case measure=>simp [intOf];omega
  ·have hk':k=l.length:=by omega
   subst hk'
   go_wp2
   go_ret
   have e1:=HQ.out
   rw [List.take_length] at e1
   exact⟨ri e1,hb⟩
theorem zs15 {e:E}(ht:e.Ty Tryz.prog 30):Mar 45 e:=by
 obtain⟨A,c,l,rfl,h1,h2⟩:=ht.lst_ Tryz.underlying30 (k:=3) (by kernel_rfl)
 exact markValS_all' A c l h1 h2
theorem zt15 {e:E}(ht:e.Ty Tryz.prog 30):Hel 89 e:=by
 obtain⟨A,c,l,rfl,h1,h2⟩:=ht.lst_ Tryz.underlying30 (k:=3) (by kernel_rfl)
 exact heldValS_all' A c l h1 h2
set_option maxRecDepth 100000
def valE (e:E):Bool:=match e with | .agg [.int _ a,.int _ b,.str s]=>valOk a b s|_=>false
theorem za14 {a b:Int}{s:ByteArray}(w:World)(St:Nat→Prop)(φ:Nat→Lc)(K:Nat→Prop)(us':List Value)(h:VRL w St φ K [.ag (acE (.agg [.int .i64 a,.int .i64 b,.str s]))] us'):us'=[.agg #[.int .i64 a,.int .i64 b,.string s]]:=by
 simp only [acE,acL,List.append_nil,List.cons_append,List.nil_append,VRL,VR,CRL,CR] at h
 obtain⟨u,us1,rfl,⟨vs,rfl,u1,r1,f1,f1',rfl,e1,⟨rfl,-,rfl⟩,u2,r2,f2,f2',rfl,rfl,⟨rfl,-,rfl⟩,u3,r3,f3,f3',rfl,rfl,⟨rfl,-,rfl⟩,rfl,rfl⟩,rfl⟩:=h
 rfl
theorem zn17 {e:E}(he:e.Ty Tryz.prog 75):Ctr Tryz.prog 105 [.ag (acE e)] [] (.c (.v (.bool (valE e)))) []:=by
 obtain⟨a,b,s,rfl,ga,gb,gs,-⟩:=zk2 he
 exact zb4 (by kernel_rfl) rfl za14 fun w=>zt7 a b s w (zj12 gb)
theorem zo17 {e:E}(he:e.Ty Tryz.prog 75):Ctr Tryz.prog 94 [.ag (acE e)] [] (.c (.v (.bool (valE e)))) []:=by
 obtain⟨a,b,s,rfl,ga,gb,gs,-⟩:=zk2 he
 exact zb4 (by kernel_rfl) rfl za14 fun w=>zu7 a b s w (zj12 gb)
end Go.Proofs.YtghljnfbbaklnaaGreat
-- BIT
-- MVP
namespace Go.Proofs.YtghljnfbbaklnaaGreat
open Go.RowKit
set_option maxRecDepth 100000
end Go.Proofs.YtghljnfbbaklnaaGreat
namespace Go.Proofs.YtghljnfbbaklnaaGreat
open Go.RowKit
set_option maxRecDepth 100000
def litB (c:Nat):Bool:=(decide (97≤c)&&decide (c≤122))||(decide (65≤c)&&decide (c≤90))||(decide (48≤c)&&decide (c≤57))||c==32||c==95||c==45||c==44||c==58
def setAtB (s:ByteArray)(i:Nat):Bool:=litB (bAt s i)&&(i==0||decide (bAt s (i-1)<bAt s i))
def setOkB (s:ByteArray):Bool:=(List.range s.size).all (setAtB s)&&(decide (1≤s.size)&&decide (s.size≤10))
def loopK (k:Int):Bool:=k==6||k==7||k==8
def rexE (k:Int)(s:ByteArray)(l:List E):E:=.agg [.int .i64 k,.str s,.lst 3 208 none 0 l]
def zeroR:E:=rexE 0 ByteArray.empty []
def E.rk:E→Int
 | .agg (.int _ k :: _)=>k
 | _=>0
def E.rs:E→ByteArray
 | .agg (_ :: .str s :: _)=>s
 | _=>ByteArray.empty
def E.rl:E→List E
 | .agg (_ :: _ :: .lst _ _ _ _ l :: _)=>l
 | _=>[]
def headR (k:Int)(s:ByteArray)(l:List E):Bool :=
 if k=1 then s.size==1&&litB (bAt s 0)&&l.length==0
 else if k=3 then setOkB s&&l.length==0
 else if k=2∨k=9∨k=10∨k=11 then s.size==0&&l.length==0
 else if k=4∨k=5 then s.size==0&&(decide (2≤l.length)&&decide (l.length≤8))
 else if k=6∨k=7∨k=8 then s.size==0&&l.length==1&&!(l.any fun x=>loopK x.rk)
 else false
def headI (e:E):Bool:=headR e.rk e.rs e.rl&&!((e.rk==4||e.rk==5)&&e.rl.any fun x=>x.rk==e.rk)
def sumI (g:E→Nat):List E→Nat→Nat
 | [],n=>n
 | x :: r,n=>if 61≤n+g x then 61 else sumI g r (n+g x)
def partsI:Nat→E→Nat
 | 0,_=>61
 | f+1,e=>if headI e then sumI (partsI f) e.rl 1 else 61
def sumS (g:E→Nat):List E→Nat→Nat
 | [],n=>n
 | x :: r,n=>if n≤60 then sumS g r (n+g x) else n
def partsS:Nat→E→Nat
 | 0,_=>61
 | f+1,e=>sumS (partsS f) e.rl 1
def okS:Nat→E→Bool
 | 0,_=>false
 | f+1,e=>(e.rl.all fun x=>okS f x&&!(x.rk==e.rk&&!loopK e.rk))&&headR e.rk e.rs e.rl
def rexOkI (e:E):Bool:=decide (partsI 6 e≤60)
def rexOkS (e:E):Bool:=decide (partsS 6 e≤60)&&okS 6 e
theorem sumI_le (g:E→Nat):∀(l:List E) (n:Nat),n≤61→sumI g l n≤61
 | [],n,h=>h
 | x :: r,n,h=>by
  unfold sumI
  split
  ·omega
  ·exact sumI_le g r _ (by omega)
theorem partsI_le (f:Nat)(e:E):partsI f e≤61:=by
 cases f with
 | zero=>exact Nat.le_refl _
 | succ f=>unfold partsI;split<;>first|exact sumI_le _ _ _ (by omega)|omega
theorem zp8 {g:E→Nat}:∀{l:List E} {n:Nat},sumI g l n≤60→n≤60∧(∀x∈l,g x≤60)
 | [],n,h=>⟨h,fun x hx=>absurd hx List.not_mem_nil⟩
 | x :: r,n,h=>by
  unfold sumI at h
  split at h
  ·omega
  ·rename_i hn
   obtain⟨h1,h2⟩:=zp8 h
   exact⟨by omega,fun y hy=>by rcases List.mem_cons.1 hy with rfl|hy;·omega
                               ·exact h2 y hy⟩
theorem zp17 {g:E→Nat}:∀(l:List E) (n:Nat),n≤sumS g l n
 | [],n=>Nat.le_refl _
 | x :: r,n=>by
  unfold sumS
  split
  ·exact Nat.le_trans (Nat.le_add_right _ _) (zp17 r _)
  ·exact Nat.le_refl _
theorem za11 {g:E→Nat}:∀{l:List E} {n:Nat},sumS g l n≤60→n≤60∧(∀x∈l,g x≤60)
 | [],n,h=>⟨h,fun x hx=>absurd hx List.not_mem_nil⟩
 | x :: r,n,h=>by
  unfold sumS at h
  split at h
  ·rename_i hn
   have h0:=zp17 r (n+g x) (g:=g)
   obtain⟨h1,h2⟩:=za11 h
   exact⟨hn,fun y hy=>by rcases List.mem_cons.1 hy with rfl|hy;·omega
                         ·exact h2 y hy⟩
  ·omega
theorem zk19 {g h:E→Nat}:∀{l:List E} (n:Nat),(∀x∈l,g x≤60→h x=g x)→sumI g l n≤60→sumS h l n=sumI g l n
 | [],n,_,_=>rfl
 | x :: r,n,hx,hs=>by
  have h0:=(zp8 hs).1
  have h1:=(zp8 hs).2 x List.mem_cons_self
  unfold sumI at hs ⊢
  unfold sumS
  rw [if_pos h0,hx x List.mem_cons_self h1]
  split at hs
  ·omega
  ·rename_i hn;rw [if_neg hn];exact zk19 _ (fun y hy=>hx y (List.mem_cons_of_mem _ hy)) hs
theorem sum_same' {g h:E→Nat}:∀{l:List E} (n:Nat),(∀x∈l,h x≤60→g x=h x)→sumS h l n≤60→sumI g l n=sumS h l n
 | [],n,_,_=>rfl
 | x :: r,n,hx,hs=>by
  have h0:=(za11 hs).1
  have h1:=(za11 hs).2 x List.mem_cons_self
  unfold sumS at hs ⊢
  unfold sumI
  rw [if_pos h0] at hs ⊢
  have h2:=zp17 r (n+h x) (g:=h)
  rw [hx x List.mem_cons_self h1,if_neg (by omega)]
  exact sum_same' _ (fun y hy=>hx y (List.mem_cons_of_mem _ hy)) hs
theorem headI_of {e:E}(h1:headR e.rk e.rs e.rl=true)(h2:(e.rl.all fun x=>!(x.rk==e.rk&&!loopK e.rk))=true):headI e=true:=by
 unfold headI
 rw [h1,Bool.true_and,Bool.not_eq_true',Bool.and_eq_false_iff]
 by_cases hk:(e.rk==4||e.rk==5)=true
 ·right
  rw [Bool.eq_false_iff]
  intro h
  obtain⟨x,hx,hxk⟩:=List.any_eq_true.1 h
  have:=List.all_eq_true.1 h2 x hx
  rw [hxk] at this
  have h3:loopK e.rk=false:=by
   unfold loopK
   rcases Bool.or_eq_true_iff.1 hk with hk|hk<;>rw [eq_of_beq hk]<;>rfl
  rw [h3] at this
  cases this
 ·left;simpa using hk
theorem head_of {e:E}(h:headI e=true):headR e.rk e.rs e.rl=true∧(e.rl.all fun x=>!(x.rk==e.rk&&!loopK e.rk))=true:=by
 unfold headI at h
 rw [Bool.and_eq_true] at h
 refine⟨h.1,List.all_eq_true.2 fun x hx=>?_⟩
 rw [Bool.not_eq_true',Bool.eq_false_iff]
 intro hc
 rw [Bool.and_eq_true,Bool.not_eq_true'] at hc
 have h2:=h.2
 rw [Bool.not_eq_true',Bool.and_eq_false_iff] at h2
 have hk:(e.rl.any fun y=>y.rk==e.rk)=true:=List.any_eq_true.2 ⟨x,hx,hc.1⟩
 rcases h2 with h2|h2
 ·have h1:=h.1
  unfold headR at h1
  by_cases k4:e.rk=4
  ·rw [k4] at h2;cases h2
  by_cases k5:e.rk=5
  ·rw [k5] at h2;cases h2
  have hl:¬e.rl.length=0:=fun h0=>by rw [List.length_eq_zero_iff.1 h0] at hx;exact absurd hx List.not_mem_nil
  have hlk:¬(e.rk=6∨e.rk=7∨e.rk=8):=fun h0=>by
   have:=hc.2
   unfold loopK at this
   rcases h0 with h0|h0|h0<;>rw [h0] at this<;>cases this
  have hl':(e.rl.length==0)=false:=by simpa using hl
  simp only [hl',Bool.and_false,hlk,if_false,k4,k5,or_self] at h1
  split at h1<;>(try cases h1)
  split at h1<;>(try cases h1)
  split at h1<;>cases h1
 ·rw [hk] at h2;cases h2
theorem zl19 (f:Nat):∀e:E,(partsI f e≤60↔partsS f e≤60∧okS f e=true)∧(partsI f e≤60→partsS f e=partsI f e):=by
 induction f with
 | zero=>intro e;simp [partsI,partsS,okS]
 | succ f ih =>
  intro e
  have key:partsI (f+1) e≤60→partsS (f+1) e=partsI (f+1) e∧okS (f+1) e=true:=by
   intro h
   unfold partsI at h ⊢
   split at h
   ·rename_i hh
    rw [if_pos hh]
    have h1:=(zp8 h).2
    refine⟨?_,?_⟩
    ·unfold partsS
     exact zk19 _ (fun x hx hp=>(ih x).2 hp) h
    ·unfold okS
     obtain⟨h3,h4⟩:=head_of hh
     rw [h3,Bool.and_true]
     refine List.all_eq_true.2 fun x hx=>?_
     rw [((ih x).1.1 (h1 x hx)).2,Bool.true_and]
     exact List.all_eq_true.1 h4 x hx
   ·omega
  refine⟨⟨fun h=>⟨by rw [(key h).1];exact h,(key h).2⟩,fun ⟨h1,h2⟩=>?_⟩,fun h=>(key h).1⟩
  unfold okS at h2
  rw [Bool.and_eq_true] at h2
  have hall:=List.all_eq_true.1 h2.1
  have hh:headI e=true:=headI_of h2.2 (List.all_eq_true.2 fun x hx=>(Bool.and_eq_true_iff.1 (hall x hx)).2)
  unfold partsI
  rw [if_pos hh]
  unfold partsS at h1
  have h3:=(za11 h1).2
  rw [sum_same' (h:=partsS f) _ (fun x hx hp=>?_) h1]
  ·exact h1
  ·exact ((ih x).2 ((ih x).1.2 ⟨hp,(Bool.and_eq_true_iff.1 (hall x hx)).1⟩)).symm
theorem za21 (e:E):rexOkI e=rexOkS e:=by
 unfold rexOkI rexOkS
 have h:=(zl19 6 e).1
 by_cases h1:partsI 6 e≤60
 ·have:=h.1 h1
  simp [h1,this]
 ·have h2:¬(partsS 6 e≤60∧okS 6 e=true):=fun q=>h1 (h.2 q)
  simp only [h1,decide_false]
  by_cases h3:partsS 6 e≤60
  ·have:okS 6 e=false:=by simpa using fun q=>h2 ⟨h3,q⟩
   simp [this]
  ·simp [h3]
end Go.Proofs.YtghljnfbbaklnaaGreat
