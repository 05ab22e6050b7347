/- T -/
import Derived.Test.YtmnneflenebgmaaGreatCnOAI
set_option maxHeartbeats 0
set_option maxRecDepth 100000
namespace Go.Proofs.YtmnneflenebgmaaGreat
open Go.RowKit Go.Proofs.Tryz
theorem cK {e:E}(h:e.Ty prog 36):∃(x0:Int) (x1:Int) (x2:ByteArray),e=(E.agg [.int .i64 x0,.int .i64 x1,.str x2])∧((Lit.int .i64 x0).wf=true)∧((Lit.int .i64 x1).wf=true)∧(x2.size≤9223372036854775807)∧True:=by
 obtain⟨fs,rfl,q0⟩:=h.agg_ underlying36
 change E.TyF _ _ [3,3,9] at q0
 obtain⟨e0,r0,rfl,h0,q1⟩:=q0.cons_
 obtain⟨e1,r1,rfl,h1,q2⟩:=q1.cons_
 obtain⟨e2,r2,rfl,h2,q3⟩:=q2.cons_
 obtain rfl:=q3.nil_
 obtain⟨x0,rfl,gx0⟩:=h0.int_ underlying3
 obtain⟨x1,rfl,gx1⟩:=h1.int_ underlying3
 obtain⟨x2,rfl,gx2⟩:=h2.str_ underlying9
 exact⟨x0,x1,x2,rfl,gx0,gx1,gx2,trivial⟩
theorem v7 {e e':E}(ht:e.Ty prog 36)(ht':e'.Ty prog 36):Eq 72 e e':=by
 obtain⟨x0,x1,x2,rfl,gx0,gx1,gx2,-⟩:=cK ht
 obtain⟨y0,y1,y2,rfl,gy0,gy1,gy2,-⟩:=cK ht'
 intro hd w hr hr'
 simp only [E.d,E.dL,E.agg.injEq,List.cons.injEq,E.int.injEq,E.str.injEq,E.bool.injEq,E.lst.injEq,true_and,and_true] at hd
 obtain⟨rfl,rfl,rfl⟩:=hd
 change Calls _ _ #[.agg #[.int .i64 x0,.int .i64 x1,.string x2],.agg #[.int .i64 x0,.int .i64 x1,.string x2]] w _
 go_enter func72,Tryz.ntmps72
 go_wp2
 go_ret
 exact⟨rfl,by0⟩
theorem eqValS_all' (A B:Option Addr)(c c':Nat)(l m:List E)(h1:∀y∈l,y.Ty prog 36)(h2:∀y∈m,y.Ty prog 36):Eq 29 (.lst 3 36 A c l) (.lst 3 36 B c' m):=by
 intro hd w hr hr'
 rw [jZ] at hd
 have hs:=hr.sl
 have hs':=hr'.sl
 have hml:=rx hd
 have HD:=Lib.hid hd
 clear hd
 have hlen:=hs.len_le
 change Calls _ _ #[.slice A l.length c,.slice B m.length c'] w _
 obtain⟨N,HN⟩:∃N,Hid (m.length=N):=⟨_,rfl⟩
 have hN:N=l.length:=by have:=HN.out;omega
 subst hN
 rw [HN.out]
 clear hml
 go_enter func29,Tryz.ntmps29
 go_wp2
 go_loopw [5] (fun i wr=>∃(k:Nat),k≤l.length∧i=.int .i64 k∧Below w.heap.size w wr) (fun i _=>l.length-(intOf i).toNat)
 case atStart=>exact⟨0,Nat.zero_le _,rfl,Below.refl _ _⟩
 case round =>
  obtain⟨k,hk,rfl,hb⟩:=hrel
  by_cases hlt:k<l.length
  ·have hltm:k<m.length:=by have:=HN.out;omega
   have hsb:=hs.below hb (Nat.le_refl _)
   have hsb':=hs'.below hb (Nat.le_refl _)
   have hdk:=d_at HD.out hlt hltm
   obtain⟨b,o,rfl,_,hc⟩:=hsb.at_ hlt
   obtain⟨b',o',rfl,_,hd⟩:=hsb'.at_ hltm
   have hin:=(hr.el (List.getElem_mem hlt)).below hb (Nat.le_refl _)
   have hin':=(hr'.el (List.getElem_mem hltm)).below hb (Nat.le_refl _)
   have H:=v7 (h1 _ (List.getElem_mem hlt)) (h2 _ (List.getElem_mem hltm)) hdk
   obtain⟨x0,x1,x2,ex,gx0,gx1,gx2,-⟩:=cK (h1 _ (List.getElem_mem hlt))
   obtain⟨y0,y1,y2,ey,gy0,gy1,gy2,-⟩:=cK (h2 _ (List.getElem_mem hltm))
   rw [ex] at hc hin
   rw [ey] at hd hin'
   rw [ex,ey] at H
   clear ex ey hdk
   have c0:=hc 0 _ rfl;have c1:=hc 1 _ rfl;have c2:=hc 2 _ rfl
   have d0:=hd 0 _ rfl;have d1:=hd 1 _ rfl;have d2:=hd 2 _ rfl
   rw [Nat.add_zero] at c0 d0
   clear hc hd
   have hzb:=hb.size
   have HH:=Lib.hid H
   clear H
   go_wp2
   go_region_held3 (fun w'=>w'.cell? ⟨b,o+k*3,none⟩=some (.int .i64 x0)∧w'.cell? ⟨b,o+k*3+1,none⟩=some (.int .i64 x1)∧w'.cell? ⟨b,o+k*3+2,none⟩=some (.string x2)∧w'.cell? ⟨b',o'+k*3,none⟩=some (.int .i64 y0)∧w'.cell? ⟨b',o'+k*3+1,none⟩=some (.int .i64 y1)∧w'.cell? ⟨b',o'+k*3+2,none⟩=some (.string y2))
    (first|exact⟨c0,c1,c2,d0,d1,d2⟩|skip)
    ((go_at_call 72;refine (HH.out _ by2 by2).mono ?_;rintro e w1 ⟨rfl,hb1⟩;have c0:=aJ hb1 c0 by1;have c1:=aJ hb1 c1 by1;have c2:=aJ hb1 c2 by1;have d0:=aJ hb1 d0 by1;have d1:=aJ hb1 d1 by1;have d2:=aJ hb1 d2 by1))
   go_wp2
   go_roundw
   case rel=>exact⟨k+1,omq,by go_num,by exact by0⟩
   case measure=>simp [intOf];omega
  ·go_wp2
   go_ret
   exact⟨rfl,hb⟩
theorem je {e e':E}(ht:e.Ty prog 29)(ht':e'.Ty prog 29):Eq 29 e e':=by
 obtain⟨A,c,l,rfl,h1,_⟩:=ht.lst_ underlying29 (k:=3) (by kernel_rfl)
 obtain⟨B,c',m,rfl,h2,_⟩:=ht'.lst_ underlying29 (k:=3) (by kernel_rfl)
 exact eqValS_all' A B c c' l m h1 h2
theorem markValS_all' (A:Option Addr)(c:Nat)(l:List E)(h1:∀y∈l,y.Ty prog 36)(h2:∀y∈l,y.enc.length=3):Mar 30 (.lst 3 36 A c l):=by
 intro lo hi k0 w ho hnd hhi hk0 hk1
 have HCN:Hid ((E.lst 3 36 A c l).cnt=E.cntcL l):=rfl
 rw [HCN.out] at hk1
 have HND:=Lib.hid hnd
 clear hnd
 have hlen:=ho.re.sl.len_le
 have how0:=ho
 rw [←fj l k0] at how0
 clear ho
 change Calls _ _ #[.slice A l.length c,.int .i64 k0] w _
 rw [HCN.out]
 change Calls _ _ _ w fun r w'=>r=.returned (.int .i64 (k0+(E.cntcL l:Nat)))∧(E.lst 3 36 A c (E.mkcL l k0)).Ho w' lo hi∧Fr (E.lst 3 36 A c l).fp w w'
 go_enter func30,Tryz.ntmps30
 go_wp2
 go_loopw [1,5] (fun v i wr=>∃(k:Nat) (q:Int),k≤l.length∧i=.int .i64 k∧v=.int .i64 q∧Hid (q=k0+(E.cntcL (l.take k):Nat))∧Fr (E.lst 3 36 A c l).fp w wr∧Hid ((E.lst 3 36 A c (ec l k0 k)).Ho wr lo hi)) (fun _ i _=>l.length-(intOf i).toNat)
 case atStart=>exact⟨0,k0,Nat.zero_le _,rfl,rfl,(by show _=_;simp [E.cntcL]),Fr.refl _ _,how0⟩
 case round =>
  obtain⟨k,q,hk,rfl,rfl,HQ,hF0,HOW⟩:=hrel
  have hzk:=hF0.size
  by_cases hlt:k<l.length
  ·have HT:=Lib.hid (E.cntcL_take l k hlt)
   have hq0:0≤q:=by have:=HQ.out;omega
   have hml:k<(ec l k0 k).length:=by rw [fI];exact hlt
   have how:=HOW.out
   obtain⟨g,rfl,hg1,hg2,hg3⟩:=how.head omq
   obtain⟨y0,y1,y2,ex,gy0,gy1,gy2,-⟩:=cK (h1 _ (List.getElem_mem hlt))
   have HCX:Hid ((E.agg [.int .i64 y0,.int .i64 y1,.str y2]).cntc=(1+(1+(1+0)))):=rfl
   have hq1:q+(((1+(1+(1+0))):Nat):Int)≤1152921504606846976:=by have e1:=HQ.out;have e2:=HT.out;have e3:=E.cntcL_le l (k+1);rw [ex,HCX.out] at e2;omega
   have e0:ec l k0 k=(ec l k0 k).set k (E.agg [.int .i64 y0,.int .i64 y1,.str y2]):=by rw [←ex,←ew l k0 k hlt];exact (List.set_getElem_self _).symm
   have HN2:=Lib.hid (fun (z:E) (hz:z.fp=(E.agg [.int .i64 y0,.int .i64 y1,.str y2]).fp)=>(show (E.lst 3 36 (some ⟨g,0,none⟩) c ((ec l k0 k).set k z)).fp.Nodup by have hh:=HND.out;have h3:E.fpL ((ec l k0 k).set k z)=E.fpL l:=(E.fpL_set hml (by rw [hz,←ex,ew l k0 k hlt])).trans (iN l k0 k);simp only [E.fp] at hh ⊢;rw [h3];exact hh))
   have HSB:=Lib.hid (fun (b:Nat) (hb:b∈(E.agg [.int .i64 y0,.int .i64 y1,.str y2]).fp)=>(show b∈(E.lst 3 36 (some ⟨g,0,none⟩) c l).fp by simp only [E.fp];exact List.mem_append_right _ (E.mem_fpL.2 ⟨l[k],List.getElem_mem hlt,by rw [ex];exact hb⟩)))
   have hgm:g∈(E.lst 3 36 (some ⟨g,0,none⟩) c l).fp:=by simp [E.fp]
   have HGM:=Lib.hid hgm
   clear hgm
   rw [e0] at how
   clear e0
   obtain⟨ms,HMS⟩:∃ms,Hid (ec l k0 k=ms):=⟨_,rfl⟩
   rw [HMS.out] at how hml HN2
   have HEX:=Lib.hid ex
   clear ex
   have HML:=Lib.hid hml
   clear hml
   have H0:=Lib.hid how
   clear how
   have c0_0:wr.cell? ⟨g,k*3,none⟩=some (.int .i64 y0):=H0.out.cellx (j:=0) (u:=.int .i64 y0) (by simpa using HML.out) (a7 HML.out _) rfl
   have c0_1:wr.cell? ⟨g,k*3+1,none⟩=some (.int .i64 y1):=H0.out.cellx (j:=1) (u:=.int .i64 y1) (by simpa using HML.out) (a7 HML.out _) rfl
   have c0_2:wr.cell? ⟨g,k*3+2,none⟩=some (.string y2):=H0.out.cellx (j:=2) (u:=.string y2) (by simpa using HML.out) (a7 HML.out _) rfl
   have fz0:=H0.out.frzx
   go_wp2_with fail
   have H1:Hid ((E.lst 3 36 (some ⟨g,0,none⟩) c (ms.set k (E.agg [(E.int .i64 (q)),(E.int .i64 y1),(E.str y2)]))).Ho (wr.setCell ⟨g,k*3,none⟩ (.int .i64 (q))) lo hi):=H0.out.store (HN2.out _ (by first|rfl|(simp only [E.fp,E.fpL,E.mkcL_fp,E.mk0L_fp,E.mk0_fp,E.mkc_fp];done)|fail)) HML.out (E.agg [(E.int .i64 (q)),(E.int .i64 y1),(E.str y2)]) 0 (.int .i64 (q)) omq rfl (fun _ h=>h)
   clear H0
   have H2:Hid ((E.lst 3 36 (some ⟨g,0,none⟩) c (ms.set k (E.agg [(E.int .i64 (q)),(E.int .i64 (q+1)),(E.str y2)]))).Ho ((wr.setCell ⟨g,k*3,none⟩ (.int .i64 (q))).setCell ⟨g,k*3+1,none⟩ (.int .i64 (q+1))) lo hi):=H1.out.store (HN2.out _ (by first|rfl|(simp only [E.fp,E.fpL,E.mkcL_fp,E.mk0L_fp,E.mk0_fp,E.mkc_fp];done)|fail)) HML.out (E.agg [(E.int .i64 (q)),(E.int .i64 (q+1)),(E.str y2)]) 1 (.int .i64 (q+1)) omq rfl (fun _ h=>h)
   clear H1
   clear c0_0 c0_1 c0_2 fz0
   go_at_call 71
   refine (db _ _ omq).mono ?_;rintro e w1 ⟨rfl,hb1⟩
   have hz1:=hb1.size;(try simp only [World.size_setCell] at hz1)
   have H3:=Lib.hid (H2.out.below hb1 (by first|omega|(simp;omega)))
   clear H2
   have hF1:Fr (E.lst 3 36 (some ⟨g,0,none⟩) c l).fp w w1:=((hF0.set HGM.out (.int .i64 (q))).set HGM.out (.int .i64 (q+1))).trans (Fr.of_below hb1)
   have c1_0:w1.cell? ⟨g,k*3,none⟩=some (.int .i64 (q)):=H3.out.cellx (j:=0) (u:=.int .i64 (q)) (by simpa using HML.out) (a7 HML.out _) rfl
   have c1_1:w1.cell? ⟨g,k*3+1,none⟩=some (.int .i64 (q+1)):=H3.out.cellx (j:=1) (u:=.int .i64 (q+1)) (by simpa using HML.out) (a7 HML.out _) rfl
   have c1_2:w1.cell? ⟨g,k*3+2,none⟩=some (.string y2):=H3.out.cellx (j:=2) (u:=.string y2) (by simpa using HML.out) (a7 HML.out _) rfl
   have fz1:=H3.out.frzx
   go_wp2
   go_roundw
   case rel =>
    have H4:Hid ((E.lst 3 36 (some ⟨g,0,none⟩) c (ms.set k (E.agg [(E.int .i64 (q)),(E.int .i64 (q+1)),(E.str (aM (q+1+1)))]))).Ho (w1.setCell ⟨g,k*3+2,none⟩ (.string (aM (q+1+1)))) lo hi):=H3.out.store (HN2.out _ (by first|rfl|(simp only [E.fp,E.fpL,E.mkcL_fp,E.mk0L_fp,E.mk0_fp,E.mkc_fp];done)|fail)) HML.out (E.agg [(E.int .i64 (q)),(E.int .i64 (q+1)),(E.str (aM (q+1+1)))]) 2 (.string (aM (q+1+1))) omq rfl (fun _ h=>h)
    have FF:∀t0 t1 t2:Int,(q)=t0→(q+1)=t1→(q+1+1)=t2→(E.agg [(E.int .i64 (q)),(E.int .i64 (q+1)),(E.str (aM (q+1+1)))])=(E.agg [(E.int .i64 t0),(E.int .i64 t1),(E.str (aM t2))]):=by
     intro t0 t1 t2 ht0 ht1 ht2
     subst ht0
     subst ht1
     subst ht2
     rfl
    have EX:(E.agg [(E.int .i64 (q)),(E.int .i64 (q+1)),(E.str (aM (q+1+1)))])=(E.agg [.int .i64 y0,.int .i64 y1,.str y2]).mkc q:=FF _ _ _ (by first|rfl|omega|(show _=_;simp only [E.cnt,E.cntL,E.cntc,E.cntcL,reduceCtorEq,if_false,if_true,ite_false];omega)) (by first|rfl|omega|(show _=_;simp only [E.cnt,E.cntL,E.cntc,E.cntcL,reduceCtorEq,if_false,if_true,ite_false];omega)) (by first|rfl|omega|(show _=_;simp only [E.cnt,E.cntL,E.cntc,E.cntcL,reduceCtorEq,if_false,if_true,ite_false];omega))
    exact⟨k+1,_,omq,by go_num,rfl,(by show _=_;have e1:=HQ.out;have e2:=HT.out;rw [HEX.out,HCX.out] at e2;omega),(hF1.set HGM.out (.string (aM (q+1+1)))),(by show E.Ho _ _ _ _;rw [←fm l k0 k hlt,HEX.out,←HQ.out,←EX,HMS.out];exact H4.out)⟩
   case measure=>simp [intOf];omega
  ·have hk':k=l.length:=by omega
   subst hk'
   go_wp2
   go_ret
   have e1:=HQ.out
   rw [List.take_length] at e1
   have h:=HOW.out
   rw [gC] at h
   exact⟨ri e1,h,hF0⟩
theorem heldValS_all' (A:Option Addr)(c:Nat)(l:List E)(h1:∀y∈l,y.Ty prog 36)(h2:∀y∈l,y.enc.length=3):Hel 31 (.lst 3 36 A c l):=by
 intro k0 w hr h0 hk1
 have HCN:Hid ((E.lst 3 36 A c l).cnt=E.cntcL l):=rfl
 rw [HCN.out] at hk1
 change (E.lst 3 36 A c (E.mkcL l k0)).In w at hr
 have hs:=hr.sl
 have hlen:=hs.len_le
 rw [E.mkcL_len] at hlen
 change Calls _ _ #[.slice A l.length c,.int .i64 k0] w _
 rw [HCN.out]
 change Calls _ _ _ w fun r w'=>r=.returned (.int .i64 (k0+(E.cntcL l:Nat)))∧Below w.heap.size w w'
 go_enter func31,Tryz.ntmps31
 go_wp2
 go_loopw [1,5] (fun v i wr=>∃(k:Nat) (q:Int),k≤l.length∧i=.int .i64 k∧v=.int .i64 q∧Hid (q=k0+(E.cntcL (l.take k):Nat))∧Below w.heap.size w wr) (fun _ i _=>l.length-(intOf i).toNat)
 case atStart=>exact⟨0,k0,Nat.zero_le _,rfl,rfl,(by show _=_;simp [E.cntcL]),Below.refl _ _⟩
 case round =>
  obtain⟨k,q,hk,rfl,rfl,HQ,hb⟩:=hrel
  have hzb:=hb.size
  by_cases hlt:k<l.length
  ·have HT:=Lib.hid (E.cntcL_take l k hlt)
   have hq0:0≤q:=by have:=HQ.out;omega
   have hlm:k<(E.mkcL l k0).length:=by rw [E.mkcL_len];exact hlt
   obtain⟨y0,y1,y2,ex,gy0,gy1,gy2,-⟩:=cK (h1 _ (List.getElem_mem hlt))
   have HCX:Hid ((E.agg [.int .i64 y0,.int .i64 y1,.str y2]).cntc=(1+(1+(1+0)))):=rfl
   have hq1:q+(((1+(1+(1+0))):Nat):Int)≤1152921504606846976:=by have e1:=HQ.out;have e2:=HT.out;have e3:=E.cntcL_le l (k+1);rw [ex,HCX.out] at e2;omega
   have FF:∀t0 t1 t2:Int,(q)=t0→(q+1)=t1→(q+1+1)=t2→(E.agg [(E.int .i64 (q)),(E.int .i64 (q+1)),(E.str (aM (q+1+1)))])=(E.agg [(E.int .i64 t0),(E.int .i64 t1),(E.str (aM t2))]):=by
    intro t0 t1 t2 ht0 ht1 ht2
    subst ht0
    subst ht1
    subst ht2
    rfl
   have EX:(E.agg [(E.int .i64 (q)),(E.int .i64 (q+1)),(E.str (aM (q+1+1)))])=(E.agg [.int .i64 y0,.int .i64 y1,.str y2]).mkc q:=FF _ _ _ (by first|rfl|omega|(show _=_;simp only [E.cnt,E.cntL,E.cntc,E.cntcL,reduceCtorEq,if_false,if_true,ite_false];omega)) (by first|rfl|omega|(show _=_;simp only [E.cnt,E.cntL,E.cntc,E.cntcL,reduceCtorEq,if_false,if_true,ite_false];omega)) (by first|rfl|omega|(show _=_;simp only [E.cnt,E.cntL,E.cntc,E.cntcL,reduceCtorEq,if_false,if_true,ite_false];omega))
   have hs':=hs.below hb (Nat.le_refl _)
   have hin:=(hr.el (List.getElem_mem hlm)).below hb (Nat.le_refl _)
   obtain⟨b,o,rfl,hbl,hc⟩:=hs'.at_ hlm
   rw [E.mkcL_at l k0 k hlt,ex,←HQ.out,←EX] at hc hin
   clear EX FF
   have HEX:=Lib.hid ex
   clear ex hlm hs'
   have c0_0:wr.cell? ⟨b,o+k*3,none⟩=some (.int .i64 (q)):=by have h:=hc 0 _ rfl;exact h
   have c0_1:wr.cell? ⟨b,o+k*3+1,none⟩=some (.int .i64 (q+1)):=by have h:=hc 1 _ rfl;exact h
   have c0_2:wr.cell? ⟨b,o+k*3+2,none⟩=some (.string (aM (q+1+1))):=by have h:=hc 2 _ rfl;exact h
   clear hc
   clear hin
   go_wp2_with fail
   go_region_held3 (fun w'=>w'.cell? ⟨b,o+k*3+2,none⟩=some (.string (aM (q+1+1)))) (first|assumption|skip) ((go_at_call 71;refine (db _ _ omq).mono ?_;rintro e w1 ⟨rfl,hb1⟩;have hz1:=hb1.size;(try simp only [World.size_alloc,World.size_drew,World.heap_drewN,World.size_setCell] at hz1);have c1_2:=aJ hb1 c0_2 (by first|omega|(simp;omega))))
   go_wp2_with fail
   go_roundw
   case rel=>exact⟨k+1,_,omq,by go_num,rfl,(by show _=_;have e1:=HQ.out;have e2:=HT.out;rw [HEX.out,HCX.out] at e2;omega),by exact by0⟩
   case measure=>simp [intOf];omega
  ·have hk':k=l.length:=by omega
   subst hk'
   go_wp2
   go_ret
   have e1:=HQ.out
   rw [List.take_length] at e1
   exact⟨ri e1,hb⟩
theorem oF {e:E}(ht:e.Ty prog 29):Mar 30 e:=by
 obtain⟨A,c,l,rfl,h1,h2⟩:=ht.lst_ underlying29 (k:=3) (by kernel_rfl)
 exact markValS_all' A c l h1 h2
theorem jz {e:E}(ht:e.Ty prog 29):Hel 31 e:=by
 obtain⟨A,c,l,rfl,h1,h2⟩:=ht.lst_ underlying29 (k:=3) (by kernel_rfl)
 exact heldValS_all' A c l h1 h2
section
variable {ops:Array Oper}{Q:Exit→Act→World→Prop}{C:Ctx}{H:List (Nat×Oper×Inf)}{i:Nat}{r:List Nat}{dr:Bool}
variable {tm:Nat→AV}{hp:Nat→Option Row}{gn L:Nat}{us:List Nat}
theorem v8 {t:Nat}{gd:Option (Nat×Bool)}{ps:String}{af:Array Edge}{ty ty':TypeId}{xo yo:Operand}{a0 b0:Int}{a1 b1:Int}{a2 b2:ByteArray}(h:Walk prog ops Q C dr (bP dr (i,(⟨some t,.binOp .eql 36 xo yo ty',ty,ps,af,gd⟩:Oper),⟨fpO (AS.ev ⟨tm,hp,gn,us,L⟩) (⟨some t,.binOp .eql 36 xo yo ty',ty,ps,af,gd⟩:Oper),[],[],.c (.v (.bool ((a0==b0)&&((a1==b1)&&(a2.toList==b2.toList)))))⟩) H) r ⟨upd tm t (.c (.v (.bool ((a0==b0)&&((a1==b1)&&(a2.toList==b2.toList)))))),hp,gn,us,L⟩)
 (ht:Nat.blt t L=true:=by exact rfl) (hg:gw ops tm (⟨some t,.binOp .eql 36 xo yo ty',ty,ps,af,gd⟩:Oper)=some true:=by exact rfl) (hx:AS.ev ⟨tm,hp,gn,us,L⟩ xo=.ag [.v (.int .i64 a0),.v (.int .i64 a1),.v (.string a2)]:=by exact rfl) (hy:AS.ev ⟨tm,hp,gn,us,L⟩ yo=.ag [.v (.int .i64 b0),.v (.int .i64 b1),.v (.string b2)]:=by exact rfl)
 (hc:chk dr ops i (⟨some t,.binOp .eql 36 xo yo ty',ty,ps,af,gd⟩:Oper) ⟨fpO (AS.ev ⟨tm,hp,gn,us,L⟩) (⟨some t,.binOp .eql 36 xo yo ty',ty,ps,af,gd⟩:Oper),[],[],.c (.v (.bool ((a0==b0)&&((a1==b1)&&(a2.toList==b2.toList)))))⟩ H=true:=by first|(with_reducible exact bB)|kernel_rfl):WalkO prog ops Q C dr H i (⟨some t,.binOp .eql 36 xo yo ty',ty,ps,af,gd⟩:Oper) r ⟨tm,hp,gn,us,L⟩ :=
 ⟨fun hop=>w_eqS (xs:=[.int .i64 a0,.int .i64 a1,.string a2]) (ys:=[.int .i64 b0,.int .i64 b1,.string b2]) hop rfl rfl ht hg (by kernel_rfl) (by rw [hx];rfl) (by rw [hy];rfl) (uh a0 b0 a1 b1 a2 b2) (.inl ⟨rfl,rfl⟩) hc h⟩
end
theorem zh4 {l:List E}(hl:∀e∈l,e.Ty prog 36)(hk:∀e∈l,e.enc.length=3)(hlen:l.length≤1073741824)(k n:Int)(s:ByteArray):Ctr prog 105 [.c (.ro l.length 3 (acL l)),.ag [.v (.int .i64 k),.v (.int .i64 n),.v (.string s)]] [] (.c (.v (.int .i64 (gf (isV k n s) l)))) []:=by
 refine av func105 rfl rfl ?_
 repeat' (first|(apply ay;first|refine ao ?_|refine ak ?_|refine aY ?_|refine bL ?_)|refine al ?_|refine ab ?_|refine aa fun C=>?_|refine ae ?_|refine ah ?_)
 refine aP (fun j:Nat=>⟨dA [(0,.c (.ro l.length 3 (acL l))),(3,.c (.pt 3 0)),(7,.c (.v (.int .i64 l.length))),(8,.c (.v (.int .i64 j)))],dq [(3,3,⟨36,0,0,true,[.v (.int .i64 k),.v (.int .i64 n),.v (.string s)]⟩)],0,[3],19⟩)
  (fun N j=>j+N=l.length∧∀i y,i<j→l[i]? = some y→isV k n s y=false) l.length 0 ⟨omq,omq⟩ ?_ ?_
 ·(refine aC _ _ rfl rfl ?_ ?_<;>exact tdy0)
 rintro N j ⟨hN,hno⟩
 repeat' (first|(apply ay;refine aO ?_)|refine al ?_|refine ab ?_|refine aa fun C=>?_|refine ae ?_)
 refine aj (by rfl) (fun h1=>?_) fun h1=>?_
 ·have hj:j<l.length:=by simpa using h1
  obtain⟨x,hx⟩:∃x,l[j]? = some x:=⟨_,List.getElem?_eq_getElem hj⟩
  have hxt:=hl x (List.mem_of_getElem? hx)
  obtain⟨y0,y1,y2,rfl,gy0,gy1,gy2,-⟩:=cK hxt
  have e0:((k==y0)&&((n==y1)&&(s.toList==y2.toList)))=isV k n s (.agg [.int .i64 y0,.int .i64 y1,.str y2]):=by show _=((y0==k)&&((y1==n)&&(y2.toList==s.toList)));rw [BEq.comm (a:=k),BEq.comm (a:=n),BEq.comm (a:=s.toList)]
  repeat' (first|(apply fH;refine v8 ?_)|(apply ay;first|refine ao ?_|refine ak ?_)|refine al ?_|refine ab ?_|(apply fH;first|(apply gg;refine bg ?_)|refine qI ?_|refine rN ?_|refine o_ix ?_)|refine al ?_|refine ab ?_|refine aa fun C=>?_|refine ar (by kernel_rfl) (by kernel_rfl) fun C=>?_|refine ae ?_|refine ah ?_|refine ai ?_)
  refine aj (by rfl) (fun h2=>?_) fun h2=>?_
  ·rw [e0] at h2
   repeat' (first|(apply ay;first|refine ao ?_|refine ak ?_)|refine al ?_|refine ab ?_|refine aa fun C=>?_|refine ae ?_)
   refine am ?_;refine bi rfl aN ⟨?_,rfl⟩;rw [fg hno hx h2]
  ·rw [e0] at h2
   repeat' (first|(apply ay;first|refine ao ?_|refine aD ?_)|refine al ?_|refine ab ?_|refine aa fun C=>?_|refine ai ?_)
   refine⟨N-1,j+1,omq,⟨omq,fun i z hi hz=>?_⟩,?_⟩
   ·by_cases e:i=j
    ·rw [e,hx] at hz;injection hz with hz;subst hz;exact h2
    ·exact hno i z omq hz
   ·(refine aC _ _ rfl rfl ?_ ?_<;>exact tdy0)
 ·have hj:¬j<l.length:=by simpa using h1
  repeat' (first|(apply ay;refine ak ?_)|refine al ?_|refine ab ?_|refine aa fun C=>?_|refine ae ?_|refine au ?_)
  refine am ?_;refine bi rfl aN ⟨?_,rfl⟩;rw [dt fun i y hi hy=>hno i y omq hy]
theorem zE {l:List E}(hl:∀e∈l,e.Ty prog 36)(hk:∀e∈l,e.enc.length=3)(hlen:l.length≤1073741824)(k n:Int)(s:ByteArray):Ctr prog 51 [.c (.ro l.length 3 (acL l)),.ag [.v (.int .i64 k),.v (.int .i64 n),.v (.string s)]] [] (.c (.v (.bool (l.any (isV k n s))))) []:=by
 have cI:=zh4 hl hk hlen k n s
 refine av func51 rfl rfl ?_
 repeat' (first|(apply ay;first|refine ao ?_|refine ak ?_|refine bu ?_|refine aI cI ?_|refine gq ?_|refine bL ?_)|refine al ?_|refine ab ?_|refine aa fun C=>?_|refine ae ?_)
 refine am ?_;refine bi (x:=.c (.v (.bool (decide (gf (isV k n s) l ≥ 0))))) rfl aN ⟨?_,rfl⟩
 rw [fa]
theorem zh2 {l:List E}(hl:∀e∈l,e.Ty prog 36)(hk:∀e∈l,e.enc.length=3)(hlen:l.length≤1073741824)(k n:Int)(s:ByteArray):Ctr prog 199 [.c (.ro l.length 3 (acL l)),.ag [.v (.int .i64 k),.v (.int .i64 n),.v (.string s)]] [] (.c (.v (.int .i64 (gf (isV k n s) l)))) []:=by
 refine av func199 rfl rfl ?_
 repeat' (first|(apply ay;first|refine ak ?_|refine bL ?_)|refine al ?_|refine ab ?_|refine aa fun C=>?_|refine ae ?_|refine ah ?_)
 refine aP (fun j:Nat=>⟨dA [(0,.c (.ro l.length 3 (acL l))),(3,.c (.pt 3 0)),(5,.c (.v (.int .i64 j)))],dq [(3,3,⟨36,0,0,true,[.v (.int .i64 k),.v (.int .i64 n),.v (.string s)]⟩)],0,[3],19⟩)
  (fun N j=>j+N=l.length∧∀i y,i<j→l[i]? = some y→isV k n s y=false) l.length 0 ⟨omq,omq⟩ ?_ ?_
 ·(refine aC _ _ rfl rfl ?_ ?_<;>exact tdy0)
 rintro N j ⟨hN,hno⟩
 repeat' (first|(apply ay;first|refine ao ?_|refine aY ?_|refine aO ?_)|refine al ?_|refine ab ?_|refine aa fun C=>?_|refine ae ?_)
 refine aj (by rfl) (fun h1=>?_) fun h1=>?_
 ·have hj:j<l.length:=by simpa using h1
  obtain⟨x,hx⟩:∃x,l[j]? = some x:=⟨_,List.getElem?_eq_getElem hj⟩
  have hxt:=hl x (List.mem_of_getElem? hx)
  obtain⟨y0,y1,y2,rfl,gy0,gy1,gy2,-⟩:=cK hxt
  have e0:((y0==k)&&((y1==n)&&(y2.toList==s.toList)))=isV k n s (.agg [.int .i64 y0,.int .i64 y1,.str y2]):=rfl
  repeat' (first|(apply fH;refine v8 ?_)|(apply fH;first|(apply gg;refine bg ?_)|refine qI ?_|refine rN ?_|refine o_ix ?_)|refine al ?_|refine ab ?_|refine ar (by kernel_rfl) (by kernel_rfl) fun C=>?_|refine ae ?_|refine ah ?_|refine ai ?_)
  refine aj (by rfl) (fun h2=>?_) fun h2=>?_
  ·rw [e0] at h2
   repeat' (first|(apply ay;first|refine ao ?_|refine ak ?_)|refine al ?_|refine ab ?_|refine aa fun C=>?_|refine ae ?_)
   refine am ?_;refine bi rfl aN ⟨?_,rfl⟩;rw [fg hno hx h2]
  ·rw [e0] at h2
   repeat' (first|(apply ay;first|refine ao ?_|refine ak ?_|refine aD ?_)|refine al ?_|refine ab ?_|refine aa fun C=>?_|refine ai ?_)
   refine⟨N-1,j+1,omq,⟨omq,fun i z hi hz=>?_⟩,?_⟩
   ·by_cases e:i=j
    ·rw [e,hx] at hz;injection hz with hz;subst hz;exact h2
    ·exact hno i z omq hz
   ·(refine aC _ _ rfl rfl ?_ ?_<;>exact tdy0)
 ·have hj:¬j<l.length:=by simpa using h1
  repeat' (first|(apply ay;refine ak ?_)|refine al ?_|refine ab ?_|refine aa fun C=>?_|refine ae ?_|refine au ?_)
  refine am ?_;refine bi rfl aN ⟨?_,rfl⟩;rw [dt fun i y hi hy=>hno i y omq hy]
theorem zi2 {l:List E}(hl:∀e∈l,e.Ty prog 9)(hk:∀e∈l,e.enc.length=1)(hlen:l.length≤1073741824)(s:ByteArray):Ctr prog 159 [.c (.ro l.length 1 (acL l)),.c (.v (.string s))] [] (.c (.v (.int .i64 (gf (fun e=>s.toList==(jt e).toList) l)))) []:=by
 refine av func159 rfl rfl ?_
 repeat' (first|(apply ay;refine ak ?_)|refine al ?_|refine ab ?_|refine aa fun C=>?_|refine ae ?_|refine ah ?_)
 refine aP (fun j:Nat=>⟨dA [(0,.c (.ro l.length 1 (acL l))),(1,.c (.v (.string s))),(5,.c (.v (.int .i64 j)))],dq [],0,[],19⟩)
  (fun N j=>j+N=l.length∧∀i y,i<j→l[i]? = some y→(fun e=>s.toList==(jt e).toList) y=false) l.length 0 ⟨omq,omq⟩ ?_ ?_
 ·(refine aC _ _ rfl rfl ?_ ?_<;>exact tdy0)
 rintro N j ⟨hN,hno⟩
 repeat' (first|(apply ay;first|refine ao ?_|refine aY ?_|refine aO ?_)|refine al ?_|refine ab ?_|refine aa fun C=>?_|refine ae ?_)
 refine aj (by rfl) (fun h1=>?_) fun h1=>?_
 ·have hj:j<l.length:=by simpa using h1
  obtain⟨x,hx⟩:∃x,l[j]? = some x:=⟨_,List.getElem?_eq_getElem hj⟩
  have hxt:=hl x (List.mem_of_getElem? hx)
  obtain⟨y0,rfl,-⟩:=hxt.str_ underlying9
  have e0:(y0.toList==s.toList)=(fun e=>s.toList==(jt e).toList) (.str y0):=BEq.comm
  repeat' (first|(apply ay;first|refine ao ?_|refine dC ?_|refine dE ?_|refine bG ?_)|refine al ?_|refine ab ?_|refine aa fun C=>?_|refine ae ?_|refine ah ?_|refine ai ?_)
  refine aj (by rfl) (fun h2=>?_) fun h2=>?_
  ·rw [e0] at h2
   repeat' (first|(apply ay;first|refine ao ?_|refine ak ?_)|refine al ?_|refine ab ?_|refine aa fun C=>?_|refine ae ?_)
   refine am ?_;refine bi rfl aN ⟨?_,rfl⟩;rw [fg hno hx h2]
  ·rw [e0] at h2
   repeat' (first|(apply ay;first|refine ao ?_|refine ak ?_|refine aD ?_)|refine al ?_|refine ab ?_|refine aa fun C=>?_|refine ai ?_)
   refine⟨N-1,j+1,omq,⟨omq,fun i z hi hz=>?_⟩,?_⟩
   ·by_cases e:i=j
    ·rw [e,hx] at hz;injection hz with hz;subst hz;exact h2
    ·exact hno i z omq hz
   ·(refine aC _ _ rfl rfl ?_ ?_<;>exact tdy0)
 ·have hj:¬j<l.length:=by simpa using h1
  repeat' (first|(apply ay;refine ak ?_)|refine al ?_|refine ab ?_|refine aa fun C=>?_|refine ae ?_|refine au ?_)
  refine am ?_;refine bi rfl aN ⟨?_,rfl⟩;rw [dt fun i y hi hy=>hno i y omq hy]
end Go.Proofs.YtmnneflenebgmaaGreat
