/- Slices of numbers, bytes, strings: the laws' own functions. -/
import Derived.Test.YtfemkmnkofgaaaaGreatClearJ
namespace Go.Proofs.YtfemkmnkofgaaaaGreat
open Go.RowKit
set_option maxRecDepth 100000 in
set_option maxHeartbeats 1000000 in
theorem szByteS_all' (A:Option Addr)(c:Nat)(l:List E)(ht:∀y∈l,y.Ty Tryz.prog 5):Sz 16 (.lst 1 5 A c l):=by
 intro left w hr h0 h1
 have hs:=hr.sl
 have hlen:=hs.len_le
 have HSZ:Hid ((E.lst 1 5 A c l).sz=l.length+E.szL l):=rfl
 change Calls _ _ #[.slice A l.length c,.int .i64 left] w _
 have hz0:E.szL l=0:=E.szL_zero fun y hy=>by
  obtain⟨n,rfl,_⟩:=(ht y hy).int_ Tryz.underlying5
  rfl
 have HZ0:=Lib.hid hz0
 clear hz0
 go_enter Tryz.func16,Tryz.ntmps16
 by_cases hn:left-l.length<0
 ·go_wp2
  go_ret
  exact⟨-1,rfl,.inl (by omega),by omega,by exact by0⟩
 go_wp2
 go_ret
 refine⟨_,rfl,.inr ?_,by omega,by exact by0⟩
 show _=_
 rw [HSZ.out,HZ0.out]
 push_cast
 omega
theorem zf12 {e:E}(ht:e.Ty Tryz.prog 31):Sz 16 e:=by
 obtain⟨A,c,l,rfl,h1,_⟩:=ht.lst_ Tryz.underlying31 (k:=1) (by kernel_rfl)
 exact szByteS_all' A c l h1
theorem zr14:(Tryz.prog.info? 5).map (fun i=>(i.zero,i.size,i.bytes))=some (some (.int .u8 0),1,1):=by kernel_rfl
set_option maxRecDepth 100000 in
set_option maxHeartbeats 1000000 in
theorem zg12 {e:E}(ht:e.Ty Tryz.prog 31):To 25 31 e:=by
 obtain⟨A,c,l,rfl,h1,h2⟩:=ht.lst_ Tryz.underlying31 (k:=1) (by kernel_rfl)
 intro w hr hsz
 have hs:=hr.sl
 have hn:l.length≤1048576:=by have e:(E.lst 1 5 A c l).sz=l.length+E.szL l:=rfl;omega
 have hmk:=zn7 Tryz.underlying31 zr14 l.length (by omega) (by omega)
 have hF:=Fill.new w 5 #[.int .u8 0] l.length (E.encL l)
 have hxs:=E.encL_len h2
 rw [Nat.mul_one] at hxs
 have HX:=Lib.hid hxs
 have H1:=Lib.hid h1
 have H2:=Lib.hid h2
 clear hxs h1 h2
 change Calls _ _ #[.slice A l.length c] w _
 go_enter Tryz.func25,Tryz.ntmps25
 go_wp2
 go_loopw [4] (fun i wr=>∃(k:Nat),k≤l.length∧i=.int .i64 k∧Fill wr w.heap.size 5 l.length k (E.encL l)∧Below w.heap.size w wr) (fun i _=>l.length-(intOf i).toNat)
 case atStart=>exact⟨0,Nat.zero_le _,rfl,hF,by exact by0⟩
 case round =>
  obtain⟨k,hk,rfl,hf,hb⟩:=hrel
  by_cases hlt:k<l.length
  ·have hs':=hs.below hb (Nat.le_refl _)
   obtain⟨b,o,rfl,_,hcell⟩:=hs'.at1 hlt
   have hx:=E.encL_at H2.out k hlt 0 (by omega)
   obtain⟨n,ex,gn⟩:=(H1.out _ (List.getElem_mem hlt)).int_ Tryz.underlying5
   have hcell:=hcell _ (by rw [ex];rfl)
   obtain⟨u,hc2⟩:=hf.cell hlt
   have hf2:=hf.frozen k
   rw [Nat.mul_one,Nat.add_zero,ex] at hx
   have R:=(hf.set hlt hx)
   clear hx hf ex
   go_wp2
   go_roundw
   case rel=>exact⟨k+1,by omega,by go_num,R,hb.setCell (Nat.le_refl _) _⟩
   case measure=>simp [intOf];omega
  ·have hk':k=l.length:=by omega
   subst hk'
   go_wp2
   go_ret
   have hfl:∀e∈l,e.fp=[]:=fun e he=>by
    obtain⟨n,rfl,_⟩:=(H1.out e he).int_ Tryz.underlying5
    rfl
   refine⟨.lst 1 5 (some ⟨w.heap.size,0,none⟩) l.length l,rfl,zk4.2 rfl,E.Ty.mk_lst Tryz.underlying31 (by kernel_rfl) H1.out H2.out,E.Ho.mk (Ow.of_owns (hf.owns (Nat.le_refl _) (Nat.mul_one _).symm HX.out (by unfold maxLen;omega)) (Nat.le_refl _)) H2.out (fun e he=>?_),?_,hb⟩
   ·obtain⟨n,rfl,_⟩:=(H1.out e he).int_ Tryz.underlying5
    trivial
   ·simp only [E.fp,E.fpL_nil hfl];simp
set_option maxRecDepth 100000 in
set_option maxHeartbeats 1000000 in
theorem eqByteS_all' (A B:Option Addr)(c c':Nat)(l m:List E)(h1:∀y∈l,y.Ty Tryz.prog 5)(h2:∀y∈m,y.Ty Tryz.prog 5):Eq 35 (.lst 1 5 A c l) (.lst 1 5 B c' m):=by
 intro hd w hr hr'
 rw [zk4] at hd
 have hs:=hr.sl
 have hs':=hr'.sl
 have hml:=zo7 hd
 have HD:=Lib.hid hd
 clear hd
 have hlen:=hs.len_le
 change Calls _ _ #[.slice A l.length c,.slice B m.length c'] w _
 obtain⟨N,HN⟩:∃N,Hid (m.length=N):=⟨_,rfl⟩
 have hN:N=l.length:=by have:=HN.out;omega
 subst hN
 rw [HN.out]
 clear hml
 go_enter Tryz.func35,Tryz.ntmps35
 go_wp2
 go_loopw [5] (fun i wr=>∃(k:Nat),k≤l.length∧i=.int .i64 k∧Below w.heap.size w wr) (fun i _=>l.length-(intOf i).toNat)
 case atStart=>exact⟨0,Nat.zero_le _,rfl,Below.refl _ _⟩
 case round =>
  obtain⟨k,hk,rfl,hb⟩:=hrel
  by_cases hlt:k<l.length
  ·have hltm:k<m.length:=by have:=HN.out;omega
   have hsb:=hs.below hb (Nat.le_refl _)
   have hsb':=hs'.below hb (Nat.le_refl _)
   have hdk:=d_at HD.out hlt hltm
   obtain⟨b,o,rfl,_,hc⟩:=hsb.at_ hlt
   obtain⟨b',o',rfl,_,hd⟩:=hsb'.at_ hltm
   obtain⟨a,ea,ga⟩:=(h1 _ (List.getElem_mem hlt)).int_ Tryz.underlying5
   obtain⟨a2,eb,gb⟩:=(h2 _ (List.getElem_mem hltm)).int_ Tryz.underlying5
   rw [ea,eb] at hdk
   simp only [E.d,E.int.injEq,E.str.injEq,true_and] at hdk
   subst hdk
   rw [ea] at hc
   rw [eb] at hd
   clear ea eb
   have c0:=hc 0 _ rfl
   have d0:=hd 0 _ rfl
   rw [Nat.add_zero,Nat.mul_one] at c0 d0
   clear hc hd
   go_wp2
   go_quiet (fail)
   go_wp2
   go_roundw
   case rel=>exact⟨k+1,by omega,by go_num,by exact by0⟩
   case measure=>simp [intOf];omega
  ·go_wp2
   go_ret
   exact⟨rfl,hb⟩
theorem zh12 {e e':E}(ht:e.Ty Tryz.prog 31)(ht':e'.Ty Tryz.prog 31):Eq 35 e e':=by
 obtain⟨A,c,l,rfl,h1,_⟩:=ht.lst_ Tryz.underlying31 (k:=1) (by kernel_rfl)
 obtain⟨B,c',m,rfl,h2,_⟩:=ht'.lst_ Tryz.underlying31 (k:=1) (by kernel_rfl)
 exact eqByteS_all' A B c c' l m h1 h2
set_option maxRecDepth 100000 in
set_option maxHeartbeats 1000000 in
theorem markByteS_all' (A:Option Addr)(c:Nat)(l:List E)(h1:∀y∈l,y.Ty Tryz.prog 5)(h2:∀y∈l,y.enc.length=1):Mar 41 (.lst 1 5 A c l):=by
 intro lo hi k0 w ho hnd hhi hk0 hk1
 have HCN:Hid ((E.lst 1 5 A c l).cnt=E.cntcL l):=rfl
 rw [HCN.out] at hk1
 have HND:=Lib.hid hnd
 clear hnd
 have hlen:=ho.re.sl.len_le
 have how0:=ho
 rw [←zv2 l k0] at how0
 clear ho
 change Calls _ _ #[.slice A l.length c,.int .i64 k0] w _
 rw [HCN.out]
 change Calls _ _ _ w fun r w'=>r=.returned (.int .i64 (k0+(E.cntcL l:Nat)))∧(E.lst 1 5 A c (E.mkcL l k0)).Ho w' lo hi∧Fr (E.lst 1 5 A c l).fp w w'
 go_enter Tryz.func41,Tryz.ntmps41
 go_wp2
 go_loopw [1,5] (fun v i wr=>∃(k:Nat) (q:Int),k≤l.length∧i=.int .i64 k∧v=.int .i64 q∧Hid (q=k0+(E.cntcL (l.take k):Nat))∧Fr (E.lst 1 5 A c l).fp w wr∧Hid ((E.lst 1 5 A c (mixM l k0 k)).Ho wr lo hi)) (fun _ i _=>l.length-(intOf i).toNat)
 case atStart=>exact⟨0,k0,Nat.zero_le _,rfl,rfl,(by show _=_;simp [E.cntcL]),Fr.refl _ _,how0⟩
 case round =>
  obtain⟨k,q,hk,rfl,rfl,HQ,hF0,HOW⟩:=hrel
  have hzk:=hF0.size
  by_cases hlt:k<l.length
  ·have HT:=Lib.hid (E.cntcL_take l k hlt)
   have hq0:0≤q:=by have:=HQ.out;omega
   have hml:k<(mixM l k0 k).length:=by rw [zg3];exact hlt
   have how:=HOW.out
   obtain⟨g,rfl,hg1,hg2,hg3⟩:=how.head (by omega)
   obtain⟨y0,ex,gy0⟩:=(h1 _ (List.getElem_mem hlt)).int_ Tryz.underlying5
   have HCX:Hid ((E.int .u8 y0).cntc=1):=rfl
   have hq1:q+((1:Nat):Int)≤1152921504606846976:=by have e1:=HQ.out;have e2:=HT.out;have e3:=E.cntcL_le l (k+1);rw [ex,HCX.out] at e2;omega
   have e0:mixM l k0 k=(mixM l k0 k).set k (E.int .u8 y0):=by rw [←ex,←zl2 l k0 k hlt];exact (List.set_getElem_self _).symm
   have HN2:=Lib.hid (fun (z:E) (hz:z.fp=(E.int .u8 y0).fp)=>(show (E.lst 1 5 (some ⟨g,0,none⟩) c ((mixM l k0 k).set k z)).fp.Nodup by have hh:=HND.out;have h3:E.fpL ((mixM l k0 k).set k z)=E.fpL l:=(E.fpL_set hml (by rw [hz,←ex,zl2 l k0 k hlt])).trans (zg4 l k0 k);simp only [E.fp] at hh ⊢;rw [h3];exact hh))
   have HSB:=Lib.hid (fun (b:Nat) (hb:b∈(E.int .u8 y0).fp)=>(show b∈(E.lst 1 5 (some ⟨g,0,none⟩) c l).fp by simp only [E.fp];exact List.mem_append_right _ (E.mem_fpL.2 ⟨l[k],List.getElem_mem hlt,by rw [ex];exact hb⟩)))
   have hgm:g∈(E.lst 1 5 (some ⟨g,0,none⟩) c l).fp:=by simp [E.fp]
   have HGM:=Lib.hid hgm
   clear hgm
   rw [e0] at how
   clear e0
   obtain⟨ms,HMS⟩:∃ms,Hid (mixM l k0 k=ms):=⟨_,rfl⟩
   rw [HMS.out] at how hml HN2
   have HEX:=Lib.hid ex
   clear ex
   have HML:=Lib.hid hml
   clear hml
   have H0:=Lib.hid how
   clear how
   have c0_0:wr.cell? ⟨g,k,none⟩=some (.int .u8 y0):=by have h:=H0.out.cellx (j:=0) (u:=.int .u8 y0) (by simpa using HML.out) (zg1 HML.out _) rfl;simpa only [Nat.mul_one,Nat.add_zero] using h
   have fz0:=H0.out.frzx
   go_wp2
   go_roundw
   case rel =>
    have H1:Hid ((E.lst 1 5 (some ⟨g,0,none⟩) c (ms.set k (E.int .u8 ((q) % 256)))).Ho (wr.setCell ⟨g,k,none⟩ (.int .u8 ((q) % 256))) lo hi):=(by have h:=H0.out.store (HN2.out _ (by first|rfl|(simp only [E.fp,E.fpL,E.mkcL_fp,E.mk0L_fp,E.mk0_fp,E.mkc_fp];done)|fail)) HML.out (E.int .u8 ((q) % 256)) 0 (.int .u8 ((q) % 256)) (by omega) rfl (fun _ h=>h);simp only [Nat.mul_one,Nat.add_zero] at h;exact h)
    have FF:∀t0:Int,((q) % 256)=t0→(E.int .u8 ((q) % 256))=(E.int .u8 t0):=by
     intro t0 ht0
     subst ht0
     rfl
    have EX:(E.int .u8 ((q) % 256))=(E.int .u8 y0).mkc q:=FF _ (by first|rfl|omega|(show _=_;simp only [E.cnt,E.cntL,E.cntc,E.cntcL,reduceCtorEq,if_false,if_true,ite_false];omega))
    exact⟨k+1,_,by omega,by go_num,rfl,(by show _=_;have e1:=HQ.out;have e2:=HT.out;rw [HEX.out,HCX.out] at e2;omega),(hF0.set HGM.out (.int .u8 ((q) % 256))),(by show E.Ho _ _ _ _;rw [←zw2 l k0 k hlt,HEX.out,←HQ.out,←EX,HMS.out];exact H1.out)⟩
   case measure=>simp [intOf];omega
  ·have hk':k=l.length:=by omega
   subst hk'
   go_wp2
   go_ret
   have e1:=HQ.out
   rw [List.take_length] at e1
   have h:=HOW.out
   rw [zp3] at h
   exact⟨ri e1,h,hF0⟩
set_option maxRecDepth 100000 in
set_option maxHeartbeats 1000000 in
theorem heldByteS_all' (A:Option Addr)(c:Nat)(l:List E)(h1:∀y∈l,y.Ty Tryz.prog 5)(h2:∀y∈l,y.enc.length=1):Hel 47 (.lst 1 5 A c l):=by
 intro k0 w hr h0 hk1
 have HCN:Hid ((E.lst 1 5 A c l).cnt=E.cntcL l):=rfl
 rw [HCN.out] at hk1
 change (E.lst 1 5 A c (E.mkcL l k0)).In w at hr
 have hs:=hr.sl
 have hlen:=hs.len_le
 rw [E.mkcL_len] at hlen
 change Calls _ _ #[.slice A l.length c,.int .i64 k0] w _
 rw [HCN.out]
 change Calls _ _ _ w fun r w'=>r=.returned (.int .i64 (k0+(E.cntcL l:Nat)))∧Below w.heap.size w w'
 go_enter Tryz.func47,Tryz.ntmps47
 go_wp2
 go_loopw [1,5] (fun v i wr=>∃(k:Nat) (q:Int),k≤l.length∧i=.int .i64 k∧v=.int .i64 q∧Hid (q=k0+(E.cntcL (l.take k):Nat))∧Below w.heap.size w wr) (fun _ i _=>l.length-(intOf i).toNat)
 case atStart=>exact⟨0,k0,Nat.zero_le _,rfl,rfl,(by show _=_;simp [E.cntcL]),Below.refl _ _⟩
 case round =>
  obtain⟨k,q,hk,rfl,rfl,HQ,hb⟩:=hrel
  have hzb:=hb.size
  by_cases hlt:k<l.length
  ·have HT:=Lib.hid (E.cntcL_take l k hlt)
   have hq0:0≤q:=by have:=HQ.out;omega
   have hlm:k<(E.mkcL l k0).length:=by rw [E.mkcL_len];exact hlt
   obtain⟨y0,ex,gy0⟩:=(h1 _ (List.getElem_mem hlt)).int_ Tryz.underlying5
   have HCX:Hid ((E.int .u8 y0).cntc=1):=rfl
   have hq1:q+((1:Nat):Int)≤1152921504606846976:=by have e1:=HQ.out;have e2:=HT.out;have e3:=E.cntcL_le l (k+1);rw [ex,HCX.out] at e2;omega
   have FF:∀t0:Int,((q) % 256)=t0→(E.int .u8 ((q) % 256))=(E.int .u8 t0):=by
    intro t0 ht0
    subst ht0
    rfl
   have EX:(E.int .u8 ((q) % 256))=(E.int .u8 y0).mkc q:=FF _ (by first|rfl|omega|(show _=_;simp only [E.cnt,E.cntL,E.cntc,E.cntcL,reduceCtorEq,if_false,if_true,ite_false];omega))
   have hs':=hs.below hb (Nat.le_refl _)
   have hin:=(hr.el (List.getElem_mem hlm)).below hb (Nat.le_refl _)
   obtain⟨b,o,rfl,hbl,hc⟩:=hs'.at_ hlm
   rw [E.mkcL_at l k0 k hlt,ex,←HQ.out,←EX] at hc hin
   clear EX FF
   have HEX:=Lib.hid ex
   clear ex hlm hs'
   have c0_0:wr.cell? ⟨b,o+k,none⟩=some (.int .u8 ((q) % 256)):=by have h:=hc 0 _ rfl;simpa only [Nat.mul_one,Nat.add_zero,E.mkcL_len] using h
   clear hc
   clear hin
   go_wp2_with fail
   go_roundw
   case rel=>exact⟨k+1,_,by omega,by go_num,rfl,(by show _=_;have e1:=HQ.out;have e2:=HT.out;rw [HEX.out,HCX.out] at e2;omega),by exact by0⟩
   case measure=>simp [intOf];omega
  ·have hk':k=l.length:=by omega
   subst hk'
   go_wp2
   go_ret
   have e1:=HQ.out
   rw [List.take_length] at e1
   exact⟨ri e1,hb⟩
theorem zc9 {e:E}(ht:e.Ty Tryz.prog 31):Mar 41 e:=by
 obtain⟨A,c,l,rfl,h1,h2⟩:=ht.lst_ Tryz.underlying31 (k:=1) (by kernel_rfl)
 exact markByteS_all' A c l h1 h2
theorem zd9 {e:E}(ht:e.Ty Tryz.prog 31):Hel 47 e:=by
 obtain⟨A,c,l,rfl,h1,h2⟩:=ht.lst_ Tryz.underlying31 (k:=1) (by kernel_rfl)
 exact heldByteS_all' A c l h1 h2
set_option maxRecDepth 100000 in
set_option maxHeartbeats 1000000 in
theorem szIntS_all' (A:Option Addr)(c:Nat)(l:List E)(ht:∀y∈l,y.Ty Tryz.prog 3):Sz 12 (.lst 1 3 A c l):=by
 intro left w hr h0 h1
 have hs:=hr.sl
 have hlen:=hs.len_le
 have HSZ:Hid ((E.lst 1 3 A c l).sz=l.length+E.szL l):=rfl
 change Calls _ _ #[.slice A l.length c,.int .i64 left] w _
 have hz0:E.szL l=0:=E.szL_zero fun y hy=>by
  obtain⟨n,rfl,_⟩:=(ht y hy).int_ Tryz.underlying3
  rfl
 have HZ0:=Lib.hid hz0
 clear hz0
 go_enter Tryz.func12,Tryz.ntmps12
 by_cases hn:left-l.length<0
 ·go_wp2
  go_ret
  exact⟨-1,rfl,.inl (by omega),by omega,by exact by0⟩
 go_wp2
 go_ret
 refine⟨_,rfl,.inr ?_,by omega,by exact by0⟩
 show _=_
 rw [HSZ.out,HZ0.out]
 push_cast
 omega
theorem zo5 {e:E}(ht:e.Ty Tryz.prog 25):Sz 12 e:=by
 obtain⟨A,c,l,rfl,h1,_⟩:=ht.lst_ Tryz.underlying25 (k:=1) (by kernel_rfl)
 exact szIntS_all' A c l h1
theorem zs17:(Tryz.prog.info? 3).map (fun i=>(i.zero,i.size,i.bytes))=some (some (.int .i64 0),1,8):=by kernel_rfl
set_option maxRecDepth 100000 in
set_option maxHeartbeats 1000000 in
theorem zp5 {e:E}(ht:e.Ty Tryz.prog 25):To 21 25 e:=by
 obtain⟨A,c,l,rfl,h1,h2⟩:=ht.lst_ Tryz.underlying25 (k:=1) (by kernel_rfl)
 intro w hr hsz
 have hs:=hr.sl
 have hn:l.length≤1048576:=by have e:(E.lst 1 3 A c l).sz=l.length+E.szL l:=rfl;omega
 have hmk:=zn7 Tryz.underlying25 zs17 l.length (by omega) (by omega)
 have hF:=Fill.new w 3 #[.int .i64 0] l.length (E.encL l)
 have hxs:=E.encL_len h2
 rw [Nat.mul_one] at hxs
 have HX:=Lib.hid hxs
 have H1:=Lib.hid h1
 have H2:=Lib.hid h2
 clear hxs h1 h2
 change Calls _ _ #[.slice A l.length c] w _
 go_enter Tryz.func21,Tryz.ntmps21
 go_wp2
 go_loopw [4] (fun i wr=>∃(k:Nat),k≤l.length∧i=.int .i64 k∧Fill wr w.heap.size 3 l.length k (E.encL l)∧Below w.heap.size w wr) (fun i _=>l.length-(intOf i).toNat)
 case atStart=>exact⟨0,Nat.zero_le _,rfl,hF,by exact by0⟩
 case round =>
  obtain⟨k,hk,rfl,hf,hb⟩:=hrel
  by_cases hlt:k<l.length
  ·have hs':=hs.below hb (Nat.le_refl _)
   obtain⟨b,o,rfl,_,hcell⟩:=hs'.at1 hlt
   have hx:=E.encL_at H2.out k hlt 0 (by omega)
   obtain⟨n,ex,gn⟩:=(H1.out _ (List.getElem_mem hlt)).int_ Tryz.underlying3
   have hcell:=hcell _ (by rw [ex];rfl)
   obtain⟨u,hc2⟩:=hf.cell hlt
   have hf2:=hf.frozen k
   rw [Nat.mul_one,Nat.add_zero,ex] at hx
   have R:=(hf.set hlt hx)
   clear hx hf ex
   go_wp2
   go_roundw
   case rel=>exact⟨k+1,by omega,by go_num,R,hb.setCell (Nat.le_refl _) _⟩
   case measure=>simp [intOf];omega
  ·have hk':k=l.length:=by omega
   subst hk'
   go_wp2
   go_ret
   have hfl:∀e∈l,e.fp=[]:=fun e he=>by
    obtain⟨n,rfl,_⟩:=(H1.out e he).int_ Tryz.underlying3
    rfl
   refine⟨.lst 1 3 (some ⟨w.heap.size,0,none⟩) l.length l,rfl,zk4.2 rfl,E.Ty.mk_lst Tryz.underlying25 (by kernel_rfl) H1.out H2.out,E.Ho.mk (Ow.of_owns (hf.owns (Nat.le_refl _) (Nat.mul_one _).symm HX.out (by unfold maxLen;omega)) (Nat.le_refl _)) H2.out (fun e he=>?_),?_,hb⟩
   ·obtain⟨n,rfl,_⟩:=(H1.out e he).int_ Tryz.underlying3
    trivial
   ·simp only [E.fp,E.fpL_nil hfl];simp
set_option maxRecDepth 100000 in
set_option maxHeartbeats 1000000 in
theorem eqIntS_all' (A B:Option Addr)(c c':Nat)(l m:List E)(h1:∀y∈l,y.Ty Tryz.prog 3)(h2:∀y∈m,y.Ty Tryz.prog 3):Eq 31 (.lst 1 3 A c l) (.lst 1 3 B c' m):=by
 intro hd w hr hr'
 rw [zk4] at hd
 have hs:=hr.sl
 have hs':=hr'.sl
 have hml:=zo7 hd
 have HD:=Lib.hid hd
 clear hd
 have hlen:=hs.len_le
 change Calls _ _ #[.slice A l.length c,.slice B m.length c'] w _
 obtain⟨N,HN⟩:∃N,Hid (m.length=N):=⟨_,rfl⟩
 have hN:N=l.length:=by have:=HN.out;omega
 subst hN
 rw [HN.out]
 clear hml
 go_enter Tryz.func31,Tryz.ntmps31
 go_wp2
 go_loopw [5] (fun i wr=>∃(k:Nat),k≤l.length∧i=.int .i64 k∧Below w.heap.size w wr) (fun i _=>l.length-(intOf i).toNat)
 case atStart=>exact⟨0,Nat.zero_le _,rfl,Below.refl _ _⟩
 case round =>
  obtain⟨k,hk,rfl,hb⟩:=hrel
  by_cases hlt:k<l.length
  ·have hltm:k<m.length:=by have:=HN.out;omega
   have hsb:=hs.below hb (Nat.le_refl _)
   have hsb':=hs'.below hb (Nat.le_refl _)
   have hdk:=d_at HD.out hlt hltm
   obtain⟨b,o,rfl,_,hc⟩:=hsb.at_ hlt
   obtain⟨b',o',rfl,_,hd⟩:=hsb'.at_ hltm
   obtain⟨a,ea,ga⟩:=(h1 _ (List.getElem_mem hlt)).int_ Tryz.underlying3
   obtain⟨a2,eb,gb⟩:=(h2 _ (List.getElem_mem hltm)).int_ Tryz.underlying3
   rw [ea,eb] at hdk
   simp only [E.d,E.int.injEq,E.str.injEq,true_and] at hdk
   subst hdk
   rw [ea] at hc
   rw [eb] at hd
   clear ea eb
   have c0:=hc 0 _ rfl
   have d0:=hd 0 _ rfl
   rw [Nat.add_zero,Nat.mul_one] at c0 d0
   clear hc hd
   go_wp2
   go_quiet (fail)
   go_wp2
   go_roundw
   case rel=>exact⟨k+1,by omega,by go_num,by exact by0⟩
   case measure=>simp [intOf];omega
  ·go_wp2
   go_ret
   exact⟨rfl,hb⟩
theorem zq5 {e e':E}(ht:e.Ty Tryz.prog 25)(ht':e'.Ty Tryz.prog 25):Eq 31 e e':=by
 obtain⟨A,c,l,rfl,h1,_⟩:=ht.lst_ Tryz.underlying25 (k:=1) (by kernel_rfl)
 obtain⟨B,c',m,rfl,h2,_⟩:=ht'.lst_ Tryz.underlying25 (k:=1) (by kernel_rfl)
 exact eqIntS_all' A B c c' l m h1 h2
set_option maxRecDepth 100000 in
set_option maxHeartbeats 1000000 in
theorem markIntS_all' (A:Option Addr)(c:Nat)(l:List E)(h1:∀y∈l,y.Ty Tryz.prog 3)(h2:∀y∈l,y.enc.length=1):Mar 37 (.lst 1 3 A c l):=by
 intro lo hi k0 w ho hnd hhi hk0 hk1
 have HCN:Hid ((E.lst 1 3 A c l).cnt=E.cntcL l):=rfl
 rw [HCN.out] at hk1
 have HND:=Lib.hid hnd
 clear hnd
 have hlen:=ho.re.sl.len_le
 have how0:=ho
 rw [←zv2 l k0] at how0
 clear ho
 change Calls _ _ #[.slice A l.length c,.int .i64 k0] w _
 rw [HCN.out]
 change Calls _ _ _ w fun r w'=>r=.returned (.int .i64 (k0+(E.cntcL l:Nat)))∧(E.lst 1 3 A c (E.mkcL l k0)).Ho w' lo hi∧Fr (E.lst 1 3 A c l).fp w w'
 go_enter Tryz.func37,Tryz.ntmps37
 go_wp2
 go_loopw [1,5] (fun v i wr=>∃(k:Nat) (q:Int),k≤l.length∧i=.int .i64 k∧v=.int .i64 q∧Hid (q=k0+(E.cntcL (l.take k):Nat))∧Fr (E.lst 1 3 A c l).fp w wr∧Hid ((E.lst 1 3 A c (mixM l k0 k)).Ho wr lo hi)) (fun _ i _=>l.length-(intOf i).toNat)
 case atStart=>exact⟨0,k0,Nat.zero_le _,rfl,rfl,(by show _=_;simp [E.cntcL]),Fr.refl _ _,how0⟩
 case round =>
  obtain⟨k,q,hk,rfl,rfl,HQ,hF0,HOW⟩:=hrel
  have hzk:=hF0.size
  by_cases hlt:k<l.length
  ·have HT:=Lib.hid (E.cntcL_take l k hlt)
   have hq0:0≤q:=by have:=HQ.out;omega
   have hml:k<(mixM l k0 k).length:=by rw [zg3];exact hlt
   have how:=HOW.out
   obtain⟨g,rfl,hg1,hg2,hg3⟩:=how.head (by omega)
   obtain⟨y0,ex,gy0⟩:=(h1 _ (List.getElem_mem hlt)).int_ Tryz.underlying3
   have HCX:Hid ((E.int .i64 y0).cntc=1):=rfl
   have hq1:q+((1:Nat):Int)≤1152921504606846976:=by have e1:=HQ.out;have e2:=HT.out;have e3:=E.cntcL_le l (k+1);rw [ex,HCX.out] at e2;omega
   have e0:mixM l k0 k=(mixM l k0 k).set k (E.int .i64 y0):=by rw [←ex,←zl2 l k0 k hlt];exact (List.set_getElem_self _).symm
   have HN2:=Lib.hid (fun (z:E) (hz:z.fp=(E.int .i64 y0).fp)=>(show (E.lst 1 3 (some ⟨g,0,none⟩) c ((mixM l k0 k).set k z)).fp.Nodup by have hh:=HND.out;have h3:E.fpL ((mixM l k0 k).set k z)=E.fpL l:=(E.fpL_set hml (by rw [hz,←ex,zl2 l k0 k hlt])).trans (zg4 l k0 k);simp only [E.fp] at hh ⊢;rw [h3];exact hh))
   have HSB:=Lib.hid (fun (b:Nat) (hb:b∈(E.int .i64 y0).fp)=>(show b∈(E.lst 1 3 (some ⟨g,0,none⟩) c l).fp by simp only [E.fp];exact List.mem_append_right _ (E.mem_fpL.2 ⟨l[k],List.getElem_mem hlt,by rw [ex];exact hb⟩)))
   have hgm:g∈(E.lst 1 3 (some ⟨g,0,none⟩) c l).fp:=by simp [E.fp]
   have HGM:=Lib.hid hgm
   clear hgm
   rw [e0] at how
   clear e0
   obtain⟨ms,HMS⟩:∃ms,Hid (mixM l k0 k=ms):=⟨_,rfl⟩
   rw [HMS.out] at how hml HN2
   have HEX:=Lib.hid ex
   clear ex
   have HML:=Lib.hid hml
   clear hml
   have H0:=Lib.hid how
   clear how
   have c0_0:wr.cell? ⟨g,k,none⟩=some (.int .i64 y0):=by have h:=H0.out.cellx (j:=0) (u:=.int .i64 y0) (by simpa using HML.out) (zg1 HML.out _) rfl;simpa only [Nat.mul_one,Nat.add_zero] using h
   have fz0:=H0.out.frzx
   go_wp2
   go_roundw
   case rel =>
    have H1:Hid ((E.lst 1 3 (some ⟨g,0,none⟩) c (ms.set k (E.int .i64 (q)))).Ho (wr.setCell ⟨g,k,none⟩ (.int .i64 (q))) lo hi):=(by have h:=H0.out.store (HN2.out _ (by first|rfl|(simp only [E.fp,E.fpL,E.mkcL_fp,E.mk0L_fp,E.mk0_fp,E.mkc_fp];done)|fail)) HML.out (E.int .i64 (q)) 0 (.int .i64 (q)) (by omega) rfl (fun _ h=>h);simp only [Nat.mul_one,Nat.add_zero] at h;exact h)
    have FF:∀t0:Int,(q)=t0→(E.int .i64 (q))=(E.int .i64 t0):=by
     intro t0 ht0
     subst ht0
     rfl
    have EX:(E.int .i64 (q))=(E.int .i64 y0).mkc q:=FF _ (by first|rfl|omega|(show _=_;simp only [E.cnt,E.cntL,E.cntc,E.cntcL,reduceCtorEq,if_false,if_true,ite_false];omega))
    exact⟨k+1,_,by omega,by go_num,rfl,(by show _=_;have e1:=HQ.out;have e2:=HT.out;rw [HEX.out,HCX.out] at e2;omega),(hF0.set HGM.out (.int .i64 (q))),(by show E.Ho _ _ _ _;rw [←zw2 l k0 k hlt,HEX.out,←HQ.out,←EX,HMS.out];exact H1.out)⟩
   case measure=>simp [intOf];omega
  ·have hk':k=l.length:=by omega
   subst hk'
   go_wp2
   go_ret
   have e1:=HQ.out
   rw [List.take_length] at e1
   have h:=HOW.out
   rw [zp3] at h
   exact⟨ri e1,h,hF0⟩
set_option maxRecDepth 100000 in
set_option maxHeartbeats 1000000 in
theorem heldIntS_all' (A:Option Addr)(c:Nat)(l:List E)(h1:∀y∈l,y.Ty Tryz.prog 3)(h2:∀y∈l,y.enc.length=1):Hel 43 (.lst 1 3 A c l):=by
 intro k0 w hr h0 hk1
 have HCN:Hid ((E.lst 1 3 A c l).cnt=E.cntcL l):=rfl
 rw [HCN.out] at hk1
 change (E.lst 1 3 A c (E.mkcL l k0)).In w at hr
 have hs:=hr.sl
 have hlen:=hs.len_le
 rw [E.mkcL_len] at hlen
 change Calls _ _ #[.slice A l.length c,.int .i64 k0] w _
 rw [HCN.out]
 change Calls _ _ _ w fun r w'=>r=.returned (.int .i64 (k0+(E.cntcL l:Nat)))∧Below w.heap.size w w'
 go_enter Tryz.func43,Tryz.ntmps43
 go_wp2
 go_loopw [1,5] (fun v i wr=>∃(k:Nat) (q:Int),k≤l.length∧i=.int .i64 k∧v=.int .i64 q∧Hid (q=k0+(E.cntcL (l.take k):Nat))∧Below w.heap.size w wr) (fun _ i _=>l.length-(intOf i).toNat)
 case atStart=>exact⟨0,k0,Nat.zero_le _,rfl,rfl,(by show _=_;simp [E.cntcL]),Below.refl _ _⟩
 case round =>
  obtain⟨k,q,hk,rfl,rfl,HQ,hb⟩:=hrel
  have hzb:=hb.size
  by_cases hlt:k<l.length
  ·have HT:=Lib.hid (E.cntcL_take l k hlt)
   have hq0:0≤q:=by have:=HQ.out;omega
   have hlm:k<(E.mkcL l k0).length:=by rw [E.mkcL_len];exact hlt
   obtain⟨y0,ex,gy0⟩:=(h1 _ (List.getElem_mem hlt)).int_ Tryz.underlying3
   have HCX:Hid ((E.int .i64 y0).cntc=1):=rfl
   have hq1:q+((1:Nat):Int)≤1152921504606846976:=by have e1:=HQ.out;have e2:=HT.out;have e3:=E.cntcL_le l (k+1);rw [ex,HCX.out] at e2;omega
   have FF:∀t0:Int,(q)=t0→(E.int .i64 (q))=(E.int .i64 t0):=by
    intro t0 ht0
    subst ht0
    rfl
   have EX:(E.int .i64 (q))=(E.int .i64 y0).mkc q:=FF _ (by first|rfl|omega|(show _=_;simp only [E.cnt,E.cntL,E.cntc,E.cntcL,reduceCtorEq,if_false,if_true,ite_false];omega))
   have hs':=hs.below hb (Nat.le_refl _)
   have hin:=(hr.el (List.getElem_mem hlm)).below hb (Nat.le_refl _)
   obtain⟨b,o,rfl,hbl,hc⟩:=hs'.at_ hlm
   rw [E.mkcL_at l k0 k hlt,ex,←HQ.out,←EX] at hc hin
   clear EX FF
   have HEX:=Lib.hid ex
   clear ex hlm hs'
   have c0_0:wr.cell? ⟨b,o+k,none⟩=some (.int .i64 (q)):=by have h:=hc 0 _ rfl;simpa only [Nat.mul_one,Nat.add_zero,E.mkcL_len] using h
   clear hc
   clear hin
   go_wp2_with fail
   go_roundw
   case rel=>exact⟨k+1,_,by omega,by go_num,rfl,(by show _=_;have e1:=HQ.out;have e2:=HT.out;rw [HEX.out,HCX.out] at e2;omega),by exact by0⟩
   case measure=>simp [intOf];omega
  ·have hk':k=l.length:=by omega
   subst hk'
   go_wp2
   go_ret
   have e1:=HQ.out
   rw [List.take_length] at e1
   exact⟨ri e1,hb⟩
theorem zy4 {e:E}(ht:e.Ty Tryz.prog 25):Mar 37 e:=by
 obtain⟨A,c,l,rfl,h1,h2⟩:=ht.lst_ Tryz.underlying25 (k:=1) (by kernel_rfl)
 exact markIntS_all' A c l h1 h2
theorem zz4 {e:E}(ht:e.Ty Tryz.prog 25):Hel 43 e:=by
 obtain⟨A,c,l,rfl,h1,h2⟩:=ht.lst_ Tryz.underlying25 (k:=1) (by kernel_rfl)
 exact heldIntS_all' A c l h1 h2
set_option maxRecDepth 100000 in
set_option maxHeartbeats 1000000 in
theorem szStringS_all' (A:Option Addr)(c:Nat)(l:List E)(ht:∀y∈l,y.Ty Tryz.prog 9):Sz 51 (.lst 1 9 A c l):=by
 intro left w hr h0 h1
 have hs:=hr.sl
 have hlen:=hs.len_le
 have HSZ:Hid ((E.lst 1 9 A c l).sz=l.length+E.szL l):=rfl
 change Calls _ _ #[.slice A l.length c,.int .i64 left] w _
 by_cases hneg:left-l.length<0
 ·go_enter Tryz.func51,Tryz.ntmps51
  go_wp2
  go_ret
  exact⟨-1,rfl,.inl (by omega),by omega,by exact by0⟩
 go_enter Tryz.func51,Tryz.ntmps51
 go_wp2
 go_loopw [1,5] (fun v i wr=>∃(k:Nat) (cur:Int),k≤l.length∧i=.int .i64 k∧v=.int .i64 cur∧0≤cur∧cur≤left∧Hid (cur+E.szL (l.take k)+l.length=left)∧Below w.heap.size w wr) (fun _ i _=>l.length-(intOf i).toNat)
 case atStart=>exact⟨0,_,Nat.zero_le _,rfl,rfl,by omega,by omega,(by show _=_;simp [E.szL]),Below.refl _ _⟩
 case round =>
  obtain⟨k,cur,hk,rfl,rfl,hc0,hc1,HQ,hb⟩:=hrel
  have hzb:=hb.size
  by_cases hlt:k<l.length
  ·have hs':=hs.below hb (Nat.le_refl _)
   have HT:=Lib.hid (E.szL_take l k hlt)
   obtain⟨b,o,rfl,_,hc⟩:=hs'.at_ hlt
   obtain⟨s,ex,gs⟩:=(ht _ (List.getElem_mem hlt)).str_ Tryz.underlying9
   rw [ex] at hc
   have c0:=hc 0 _ rfl
   rw [Nat.add_zero,Nat.mul_one] at c0
   clear hc
   have HEX:=Lib.hid ex
   clear ex
   by_cases hn:cur-s.size<0
   ·go_wp2
    go_ret
    exact⟨-1,rfl,.inl (by omega),by omega,by exact by0⟩
   ·go_wp2
    go_roundw
    case rel=>exact⟨k+1,_,by omega,by go_num,rfl,by omega,by omega,(by show _=_;have e1:=HQ.out;have e2:=HT.out;rw [HEX.out] at e2;simp only [E.sz] at e2;omega),by exact by0⟩
    case measure=>simp [intOf];omega
  ·have hk':k=l.length:=by omega
   subst hk'
   go_wp2
   go_ret
   refine⟨_,rfl,.inr ?_,by omega,hb⟩
   show _=_
   have e1:=HQ.out
   rw [List.take_length] at e1
   rw [HSZ.out]
   push_cast
   omega
theorem ze9 {e:E}(ht:e.Ty Tryz.prog 28):Sz 51 e:=by
 obtain⟨A,c,l,rfl,h1,_⟩:=ht.lst_ Tryz.underlying28 (k:=1) (by kernel_rfl)
 exact szStringS_all' A c l h1
theorem zt10:(Tryz.prog.info? 9).map (fun i=>(i.zero,i.size,i.bytes))=some (some (.string ByteArray.empty),1,16):=by kernel_rfl
set_option maxRecDepth 100000 in
set_option maxHeartbeats 1000000 in
theorem zf9 {e:E}(ht:e.Ty Tryz.prog 28):To 60 28 e:=by
 obtain⟨A,c,l,rfl,h1,h2⟩:=ht.lst_ Tryz.underlying28 (k:=1) (by kernel_rfl)
 intro w hr hsz
 have hs:=hr.sl
 have hn:l.length≤1048576:=by have e:(E.lst 1 9 A c l).sz=l.length+E.szL l:=rfl;omega
 have hmk:=zn7 Tryz.underlying28 zt10 l.length (by omega) (by omega)
 have hF:=Fill.new w 9 #[.string ByteArray.empty] l.length (E.encL l)
 have hxs:=E.encL_len h2
 rw [Nat.mul_one] at hxs
 have HX:=Lib.hid hxs
 have H1:=Lib.hid h1
 have H2:=Lib.hid h2
 clear hxs h1 h2
 change Calls _ _ #[.slice A l.length c] w _
 go_enter Tryz.func60,Tryz.ntmps60
 go_wp2
 go_loopw [4] (fun i wr=>∃(k:Nat),k≤l.length∧i=.int .i64 k∧Fill wr w.heap.size 9 l.length k (E.encL l)∧Below w.heap.size w wr) (fun i _=>l.length-(intOf i).toNat)
 case atStart=>exact⟨0,Nat.zero_le _,rfl,hF,by exact by0⟩
 case round =>
  obtain⟨k,hk,rfl,hf,hb⟩:=hrel
  by_cases hlt:k<l.length
  ·have hs':=hs.below hb (Nat.le_refl _)
   obtain⟨b,o,rfl,_,hcell⟩:=hs'.at1 hlt
   have hx:=E.encL_at H2.out k hlt 0 (by omega)
   obtain⟨n,ex,gn⟩:=(H1.out _ (List.getElem_mem hlt)).str_ Tryz.underlying9
   have hcell:=hcell _ (by rw [ex];rfl)
   obtain⟨u,hc2⟩:=hf.cell hlt
   have hf2:=hf.frozen k
   rw [Nat.mul_one,Nat.add_zero,ex] at hx
   have R:=(hf.set hlt hx)
   clear hx hf ex
   go_wp2
   go_roundw
   case rel=>exact⟨k+1,by omega,by go_num,R,hb.setCell (Nat.le_refl _) _⟩
   case measure=>simp [intOf];omega
  ·have hk':k=l.length:=by omega
   subst hk'
   go_wp2
   go_ret
   have hfl:∀e∈l,e.fp=[]:=fun e he=>by
    obtain⟨n,rfl,_⟩:=(H1.out e he).str_ Tryz.underlying9
    rfl
   refine⟨.lst 1 9 (some ⟨w.heap.size,0,none⟩) l.length l,rfl,zk4.2 rfl,E.Ty.mk_lst Tryz.underlying28 (by kernel_rfl) H1.out H2.out,E.Ho.mk (Ow.of_owns (hf.owns (Nat.le_refl _) (Nat.mul_one _).symm HX.out (by unfold maxLen;omega)) (Nat.le_refl _)) H2.out (fun e he=>?_),?_,hb⟩
   ·obtain⟨n,rfl,_⟩:=(H1.out e he).str_ Tryz.underlying9
    trivial
   ·simp only [E.fp,E.fpL_nil hfl];simp
set_option maxRecDepth 100000 in
set_option maxHeartbeats 1000000 in
theorem eqStringS_all' (A B:Option Addr)(c c':Nat)(l m:List E)(h1:∀y∈l,y.Ty Tryz.prog 9)(h2:∀y∈m,y.Ty Tryz.prog 9):Eq 70 (.lst 1 9 A c l) (.lst 1 9 B c' m):=by
 intro hd w hr hr'
 rw [zk4] at hd
 have hs:=hr.sl
 have hs':=hr'.sl
 have hml:=zo7 hd
 have HD:=Lib.hid hd
 clear hd
 have hlen:=hs.len_le
 change Calls _ _ #[.slice A l.length c,.slice B m.length c'] w _
 obtain⟨N,HN⟩:∃N,Hid (m.length=N):=⟨_,rfl⟩
 have hN:N=l.length:=by have:=HN.out;omega
 subst hN
 rw [HN.out]
 clear hml
 go_enter Tryz.func70,Tryz.ntmps70
 go_wp2
 go_loopw [5] (fun i wr=>∃(k:Nat),k≤l.length∧i=.int .i64 k∧Below w.heap.size w wr) (fun i _=>l.length-(intOf i).toNat)
 case atStart=>exact⟨0,Nat.zero_le _,rfl,Below.refl _ _⟩
 case round =>
  obtain⟨k,hk,rfl,hb⟩:=hrel
  by_cases hlt:k<l.length
  ·have hltm:k<m.length:=by have:=HN.out;omega
   have hsb:=hs.below hb (Nat.le_refl _)
   have hsb':=hs'.below hb (Nat.le_refl _)
   have hdk:=d_at HD.out hlt hltm
   obtain⟨b,o,rfl,_,hc⟩:=hsb.at_ hlt
   obtain⟨b',o',rfl,_,hd⟩:=hsb'.at_ hltm
   obtain⟨a,ea,ga⟩:=(h1 _ (List.getElem_mem hlt)).str_ Tryz.underlying9
   obtain⟨a2,eb,gb⟩:=(h2 _ (List.getElem_mem hltm)).str_ Tryz.underlying9
   rw [ea,eb] at hdk
   simp only [E.d,E.int.injEq,E.str.injEq,true_and] at hdk
   subst hdk
   rw [ea] at hc
   rw [eb] at hd
   clear ea eb
   have c0:=hc 0 _ rfl
   have d0:=hd 0 _ rfl
   rw [Nat.add_zero,Nat.mul_one] at c0 d0
   clear hc hd
   go_wp2
   go_quiet (fail)
   go_wp2
   go_roundw
   case rel=>exact⟨k+1,by omega,by go_num,by exact by0⟩
   case measure=>simp [intOf];omega
  ·go_wp2
   go_ret
   exact⟨rfl,hb⟩
theorem zg9 {e e':E}(ht:e.Ty Tryz.prog 28)(ht':e'.Ty Tryz.prog 28):Eq 70 e e':=by
 obtain⟨A,c,l,rfl,h1,_⟩:=ht.lst_ Tryz.underlying28 (k:=1) (by kernel_rfl)
 obtain⟨B,c',m,rfl,h2,_⟩:=ht'.lst_ Tryz.underlying28 (k:=1) (by kernel_rfl)
 exact eqStringS_all' A B c c' l m h1 h2
set_option maxRecDepth 100000 in
set_option maxHeartbeats 1000000 in
theorem markStringS_all' (A:Option Addr)(c:Nat)(l:List E)(h1:∀y∈l,y.Ty Tryz.prog 9)(h2:∀y∈l,y.enc.length=1):Mar 76 (.lst 1 9 A c l):=by
 intro lo hi k0 w ho hnd hhi hk0 hk1
 have HCN:Hid ((E.lst 1 9 A c l).cnt=E.cntcL l):=rfl
 rw [HCN.out] at hk1
 have HND:=Lib.hid hnd
 clear hnd
 have hlen:=ho.re.sl.len_le
 have how0:=ho
 rw [←zv2 l k0] at how0
 clear ho
 change Calls _ _ #[.slice A l.length c,.int .i64 k0] w _
 rw [HCN.out]
 change Calls _ _ _ w fun r w'=>r=.returned (.int .i64 (k0+(E.cntcL l:Nat)))∧(E.lst 1 9 A c (E.mkcL l k0)).Ho w' lo hi∧Fr (E.lst 1 9 A c l).fp w w'
 go_enter Tryz.func76,Tryz.ntmps76
 go_wp2
 go_loopw [1,5] (fun v i wr=>∃(k:Nat) (q:Int),k≤l.length∧i=.int .i64 k∧v=.int .i64 q∧Hid (q=k0+(E.cntcL (l.take k):Nat))∧Fr (E.lst 1 9 A c l).fp w wr∧Hid ((E.lst 1 9 A c (mixM l k0 k)).Ho wr lo hi)) (fun _ i _=>l.length-(intOf i).toNat)
 case atStart=>exact⟨0,k0,Nat.zero_le _,rfl,rfl,(by show _=_;simp [E.cntcL]),Fr.refl _ _,how0⟩
 case round =>
  obtain⟨k,q,hk,rfl,rfl,HQ,hF0,HOW⟩:=hrel
  have hzk:=hF0.size
  by_cases hlt:k<l.length
  ·have HT:=Lib.hid (E.cntcL_take l k hlt)
   have hq0:0≤q:=by have:=HQ.out;omega
   have hml:k<(mixM l k0 k).length:=by rw [zg3];exact hlt
   have how:=HOW.out
   obtain⟨g,rfl,hg1,hg2,hg3⟩:=how.head (by omega)
   obtain⟨y0,ex,gy0⟩:=(h1 _ (List.getElem_mem hlt)).str_ Tryz.underlying9
   have HCX:Hid ((E.str y0).cntc=1):=rfl
   have hq1:q+((1:Nat):Int)≤1152921504606846976:=by have e1:=HQ.out;have e2:=HT.out;have e3:=E.cntcL_le l (k+1);rw [ex,HCX.out] at e2;omega
   have e0:mixM l k0 k=(mixM l k0 k).set k (E.str y0):=by rw [←ex,←zl2 l k0 k hlt];exact (List.set_getElem_self _).symm
   have HN2:=Lib.hid (fun (z:E) (hz:z.fp=(E.str y0).fp)=>(show (E.lst 1 9 (some ⟨g,0,none⟩) c ((mixM l k0 k).set k z)).fp.Nodup by have hh:=HND.out;have h3:E.fpL ((mixM l k0 k).set k z)=E.fpL l:=(E.fpL_set hml (by rw [hz,←ex,zl2 l k0 k hlt])).trans (zg4 l k0 k);simp only [E.fp] at hh ⊢;rw [h3];exact hh))
   have HSB:=Lib.hid (fun (b:Nat) (hb:b∈(E.str y0).fp)=>(show b∈(E.lst 1 9 (some ⟨g,0,none⟩) c l).fp by simp only [E.fp];exact List.mem_append_right _ (E.mem_fpL.2 ⟨l[k],List.getElem_mem hlt,by rw [ex];exact hb⟩)))
   have hgm:g∈(E.lst 1 9 (some ⟨g,0,none⟩) c l).fp:=by simp [E.fp]
   have HGM:=Lib.hid hgm
   clear hgm
   rw [e0] at how
   clear e0
   obtain⟨ms,HMS⟩:∃ms,Hid (mixM l k0 k=ms):=⟨_,rfl⟩
   rw [HMS.out] at how hml HN2
   have HEX:=Lib.hid ex
   clear ex
   have HML:=Lib.hid hml
   clear hml
   have H0:=Lib.hid how
   clear how
   have c0_0:wr.cell? ⟨g,k,none⟩=some (.string y0):=by have h:=H0.out.cellx (j:=0) (u:=.string y0) (by simpa using HML.out) (zg1 HML.out _) rfl;simpa only [Nat.mul_one,Nat.add_zero] using h
   have fz0:=H0.out.frzx
   go_wp2_with fail
   clear c0_0 fz0
   go_at_call 100
   refine (zc3 _ _ (by omega)).mono ?_;rintro e w1 ⟨rfl,hb1⟩
   have hz1:=hb1.size;(try simp only [World.size_setCell] at hz1)
   have H1:=Lib.hid (H0.out.below hb1 (by first|omega|(simp;omega)))
   clear H0
   have hF1:Fr (E.lst 1 9 (some ⟨g,0,none⟩) c l).fp w w1:=hF0.trans (Fr.of_below hb1)
   have c1_0:w1.cell? ⟨g,k,none⟩=some (.string y0):=by have h:=H1.out.cellx (j:=0) (u:=.string y0) (by simpa using HML.out) (zg1 HML.out _) rfl;simpa only [Nat.mul_one,Nat.add_zero] using h
   have fz1:=H1.out.frzx
   go_wp2
   go_roundw
   case rel =>
    have H2:Hid ((E.lst 1 9 (some ⟨g,0,none⟩) c (ms.set k (E.str (markT (q))))).Ho (w1.setCell ⟨g,k,none⟩ (.string (markT (q)))) lo hi):=(by have h:=H1.out.store (HN2.out _ (by first|rfl|(simp only [E.fp,E.fpL,E.mkcL_fp,E.mk0L_fp,E.mk0_fp,E.mkc_fp];done)|fail)) HML.out (E.str (markT (q))) 0 (.string (markT (q))) (by omega) rfl (fun _ h=>h);simp only [Nat.mul_one,Nat.add_zero] at h;exact h)
    have FF:∀t0:Int,(q)=t0→(E.str (markT (q)))=(E.str (markT t0)):=by
     intro t0 ht0
     subst ht0
     rfl
    have EX:(E.str (markT (q)))=(E.str y0).mkc q:=FF _ (by first|rfl|omega|(show _=_;simp only [E.cnt,E.cntL,E.cntc,E.cntcL,reduceCtorEq,if_false,if_true,ite_false];omega))
    exact⟨k+1,_,by omega,by go_num,rfl,(by show _=_;have e1:=HQ.out;have e2:=HT.out;rw [HEX.out,HCX.out] at e2;omega),(hF1.set HGM.out (.string (markT (q)))),(by show E.Ho _ _ _ _;rw [←zw2 l k0 k hlt,HEX.out,←HQ.out,←EX,HMS.out];exact H2.out)⟩
   case measure=>simp [intOf];omega
  ·have hk':k=l.length:=by omega
   subst hk'
   go_wp2
   go_ret
   have e1:=HQ.out
   rw [List.take_length] at e1
   have h:=HOW.out
   rw [zp3] at h
   exact⟨ri e1,h,hF0⟩
set_option maxRecDepth 100000 in
set_option maxHeartbeats 1000000 in
theorem heldStringS_all' (A:Option Addr)(c:Nat)(l:List E)(h1:∀y∈l,y.Ty Tryz.prog 9)(h2:∀y∈l,y.enc.length=1):Hel 82 (.lst 1 9 A c l):=by
 intro k0 w hr h0 hk1
 have HCN:Hid ((E.lst 1 9 A c l).cnt=E.cntcL l):=rfl
 rw [HCN.out] at hk1
 change (E.lst 1 9 A c (E.mkcL l k0)).In w at hr
 have hs:=hr.sl
 have hlen:=hs.len_le
 rw [E.mkcL_len] at hlen
 change Calls _ _ #[.slice A l.length c,.int .i64 k0] w _
 rw [HCN.out]
 change Calls _ _ _ w fun r w'=>r=.returned (.int .i64 (k0+(E.cntcL l:Nat)))∧Below w.heap.size w w'
 go_enter Tryz.func82,Tryz.ntmps82
 go_wp2
 go_loopw [1,5] (fun v i wr=>∃(k:Nat) (q:Int),k≤l.length∧i=.int .i64 k∧v=.int .i64 q∧Hid (q=k0+(E.cntcL (l.take k):Nat))∧Below w.heap.size w wr) (fun _ i _=>l.length-(intOf i).toNat)
 case atStart=>exact⟨0,k0,Nat.zero_le _,rfl,rfl,(by show _=_;simp [E.cntcL]),Below.refl _ _⟩
 case round =>
  obtain⟨k,q,hk,rfl,rfl,HQ,hb⟩:=hrel
  have hzb:=hb.size
  by_cases hlt:k<l.length
  ·have HT:=Lib.hid (E.cntcL_take l k hlt)
   have hq0:0≤q:=by have:=HQ.out;omega
   have hlm:k<(E.mkcL l k0).length:=by rw [E.mkcL_len];exact hlt
   obtain⟨y0,ex,gy0⟩:=(h1 _ (List.getElem_mem hlt)).str_ Tryz.underlying9
   have HCX:Hid ((E.str y0).cntc=1):=rfl
   have hq1:q+((1:Nat):Int)≤1152921504606846976:=by have e1:=HQ.out;have e2:=HT.out;have e3:=E.cntcL_le l (k+1);rw [ex,HCX.out] at e2;omega
   have FF:∀t0:Int,(q)=t0→(E.str (markT (q)))=(E.str (markT t0)):=by
    intro t0 ht0
    subst ht0
    rfl
   have EX:(E.str (markT (q)))=(E.str y0).mkc q:=FF _ (by first|rfl|omega|(show _=_;simp only [E.cnt,E.cntL,E.cntc,E.cntcL,reduceCtorEq,if_false,if_true,ite_false];omega))
   have hs':=hs.below hb (Nat.le_refl _)
   have hin:=(hr.el (List.getElem_mem hlm)).below hb (Nat.le_refl _)
   obtain⟨b,o,rfl,hbl,hc⟩:=hs'.at_ hlm
   rw [E.mkcL_at l k0 k hlt,ex,←HQ.out,←EX] at hc hin
   clear EX FF
   have HEX:=Lib.hid ex
   clear ex hlm hs'
   have c0_0:wr.cell? ⟨b,o+k,none⟩=some (.string (markT (q))):=by have h:=hc 0 _ rfl;simpa only [Nat.mul_one,Nat.add_zero,E.mkcL_len] using h
   clear hc
   clear hin
   go_wp2_with fail
   go_region_held3 (fun w'=>w'.cell? ⟨b,o+k,none⟩=some (.string (markT (q)))) (first|assumption|skip) ((go_at_call 100;refine (zc3 _ _ (by omega)).mono ?_;rintro e w1 ⟨rfl,hb1⟩;have hz1:=hb1.size;(try simp only [World.size_alloc,World.size_drew,World.heap_drewN,World.size_setCell] at hz1);have c1_0:=zb hb1 c0_0 (by first|omega|(simp;omega))))
   go_wp2_with fail
   go_roundw
   case rel=>exact⟨k+1,_,by omega,by go_num,rfl,(by show _=_;have e1:=HQ.out;have e2:=HT.out;rw [HEX.out,HCX.out] at e2;omega),by exact by0⟩
   case measure=>simp [intOf];omega
  ·have hk':k=l.length:=by omega
   subst hk'
   go_wp2
   go_ret
   have e1:=HQ.out
   rw [List.take_length] at e1
   exact⟨ri e1,hb⟩
theorem zc7 {e:E}(ht:e.Ty Tryz.prog 28):Mar 76 e:=by
 obtain⟨A,c,l,rfl,h1,h2⟩:=ht.lst_ Tryz.underlying28 (k:=1) (by kernel_rfl)
 exact markStringS_all' A c l h1 h2
theorem zd7 {e:E}(ht:e.Ty Tryz.prog 28):Hel 82 e:=by
 obtain⟨A,c,l,rfl,h1,h2⟩:=ht.lst_ Tryz.underlying28 (k:=1) (by kernel_rfl)
 exact heldStringS_all' A c l h1 h2
end Go.Proofs.YtfemkmnkofgaaaaGreat
