/- GetS of the program: the walk. -/
import Derived.Test.YtghljnfbbaklnaaGreatGetModuleO
-- BIT
-- MVP
namespace Go.Proofs.YtghljnfbbaklnaaGreat
open Go.RowKit
set_option maxRecDepth 100000
theorem zx13 {bs:List UInt8}{p k:Nat}(h:p+k≤bs.length):(cut8 bs p k).length=k:=by simp [cut8];omega
theorem cut8_snoc {bs:List UInt8}{p k:Nat}{b:UInt8}(h:bs[p+k]? = some b):cut8 bs p (k+1)=cut8 bs p k++[b]:=by
 unfold cut8
 rw [List.take_add_one,List.getElem?_drop,h]
 rfl
theorem tmod128 (c:Nat):(c:Int).tmod 128=((c % 128:Nat):Int):=by rw [Int.tmod_eq_emod_of_nonneg (by omega)];omega
set_option maxHeartbeats 8000000 in
theorem zx20 {bs:List UInt8}(at_:Int)(hat : -9223372036854775808≤at_∧at_≤9223372036854775807)(hn:bs.length≤1073741824):Ctr Tryz.prog 154 [.c (.ro bs.length 1 (acL (bI bs))),.c (.v (.int .i64 at_))] [] (.tu [.c (.v (.int .i64 (getS bs at_).1)),.c (.v (.int .i64 (getS bs at_).2.1)),.c (.v (.bool (getS bs at_).2.2))]) []:=by
 have hk:=zf19 (bs:=bs)
 have hbl:=ze19 (bs:=bs)
 have hin:=zw4 at_ 0 ((bs.length:Int)-1)
 by_cases hp:0≤at_∧at_<bs.length
 ·rw [show inR at_ 0 ((bs.length:Int)-1)=true by simp [inR];omega] at hin
  obtain⟨p,rfl⟩:∃p:Nat,at_=(p:Int):=⟨at_.toNat,by omega⟩
  rw [getS_in (by omega)]
  obtain⟨R,hR⟩:∃R,getSGo bs p 5 0 0=R:=⟨_,rfl⟩
  rw [hR]
  refine zi1 Tryz.func154 rfl rfl ?_
  repeat' (first|(apply f_wo;first|(apply f_mv;refine zt (v:=.c _) ?_)|(apply f_as;refine zu (v:=.c _) ?_)|(apply f_ca;refine zu1 hin ?_)|(apply f_bi;refine zl2 ?_)|(apply f_no;refine za2 ?_)|(apply f_bb;refine zh3 ?_))|(apply f_w;first|refine zo ?_|refine zc ?_)|refine za fun C=>?_|refine zd ?_|refine zg ?_|refine zk ?_|refine zr rfl ?_)
  refine zt1 (fun d:Nat×Int=>⟨tmsF [(0,.c (.ro bs.length 1 (acL (bI bs)))),(1,.c (.v (.int .i64 (p:Int)))),(7,.c (.v (.int .i64 d.2))),(8,.c (.v (.int .i64 (d.1:Int))))],hpsF [],0,[],68⟩)
   (fun N d=>getSGo bs p N d.1 d.2=R∧d.1+N=5∧d.2=sumP (cut8 bs p d.1)∧p+d.1≤bs.length∧∀c∈cut8 bs p d.1,128≤c.toNat) 5 (0,0) ⟨hR,by simp,by simp [cut8,sumP],by dsimp only;omega,by simp [cut8]⟩ ?_ ?_
  ·(refine zk1 _ _ rfl rfl ?_ ?_<;>(repeat' (first|exact TmOk.nil|exact RwOk.nil|refine TmOk.cons ?_ ?_|refine RwOk.cons ?_ ?_|rfl|(refine rnV_id' rfl ?_;exact byc)|(refine zo1 ?_;first|rfl|omega|(rw [za1 (by omega) (by omega)];omega))|(refine zv rfl ?_;exact byc)|exact zg2 rfl rfl|(refine zp1 (by rfl) (by rfl) ?_ ?_<;>exact byc)|(refine rw_rn' rfl rfl ?_;simp;done))))
  rintro N ⟨k,n⟩ ⟨hE,hN,hsum,hpk,hpre⟩
  dsimp only at hE hN hsum hpk hpre ⊢
  clear hR hin
  have hrg:=sumP_rng (cut8 bs p k)
  rw [←hsum,zx13 hpk] at hrg
  obtain⟨h0,h1⟩:=hrg
  cases N with
  | zero =>
   rw [show R=(0,0,false) from hE.symm]
   repeat' (first|(apply f_wo;first|(apply f_gs;refine n_sk ?_)|(apply f_mv;first|(refine zs1 ?_ ?_<;>intro hG<;>(try cases hG))|refine zt (v:=.c _) ?_)|(apply f_bi;refine zl2 ?_)|(apply zw2;refine zf1 ?_)|(apply zb2;refine zx ?_)|(apply f_pk;refine zr1 (v:=.c _) ?_))|(apply f_w;first|refine zo ?_|refine zc ?_)|refine za fun C=>?_|refine zd ?_)
   all_goals first
    | (exfalso;clear hE hsum hpre;simp only [decide_eq_true_iff,decide_eq_false_iff_not,ge_iff_le] at *;omega)
    | skip
   refine zr rfl ?_
   repeat' (first|(apply f_wo;(apply f_as;refine zu (v:=.c _) ?_))|(apply f_w;first|refine zo ?_|refine zc ?_)|refine za fun C=>?_|refine zd ?_|refine zw ?_)
   refine zi ?_;refine ret0 rfl (zc2 (zj zy (zj zy (zj zy zj1)))) ⟨?_,rfl⟩
   rfl
  | succ f =>
   have hk4:k≤4:=by omega
   obtain⟨q1,q2,q3⟩:=pow_le hk4
   obtain⟨e7,e8⟩:=pow7 k
   cases hb:bs[p+k]? with
   | none =>
    have hlen:bs.length≤p+k:=by
     rcases Nat.lt_or_ge (p+k) bs.length with h|h
     ·rw [List.getElem?_eq_getElem h] at hb;cases hb
     ·exact h
    rw [getSGo,hb] at hE
    rw [show R=(0,0,false) from hE.symm]
    repeat' (first|(apply f_wo;first|(apply f_gs;refine n_sk ?_)|(apply f_mv;first|(refine zs1 ?_ ?_<;>intro hG<;>(try cases hG))|refine zt (v:=.c _) ?_)|(apply f_bi;refine zl2 ?_)|(apply zw2;refine zf1 ?_)|(apply zb2;refine zx ?_)|(apply f_pk;refine zr1 (v:=.c _) ?_))|(apply f_w;first|refine zo ?_|refine zc ?_)|refine za fun C=>?_|refine zd ?_)
    all_goals first
     | (exfalso;clear hE hsum hpre;simp only [decide_eq_true_iff,decide_eq_false_iff_not,ge_iff_le] at *;omega)
     | skip
    all_goals first
     | (refine zr rfl ?_)
     | (refine zn (by rfl) (fun hC=>absurd (of_decide_eq_true hC) (by omega)) fun hC=>?_)
    all_goals
     repeat' (first|(apply f_wo;(apply f_as;refine zu (v:=.c _) ?_))|(apply f_w;first|refine zo ?_|refine zc ?_)|refine za fun C=>?_|refine zd ?_|refine zw ?_)
     refine zi ?_;refine ret0 rfl (zc2 (zj zy (zj zy (zj zy zj1)))) ⟨?_,rfl⟩
     rfl
   | some b =>
    have hlt:p+k<bs.length:=(List.getElem?_eq_some_iff.1 hb).1
    have hc:=b.toNat_lt
    have hx:=bI_at hb
    have hcut:=cut8_snoc hb
    have hokS:=fun (hlt:b.toNat<128) {m:Int} (hm)=>okSg_iff (pre:=cut8 bs p k) (c:=b) hpre hlt (m:=m) hm
    have hsn:=sumP_snoc (cut8 bs p k) b
    rw [zx13 hpk,←hsum] at hokS
    rw [zx13 hpk,←hsum,←hcut] at hsn
    rw [getSGo,hb] at hE
    dsimp only at hE
    obtain⟨u,hu⟩:∃u:Int,((b.toNat % 128:Nat):Int)=u:=⟨_,rfl⟩
    obtain⟨q,hq⟩:∃q:Int,(128:Int) ^ k=q:=⟨_,rfl⟩
    rw [hq] at q1 q2 q3 e7 h1
    rw [q3] at e8
    rw [hu,hq] at hsn
    rw [hu,hq,q3] at hE
    simp only [hu,hq,q3] at hokS
    obtain⟨w,hw⟩:∃w:Int,u*q=w:=⟨_,rfl⟩
    rw [hw] at hE hsn
    simp only [hw] at hokS
    have hwr:0≤w∧w≤127*q:=by
     rw [←hw]
     exact⟨Int.mul_nonneg (by omega) (by omega),Int.mul_le_mul_of_nonneg_right (by omega) (by omega)⟩
    have hs:IntKind.i64.wrap (1*2 ^ (7*(k:Int)+7).toNat)=128*q:=by rw [e8,IntKind.wrap_i64];omega
    have hW:IntKind.i64.wrap ((b.toNat:Int).tmod 128*2 ^ (7*(k:Int)).toNat)=w:=by
     rw [tmod128,e7,hu,hw,IntKind.wrap_i64];omega
    repeat' (first|(apply f_wo;first|(apply f_gs;refine n_sk ?_)|(apply f_mv;first|(refine zs1 ?_ ?_<;>intro hG<;>(try cases hG))|refine zt (v:=.c _) ?_)|(apply f_bi;refine zl2 ?_)|(apply zw2;refine zf1 ?_)|(apply zb2;refine zx ?_)|(apply f_pk;refine zr1 (v:=.c _) ?_))|(apply f_w;first|refine zo ?_|refine zc ?_)|refine za fun C=>?_|refine zd ?_)
    all_goals first
     | (exfalso;clear hE hokS hsn hsum hpre;simp only [decide_eq_true_iff,decide_eq_false_iff_not,ge_iff_le] at *;omega)
     | skip
    refine zn (by rfl) (fun hC=>?_) fun hC=>absurd (of_decide_eq_false hC) (by omega)
    repeat' (first|(apply f_wo;first|(apply f_mv;refine zt (v:=.c _) ?_)|(apply zb2;refine zx ?_))|(apply f_w;refine zo ?_)|refine za fun C=>?_|refine zd ?_|refine zg ?_|refine zk ?_)
    refine n_ix (l:=bI bs) (j:=p+k) ?_ (hn:=ze19.symm) (hz:=by omega)
    repeat' (first|(apply f_wo;first|(apply f_mv;refine zt (v:=.c _) ?_)|(apply f_as;refine zu (v:=.c _) ?_)|(apply f_ld;refine zh5 ?_)|(apply zo9;refine zp3 ?_)|(apply zb2;refine zx ?_)|(apply f_bb;first|refine zq7 ?_|refine n_shl ?_|refine n_remA ?_)|(apply f_cv;refine zv13 ?_))|(apply f_w;first|refine zo ?_|refine zc ?_)|refine za fun C=>?_|refine zd ?_)
    rw [hW]
    by_cases h128:128≤b.toNat
    ·rw [if_pos h128] at hE
     refine zn (by rfl) (fun hC=>?_) fun hC=>absurd (of_decide_eq_false hC) (by omega)
     repeat' (first|(apply f_wo;first|(apply f_mv;refine zt (v:=.c _) ?_)|(apply f_as;refine zu (v:=.c _) ?_)|(apply zb2;refine zx ?_))|(apply f_w;first|refine zo ?_|refine zc ?_)|refine za fun C=>?_|refine zw ?_)
     refine⟨f,(k+1,n+w),by omega,⟨hE,by dsimp only;omega,hsn.symm,by dsimp only;omega,fun c hcm=>?_⟩,?_⟩
     ·rw [hcut] at hcm
      rcases List.mem_append.1 hcm with h|h
      ·exact hpre c h
      ·rw [List.mem_singleton] at h;subst h;exact h128
     (refine zk1 _ _ rfl rfl ?_ ?_<;>(repeat' (first|exact TmOk.nil|exact RwOk.nil|refine TmOk.cons ?_ ?_|refine RwOk.cons ?_ ?_|rfl|(refine rnV_id' rfl ?_;exact byc)|(refine zo1 ?_;first|rfl|omega|(rw [za1 (by omega) (by omega)];omega))|(refine zv rfl ?_;exact byc)|exact zg2 rfl rfl|(refine zp1 (by rfl) (by rfl) ?_ ?_<;>exact byc)|(refine rw_rn' rfl rfl ?_;simp;done))))
    ·rw [if_neg h128] at hE
     refine zn (by rfl) (fun hC=>absurd (of_decide_eq_true hC) (by omega)) fun hC=>?_
     by_cases h64:64≤b.toNat
     ·simp only [if_pos h64] at hokS
      rw [if_pos h64] at hE
      have hok:(putS (n+w-128*q)==cut8 bs p (k+1))=okSg (n+w-128*q) k:=by rw [hcut];exact (hokS (by omega) (m:=n+w-128*q) (by omega)).symm
      have cp:Ctr Tryz.prog 113 [.c (.v (.slice none 0 0)),.c (.v (.int .i64 (n+w-128*q)))] [] (.c (.ow 5 (putS (n+w-128*q)).length 1 (bytC (putS (n+w-128*q))))) []:=ctr_nil (zr12 (bs:=[]) (n:=n+w-128*q) (by omega) (by decide))
      have ce:=zd9 (putS (n+w-128*q)) (cut8 bs p (k+1))
      rw [←zv4 (putS (n+w-128*q)),hok] at ce
      clear hokS hok
      repeat' (first|(apply f_wo;first|(apply f_mv;refine zt (v:=.c _) ?_)|(apply zo9;refine zp3 ?_))|(apply f_w;first|refine zo ?_|refine zc ?_)|refine za fun C=>?_|refine zd ?_|refine zk ?_)
      refine zn (by rfl) (fun hC=>?_) fun hC=>absurd (of_decide_eq_false hC) (by omega)
      repeat' (first|(apply f_wo;first|(apply f_mv;refine zt (v:=.c _) ?_)|(apply f_as;refine zu (v:=.c _) ?_)|(apply zb2;refine zx ?_)|(apply f_bb;first|refine zh3 ?_|refine zq7 ?_|refine n_shl ?_))|(apply f_w;first|refine zo ?_|refine zc ?_)|(apply d_wo;(apply d_mv;refine zx3 (.c (.v _)) ?_))|(apply d_w;refine zo ?_)|refine za fun C=>?_|refine zp (by kernel_rfl) (by kernel_rfl) fun C=>?_|refine zd ?_)
      rw [hs]
      repeat' (first|(apply d_wo;first|(apply d_mv;first|refine zx3 (.c (.v _)) ?_|refine zx3 (.c _) ?_)|(apply d_ca;refine zs12 cp ?_)|(apply d_bb;refine zp7 ?_))|(apply d_w;refine zo ?_))
      refine o_rsl (bs:=bs) p (k+1) ?_ (by omega) ?_ ?_
      rotate_left
      ·rfl
      ·push_cast;omega
      cases hok:okSg (n+w-128*q) k with
      | true =>
       rw [hok,if_pos rfl] at hE
       rw [hok] at ce
       rw [←hE]
       repeat' (first|(apply f_wo;first|(apply f_mv;refine zt (v:=.c _) ?_)|(apply f_as;refine zu (v:=.c _) ?_)|(apply zb2;refine zx ?_))|(apply f_w;first|refine zo ?_|refine zc ?_)|(apply d_wo;first|(apply d_ca;refine zs12 ce ?_)|refine zf2 ?_)|(apply d_w;first|refine zo ?_|refine zc ?_)|refine za fun C=>?_|refine zd ?_|refine zk ?_|refine zr rfl ?_)
       refine zi ?_;refine ret0 rfl (zc2 (zj zy (zj zy (zj zy zj1)))) ⟨?_,rfl⟩
       rfl
      | false =>
       rw [hok,if_neg (by decide)] at hE
       rw [hok] at ce
       rw [←hE]
       repeat' (first|(apply f_wo;(apply f_as;refine zu (v:=.c _) ?_))|(apply f_w;first|refine zo ?_|refine zc ?_)|(apply d_wo;first|(apply d_ca;refine zs12 ce ?_)|refine zf2 ?_)|(apply d_w;first|refine zo ?_|refine zc ?_)|refine za fun C=>?_|refine zd ?_|refine zq rfl ?_)
       refine zi ?_;refine ret0 rfl (zc2 (zj zy (zj zy (zj zy zj1)))) ⟨?_,rfl⟩
       rfl
     ·simp only [if_neg h64,Int.sub_zero] at hokS
      rw [if_neg h64,Int.sub_zero] at hE
      have hok:(putS (n+w)==cut8 bs p (k+1))=okSg (n+w) k:=by rw [hcut];exact (hokS (by omega) (m:=n+w) (by omega)).symm
      have cp:Ctr Tryz.prog 113 [.c (.v (.slice none 0 0)),.c (.v (.int .i64 (n+w)))] [] (.c (.ow 5 (putS (n+w)).length 1 (bytC (putS (n+w))))) []:=ctr_nil (zr12 (bs:=[]) (n:=n+w) (by omega) (by decide))
      have ce:=zd9 (putS (n+w)) (cut8 bs p (k+1))
      rw [←zv4 (putS (n+w)),hok] at ce
      clear hokS hok
      repeat' (first|(apply f_wo;first|(apply f_mv;refine zt (v:=.c _) ?_)|(apply zo9;refine zp3 ?_))|(apply f_w;first|refine zo ?_|refine zc ?_)|refine za fun C=>?_|refine zd ?_|refine zk ?_)
      refine zn (by rfl) (fun hC=>absurd (of_decide_eq_true hC) (by omega)) fun hC=>?_
      repeat' (first|(apply d_wo;first|(apply d_mv;first|refine zx3 (.c (.v _)) ?_|refine zx3 (.c _) ?_)|(apply d_ca;refine zs12 cp ?_)|(apply d_bb;refine zp7 ?_))|(apply d_w;refine zo ?_)|refine zp (by kernel_rfl) (by kernel_rfl) fun C=>?_|refine zd ?_|refine zk ?_)
      refine o_rsl (bs:=bs) p (k+1) ?_ (by omega) ?_ ?_
      rotate_left
      ·rfl
      ·push_cast;omega
      cases hok:okSg (n+w) k with
      | true =>
       rw [hok,if_pos rfl] at hE
       rw [hok] at ce
       rw [←hE]
       repeat' (first|(apply f_wo;first|(apply f_mv;refine zt (v:=.c _) ?_)|(apply f_as;refine zu (v:=.c _) ?_)|(apply zb2;refine zx ?_))|(apply f_w;first|refine zo ?_|refine zc ?_)|(apply d_wo;first|(apply d_ca;refine zs12 ce ?_)|refine zf2 ?_)|(apply d_w;first|refine zo ?_|refine zc ?_)|refine za fun C=>?_|refine zd ?_|refine zk ?_|refine zr rfl ?_)
       refine zi ?_;refine ret0 rfl (zc2 (zj zy (zj zy (zj zy zj1)))) ⟨?_,rfl⟩
       rfl
      | false =>
       rw [hok,if_neg (by decide)] at hE
       rw [hok] at ce
       rw [←hE]
       repeat' (first|(apply f_wo;(apply f_as;refine zu (v:=.c _) ?_))|(apply f_w;first|refine zo ?_|refine zc ?_)|(apply d_wo;first|(apply d_ca;refine zs12 ce ?_)|refine zf2 ?_)|(apply d_w;first|refine zo ?_|refine zc ?_)|refine za fun C=>?_|refine zd ?_|refine zq rfl ?_)
       refine zi ?_;refine ret0 rfl (zc2 (zj zy (zj zy (zj zy zj1)))) ⟨?_,rfl⟩
       rfl
 ·rw [zj19 hp]
  rw [show inR at_ 0 ((bs.length:Int)-1)=false by cases hh:inR at_ 0 ((bs.length:Int)-1) with|false=>rfl|true=>(simp [inR] at hh;omega)] at hin
  refine zi1 Tryz.func154 rfl rfl ?_
  repeat' (first|(apply f_wo;first|(apply f_mv;refine zt (v:=.c _) ?_)|(apply f_as;refine zu (v:=.c _) ?_)|(apply f_ca;refine zu1 hin ?_)|(apply f_bi;refine zl2 ?_)|(apply f_no;refine za2 ?_)|(apply f_bb;refine zh3 ?_))|(apply f_w;first|refine zo ?_|refine zc ?_)|refine za fun C=>?_|refine zd ?_|refine zq rfl ?_)
  refine zi ?_;refine ret0 rfl (zc2 (zj zy (zj zy (zj zy zj1)))) ⟨?_,rfl⟩
  rfl
end Go.Proofs.YtghljnfbbaklnaaGreat
namespace Go.Proofs.YtghljnfbbaklnaaGreat
open Go.RowKit
theorem zy20:(Tryz.prog.info? 5).map (fun i=>(i.zero,i.size,i.bytes))=some (some (.int .u8 0),1,1):=by kernel_rfl
set_option maxRecDepth 100000 in
set_option maxHeartbeats 1000000 in
theorem zz5 {e:E}(ht:e.Ty Tryz.prog 28):To 23 28 e:=by
 obtain⟨A,c,l,rfl,h1,h2⟩:=ht.lst_ Tryz.underlying28 (k:=1) (by kernel_rfl)
 intro w hr hsz
 have hs:=hr.sl
 have hn:l.length≤1048576:=by have e:(E.lst 1 5 A c l).sz=l.length+E.szL l:=rfl;omega
 have hmk:=mk_eq Tryz.underlying28 zy20 l.length (by omega) (by omega)
 have hF:=Fill.new w 5 #[.int .u8 0] l.length (E.encL l)
 have hxs:=E.encL_len h2
 rw [Nat.mul_one] at hxs
 have HX:=Lib.hid hxs
 have H1:=Lib.hid h1
 have H2:=Lib.hid h2
 clear hxs h1 h2
 change Calls _ _ #[.slice A l.length c] w _
 go_enter Tryz.func23,Tryz.ntmps23
 go_wp2
 go_loopw [4] (fun i wr=>∃(k:Nat),k≤l.length∧i=.int .i64 k∧Fill wr w.heap.size 5 l.length k (E.encL l)∧Below w.heap.size w wr) (fun i _=>l.length-(intOf i).toNat)
 case atStart=>exact⟨0,Nat.zero_le _,rfl,hF,by exact by0⟩
 case round =>
  obtain⟨k,hk,rfl,hf,hb⟩:=hrel
  by_cases hlt:k<l.length
  ·have hs':=hs.below hb (Nat.le_refl _)
   obtain⟨b,o,rfl,_,hcell⟩:=hs'.at1 hlt
   have hx:=E.encL_at H2.out k hlt 0 (by omega)
   obtain⟨n,ex,gn⟩:=(H1.out _ (List.getElem_mem hlt)).int_ Tryz.underlying5
   have hcell:=hcell _ (by rw [ex];rfl)
   obtain⟨u,hc2⟩:=hf.cell hlt
   have hf2:=hf.frozen k
   rw [Nat.mul_one,Nat.add_zero,ex] at hx
   have R:=(hf.set hlt hx)
   clear hx hf ex
   go_wp2
   go_roundw
   case rel=>exact⟨k+1,by omega,by go_num,R,hb.setCell (Nat.le_refl _) _⟩
   case measure=>simp [intOf];omega
  ·have hk':k=l.length:=by omega
   subst hk'
   go_wp2
   go_ret
   have hfl:∀e∈l,e.fp=[]:=fun e he=>by
    obtain⟨n,rfl,_⟩:=(H1.out e he).int_ Tryz.underlying5
    rfl
   refine⟨.lst 1 5 (some ⟨w.heap.size,0,none⟩) l.length l,rfl,ze20.2 rfl,E.Ty.mk_lst Tryz.underlying28 (by kernel_rfl) H1.out H2.out,E.Ho.mk (Ow.of_owns (hf.owns (Nat.le_refl _) (Nat.mul_one _).symm HX.out (by unfold maxLen;omega)) (Nat.le_refl _)) H2.out (fun e he=>?_),?_,hb⟩
   ·obtain⟨n,rfl,_⟩:=(H1.out e he).int_ Tryz.underlying5
    trivial
   ·simp only [E.fp,E.fpL_nil hfl];simp
set_option maxRecDepth 100000 in
set_option maxHeartbeats 1000000 in
theorem eqByteS_all' (A B:Option Addr)(c c':Nat)(l m:List E)(h1:∀y∈l,y.Ty Tryz.prog 5)(h2:∀y∈m,y.Ty Tryz.prog 5):Eq 10 (.lst 1 5 A c l) (.lst 1 5 B c' m):=by
 intro hd w hr hr'
 rw [ze20] at hd
 have hs:=hr.sl
 have hs':=hr'.sl
 have hml:=zu21 hd
 have HD:=Lib.hid hd
 clear hd
 have hlen:=hs.len_le
 change Calls _ _ #[.slice A l.length c,.slice B m.length c'] w _
 obtain⟨N,HN⟩:∃N,Hid (m.length=N):=⟨_,rfl⟩
 have hN:N=l.length:=by have:=HN.out;omega
 subst hN
 rw [HN.out]
 clear hml
 go_enter Tryz.func10,Tryz.ntmps10
 go_wp2
 go_loopw [5] (fun i wr=>∃(k:Nat),k≤l.length∧i=.int .i64 k∧Below w.heap.size w wr) (fun i _=>l.length-(intOf i).toNat)
 case atStart=>exact⟨0,Nat.zero_le _,rfl,Below.refl _ _⟩
 case round =>
  obtain⟨k,hk,rfl,hb⟩:=hrel
  by_cases hlt:k<l.length
  ·have hltm:k<m.length:=by have:=HN.out;omega
   have hsb:=hs.below hb (Nat.le_refl _)
   have hsb':=hs'.below hb (Nat.le_refl _)
   have hdk:=d_at HD.out hlt hltm
   obtain⟨b,o,rfl,_,hc⟩:=hsb.at_ hlt
   obtain⟨b',o',rfl,_,hd⟩:=hsb'.at_ hltm
   obtain⟨a,ea,ga⟩:=(h1 _ (List.getElem_mem hlt)).int_ Tryz.underlying5
   obtain⟨a2,eb,gb⟩:=(h2 _ (List.getElem_mem hltm)).int_ Tryz.underlying5
   rw [ea,eb] at hdk
   simp only [E.d,E.int.injEq,E.str.injEq,true_and] at hdk
   subst hdk
   rw [ea] at hc
   rw [eb] at hd
   clear ea eb
   have c0:=hc 0 _ rfl
   have d0:=hd 0 _ rfl
   rw [Nat.add_zero,Nat.mul_one] at c0 d0
   clear hc hd
   go_wp2
   go_quiet (fail)
   go_wp2
   go_roundw
   case rel=>exact⟨k+1,by omega,by go_num,by exact by0⟩
   case measure=>simp [intOf];omega
  ·go_wp2
   go_ret
   exact⟨rfl,hb⟩
theorem zm17 {e e':E}(ht:e.Ty Tryz.prog 28)(ht':e'.Ty Tryz.prog 28):Eq 10 e e':=by
 obtain⟨A,c,l,rfl,h1,_⟩:=ht.lst_ Tryz.underlying28 (k:=1) (by kernel_rfl)
 obtain⟨B,c',m,rfl,h2,_⟩:=ht'.lst_ Tryz.underlying28 (k:=1) (by kernel_rfl)
 exact eqByteS_all' A B c c' l m h1 h2
set_option maxRecDepth 100000 in
set_option maxHeartbeats 1000000 in
theorem markByteS_all' (A:Option Addr)(c:Nat)(l:List E)(h1:∀y∈l,y.Ty Tryz.prog 5)(h2:∀y∈l,y.enc.length=1):Mar 13 (.lst 1 5 A c l):=by
 intro lo hi k0 w ho hnd hhi hk0 hk1
 have HCN:Hid ((E.lst 1 5 A c l).cnt=E.cntcL l):=rfl
 rw [HCN.out] at hk1
 have HND:=Lib.hid hnd
 clear hnd
 have hlen:=ho.re.sl.len_le
 have how0:=ho
 rw [←ze6 l k0] at how0
 clear ho
 change Calls _ _ #[.slice A l.length c,.int .i64 k0] w _
 rw [HCN.out]
 change Calls _ _ _ w fun r w'=>r=.returned (.int .i64 (k0+(E.cntcL l:Nat)))∧(E.lst 1 5 A c (E.mkcL l k0)).Ho w' lo hi∧Fr (E.lst 1 5 A c l).fp w w'
 go_enter Tryz.func13,Tryz.ntmps13
 go_wp2
 go_loopw [1,5] (fun v i wr=>∃(k:Nat) (q:Int),k≤l.length∧i=.int .i64 k∧v=.int .i64 q∧Hid (q=k0+(E.cntcL (l.take k):Nat))∧Fr (E.lst 1 5 A c l).fp w wr∧Hid ((E.lst 1 5 A c (mixM l k0 k)).Ho wr lo hi)) (fun _ i _=>l.length-(intOf i).toNat)
 case atStart=>exact⟨0,k0,Nat.zero_le _,rfl,rfl,(by show _=_;simp [E.cntcL]),Fr.refl _ _,how0⟩
 case round =>
  obtain⟨k,q,hk,rfl,rfl,HQ,hF0,HOW⟩:=hrel
  have hzk:=hF0.size
  by_cases hlt:k<l.length
  ·have HT:=Lib.hid (E.cntcL_take l k hlt)
   have hq0:0≤q:=by have:=HQ.out;omega
   have hml:k<(mixM l k0 k).length:=by rw [zr6];exact hlt
   have how:=HOW.out
   obtain⟨g,rfl,hg1,hg2,hg3⟩:=how.head (by omega)
   obtain⟨y0,ex,gy0⟩:=(h1 _ (List.getElem_mem hlt)).int_ Tryz.underlying5
   have HCX:Hid ((E.int .u8 y0).cntc=1):=rfl
   have hq1:q+((1:Nat):Int)≤1152921504606846976:=by have e1:=HQ.out;have e2:=HT.out;have e3:=E.cntcL_le l (k+1);rw [ex,HCX.out] at e2;omega
   have e0:mixM l k0 k=(mixM l k0 k).set k (E.int .u8 y0):=by rw [←ex,←zn5 l k0 k hlt];exact (List.set_getElem_self _).symm
   have HN2:=Lib.hid (fun (z:E) (hz:z.fp=(E.int .u8 y0).fp)=>(show (E.lst 1 5 (some ⟨g,0,none⟩) c ((mixM l k0 k).set k z)).fp.Nodup by have hh:=HND.out;have h3:E.fpL ((mixM l k0 k).set k z)=E.fpL l:=(E.fpL_set hml (by rw [hz,←ex,zn5 l k0 k hlt])).trans (zf10 l k0 k);simp only [E.fp] at hh ⊢;rw [h3];exact hh))
   have HSB:=Lib.hid (fun (b:Nat) (hb:b∈(E.int .u8 y0).fp)=>(show b∈(E.lst 1 5 (some ⟨g,0,none⟩) c l).fp by simp only [E.fp];exact List.mem_append_right _ (E.mem_fpL.2 ⟨l[k],List.getElem_mem hlt,by rw [ex];exact hb⟩)))
   have hgm:g∈(E.lst 1 5 (some ⟨g,0,none⟩) c l).fp:=by simp [E.fp]
   have HGM:=Lib.hid hgm
   clear hgm
   rw [e0] at how
   clear e0
   obtain⟨ms,HMS⟩:∃ms,Hid (mixM l k0 k=ms):=⟨_,rfl⟩
   rw [HMS.out] at how hml HN2
   have HEX:=Lib.hid ex
   clear ex
   have HML:=Lib.hid hml
   clear hml
   have H0:=Lib.hid how
   clear how
   have c0_0:wr.cell? ⟨g,k,none⟩=some (.int .u8 y0):=by have h:=H0.out.cellx (j:=0) (u:=.int .u8 y0) (by simpa using HML.out) (zy4 HML.out _) rfl;simpa only [Nat.mul_one,Nat.add_zero] using h
   have fz0:=H0.out.frzx
   go_wp2
   go_roundw
   case rel =>
    have H1:Hid ((E.lst 1 5 (some ⟨g,0,none⟩) c (ms.set k (E.int .u8 ((q) % 256)))).Ho (wr.setCell ⟨g,k,none⟩ (.int .u8 ((q) % 256))) lo hi):=(by have h:=H0.out.store (HN2.out _ (by simp only [E.fp,E.fpL,E.mkcL_fp])) HML.out (E.int .u8 ((q) % 256)) 0 (.int .u8 ((q) % 256)) (by omega) rfl (fun _ h=>h);simp only [Nat.mul_one,Nat.add_zero] at h;exact h)
    have FF:∀t0:Int,((q) % 256)=t0→(E.int .u8 ((q) % 256))=(E.int .u8 t0):=by
     intro t0 ht0
     subst ht0
     rfl
    have EX:(E.int .u8 ((q) % 256))=(E.int .u8 y0).mkc q:=FF _ (by first|rfl|omega|(show _=_;simp only [E.cnt,E.cntL,E.cntc,E.cntcL,reduceCtorEq,if_false,if_true,ite_false];omega))
    exact⟨k+1,_,by omega,by go_num,rfl,(by show _=_;have e1:=HQ.out;have e2:=HT.out;rw [HEX.out,HCX.out] at e2;omega),(hF0.set HGM.out (.int .u8 ((q) % 256))),(by show E.Ho _ _ _ _;rw [←zf6 l k0 k hlt,HEX.out,←HQ.out,←EX,HMS.out];exact H1.out)⟩
   case measure=>simp [intOf];omega
  ·have hk':k=l.length:=by omega
   subst hk'
   go_wp2
   go_ret
   have e1:=HQ.out
   rw [List.take_length] at e1
   have h:=HOW.out
   rw [zl7] at h
   exact⟨ri e1,h,hF0⟩
theorem zy13 {e:E}(ht:e.Ty Tryz.prog 28):Mar 13 e:=by
 obtain⟨A,c,l,rfl,h1,h2⟩:=ht.lst_ Tryz.underlying28 (k:=1) (by kernel_rfl)
 exact markByteS_all' A c l h1 h2
set_option maxRecDepth 100000 in
set_option maxHeartbeats 1000000 in
theorem eqStringS_all' (A B:Option Addr)(c c':Nat)(l m:List E)(h1:∀y∈l,y.Ty Tryz.prog 9)(h2:∀y∈m,y.Ty Tryz.prog 9):Eq 43 (.lst 1 9 A c l) (.lst 1 9 B c' m):=by
 intro hd w hr hr'
 rw [ze20] at hd
 have hs:=hr.sl
 have hs':=hr'.sl
 have hml:=zu21 hd
 have HD:=Lib.hid hd
 clear hd
 have hlen:=hs.len_le
 change Calls _ _ #[.slice A l.length c,.slice B m.length c'] w _
 obtain⟨N,HN⟩:∃N,Hid (m.length=N):=⟨_,rfl⟩
 have hN:N=l.length:=by have:=HN.out;omega
 subst hN
 rw [HN.out]
 clear hml
 go_enter Tryz.func43,Tryz.ntmps43
 go_wp2
 go_loopw [5] (fun i wr=>∃(k:Nat),k≤l.length∧i=.int .i64 k∧Below w.heap.size w wr) (fun i _=>l.length-(intOf i).toNat)
 case atStart=>exact⟨0,Nat.zero_le _,rfl,Below.refl _ _⟩
 case round =>
  obtain⟨k,hk,rfl,hb⟩:=hrel
  by_cases hlt:k<l.length
  ·have hltm:k<m.length:=by have:=HN.out;omega
   have hsb:=hs.below hb (Nat.le_refl _)
   have hsb':=hs'.below hb (Nat.le_refl _)
   have hdk:=d_at HD.out hlt hltm
   obtain⟨b,o,rfl,_,hc⟩:=hsb.at_ hlt
   obtain⟨b',o',rfl,_,hd⟩:=hsb'.at_ hltm
   obtain⟨a,ea,ga⟩:=(h1 _ (List.getElem_mem hlt)).str_ Tryz.underlying9
   obtain⟨a2,eb,gb⟩:=(h2 _ (List.getElem_mem hltm)).str_ Tryz.underlying9
   rw [ea,eb] at hdk
   simp only [E.d,E.int.injEq,E.str.injEq,true_and] at hdk
   subst hdk
   rw [ea] at hc
   rw [eb] at hd
   clear ea eb
   have c0:=hc 0 _ rfl
   have d0:=hd 0 _ rfl
   rw [Nat.add_zero,Nat.mul_one] at c0 d0
   clear hc hd
   go_wp2
   go_quiet (fail)
   go_wp2
   go_roundw
   case rel=>exact⟨k+1,by omega,by go_num,by exact by0⟩
   case measure=>simp [intOf];omega
  ·go_wp2
   go_ret
   exact⟨rfl,hb⟩
theorem zz13 {e e':E}(ht:e.Ty Tryz.prog 23)(ht':e'.Ty Tryz.prog 23):Eq 43 e e':=by
 obtain⟨A,c,l,rfl,h1,_⟩:=ht.lst_ Tryz.underlying23 (k:=1) (by kernel_rfl)
 obtain⟨B,c',m,rfl,h2,_⟩:=ht'.lst_ Tryz.underlying23 (k:=1) (by kernel_rfl)
 exact eqStringS_all' A B c c' l m h1 h2
set_option maxRecDepth 100000 in
set_option maxHeartbeats 1000000 in
theorem markStringS_all' (A:Option Addr)(c:Nat)(l:List E)(h1:∀y∈l,y.Ty Tryz.prog 9)(h2:∀y∈l,y.enc.length=1):Mar 46 (.lst 1 9 A c l):=by
 intro lo hi k0 w ho hnd hhi hk0 hk1
 have HCN:Hid ((E.lst 1 9 A c l).cnt=E.cntcL l):=rfl
 rw [HCN.out] at hk1
 have HND:=Lib.hid hnd
 clear hnd
 have hlen:=ho.re.sl.len_le
 have how0:=ho
 rw [←ze6 l k0] at how0
 clear ho
 change Calls _ _ #[.slice A l.length c,.int .i64 k0] w _
 rw [HCN.out]
 change Calls _ _ _ w fun r w'=>r=.returned (.int .i64 (k0+(E.cntcL l:Nat)))∧(E.lst 1 9 A c (E.mkcL l k0)).Ho w' lo hi∧Fr (E.lst 1 9 A c l).fp w w'
 go_enter Tryz.func46,Tryz.ntmps46
 go_wp2
 go_loopw [1,5] (fun v i wr=>∃(k:Nat) (q:Int),k≤l.length∧i=.int .i64 k∧v=.int .i64 q∧Hid (q=k0+(E.cntcL (l.take k):Nat))∧Fr (E.lst 1 9 A c l).fp w wr∧Hid ((E.lst 1 9 A c (mixM l k0 k)).Ho wr lo hi)) (fun _ i _=>l.length-(intOf i).toNat)
 case atStart=>exact⟨0,k0,Nat.zero_le _,rfl,rfl,(by show _=_;simp [E.cntcL]),Fr.refl _ _,how0⟩
 case round =>
  obtain⟨k,q,hk,rfl,rfl,HQ,hF0,HOW⟩:=hrel
  have hzk:=hF0.size
  by_cases hlt:k<l.length
  ·have HT:=Lib.hid (E.cntcL_take l k hlt)
   have hq0:0≤q:=by have:=HQ.out;omega
   have hml:k<(mixM l k0 k).length:=by rw [zr6];exact hlt
   have how:=HOW.out
   obtain⟨g,rfl,hg1,hg2,hg3⟩:=how.head (by omega)
   obtain⟨y0,ex,gy0⟩:=(h1 _ (List.getElem_mem hlt)).str_ Tryz.underlying9
   have HCX:Hid ((E.str y0).cntc=1):=rfl
   have hq1:q+((1:Nat):Int)≤1152921504606846976:=by have e1:=HQ.out;have e2:=HT.out;have e3:=E.cntcL_le l (k+1);rw [ex,HCX.out] at e2;omega
   have e0:mixM l k0 k=(mixM l k0 k).set k (E.str y0):=by rw [←ex,←zn5 l k0 k hlt];exact (List.set_getElem_self _).symm
   have HN2:=Lib.hid (fun (z:E) (hz:z.fp=(E.str y0).fp)=>(show (E.lst 1 9 (some ⟨g,0,none⟩) c ((mixM l k0 k).set k z)).fp.Nodup by have hh:=HND.out;have h3:E.fpL ((mixM l k0 k).set k z)=E.fpL l:=(E.fpL_set hml (by rw [hz,←ex,zn5 l k0 k hlt])).trans (zf10 l k0 k);simp only [E.fp] at hh ⊢;rw [h3];exact hh))
   have HSB:=Lib.hid (fun (b:Nat) (hb:b∈(E.str y0).fp)=>(show b∈(E.lst 1 9 (some ⟨g,0,none⟩) c l).fp by simp only [E.fp];exact List.mem_append_right _ (E.mem_fpL.2 ⟨l[k],List.getElem_mem hlt,by rw [ex];exact hb⟩)))
   have hgm:g∈(E.lst 1 9 (some ⟨g,0,none⟩) c l).fp:=by simp [E.fp]
   have HGM:=Lib.hid hgm
   clear hgm
   rw [e0] at how
   clear e0
   obtain⟨ms,HMS⟩:∃ms,Hid (mixM l k0 k=ms):=⟨_,rfl⟩
   rw [HMS.out] at how hml HN2
   have HEX:=Lib.hid ex
   clear ex
   have HML:=Lib.hid hml
   clear hml
   have H0:=Lib.hid how
   clear how
   have c0_0:wr.cell? ⟨g,k,none⟩=some (.string y0):=by have h:=H0.out.cellx (j:=0) (u:=.string y0) (by simpa using HML.out) (zy4 HML.out _) rfl;simpa only [Nat.mul_one,Nat.add_zero] using h
   have fz0:=H0.out.frzx
   go_wp2_with fail
   clear c0_0 fz0
   go_at_call 117
   refine (zd5 _ _ (by omega)).mono ?_;rintro e w1 ⟨rfl,hb1⟩
   have hz1:=hb1.size;(try simp only [World.size_setCell] at hz1)
   have H1:=Lib.hid (H0.out.below hb1 (by first|omega|(simp;omega)))
   clear H0
   have hF1:Fr (E.lst 1 9 (some ⟨g,0,none⟩) c l).fp w w1:=hF0.trans (Fr.of_below hb1)
   have c1_0:w1.cell? ⟨g,k,none⟩=some (.string y0):=by have h:=H1.out.cellx (j:=0) (u:=.string y0) (by simpa using HML.out) (zy4 HML.out _) rfl;simpa only [Nat.mul_one,Nat.add_zero] using h
   have fz1:=H1.out.frzx
   go_wp2
   go_roundw
   case rel =>
    have H2:Hid ((E.lst 1 9 (some ⟨g,0,none⟩) c (ms.set k (E.str (markT (q))))).Ho (w1.setCell ⟨g,k,none⟩ (.string (markT (q)))) lo hi):=(by have h:=H1.out.store (HN2.out _ (by simp only [E.fp,E.fpL,E.mkcL_fp])) HML.out (E.str (markT (q))) 0 (.string (markT (q))) (by omega) rfl (fun _ h=>h);simp only [Nat.mul_one,Nat.add_zero] at h;exact h)
    have FF:∀t0:Int,(q)=t0→(E.str (markT (q)))=(E.str (markT t0)):=by
     intro t0 ht0
     subst ht0
     rfl
    have EX:(E.str (markT (q)))=(E.str y0).mkc q:=FF _ (by first|rfl|omega|(show _=_;simp only [E.cnt,E.cntL,E.cntc,E.cntcL,reduceCtorEq,if_false,if_true,ite_false];omega))
    exact⟨k+1,_,by omega,by go_num,rfl,(by show _=_;have e1:=HQ.out;have e2:=HT.out;rw [HEX.out,HCX.out] at e2;omega),(hF1.set HGM.out (.string (markT (q)))),(by show E.Ho _ _ _ _;rw [←zf6 l k0 k hlt,HEX.out,←HQ.out,←EX,HMS.out];exact H2.out)⟩
   case measure=>simp [intOf];omega
  ·have hk':k=l.length:=by omega
   subst hk'
   go_wp2
   go_ret
   have e1:=HQ.out
   rw [List.take_length] at e1
   have h:=HOW.out
   rw [zl7] at h
   exact⟨ri e1,h,hF0⟩
set_option maxRecDepth 100000 in
set_option maxHeartbeats 1000000 in
theorem heldStringS_all' (A:Option Addr)(c:Nat)(l:List E)(h1:∀y∈l,y.Ty Tryz.prog 9)(h2:∀y∈l,y.enc.length=1):Hel 90 (.lst 1 9 A c l):=by
 intro k0 w hr h0 hk1
 have HCN:Hid ((E.lst 1 9 A c l).cnt=E.cntcL l):=rfl
 rw [HCN.out] at hk1
 change (E.lst 1 9 A c (E.mkcL l k0)).In w at hr
 have hs:=hr.sl
 have hlen:=hs.len_le
 rw [E.mkcL_len] at hlen
 change Calls _ _ #[.slice A l.length c,.int .i64 k0] w _
 rw [HCN.out]
 change Calls _ _ _ w fun r w'=>r=.returned (.int .i64 (k0+(E.cntcL l:Nat)))∧Below w.heap.size w w'
 go_enter Tryz.func90,Tryz.ntmps90
 go_wp2
 go_loopw [1,5] (fun v i wr=>∃(k:Nat) (q:Int),k≤l.length∧i=.int .i64 k∧v=.int .i64 q∧Hid (q=k0+(E.cntcL (l.take k):Nat))∧Below w.heap.size w wr) (fun _ i _=>l.length-(intOf i).toNat)
 case atStart=>exact⟨0,k0,Nat.zero_le _,rfl,rfl,(by show _=_;simp [E.cntcL]),Below.refl _ _⟩
 case round =>
  obtain⟨k,q,hk,rfl,rfl,HQ,hb⟩:=hrel
  have hzb:=hb.size
  by_cases hlt:k<l.length
  ·have HT:=Lib.hid (E.cntcL_take l k hlt)
   have hq0:0≤q:=by have:=HQ.out;omega
   have hlm:k<(E.mkcL l k0).length:=by rw [E.mkcL_len];exact hlt
   obtain⟨y0,ex,gy0⟩:=(h1 _ (List.getElem_mem hlt)).str_ Tryz.underlying9
   have HCX:Hid ((E.str y0).cntc=1):=rfl
   have hq1:q+((1:Nat):Int)≤1152921504606846976:=by have e1:=HQ.out;have e2:=HT.out;have e3:=E.cntcL_le l (k+1);rw [ex,HCX.out] at e2;omega
   have FF:∀t0:Int,(q)=t0→(E.str (markT (q)))=(E.str (markT t0)):=by
    intro t0 ht0
    subst ht0
    rfl
   have EX:(E.str (markT (q)))=(E.str y0).mkc q:=FF _ (by first|rfl|omega|(show _=_;simp only [E.cnt,E.cntL,E.cntc,E.cntcL,reduceCtorEq,if_false,if_true,ite_false];omega))
   have hs':=hs.below hb (Nat.le_refl _)
   have hin:=(hr.el (List.getElem_mem hlm)).below hb (Nat.le_refl _)
   obtain⟨b,o,rfl,hbl,hc⟩:=hs'.at_ hlm
   rw [E.mkcL_at l k0 k hlt,ex,←HQ.out,←EX] at hc hin
   clear EX FF
   have HEX:=Lib.hid ex
   clear ex hlm hs'
   have c0_0:wr.cell? ⟨b,o+k,none⟩=some (.string (markT (q))):=by have h:=hc 0 _ rfl;simpa only [Nat.mul_one,Nat.add_zero,E.mkcL_len] using h
   clear hc
   clear hin
   go_wp2_with fail
   go_region_held3 (fun w'=>w'.cell? ⟨b,o+k,none⟩=some (.string (markT (q)))) (first|assumption|skip) ((go_at_call 117;refine (zd5 _ _ (by omega)).mono ?_;rintro e w1 ⟨rfl,hb1⟩;have hz1:=hb1.size;(try simp only [World.size_alloc,World.size_drew,World.heap_drewN,World.size_setCell] at hz1);have c1_0:=zc1 hb1 c0_0 (by first|omega|(simp;omega))))
   go_wp2_with fail
   go_roundw
   case rel=>exact⟨k+1,_,by omega,by go_num,rfl,(by show _=_;have e1:=HQ.out;have e2:=HT.out;rw [HEX.out,HCX.out] at e2;omega),by exact by0⟩
   case measure=>simp [intOf];omega
  ·have hk':k=l.length:=by omega
   subst hk'
   go_wp2
   go_ret
   have e1:=HQ.out
   rw [List.take_length] at e1
   exact⟨ri e1,hb⟩
theorem zy10 {e:E}(ht:e.Ty Tryz.prog 23):Mar 46 e:=by
 obtain⟨A,c,l,rfl,h1,h2⟩:=ht.lst_ Tryz.underlying23 (k:=1) (by kernel_rfl)
 exact markStringS_all' A c l h1 h2
theorem zz10 {e:E}(ht:e.Ty Tryz.prog 23):Hel 90 e:=by
 obtain⟨A,c,l,rfl,h1,h2⟩:=ht.lst_ Tryz.underlying23 (k:=1) (by kernel_rfl)
 exact heldStringS_all' A c l h1 h2
end Go.Proofs.YtghljnfbbaklnaaGreat
