/- markText, and the mark and held functions. -/
import Derived.Deep.RegionHeld3
import Derived.Deep.RegionWith
import Derived.Test.YtfemkmnkofgaaaaGreatRows
import Derived.ProofKit
import Derived.OpenShut
import Derived.ShutString
import Derived.ChangeOld
import Derived.SizedLaws
import Derived.Deep.Slices
import Derived.Lib.SmallJoins
import Derived.Maps.AppendAt
import Derived.Deep.AppendLies
import Derived.Test.YtfemkmnkofgaaaaGreatClearA
namespace Go.Proofs.YtfemkmnkofgaaaaGreat
open Go.RowKit
theorem by1 {p:Prop}(h:p:=by first|omega|(·simp)|(·(simp;omega))):p:=h
theorem by0 {p:Prop}(h:p:=by repeat (first|(with_reducible refine Below.setCell ?_ by1 _)|(with_reducible refine Below.alloc ?_ by1 _)|(with_reducible refine Below.drew ?_)|(with_reducible refine zo21 ?_ _)|(with_reducible exact Below.refl _ _)|(with_reducible assumption)|(with_reducible refine Below.trans ?_ (Below.mono (by assumption) by1))|(with_reducible refine Below.trans ?_ (Kp.below (by assumption) by1 by1)))):p:=h
def mdig:Nat→Nat→List UInt8→List UInt8
 | 0,_,acc=>acc
 | f+1,k,acc=>if k=0 then acc else mdig f (k / 10) (UInt8.ofNat (48+k % 10) :: acc)
theorem zp22 {P:Program}{t e d:TypeId}(hs:P.underlying t=some (.slice e))(he:P.underlying e=some (.int .u8))(hd:P.underlying d=some .string)(X:Int)(W:World) :
 (convert t d (.slice (some ⟨W.heap.size,0,none⟩) 1 1)).run P (W.alloc (.cells #[.int .u8 X] e))=.ok (.string (strOfNums [X])) (W.alloc (.cells #[.int .u8 X] e)) :=
 run_convert_bytes_arg _ t e hs he W.heap.size 0 1 1 [X] rfl (fun i hi=>by
  have:i=0:=by omega
  subst this
  rw [cell_of_row _ _ _ _ _ _ (heap_alloc_new W _)];rfl) d hd
def markT (k:Int):ByteArray:=if k≤0 then ⟨#[109,48]⟩ else ⟨#[109]⟩++⟨(mdig (k.toNat+1) k.toNat []).toArray⟩
theorem zp21 (x:Int)(l:List UInt8):strOfNums [x]++⟨l.toArray⟩=⟨(UInt8.ofNat x.toNat :: l).toArray⟩:=by
 show (ByteArray.mk [UInt8.ofNat x.toNat].toArray++ByteArray.mk l.toArray)=_
 rw [ByteArray.mk_append_mk];rfl
set_option maxRecDepth 100000 in
set_option maxHeartbeats 400000 in
theorem zc3 (k:Int)(w:World)(hk:k≤1152921504606846976):Calls Tryz.prog 100 #[.int .i64 k] w fun e w' =>
 e=.returned (.string (markT k))∧Below w.heap.size w w':=by
 have kc:=fun X W=>zp22 Tryz.underlying31 Tryz.underlying5 Tryz.underlying9 X W
 by_cases h0:k≤0
 ·have e:markT k=⟨#[109,48]⟩:=if_pos h0
  rw [e]
  go_enter Tryz.func100,Tryz.ntmps100
  go_wp2
  go_ret
  exact⟨rfl,Below.refl _ _⟩
 ·obtain⟨R,hR⟩:∃R,markT k=R:=⟨_,rfl⟩
  rw [hR]
  unfold markT at hR
  rw [if_neg h0] at hR
  obtain⟨L,hL⟩:∃L,mdig (k.toNat+1) k.toNat []=L:=⟨_,rfl⟩
  rw [hL] at hR
  have HR:=Lib.hid hR
  have HL:=Lib.hid hL
  clear hR hL
  have hsz:∀x,(strOfNums [x]).size=1:=fun x=>strOfNums_size _
  go_enter Tryz.func100,Tryz.ntmps100
  go_wp2
  go_loopw [0,3] (fun i s wr=>∃(n f:Nat) (l:List UInt8),(n:Int)≤k∧l.length+n≤k∧i=.int .i64 n∧s=.string ⟨l.toArray⟩∧n<f∧mdig f n l=L∧Below w.heap.size w wr) (fun i _ _=>(intOf i).toNat)
  case atStart=>exact⟨k.toNat,k.toNat+1,[],by omega,by simp;omega,by rw [show ((k.toNat:Nat):Int)=k from by omega],rfl,by omega,HL.out,by0⟩
  case round =>
   obtain⟨n,f,l,hn,hln,rfl,rfl,hf,hd,hb⟩:=hrel
   have HD:=Lib.hid hd
   clear hd
   have hll:l.length≤9223372036854775806:=by omega
   by_cases hp:0<n
   ·have hll:1+l.length≤9223372036854775807:=by omega
    have hzb:=hb.size
    go_wp2
    go_roundw
    case rel =>
     refine⟨n / 10,f-1,_,by omega,?_,by go_num,by rw [zp21],by omega,?_,by0⟩
     ·simp only [List.length_cons];omega
     ·have h:=HD.out
      obtain⟨f',rfl⟩:∃f',f=f'+1:=⟨f-1,by omega⟩
      rw [mdig,if_neg (by omega)] at h
      rw [←h,Nat.add_sub_cancel]
      congr 2
    case measure=>simp [intOf];omega
   ·go_wp2
    go_ret
    have h:=HD.out
    obtain⟨f',rfl⟩:∃f',f=f'+1:=⟨f-1,by omega⟩
    rw [mdig,if_pos (by omega)] at h
    subst h
    exact⟨by rw [←HR.out];rfl,hb⟩
structure Fr (fp:List Nat)(w w':World):Prop where
 os:w'.os=w.os
 tape:w'.tape=w.tape
 output:w'.output=w.output
 size:w.heap.size≤w'.heap.size
 block:∀k,k<w.heap.size→k∉fp→w'.heap[k]? = w.heap[k]?
section
variable {fp fp':List Nat}{a b c w w':World}{lo hi B:Nat}{e:E}
theorem Fr.refl (fp:List Nat)(w:World):Fr fp w w:=⟨rfl,rfl,rfl,Nat.le_refl _,fun _ _ _=>rfl⟩
theorem Fr.trans (h:Fr fp a b)(k:Fr fp b c):Fr fp a c :=
 ⟨k.os.trans h.os,k.tape.trans h.tape,k.output.trans h.output,Nat.le_trans h.size k.size,fun i hi hh=>(k.block i (Nat.lt_of_lt_of_le hi h.size) hh).trans (h.block i hi hh)⟩
theorem Fr.of_below (h:Below a.heap.size a b):Fr fp a b:=⟨h.os,h.tape,h.output,h.size,fun k hk _=>h.block k hk⟩
theorem Fr.set (h:Fr fp a w){p:Addr}(h1:p.block∈fp)(u:Value):Fr fp a (w.setCell p u) :=
 ⟨h.os,h.tape,h.output,by simpa using h.size,fun k hk hh=>(Below.heap_setCell w p u k (by rintro rfl;exact hh h1)).trans (h.block k hk hh)⟩
theorem Fr.sub (h:Fr fp a b)(hs:∀g∈fp,g∈fp'):Fr fp' a b:=⟨h.os,h.tape,h.output,h.size,fun k hk hh=>h.block k hk fun hm=>hh (hs k hm)⟩
theorem Fr.kp (h:Fr fp a b)(hf:∀g∈fp,lo≤g∧g<hi):Kp lo hi a b:=⟨h.os,h.tape,h.output,h.size,fun k hk hh=>h.block k hk fun hm=>by have:=hf k hm;omega⟩
theorem Fr.below (h:Fr fp a b)(hf:∀g∈fp,B≤g)(hB:B≤a.heap.size):Below B a b:=⟨h.os,h.tape,h.output,h.size,fun k hk=>h.block k (by omega) fun hm=>by have:=hf k hm;omega⟩
theorem E.Ho.fr (h:e.Ho a lo hi)(hb:Fr fp a b)(hd:∀g∈e.fp,g∉fp):e.Ho b lo hi:=h.of_fp fun g hg _ _ hs=>hb.block g hs (hd g hg)
end
mutual
def E.mkc:E→Int→E
 | .int kd _,k=>.int kd (if kd=.u8 then k % 256 else k)
 | .bool _,k=>.bool (decide (k % 3=0))
 | .str _,k=>.str (markT k)
 | .agg fs,k=>.agg (E.mkcL fs k)
 | .lst s T A c l,k=>.lst s T A c (E.mkcL l k)
def E.mkcL:List E→Int→List E
 | [],_=>[]
 | e :: r,k=>e.mkc k :: E.mkcL r (k+e.cntc)
end
mutual
def E.mk0:E→Int→E
 | .int kd n,_=>.int kd n
 | .bool b,_=>.bool b
 | .str s,_=>.str s
 | .agg fs,k=>.agg (E.mk0L fs k)
 | .lst s T A c l,k=>.lst s T A c (E.mkcL l k)
def E.mk0L:List E→Int→List E
 | [],_=>[]
 | e :: r,k=>e.mk0 k :: E.mk0L r (k+e.cnt)
end
theorem E.mkcL_len:∀(l:List E) (k:Int),(E.mkcL l k).length=l.length
 | [],_=>rfl
 | e :: r,k=>by simp [E.mkcL,E.mkcL_len r]
mutual
theorem E.mkc_fp:∀(e:E) (k:Int),(e.mkc k).fp=e.fp
 | .int _ _,_=>rfl
 | .bool _,_=>rfl
 | .str _,_=>rfl
 | .agg fs,k=>by simp only [E.mkc,E.fp];exact E.mkcL_fp fs k
 | .lst s T A c l,k=>by simp only [E.mkc,E.fp];rw [E.mkcL_fp l k]
theorem E.mkcL_fp:∀(l:List E) (k:Int),E.fpL (E.mkcL l k)=E.fpL l
 | [],_=>rfl
 | e :: r,k=>by simp only [E.mkcL,E.fpL];rw [E.mkc_fp e k,E.mkcL_fp r]
end
mutual
theorem E.mk0_fp:∀(e:E) (k:Int),(e.mk0 k).fp=e.fp
 | .int _ _,_=>rfl
 | .bool _,_=>rfl
 | .str _,_=>rfl
 | .agg fs,k=>by simp only [E.mk0,E.fp];exact E.mk0L_fp fs k
 | .lst s T A c l,k=>by simp only [E.mk0,E.fp];rw [E.mkcL_fp l k]
theorem E.mk0L_fp:∀(l:List E) (k:Int),E.fpL (E.mk0L l k)=E.fpL l
 | [],_=>rfl
 | e :: r,k=>by simp only [E.mk0L,E.fpL];rw [E.mk0_fp e k,E.mk0L_fp r]
end
theorem E.cntcL_app:∀(l r:List E),E.cntcL (l++r)=E.cntcL l+E.cntcL r
 | [],r=>by simp [E.cntcL]
 | e :: l,r=>by simp only [List.cons_append,E.cntcL,E.cntcL_app l r];omega
theorem E.cntcL_take (l:List E)(i:Nat)(h:i<l.length):E.cntcL (l.take (i+1))=E.cntcL (l.take i)+l[i].cntc:=by
 rw [List.take_succ_eq_append_getElem h,E.cntcL_app];simp [E.cntcL]
theorem E.cntcL_le (l:List E)(i:Nat):E.cntcL (l.take i)≤E.cntcL l:=by
 conv=>rhs;rw [←List.take_append_drop i l]
 rw [E.cntcL_app];omega
theorem E.mkcL_at:∀(l:List E) (k:Int) (i:Nat) (h:i<l.length),(E.mkcL l k)[i]'(by rw [E.mkcL_len];exact h)=l[i].mkc (k+E.cntcL (l.take i))
 | [],_,i,h=>absurd h (by simp)
 | e :: r,k,0,_=>by simp [E.mkcL,E.cntcL]
 | e :: r,k,i+1,h=>by
  simp only [E.mkcL,List.getElem_cons_succ,List.take_succ_cons,E.cntcL]
  rw [E.mkcL_at r _ i (by simpa using h)]
  congr 1
  omega
def mixM (l:List E)(k:Int)(i:Nat):List E:=(E.mkcL l k).take i++l.drop i
theorem zg3 (l:List E)(k:Int)(i:Nat):(mixM l k i).length=l.length:=by
 unfold mixM;rw [List.length_append,List.length_take,List.length_drop,E.mkcL_len];omega
theorem zv2 (l:List E)(k:Int):mixM l k 0=l:=by simp [mixM]
theorem zp3 (l:List E)(k:Int):mixM l k l.length=E.mkcL l k:=by
 unfold mixM;rw [List.take_of_length_le (by rw [E.mkcL_len];exact Nat.le_refl _),List.drop_length,List.append_nil]
theorem zl2 (l:List E)(k:Int)(i:Nat)(h:i<l.length):(mixM l k i)[i]'(by rw [zg3];exact h)=l[i]:=by
 unfold mixM
 rw [List.getElem_append_right (by rw [List.length_take,E.mkcL_len];omega)]
 simp only [List.length_take,E.mkcL_len,List.getElem_drop]
 congr 1;omega
theorem zw2 (l:List E)(k:Int)(i:Nat)(h:i<l.length):(mixM l k i).set i (l[i].mkc (k+E.cntcL (l.take i)))=mixM l k (i+1):=by
 have hl:((E.mkcL l k).take i).length=i:=by rw [List.length_take,E.mkcL_len];omega
 unfold mixM
 rw [List.set_append_right _ _ (by omega),hl,Nat.sub_self,List.drop_eq_getElem_cons h,List.set_cons_zero,List.take_succ_eq_append_getElem (by rw [E.mkcL_len];exact h),E.mkcL_at l k i h,List.append_assoc]
 rfl
theorem zg4 (l:List E)(k:Int)(i:Nat):E.fpL (mixM l k i)=E.fpL l:=by
 have h:∀a b:List E,E.fpL (a++b)=E.fpL a++E.fpL b:=fun a b=>by simp [E.fpL_eq]
 have h2:∀(l:List E) (k:Int) (i:Nat),E.fpL ((E.mkcL l k).take i)=E.fpL (l.take i):=by
  intro l
  induction l with
  | nil=>intro k i;simp [E.mkcL]
  | cons e r ih =>
   intro k i
   cases i with
   | zero=>simp
   | succ i=>simp only [E.mkcL,List.take_succ_cons,E.fpL];rw [E.mkc_fp,ih]
 unfold mixM
 rw [h,h2,←h,List.take_append_drop]
theorem E.encL_app:∀(a b:List E),E.encL (a++b)=E.encL a++E.encL b:=fun a b=>by simp [E.encL_eq]
theorem E.fpL_app:∀(a b:List E),E.fpL (a++b)=E.fpL a++E.fpL b:=fun a b=>by simp [E.fpL_eq]
theorem E.fpL_set {l:List E}{i:Nat}(h:i<l.length){x:E}(hx:x.fp=l[i].fp):E.fpL (l.set i x)=E.fpL l:=by
 rw [E.fpL_eq,E.fpL_eq]
 simp only [List.flatMap]
 congr 1
 apply List.ext_getElem (by simp)
 intro j h1 h2
 simp only [List.getElem_map,List.getElem_set]
 by_cases e:i=j
 ·subst e;rw [if_pos rfl,hx]
 ·rw [if_neg e]
theorem E.encL_set {k:Nat}{l:List E}(hk:∀e∈l,e.enc.length=k){i:Nat}(h:i<l.length){x:E}{j:Nat}{u:Value}(hj:j<k)(hx:x.enc=l[i].enc.set j u):E.encL (l.set i x)=(E.encL l).set (i*k+j) u:=by
 have hlx:x.enc.length=k:=by rw [hx,List.length_set];exact hk _ (List.getElem_mem h)
 have hk2:∀e∈l.set i x,e.enc.length=k:=by
  intro e he
  rcases List.mem_or_eq_of_mem_set he with h|rfl
  ·exact hk e h
  ·exact hlx
 have hlen:=E.encL_len hk
 have hlen2:=E.encL_len hk2
 apply List.ext_getElem?
 intro m
 have hk0:0<k:=by omega
 rcases Nat.lt_or_ge m (l.length*k) with hm|hm
 ·have hq:m / k<l.length:=(Nat.div_lt_iff_lt_mul hk0).2 hm
  have hr:m % k<k:=Nat.mod_lt _ hk0
  have hm':m=m / k*k+m % k:=by rw [Nat.mul_comm];exact (Nat.div_add_mod m k).symm
  generalize m / k=q at *
  generalize m % k=r at *
  subst hm'
  rw [E.encL_at hk2 q (by simpa using hq) r hr,List.getElem?_set]
  have hpos:i*k+j<(E.encL l).length:=by
   rw [hlen]
   have:=Nat.mul_le_mul_right k (show i+1≤l.length from h)
   rw [Nat.add_mul] at this;omega
  by_cases e:i=q
  ·subst e
   simp only [List.getElem_set_self]
   by_cases e2:j=r
   ·subst e2
    rw [if_pos rfl,if_pos hpos,hx,List.getElem?_set_self (by rw [hk _ (List.getElem_mem h)];exact hj)]
   ·rw [if_neg (by omega),E.encL_at hk i h r hr,hx,List.getElem?_set_ne e2]
  ·have hne:i*k+j≠q*k+r:=by
    intro hh
    rcases Nat.lt_or_ge i q with hl|hl
    ·have:=Nat.mul_le_mul_right k (show i+1≤q from hl)
     rw [Nat.add_mul] at this;omega
    ·have:=Nat.mul_le_mul_right k (show q+1≤i by omega)
     rw [Nat.add_mul] at this;omega
   rw [if_neg hne,E.encL_at hk q hq r hr]
   simp only [List.getElem_set_ne e]
 ·rw [List.getElem?_eq_none (by rw [hlen2,List.length_set];exact hm),List.getElem?_eq_none (by rw [List.length_set,hlen];exact hm)]
theorem E.encL_same {k:Nat}{l:List E}{i:Nat}(h:i<l.length){x:E}(hx:x.enc=l[i].enc):E.encL (l.set i x)=E.encL l:=by
 rw [E.encL_eq,E.encL_eq]
 simp only [List.flatMap]
 congr 1
 apply List.ext_getElem (by simp)
 intro j h1 h2
 simp only [List.getElem_map,List.getElem_set]
 by_cases e:i=j
 ·subst e;rw [if_pos rfl,hx]
 ·rw [if_neg e]
theorem E.fpL_apart:∀{l:List E},(E.fpL l).Nodup→∀(i m:Nat) (hi:i<l.length) (hm:m<l.length),i≠m→∀b,b∈l[i].fp→b∉l[m].fp
 | [],_,i,_,hi,_,_,_,_=>absurd hi (by simp)
 | e :: r,hn,i,m,hi,hm,hne,b,h1=>by
  rw [E.fpL,List.nodup_append] at hn
  obtain⟨_,hr,hd⟩:=hn
  intro h2
  rcases i with _|i<;>rcases m with _|m
  ·exact hne rfl
  ·exact hd b (by simpa using h1) b (E.mem_fpL.2 ⟨_,List.getElem_mem (by simpa using hm),by simpa using h2⟩) rfl
  ·exact hd b (by simpa using h2) b (E.mem_fpL.2 ⟨_,List.getElem_mem (by simpa using hi),by simpa using h1⟩) rfl
  ·exact E.fpL_apart hr i m (by simpa using hi) (by simpa using hm) (by omega) b (by simpa using h1) (by simpa using h2)
theorem Ow.of_own {w w':World}{lo hi k n:Nat}{e:TypeId}{v:Value}{xs:List Value}(h:Ow w lo hi e k v n xs)(hb:∀g,v.ownBlock=some g→g<w.heap.size→w'.heap[g]? = w.heap[g]?):Ow w' lo hi e k v n xs:=by
 obtain⟨⟨hl,h|⟨g,cap,cur,rfl,hg,hh,hn,hc,hs,ht⟩⟩,hh2⟩:=h
 ·exact⟨⟨hl,.inl h⟩,hh2⟩
 ·exact⟨⟨hl,.inr ⟨g,cap,cur,rfl,hg,(hb g rfl (by
   rcases Nat.lt_or_ge g w.heap.size with hlt|hge
   ·exact hlt
   ·rw [Array.getElem?_eq_none hge] at hh;cases hh)).trans hh,hn,hc,hs,ht⟩⟩,hh2⟩
section
variable {w w':World}{lo hi k c g i j:Nat}{T:TypeId}{l:List E}{x x':E}{u:Value}
theorem E.Ho.cellx (h:(E.lst k T (some ⟨g,0,none⟩) c l).Ho w lo hi)(hi_:i<l.length)(hx:l[i]=x)(hu:x.enc[j]? = some u):w.cell? ⟨g,i*k+j,none⟩=some u:=by
 have hr:=h.row
 have hlens:=h.lens
 have hjk:j<k:=by
  have:x.enc.length=k:=by rw [←hx];exact hlens _ (List.getElem_mem hi_)
  rw [←this];exact (List.getElem?_eq_some_iff.1 hu).1
 obtain⟨g2,hA,_,_,hc,_⟩:=hr.at_ (by omega)
 cases hA
 refine hc (i*k+j) u ?_ ?_
 ·have:=Nat.mul_le_mul_right k (show i+1≤l.length from hi_)
  rw [Nat.add_mul] at this;omega
 ·rw [E.encL_at hlens i hi_ j hjk,hx];exact hu
theorem E.Ho.frzx (h:(E.lst k T (some ⟨g,0,none⟩) c l).Ho w lo hi):∀j,w.frozen? ⟨g,j,none⟩=false:=by
 obtain⟨⟨_,⟨hv,_⟩|⟨g2,cap,cur,hv,_,hh,_⟩⟩,_⟩:=h.row
 ·cases hv
 ·injection hv with e1
  injection e1 with e1
  injection e1 with e1
  subst e1
  intro j;simp [World.frozen?,hh]
theorem E.Ho.head {A:Option Addr}(h:(E.lst k T A c l).Ho w lo hi)(hi_:0<l.length):∃g,A=some ⟨g,0,none⟩∧lo≤g∧g<hi∧g<w.heap.size:=by
 obtain⟨g,hA,h1,h2,_⟩:=h.row.at_ (by omega)
 subst hA
 exact⟨g,rfl,h1,h2,(h.lt g (by simp [E.fp])).2.2⟩
theorem E.Ho.store (h:(E.lst k T (some ⟨g,0,none⟩) c (l.set i x)).Ho w lo hi)(hn:(E.lst k T (some ⟨g,0,none⟩) c (l.set i x)).fp.Nodup)(hi_:i<l.length)(x':E)(j:Nat)(u:Value)(hj:j<k)(he:x'.enc=x.enc.set j u)
 (hin:∀W:World,x.Ho W lo hi→x'.Ho W lo hi):(E.lst k T (some ⟨g,0,none⟩) c (l.set i x')).Ho (w.setCell ⟨g,i*k+j,none⟩ u) lo hi:=by
 have hl:=h.lens
 have hi2:i<(l.set i x).length:=by simpa using hi_
 have hxi:(l.set i x)[i]=x:=by simp
 have hgn:g∉E.fpL (l.set i x):=by
  simp only [E.fp,List.singleton_append,List.nodup_cons] at hn
  exact hn.1
 have e1:l.set i x'=(l.set i x).set i x':=by rw [List.set_set]
 have hrow:=(h.row).set (i*k+j) u
 rw [List.length_set] at hrow
 have hk2:∀e∈l.set i x',e.enc.length=k:=by
  rw [e1]
  intro e he2
  rcases List.mem_or_eq_of_mem_set he2 with h2|rfl
  ·exact hl e h2
  ·rw [he,List.length_set];exact hl x (List.mem_iff_getElem.2 ⟨i,hi2,hxi⟩)
 refine E.Ho.mk ?_ hk2 ?_
 ·rw [List.length_set,e1,E.encL_set hl hi2 hj (by rw [hxi];exact he)]
  exact hrow
 ·have hold:∀e∈l.set i x,e.Ho (w.setCell ⟨g,i*k+j,none⟩ u) lo hi:=fun e he2 =>
   (h.el he2).of_fp fun b hb _ _ _=>Below.heap_setCell w _ u b (by rintro rfl;exact hgn (E.mem_fpL.2 ⟨e,he2,hb⟩))
  intro e he2
  rw [e1] at he2
  rcases List.mem_or_eq_of_mem_set he2 with h2|rfl
  ·exact hold e h2
  ·exact hin _ (hold x (List.mem_iff_getElem.2 ⟨i,hi2,hxi⟩))
theorem E.Ho.inside {A:Option Addr}{fp:List Nat}(h:(E.lst k T A c (l.set i x)).Ho w lo hi)(hn:(E.lst k T A c (l.set i x)).fp.Nodup)(hi_:i<l.length)(x':E)(hf:Fr fp w w')(hsub:∀b∈fp,b∈x.fp)(he:x'.enc=x.enc)
 (hin:x'.Ho w' lo hi):(E.lst k T A c (l.set i x')).Ho w' lo hi:=by
 have hl:=h.lens
 have hi2:i<(l.set i x).length:=by simpa using hi_
 have hxi:(l.set i x)[i]=x:=by simp
 have e1:l.set i x'=(l.set i x).set i x':=by rw [List.set_set]
 have hmem:=List.mem_iff_getElem.2 ⟨i,hi2,hxi⟩
 have hk2:∀e∈l.set i x',e.enc.length=k:=by
  rw [e1]
  intro e he2
  rcases List.mem_or_eq_of_mem_set he2 with h2|rfl
  ·exact hl e h2
  ·rw [he];exact hl x hmem
 refine E.Ho.mk ?_ hk2 ?_
 ·rw [List.length_set,e1,E.encL_same (k:=k) hi2 (by rw [hxi];exact he)]
  have hr:=h.row
  rw [List.length_set] at hr
  refine Ow.of_own hr fun b hob hs=>hf.block _ hs fun hm=>?_
  rcases A with _|a
  ·simp [Value.ownBlock] at hob
  ·obtain rfl:a.block=b:=by simpa [Value.ownBlock] using hob
   simp only [E.fp,List.singleton_append,List.nodup_cons] at hn
   exact hn.1 (E.mem_fpL.2 ⟨x,hmem,hsub _ hm⟩)
 ·intro e he2
  rw [List.mem_iff_getElem] at he2
  obtain⟨m,hm,rfl⟩:=he2
  by_cases e:i=m
  ·subst e;simpa using hin
  ·have hm':m<l.length:=by simpa using hm
   simp only [List.getElem_set_ne e]
   have hmm:l[m]∈l.set i x:=List.mem_iff_getElem.2 ⟨m,by simpa using hm',by simp [List.getElem_set_ne e]⟩
   refine (h.el hmm).fr hf fun b hb hm3=>?_
   have hb2:=hsub b hm3
   have hn2:(E.fpL (l.set i x)).Nodup:=by
    simp only [E.fp] at hn
    exact (List.nodup_append.1 hn).2.1
   exact E.fpL_apart hn2 i m hi2 (by simpa using hm') e b (by rw [hxi];exact hb2) (by simp only [List.getElem_set_ne e];exact hb)
end
end Go.Proofs.YtfemkmnkofgaaaaGreat
namespace Go.Proofs.YtfemkmnkofgaaaaGreat
open Go.ChangeShapes Go.WideShapes Go.ChangeAt Go.RowKit
theorem own:ownKnob Tryz.prog.godebug=none:=by kernel_rfl
theorem zq20:laidOutB Tryz.prog=true:=by kernel_rfl
section
variable {H:Type}{enc:TypeId×Value→H}{P:Program}
theorem zg5 (hl:laidOutB P=true){W W':World}(hb:Below W.heap.size W W'):∀(ts:List TypeId) (vs:List Value) (ds:List (DataW H)) (ps:List MemPlace),
 (∀t∈ts,P.readableRec t=true∧t<P.types.size)→DataW.TrodAll enc P W 0 (fun _=>true) true ts vs ds ps →
 DataW.TrodAll enc P W' 0 (fun b=>decide (b<W.heap.size)) true ts vs ds ps
 | [],vs,ds,ps,_,h=>by
  cases vs<;>cases ds<;>simp_all [DataW.TrodAll]
 | t :: ts,vs,ds,ps,ht,h=>by
  obtain⟨v,vs',d,ds',p,q,rfl,rfl,rfl,h0,h1⟩:=trodAll_cons h
  have hlt:∀x∈p,x.block<W.heap.size:=by obtain⟨m,hm⟩:=h0;exact DataW.trod_lt m _ _ _ hm
  exact⟨p,q,Below.trod hl (ht t (by simp)).1 (ht t (by simp)).2 h0 hb hlt,zg5 hl hb ts vs' ds' q (fun x hx=>ht x (by simp [hx])) h1,rfl⟩
theorem zj6 {w:World}{base:Nat}{spare:Nat→Bool}{held:Bool}:∀(ts:List TypeId) (vs:List Value) (ds:List (DataW H)) (ps:List MemPlace),DataW.TrodAll enc P w base spare held ts vs ds ps→ds.length=ts.length
 | [],vs,ds,ps,h=>by cases vs<;>cases ds<;>simp_all [DataW.TrodAll]
 | t :: ts,vs,ds,ps,h=>by
  obtain⟨v,vs',d,ds',p,q,rfl,rfl,rfl,h0,h1⟩:=trodAll_cons h
  simp [zj6 ts vs' ds' q h1]
def IsLaw (s:ChangeSpec)(n:Nat):Prop:=s.vars=[]∧∀(H:Type) (ds:List (DataW H)),ds.length=n→(s.fn H ds).results=[.lit (.bool true)]∧(s.fn H ds).args=ds∧(s.fn H ds).vars=[]
theorem zq21 {s:ChangeSpec}(hv:s.vars=[])(h:∀(H:Type) (d:DataW H),s.fn H [d]={ results:=[.lit (.bool true)],args:=[d] }):IsLaw s 1 :=
 ⟨hv,fun H ds hl=>by match ds,hl with|[d],_=>rw [h];exact⟨rfl,rfl,rfl⟩⟩
theorem zr18 {f:FuncId}{fn:Func}{s:ChangeSpec}{tb:TypeId}(hl:laidOutB P=true)(hread:∀t∈fn.params.toList,P.readableRec t=true∧t<P.types.size)
 (hr:fn.resultTypes=#[tb]) (hB:P.underlying tb=some .bool) (hs:IsLaw s fn.params.toList.length)
 {W:World} {args:Array Value} {ds gs:List (DataW H)} {before:List MemPlace} (hW:DataW.Whole enc P fn.params.toList s.vars false W args.toList ds gs before)
 (walk:Calls P f args W fun e W'=>e=.returned (.bool true)∧Below W.heap.size W W') :
 Calls P f args W fun e W'=>∃v,e=.returned v∧s.post enc P fn false true false false W args v W':=by
 refine walk.mono fun e W' ⟨he,hb⟩=>?_
 have hW':=hW
 obtain⟨p,q,hA,hV,rfl,hfz,hnd⟩:=hW
 rw [hs.1] at hV
 obtain⟨rfl,rfl⟩:=trodVars_none hV
 have hlen:=zj6 _ _ _ _ hA
 obtain⟨h1,h2,h3⟩:=hs.2 H ds hlen
 refine⟨_,he,ds,[],_,[],p,[],hW',?_,?_,?_,hb.frame _,fun h=>by cases h⟩
 ·rw [List.append_nil,h1,hr]
  exact trodAll_mk1 (shut_bool hB _)
 ·rw [List.append_nil,h2]
  exact zg5 hl hb _ _ _ _ hread hA
 ·rw [List.append_nil,h3,hs.1]
  rfl
end
set_option maxRecDepth 100000 in
theorem zc14 {f:FuncId}{fn:Func}{s:ChangeSpec}{tb:TypeId}{os:Os}(started:os.Started)(H:Type)(enc:TypeId×Value→H)
 (noInit:Tryz.checked.prog.inits.idxOf? f=none) (hfn:Tryz.checked.prog.funcs[f]? = some fn)
 (hread:fn.params.toList.all (fun t=>Tryz.prog.readableRec t&&decide (t<Tryz.prog.types.size))=true)
 (hr:fn.resultTypes=#[tb]) (hB:Tryz.prog.underlying tb=some .bool) (hs:IsLaw s fn.params.toList.length)
 (witness:∃(w:World) (tape:Tape) (i:Input),w.os=os∧(w.forCall tape i).Shaped Tryz.checked.prog∧i.vars=[]∧Input.okWide Tryz.checked.prog (w.forCall tape i) .any w.heap.size f i ∧
   s.pre6 enc Tryz.checked.prog fn [] false (w.forCall tape i).memory i.args∧({}:Assume).holds Tryz.checked.prog (lone (Frame.enter Tryz.checked.prog f i.args .normal) [] (w.forCall tape i)))
 (walk:∀(W:World) (base:Nat) (args:Array Value) (ds:List (DataW H)) (ps:List MemPlace),
   (∀(j:Nat) t v,fn.params[j]? = some t→args[j]? = some v→Value.okWide Tryz.prog W .any base t v) →
   DataW.TrodAll enc Tryz.prog W 0 (fun _=>true) true fn.params.toList args.toList ds ps →
   (DataW.weightsEach Tryz.prog fn.params.toList ds).all (·≤ reachBytes)=true →
   Calls Tryz.prog f args W fun e W'=>e=.returned (.bool true)∧Below W.heap.size W W') :
 ReturnsInHanded {} Tryz.checked os f .any (s.pre6 enc Tryz.prog fn [] false) (s.post enc Tryz.prog fn false true false false):=by
 refine returnsInHanded_of_change_sized (C:=Tryz.checked) own started noInit hfn witness ?_
 intro W base args ds gs before hval hW _ hsz _
 have hread':∀t∈fn.params.toList,Tryz.prog.readableRec t=true∧t<Tryz.prog.types.size:=fun t ht=>by
  have h:=List.all_eq_true.1 hread t ht
  rw [Bool.and_eq_true] at h
  exact⟨h.1,of_decide_eq_true h.2⟩
 obtain⟨p,q,hA,hV,_,_,_⟩:=id hW
 rw [hs.1] at hV
 obtain⟨rfl,rfl⟩:=trodVars_none hV
 refine zr18 (P:=Tryz.prog) zq20 hread' hr hB hs hW (walk W base args ds p hval hA ?_)
 have e:s.plain.varTypes Tryz.checked.prog=[]:=by
  have:s.plain.vars=[]:=hs.1
  simp [DataSpec.varTypes,this]
 rw [e,List.append_nil,List.append_nil] at hsz
 exact hsz
end Go.Proofs.YtfemkmnkofgaaaaGreat
namespace Go.Proofs.YtfemkmnkofgaaaaGreat
open Go.ChangeShapes Go.WideShapes Go.ChangeAt Go.RowKit Go.Deep
section
variable {H:Type}{en:TypeId×Value→H}{P:Program}{w:World}{spare:Nat→Bool}{held:Bool}
theorem zr20 {a:Addr}{u:Value}(h:w.cell? a=some u):a.block<w.heap.size:=by
 rcases Nat.lt_or_ge a.block w.heap.size with hlt|hge
 ·exact hlt
 ·unfold World.cell? at h
  rw [Array.getElem?_eq_none hge] at h
  cases h
theorem zx9 {b o:Nat}(n:Nat):(⟨b,o,none⟩:Addr).add n=⟨b,o+n,none⟩:=by
 unfold Addr.add;split
 ·subst_vars;rfl
 ·rfl
theorem zd14 {n:Int}(h:(Lit.int .i64 n).wf=true) : -9223372036854775808≤n∧n≤9223372036854775807:=by
 simp [Lit.wf,IntKind.min,IntKind.max,IntKind.signed,IntKind.bits] at h
 omega
end
end Go.Proofs.YtfemkmnkofgaaaaGreat
namespace Go.Proofs.YtfemkmnkofgaaaaGreat
open Go.ChangeShapes Go.WideShapes Go.ChangeAt Go.RowKit Go.Deep
section
variable {P:Program}{t:TypeId}{e:E}
theorem E.Ty.int_ {k:IntKind}(h:e.Ty P t)(hU:P.underlying t=some (.int k)):∃n,e=.int k n∧(Lit.int k n).wf=true:=by
 cases e with
 | int k' n=>simp only [E.Ty,hU] at h;obtain⟨h1,h2⟩:=h;injection h1 with h1;injection h1 with h1;subst h1;exact⟨n,rfl,h2⟩
 | bool|str=>simp [E.Ty,hU] at h
 | agg fs=>simp [E.Ty,hU] at h
 | lst=>simp [E.Ty,hU] at h
theorem E.Ty.bool_ (h:e.Ty P t)(hU:P.underlying t=some .bool):∃b,e=.bool b:=by
 cases e with
 | bool b=>exact⟨b,rfl⟩
 | int|str=>simp [E.Ty,hU] at h
 | agg fs=>simp [E.Ty,hU] at h
 | lst=>simp [E.Ty,hU] at h
theorem E.Ty.str_ (h:e.Ty P t)(hU:P.underlying t=some .string):∃s,e=.str s∧s.size≤9223372036854775807:=by
 cases e with
 | str s=>simp only [E.Ty,maxLen] at h;exact⟨s,rfl,by omega⟩
 | bool|int=>simp [E.Ty,hU] at h
 | agg fs=>simp [E.Ty,hU] at h
 | lst=>simp [E.Ty,hU] at h
theorem E.Ty.agg_ {F:Array Field}(h:e.Ty P t)(hU:P.underlying t=some (.struct F)):∃fs,e=.agg fs∧E.TyF P fs (F.toList.map (·.type)):=by
 cases e with
 | agg fs =>
  simp only [E.Ty,hU] at h
  obtain⟨F',h1,h2⟩:=h
  injection h1 with h1;injection h1 with h1;subst h1
  exact⟨fs,rfl,h2⟩
 | bool|int|str=>simp [E.Ty,hU] at h
 | lst=>simp [E.Ty,hU] at h
theorem E.Ty.lst_ {T:TypeId}{k:Nat}(h:e.Ty P t)(hU:P.underlying t=some (.slice T))(hk:P.cellsOf T=k):∃A c l,e=.lst k T A c l∧(∀x∈l,x.Ty P T)∧(∀x∈l,x.enc.length=k):=by
 cases e with
 | lst k' T' A c l =>
  simp only [E.Ty,hU,E.TyL_iff] at h
  obtain⟨h1,⟨h2,_⟩,h3,h4⟩:=h
  injection h1 with h1;injection h1 with h1;subst h1
  rw [hk] at h2;subst h2
  exact⟨A,c,l,rfl,h4,h3⟩
 | bool|int|str=>simp [E.Ty,hU] at h
 | agg fs=>simp [E.Ty,hU] at h
theorem E.TyF.cons_ {fs:List E}{ts:List TypeId}(h:E.TyF P fs (t :: ts)):∃e r,fs=e :: r∧e.Ty P t∧E.TyF P r ts:=by
 cases fs with
 | nil=>simp [E.TyF] at h
 | cons e r =>
  simp only [E.TyF] at h
  obtain⟨t',tr,h1,h2,h3⟩:=h
  injection h1 with h1 h1';subst h1;subst h1'
  exact⟨e,r,rfl,h2,h3⟩
theorem E.TyF.nil_ {fs:List E}(h:E.TyF P fs []):fs=[]:=by
 cases fs with
 | nil=>rfl
 | cons e r=>simp [E.TyF] at h
theorem E.Ty.mk_lst {T:TypeId}{k c:Nat}{A:Option Addr}{l:List E}(hU:P.underlying t=some (.slice T))(hk:P.cellsOf T=k)(h:∀x∈l,x.Ty P T)(h2:∀x∈l,x.enc.length=k)(h64:k≤64:=by omega):(E.lst k T A c l).Ty P t:=by
 simp only [E.Ty,E.TyL_iff];exact⟨hU,⟨hk.symm,h64⟩,h2,h⟩
end
def offsOk (P:Program):Nat→List Field→Nat→Bool
 | a,[],n=>a==n
 | a,f :: r,n=>f.offset==a&&offsOk P (a+P.cellsOf f.type) r n
def closedAt (P:Program)(S:List TypeId)(t:TypeId):Bool :=
 match P.underlying t with
 | some (.int _)=>P.cellsOf t==1
 | some .bool=>P.cellsOf t==1
 | some .string=>P.cellsOf t==1
 | some (.slice T)=>P.cellsOf t==1&&decide (0<P.cellsOf T∧P.cellsOf T≤64)&&S.contains T
 | some (.struct F)=>F.toList.all (fun f=>S.contains f.type)&&offsOk P 0 F.toList (P.cellsOf t)
 | _=>false
section
variable {H:Type}{en:TypeId×Value→H}{P:Program}{w:World}{spare:Nat→Bool}{held:Bool}
theorem zp11 {α:Type}[Inhabited α]{t e:TypeId}{k fuel:Nat}{enc:α→List Value}{good:α→Prop}{v:Value}{x:DataW H×List MemPlace}(ht:P.underlying t=some (.slice e))(hk:P.cellsOf e=k)(hk0:0<k)
 (hlen:∀d,good d→(enc d).length=k) (dec:∀(n:Nat) (cs:List Value) (y:DataW H×List MemPlace),fuel=n+1→cs.length=k→DataW.trod en P w 0 spare held n e cs=some y→∃d,cs=enc d∧good d)
 (h:DataW.trod en P w 0 spare held fuel t [v]=some x):∃ds:List α,Sl w 0 w.heap.size k enc v ds∧∀d∈ds,good d:=by
 rcases DataW.trod_slice ht h with ⟨hcs,_⟩|⟨a,len,cap,elems,rest,n,hfu,hcs,hx,hb,hl,hm,hel,hi,_⟩
 ·obtain rfl:v=.slice none 0 0:=by simpa using hcs
  exact⟨[],⟨none,0,rfl,by simp,⟨by unfold maxLen;omega,fun _=>rfl⟩,fun h=>absurd h (by simp)⟩,fun d hd=>absurd hd (by simp)⟩
 ·obtain rfl:v=.slice (some a) len cap:=by simpa using hcs
  have key:∀i,i<len→∃d:α,good d∧∀j,j<k→w.cell? ((a.add (i*k)).add j)=(enc d)[j]? := by
   intro i hi'
   have h1:=hi i hi'
   rw [List.getElem?_eq_getElem (by omega:i<elems.length),Option.bind_eq_some_iff] at h1
   obtain⟨cs',hc,htr⟩:=h1
   rw [hk] at hc
   obtain⟨_,hcl,hat⟩:=World.cells?_some hc
   obtain⟨d,rfl,hg⟩:=dec n cs' _ hfu hcl htr
   exact⟨d,hg,fun j hj=>hat j hj⟩
  rcases Nat.eq_zero_or_pos len with h0|h0
  ·subst h0
   exact⟨[],⟨some a,cap,by simp,by simp,⟨hm,fun h=>by cases h⟩,fun h=>absurd h (by simp)⟩,fun d hd=>absurd hd (by simp)⟩
  obtain⟨F,hF⟩:=choose_lt key
  refine⟨(List.range len).map F,⟨some a,cap,by simp,by simpa using hl,⟨hm,fun h=>by cases h⟩,fun hpos=>?_⟩,?_⟩
  ·have hpos':0<len:=by simpa using hpos
   have h00:=(hF 0 hpos').2 0 hk0
   obtain⟨u0,hu⟩:∃u,(enc (F 0))[0]? = some u:=⟨_,List.getElem?_eq_getElem (by rw [hlen _ (hF 0 hpos').1];exact hk0)⟩
   rw [hu,Nat.zero_mul] at h00
   have e00:(a.add 0).add 0=a:=by simp [Addr.add]
   rw [e00] at h00
   have hs:=World.cell?_spot h00
   obtain⟨b,o,sp⟩:=a
   simp only at hs
   subst hs
   refine⟨b,o,rfl,Nat.zero_le _,zr20 h00,fun i hil j u hu=>?_⟩
   have hil':i<len:=by simpa using hil
   have hu':(enc (F i))[j]? = some u:=by simpa using hu
   have hj:j<k:=by
    rcases Nat.lt_or_ge j k with h|h
    ·exact h
    ·rw [List.getElem?_eq_none (by rw [hlen _ (hF i hil').1];exact h)] at hu';cases hu'
   have:=(hF i hil').2 j hj
   rw [zx9,zx9,hu'] at this
   exact this
  ·intro d hd
   obtain⟨i,hi,rfl⟩:=List.mem_map.1 hd
   exact (hF i (by simpa using hi)).1
instance:Inhabited E:=⟨.bool false⟩
theorem zk6 {S:List TypeId}{n:Nat}(ih:∀(t:TypeId) (cs:List Value) (y:DataW H×List MemPlace),t∈S→cs.length=P.cellsOf t→DataW.trod en P w 0 spare held n t cs=some y→∃e:E,cs=e.enc∧e.Ty P t∧e.Re w 0 w.heap.size)(cs:List Value) :
 ∀(fs:List Field) (a N:Nat),offsOk P a fs N=true→(∀f∈fs,f.type∈S)→N≤cs.length→(∀f∈fs,∃y,DataW.trod en P w 0 spare held n f.type ((cs.drop f.offset).take (P.cellsOf f.type))=some y) →
 a≤N∧∃es:List E,(cs.take N).drop a=E.encL es∧E.TyF P es (fs.map (·.type))∧E.ReL w 0 w.heap.size es
 | [],a,N,ho,_,_,_=>by
  simp only [offsOk,beq_iff_eq] at ho
  subst ho
  exact⟨Nat.le_refl _,[],by simp [E.encL],by simp [E.TyF],by simp [E.ReL]⟩
 | f :: r,a,N,ho,hS,hN,hf=>by
  simp only [offsOk,Bool.and_eq_true,beq_iff_eq] at ho
  obtain⟨h1,h2⟩:=ho
  obtain⟨hle,es,e1,e2,e3⟩:=zk6 ih cs r _ N h2 (fun x hx=>hS x (List.mem_cons_of_mem _ hx)) hN (fun x hx=>hf x (List.mem_cons_of_mem _ hx))
  obtain⟨y,hy⟩:=hf f List.mem_cons_self
  rw [h1] at hy
  have hcl:((cs.drop a).take (P.cellsOf f.type)).length=P.cellsOf f.type:=by rw [List.length_take,List.length_drop];omega
  obtain⟨e,g1,g2,g3⟩:=ih f.type _ _ (hS f List.mem_cons_self) hcl hy
  refine⟨by omega,e :: es,?_,?_,?_⟩
  ·rw [E.encL,←e1,←g1]
   apply List.ext_getElem?
   intro i
   by_cases hlt:i<P.cellsOf f.type
   ·rw [List.getElem?_append_left (by rw [hcl];exact hlt)]
    simp only [List.getElem?_drop,List.getElem?_take]
    rw [if_pos (by omega),if_pos hlt]
   ·rw [List.getElem?_append_right (by rw [hcl];omega),hcl]
    simp only [List.getElem?_drop,List.getElem?_take]
    have:a+i=a+P.cellsOf f.type+(i-P.cellsOf f.type):=by omega
    rw [this]
  ·simp only [E.TyF,List.map_cons];exact⟨_,_,rfl,g2,e2⟩
  ·simp only [E.ReL];exact⟨g3,e3⟩
theorem zo15 {S:List TypeId}(hS:∀t∈S,closedAt P S t=true):∀(fuel:Nat) (t:TypeId) (cs:List Value) (x:DataW H×List MemPlace),t∈S→cs.length=P.cellsOf t→DataW.trod en P w 0 spare held fuel t cs=some x→∃e:E,cs=e.enc∧e.Ty P t∧e.Re w 0 w.heap.size
 | 0,t,cs,x,_,_,h=>by simp [DataW.trod] at h
 | n+1,t,cs,x,ht,hc,h=>by
  have hcl:=hS t ht
  unfold closedAt at hcl
  split at hcl
  ·rename_i k hU
   obtain⟨n,rfl,_,hw⟩:=DataW.trod_int hU h
   exact⟨.int k n,rfl,⟨hU,hw⟩,trivial⟩
  ·rename_i hU
   obtain⟨b,rfl,_⟩:=DataW.trod_bool hU h
   exact⟨.bool b,rfl,hU,trivial⟩
  ·rename_i hU
   obtain⟨s,rfl,_,hw⟩:=DataW.trod_string hU h
   exact⟨.str s,rfl,⟨hU,hw⟩,trivial⟩
  ·rename_i T hU
   simp only [Bool.and_eq_true,beq_iff_eq,decide_eq_true_eq,List.contains_iff_mem] at hcl
   obtain⟨⟨h1,h2⟩,h3⟩:=hcl
   rw [h1] at hc
   match cs,hc with
   | [v],_ =>
    obtain⟨ds,hs,hg⟩:=zp11 (α:=E) (enc:=E.enc) (good:=fun e=>e.enc.length=P.cellsOf T∧e.Ty P T∧e.Re w 0 w.heap.size) hU rfl h2.1 (fun d hd=>hd.1) (fun m cs' y hm hcl' hy=>by
     injection hm with hm
     subst hm
     obtain⟨e,rfl,g2,g3⟩:=zo15 hS n T cs' y h3 hcl' hy
     exact⟨e,rfl,hcl',g2,g3⟩) h
    obtain⟨A,c,rfl,_,_⟩:=hs.form
    exact⟨.lst (P.cellsOf T) T A c ds,rfl,E.Ty.mk_lst hU rfl (fun x hx=>(hg x hx).2.1) (fun x hx=>(hg x hx).1) h2.2,E.Re.mk hs fun x hx=>(hg x hx).2.2⟩
  ·rename_i F hU
   simp only [Bool.and_eq_true,List.all_eq_true,List.contains_iff_mem] at hcl
   obtain⟨h1,h2⟩:=hcl
   obtain⟨ys,n',hn',hyy,hlen,hyl,hf⟩:=DataW.trod_struct hU h
   injection hn' with hn'
   subst hn'
   obtain⟨_,es,e1,e2,e3⟩:=zk6 (fun t cs y=>zo15 hS n t cs y) cs F.toList 0 _ h2 h1 (by omega) (fun f hfm=>by
    obtain⟨i,hi,rfl⟩:=List.getElem_of_mem hfm
    have h5:=hf i F.toList[i] (by rw [←Array.getElem?_toList];exact List.getElem?_eq_getElem _)
    rw [List.getElem?_eq_getElem (by rw [hyl];simpa using hi)] at h5
    exact⟨_,h5⟩)
   rw [List.drop_zero,List.take_of_length_le (by omega)] at e1
   exact⟨.agg es,e1,by simp only [E.Ty];exact⟨F,hU,e2⟩,by simp only [E.Re];exact e3⟩
  ·cases hcl
end
end Go.Proofs.YtfemkmnkofgaaaaGreat
namespace Go.Proofs.YtfemkmnkofgaaaaGreat
open Go.RowKit
section
variable {α:Type}{P:Program}{ops:Array Oper}{o:Oper}{a:Act}{w:World}{lo hi k bytes H:Nat}{t e:TypeId}{enc:α→List Value}
end
theorem Kp.setAny {lo hi:Nat}{a w:World}(h:Kp lo hi a w){g j:Nat}(hp:lo≤g∧g<hi∨a.heap.size≤g)(u:Value):Kp lo hi a (w.setCell ⟨g,j,none⟩ u) :=
 ⟨h.os,h.tape,h.output,by simpa using h.size,fun k hk hh=>(Below.heap_setCell w ⟨g,j,none⟩ u k (by show k≠g;omega)).trans (h.block k hk hh)⟩
end Go.Proofs.YtfemkmnkofgaaaaGreat
