/- T -/
import Derived.Test.YtomolhbkdhjofaaGreatDoorRows
import Derived.ProofKit
import Derived.OpenShut
import Derived.ShutString
import Derived.ChangeOld
import Derived.SizedLaws
import Derived.Deep.Slices
import Derived.Lib.SmallJoins
import Derived.Maps.AppendAt
import Derived.Deep.AppendLies
import Derived.Lib.LaidTab
import Derived.Lib.ItoaNum
import Derived.Test.YtomolhbkdhjofaaGreatDoorParXA
set_option maxHeartbeats 0
set_option maxRecDepth 100000
namespace Go.Proofs.YtomolhbkdhjofaaGreatDoor
open Go.RowKit Go.Proofs.Tryz
structure Fr (fp:List Nat)(w w':World):Prop where
 os:w'.os=w.os
 tape:w'.tape=w.tape
 output:w'.output=w.output
 size:w.heap.size≤w'.heap.size
 block:∀k,k<w.heap.size→k∉fp→w'.heap[k]? = w.heap[k]?
section
variable {fp fp':List Nat}{a b c w w':World}{lo hi B:Nat}{e:E}
theorem Fr.refl (fp:List Nat)(w:World):Fr fp w w:=⟨rfl,rfl,rfl,Nat.le_refl _,fun _ _ _=>rfl⟩
theorem Fr.trans (h:Fr fp a b)(k:Fr fp b c):Fr fp a c :=
 ⟨k.os.trans h.os,k.tape.trans h.tape,k.output.trans h.output,Nat.le_trans h.size k.size,fun i hi hh=>(k.block i (Nat.lt_of_lt_of_le hi h.size) hh).trans (h.block i hi hh)⟩
theorem Fr.of_below (h:Below a.heap.size a b):Fr fp a b:=⟨h.os,h.tape,h.output,h.size,fun k hk _=>h.block k hk⟩
theorem Fr.set (h:Fr fp a w){p:Addr}(h1:p.block∈fp)(u:Value):Fr fp a (w.setCell p u) :=
 ⟨h.os,h.tape,h.output,by simpa using h.size,fun k hk hh=>(Below.heap_setCell w p u k (by rintro rfl;exact hh h1)).trans (h.block k hk hh)⟩
theorem Fr.sub (h:Fr fp a b)(hs:∀g∈fp,g∈fp'):Fr fp' a b:=⟨h.os,h.tape,h.output,h.size,fun k hk hh=>h.block k hk fun hm=>hh (hs k hm)⟩
theorem Fr.kp (h:Fr fp a b)(hf:∀g∈fp,lo≤g∧g<hi):Kp lo hi a b:=⟨h.os,h.tape,h.output,h.size,fun k hk hh=>h.block k hk fun hm=>by have:=hf k hm;omega⟩
theorem Fr.below (h:Fr fp a b)(hf:∀g∈fp,B≤g)(hB:B≤a.heap.size):Below B a b:=⟨h.os,h.tape,h.output,h.size,fun k hk=>h.block k omq fun hm=>by have:=hf k hm;omega⟩
theorem E.Ho.fr (h:e.Ho a lo hi)(hb:Fr fp a b)(hd:∀g∈e.fp,g∉fp):e.Ho b lo hi:=h.of_fp fun g hg _ _ hs=>hb.block g hs (hd g hg)
end
mutual
def E.mkc:E→Int→E
 | .int kd _,k=>.int kd (if kd=.u8 then k % 256 else k)
 | .bool _,k=>.bool (decide (k % 3=0))
 | .str _,k=>.str (d7 k)
 | .agg fs,k=>.agg (E.mkcL fs k)
 | .lst s T A c l,k=>.lst s T A c (E.mkcL l k)
def E.mkcL:List E→Int→List E
 | [],_=>[]
 | e :: r,k=>e.mkc k :: E.mkcL r (k+e.cntc)
end
mutual
def E.mk0:E→Int→E
 | .int kd n,_=>.int kd n
 | .bool b,_=>.bool b
 | .str s,_=>.str s
 | .agg fs,k=>.agg (E.mk0L fs k)
 | .lst s T A c l,k=>.lst s T A c (E.mkcL l k)
def E.mk0L:List E→Int→List E
 | [],_=>[]
 | e :: r,k=>e.mk0 k :: E.mk0L r (k+e.cnt)
end
theorem E.mkcL_len:∀(l:List E) (k:Int),(E.mkcL l k).length=l.length
 | [],_=>rfl
 | e :: r,k=>by simp [E.mkcL,E.mkcL_len r]
mutual
theorem E.mkc_fp:∀(e:E) (k:Int),(e.mkc k).fp=e.fp
 | .int _ _,_=>rfl
 | .bool _,_=>rfl
 | .str _,_=>rfl
 | .agg fs,k=>by simp only [E.mkc,E.fp];exact E.mkcL_fp fs k
 | .lst s T A c l,k=>by simp only [E.mkc,E.fp];rw [E.mkcL_fp l k]
theorem E.mkcL_fp:∀(l:List E) (k:Int),E.fpL (E.mkcL l k)=E.fpL l
 | [],_=>rfl
 | e :: r,k=>by simp only [E.mkcL,E.fpL];rw [E.mkc_fp e k,E.mkcL_fp r]
end
mutual
theorem E.mk0_fp:∀(e:E) (k:Int),(e.mk0 k).fp=e.fp
 | .int _ _,_=>rfl
 | .bool _,_=>rfl
 | .str _,_=>rfl
 | .agg fs,k=>by simp only [E.mk0,E.fp];exact E.mk0L_fp fs k
 | .lst s T A c l,k=>by simp only [E.mk0,E.fp];rw [E.mkcL_fp l k]
theorem E.mk0L_fp:∀(l:List E) (k:Int),E.fpL (E.mk0L l k)=E.fpL l
 | [],_=>rfl
 | e :: r,k=>by simp only [E.mk0L,E.fpL];rw [E.mk0_fp e k,E.mk0L_fp r]
end
theorem E.cntcL_app:∀(l r:List E),E.cntcL (l++r)=E.cntcL l+E.cntcL r
 | [],r=>by simp [E.cntcL]
 | e :: l,r=>by simp only [List.cons_append,E.cntcL,E.cntcL_app l r];omega
theorem E.cntcL_take (l:List E)(i:Nat)(h:i<l.length):E.cntcL (l.take (i+1))=E.cntcL (l.take i)+l[i].cntc:=by
 rw [List.take_succ_eq_append_getElem h,E.cntcL_app];simp [E.cntcL]
theorem E.cntcL_le (l:List E)(i:Nat):E.cntcL (l.take i)≤E.cntcL l:=by
 conv=>rhs;rw [←List.take_append_drop i l]
 rw [E.cntcL_app];omega
theorem E.mkcL_at:∀(l:List E) (k:Int) (i:Nat) (h:i<l.length),(E.mkcL l k)[i]'(by rw [E.mkcL_len];exact h)=l[i].mkc (k+E.cntcL (l.take i))
 | [],_,i,h=>absurd h (by simp)
 | e :: r,k,0,_=>by simp [E.mkcL,E.cntcL]
 | e :: r,k,i+1,h=>by
  simp only [E.mkcL,List.getElem_cons_succ,List.take_succ_cons,E.cntcL]
  rw [E.mkcL_at r _ i (by simpa using h)]
  congr 1
  omega
def mB (l:List E)(k:Int)(i:Nat):List E:=(E.mkcL l k).take i++l.drop i
theorem rh (l:List E)(k:Int)(i:Nat):(mB l k i).length=l.length:=by
 unfold mB;rw [List.length_append,List.length_take,List.length_drop,E.mkcL_len];omega
theorem uh (l:List E)(k:Int):mB l k 0=l:=by simp [mB]
theorem yb (l:List E)(k:Int):mB l k l.length=E.mkcL l k:=by
 unfold mB;rw [List.take_of_length_le (by rw [E.mkcL_len];exact Nat.le_refl _),List.drop_length,List.append_nil]
theorem uj (l:List E)(k:Int)(i:Nat)(h:i<l.length):(mB l k i)[i]'(by rw [rh];exact h)=l[i]:=by
 unfold mB
 rw [List.getElem_append_right (by rw [List.length_take,E.mkcL_len];omega)]
 simp only [List.length_take,E.mkcL_len,List.getElem_drop]
 congr 1;omega
theorem uk (l:List E)(k:Int)(i:Nat)(h:i<l.length):(mB l k i).set i (l[i].mkc (k+E.cntcL (l.take i)))=mB l k (i+1):=by
 have hl:((E.mkcL l k).take i).length=i:=by rw [List.length_take,E.mkcL_len];omega
 unfold mB
 rw [List.set_append_right _ _ omq,hl,Nat.sub_self,List.drop_eq_getElem_cons h,List.set_cons_zero,List.take_succ_eq_append_getElem (by rw [E.mkcL_len];exact h),E.mkcL_at l k i h,List.append_assoc]
 rfl
theorem zq2 (l:List E)(k:Int)(i:Nat):E.fpL (mB l k i)=E.fpL l:=by
 have h:∀a b:List E,E.fpL (a++b)=E.fpL a++E.fpL b:=fun a b=>by simp [E.fpL_eq]
 have h2:∀(l:List E) (k:Int) (i:Nat),E.fpL ((E.mkcL l k).take i)=E.fpL (l.take i):=by
  intro l
  induction l with
  | nil=>intro k i;simp [E.mkcL]
  | cons e r ih =>
   intro k i
   cases i with
   | zero=>simp
   | succ i=>simp only [E.mkcL,List.take_succ_cons,E.fpL];rw [E.mkc_fp,ih]
 unfold mB
 rw [h,h2,←h,List.take_append_drop]
theorem E.fpL_set {l:List E}{i:Nat}(h:i<l.length){x:E}(hx:x.fp=l[i].fp):E.fpL (l.set i x)=E.fpL l:=by
 rw [E.fpL_eq,E.fpL_eq]
 simp only [List.flatMap]
 congr 1
 apply List.ext_getElem (by simp)
 intro j h1 h2
 simp only [List.getElem_map,List.getElem_set]
 by_cases e:i=j
 ·subst e;rw [if_pos rfl,hx]
 ·rw [if_neg e]
theorem E.encL_set {k:Nat}{l:List E}(hk:∀e∈l,e.enc.length=k){i:Nat}(h:i<l.length){x:E}{j:Nat}{u:Value}(hj:j<k)(hx:x.enc=l[i].enc.set j u):E.encL (l.set i x)=(E.encL l).set (i*k+j) u:=by
 have hlx:x.enc.length=k:=by rw [hx,List.length_set];exact hk _ (List.getElem_mem h)
 have hk2:∀e∈l.set i x,e.enc.length=k:=by
  intro e he
  rcases List.mem_or_eq_of_mem_set he with h|rfl
  ·exact hk e h
  ·exact hlx
 have hlen:=E.encL_len hk
 have hlen2:=E.encL_len hk2
 apply List.ext_getElem?
 intro m
 have hk0:0<k:=by omega
 rcases Nat.lt_or_ge m (l.length*k) with hm|hm
 ·have hq:m / k<l.length:=(Nat.div_lt_iff_lt_mul hk0).2 hm
  have hr:m % k<k:=Nat.mod_lt _ hk0
  have hm':m=m / k*k+m % k:=by rw [Nat.mul_comm];exact (Nat.div_add_mod m k).symm
  generalize m / k=q at *
  generalize m % k=r at *
  subst hm'
  rw [E.encL_at hk2 q (by simpa using hq) r hr,List.getElem?_set]
  have hpos:i*k+j<(E.encL l).length:=by
   rw [hlen]
   have:=Nat.mul_le_mul_right k (show i+1≤l.length from h)
   rw [Nat.add_mul] at this;omega
  by_cases e:i=q
  ·subst e
   simp only [List.getElem_set_self]
   by_cases e2:j=r
   ·subst e2
    rw [if_pos rfl,if_pos hpos,hx,List.getElem?_set_self (by rw [hk _ (List.getElem_mem h)];exact hj)]
   ·rw [if_neg omq,E.encL_at hk i h r hr,hx,List.getElem?_set_ne e2]
  ·have hne:i*k+j≠q*k+r:=by
    intro hh
    rcases Nat.lt_or_ge i q with hl|hl
    ·have:=Nat.mul_le_mul_right k (show i+1≤q from hl)
     rw [Nat.add_mul] at this;omega
    ·have:=Nat.mul_le_mul_right k (show q+1≤i by omega)
     rw [Nat.add_mul] at this;omega
   rw [if_neg hne,E.encL_at hk q hq r hr]
   simp only [List.getElem_set_ne e]
 ·rw [List.getElem?_eq_none (by rw [hlen2,List.length_set];exact hm),List.getElem?_eq_none (by rw [List.length_set,hlen];exact hm)]
theorem E.encL_same {k:Nat}{l:List E}{i:Nat}(h:i<l.length){x:E}(hx:x.enc=l[i].enc):E.encL (l.set i x)=E.encL l:=by
 rw [E.encL_eq,E.encL_eq]
 simp only [List.flatMap]
 congr 1
 apply List.ext_getElem (by simp)
 intro j h1 h2
 simp only [List.getElem_map,List.getElem_set]
 by_cases e:i=j
 ·subst e;rw [if_pos rfl,hx]
 ·rw [if_neg e]
theorem E.fpL_apart:∀{l:List E},(E.fpL l).Nodup→∀(i m:Nat) (hi:i<l.length) (hm:m<l.length),i≠m→∀b,b∈l[i].fp→b∉l[m].fp
 | [],_,i,_,hi,_,_,_,_=>absurd hi (by simp)
 | e :: r,hn,i,m,hi,hm,hne,b,h1=>by
  rw [E.fpL,List.nodup_append] at hn
  obtain⟨_,hr,hd⟩:=hn
  intro h2
  rcases i with _|i<;>rcases m with _|m
  ·exact hne rfl
  ·exact hd b (by simpa using h1) b (E.mem_fpL.2 ⟨_,List.getElem_mem (by simpa using hm),by simpa using h2⟩) rfl
  ·exact hd b (by simpa using h2) b (E.mem_fpL.2 ⟨_,List.getElem_mem (by simpa using hi),by simpa using h1⟩) rfl
  ·exact E.fpL_apart hr i m (by simpa using hi) (by simpa using hm) omq b (by simpa using h1) (by simpa using h2)
theorem Ow.of_own {w w':World}{lo hi k n:Nat}{e:TypeId}{v:Value}{xs:List Value}(h:Ow w lo hi e k v n xs)(hb:∀g,v.ownBlock=some g→g<w.heap.size→w'.heap[g]? = w.heap[g]?):Ow w' lo hi e k v n xs:=by
 obtain⟨⟨hl,h|⟨g,cap,cur,rfl,hg,hh,hn,hc,hs,ht⟩⟩,hh2⟩:=h
 ·exact⟨⟨hl,.inl h⟩,hh2⟩
 ·exact⟨⟨hl,.inr ⟨g,cap,cur,rfl,hg,(hb g rfl (by
   rcases Nat.lt_or_ge g w.heap.size with hlt|hge
   ·exact hlt
   ·rw [Array.getElem?_eq_none hge] at hh;cases hh)).trans hh,hn,hc,hs,ht⟩⟩,hh2⟩
section
variable {w w':World}{lo hi k c g i j:Nat}{T:TypeId}{l:List E}{x x':E}{u:Value}
theorem E.Ho.cellx (h:(E.lst k T (some ⟨g,0,none⟩) c l).Ho w lo hi)(hi_:i<l.length)(hx:l[i]=x)(hu:x.enc[j]? = some u):w.cell? ⟨g,i*k+j,none⟩=some u:=by
 have hr:=h.row
 have hlens:=h.lens
 have hjk:j<k:=by
  have:x.enc.length=k:=by rw [←hx];exact hlens _ (List.getElem_mem hi_)
  rw [←this];exact (List.getElem?_eq_some_iff.1 hu).1
 obtain⟨g2,hA,_,_,hc,_⟩:=hr.at_ omq
 cases hA
 refine hc (i*k+j) u ?_ ?_
 ·have:=Nat.mul_le_mul_right k (show i+1≤l.length from hi_)
  rw [Nat.add_mul] at this;omega
 ·rw [E.encL_at hlens i hi_ j hjk,hx];exact hu
theorem E.Ho.frzx (h:(E.lst k T (some ⟨g,0,none⟩) c l).Ho w lo hi):∀j,w.frozen? ⟨g,j,none⟩=false:=by
 obtain⟨⟨_,⟨hv,_⟩|⟨g2,cap,cur,hv,_,hh,_⟩⟩,_⟩:=h.row
 ·cases hv
 ·injection hv with e1
  injection e1 with e1
  injection e1 with e1
  subst e1
  intro j;simp [World.frozen?,hh]
theorem E.Ho.head {A:Option Addr}(h:(E.lst k T A c l).Ho w lo hi)(hi_:0<l.length):∃g,A=some ⟨g,0,none⟩∧lo≤g∧g<hi∧g<w.heap.size:=by
 obtain⟨g,hA,h1,h2,_⟩:=h.row.at_ omq
 subst hA
 exact⟨g,rfl,h1,h2,(h.lt g (by simp [E.fp])).2.2⟩
theorem E.Ho.store (h:(E.lst k T (some ⟨g,0,none⟩) c (l.set i x)).Ho w lo hi)(hn:(E.lst k T (some ⟨g,0,none⟩) c (l.set i x)).fp.Nodup)(hi_:i<l.length)(x':E)(j:Nat)(u:Value)(hj:j<k)(he:x'.enc=x.enc.set j u)
 (hin:∀W:World,x.Ho W lo hi→x'.Ho W lo hi):(E.lst k T (some ⟨g,0,none⟩) c (l.set i x')).Ho (w.setCell ⟨g,i*k+j,none⟩ u) lo hi:=by
 have hl:=h.lens
 have hi2:i<(l.set i x).length:=by simpa using hi_
 have hxi:(l.set i x)[i]=x:=by simp
 have hgn:g∉E.fpL (l.set i x):=by
  simp only [E.fp,List.singleton_append,List.nodup_cons] at hn
  exact hn.1
 have e1:l.set i x'=(l.set i x).set i x':=by rw [List.set_set]
 have hrow:=(h.row).set (i*k+j) u
 rw [List.length_set] at hrow
 have hk2:∀e∈l.set i x',e.enc.length=k:=by
  rw [e1]
  intro e he2
  rcases List.mem_or_eq_of_mem_set he2 with h2|rfl
  ·exact hl e h2
  ·rw [he,List.length_set];exact hl x (List.mem_iff_getElem.2 ⟨i,hi2,hxi⟩)
 refine E.Ho.mk ?_ hk2 ?_
 ·rw [List.length_set,e1,E.encL_set hl hi2 hj (by rw [hxi];exact he)]
  exact hrow
 ·have hold:∀e∈l.set i x,e.Ho (w.setCell ⟨g,i*k+j,none⟩ u) lo hi:=fun e he2 =>
   (h.el he2).of_fp fun b hb _ _ _=>Below.heap_setCell w _ u b (by rintro rfl;exact hgn (E.mem_fpL.2 ⟨e,he2,hb⟩))
  intro e he2
  rw [e1] at he2
  rcases List.mem_or_eq_of_mem_set he2 with h2|rfl
  ·exact hold e h2
  ·exact hin _ (hold x (List.mem_iff_getElem.2 ⟨i,hi2,hxi⟩))
theorem E.Ho.inside {A:Option Addr}{fp:List Nat}(h:(E.lst k T A c (l.set i x)).Ho w lo hi)(hn:(E.lst k T A c (l.set i x)).fp.Nodup)(hi_:i<l.length)(x':E)(hf:Fr fp w w')(hsub:∀b∈fp,b∈x.fp)(he:x'.enc=x.enc)
 (hin:x'.Ho w' lo hi):(E.lst k T A c (l.set i x')).Ho w' lo hi:=by
 have hl:=h.lens
 have hi2:i<(l.set i x).length:=by simpa using hi_
 have hxi:(l.set i x)[i]=x:=by simp
 have e1:l.set i x'=(l.set i x).set i x':=by rw [List.set_set]
 have hmem:=List.mem_iff_getElem.2 ⟨i,hi2,hxi⟩
 have hk2:∀e∈l.set i x',e.enc.length=k:=by
  rw [e1]
  intro e he2
  rcases List.mem_or_eq_of_mem_set he2 with h2|rfl
  ·exact hl e h2
  ·rw [he];exact hl x hmem
 refine E.Ho.mk ?_ hk2 ?_
 ·rw [List.length_set,e1,E.encL_same (k:=k) hi2 (by rw [hxi];exact he)]
  have hr:=h.row
  rw [List.length_set] at hr
  refine Ow.of_own hr fun b hob hs=>hf.block _ hs fun hm=>?_
  rcases A with _|a
  ·simp [Value.ownBlock] at hob
  ·obtain rfl:a.block=b:=by simpa [Value.ownBlock] using hob
   simp only [E.fp,List.singleton_append,List.nodup_cons] at hn
   exact hn.1 (E.mem_fpL.2 ⟨x,hmem,hsub _ hm⟩)
 ·intro e he2
  rw [List.mem_iff_getElem] at he2
  obtain⟨m,hm,rfl⟩:=he2
  by_cases e:i=m
  ·subst e;simpa using hin
  ·have hm':m<l.length:=by simpa using hm
   simp only [List.getElem_set_ne e]
   have hmm:l[m]∈l.set i x:=List.mem_iff_getElem.2 ⟨m,by simpa using hm',by simp [List.getElem_set_ne e]⟩
   refine (h.el hmm).fr hf fun b hb hm3=>?_
   have hb2:=hsub b hm3
   have hn2:(E.fpL (l.set i x)).Nodup:=by
    simp only [E.fp] at hn
    exact (List.nodup_append.1 hn).2.1
   exact E.fpL_apart hn2 i m hi2 (by simpa using hm') e b (by rw [hxi];exact hb2) (by simp only [List.getElem_set_ne e];exact hb)
end
end Go.Proofs.YtomolhbkdhjofaaGreatDoor
namespace Go.Proofs.YtomolhbkdhjofaaGreatDoor
open Go.ChangeShapes Go.WideShapes Go.ChangeAt Go.RowKit Go.Proofs.Tryz
theorem own:ownKnob prog.godebug=none:=by kernel_rfl
theorem zr2:laidOutB prog=true:=by kernel_rfl
section
variable {H:Type}{enc:TypeId×Value→H}{P:Program}
theorem iP (hl:laidOutB P=true){W W':World}(hb:Below W.heap.size W W'):∀(ts:List TypeId) (vs:List Value) (ds:List (DataW H)) (ps:List MemPlace),
 (∀t∈ts,P.readableRec t=true∧t<P.types.size)→DataW.TrodAll enc P W 0 (fun _=>true) true ts vs ds ps →
 DataW.TrodAll enc P W' 0 (fun b=>decide (b<W.heap.size)) true ts vs ds ps
 | [],vs,ds,ps,_,h=>by
  cases vs<;>cases ds<;>simp_all [DataW.TrodAll]
 | t :: ts,vs,ds,ps,ht,h=>by
  obtain⟨v,vs',d,ds',p,q,rfl,rfl,rfl,h0,h1⟩:=trodAll_cons h
  have hlt:∀x∈p,x.block<W.heap.size:=by obtain⟨m,hm⟩:=h0;exact DataW.trod_lt m _ _ _ hm
  exact⟨p,q,Below.trod hl (ht t (by simp)).1 (ht t (by simp)).2 h0 hb hlt,iP hl hb ts vs' ds' q (fun x hx=>ht x (by simp [hx])) h1,rfl⟩
theorem kJ {w:World}{base:Nat}{spare:Nat→Bool}{held:Bool}:∀(ts:List TypeId) (vs:List Value) (ds:List (DataW H)) (ps:List MemPlace),DataW.TrodAll enc P w base spare held ts vs ds ps→ds.length=ts.length
 | [],vs,ds,ps,h=>by cases vs<;>cases ds<;>simp_all [DataW.TrodAll]
 | t :: ts,vs,ds,ps,h=>by
  obtain⟨v,vs',d,ds',p,q,rfl,rfl,rfl,h0,h1⟩:=trodAll_cons h
  simp [kJ ts vs' ds' q h1]
def IsLaw (s:ChangeSpec)(n:Nat):Prop:=s.vars=[]∧∀(H:Type) (ds:List (DataW H)),ds.length=n→(s.fn H ds).results=[.lit (.bool true)]∧(s.fn H ds).args=ds∧(s.fn H ds).vars=[]
theorem zg6 {s:ChangeSpec}(hv:s.vars=[])(h:∀(H:Type) (d:DataW H),s.fn H [d]={ results:=[.lit (.bool true)],args:=[d] }):IsLaw s 1 :=
 ⟨hv,fun H ds hl=>by match ds,hl with|[d],_=>rw [h];exact⟨rfl,rfl,rfl⟩⟩
theorem yd {f:FuncId}{fn:Func}{s:ChangeSpec}{tb:TypeId}(hl:laidOutB P=true)(hread:∀t∈fn.params.toList,P.readableRec t=true∧t<P.types.size)
 (hr:fn.resultTypes=#[tb]) (hB:P.underlying tb=some .bool) (hs:IsLaw s fn.params.toList.length)
 {W:World} {args:Array Value} {ds gs:List (DataW H)} {before:List MemPlace} (hW:DataW.Whole enc P fn.params.toList s.vars false W args.toList ds gs before)
 (walk:Calls P f args W fun e W'=>e=.returned (.bool true)∧Below W.heap.size W W') :
 Calls P f args W fun e W'=>∃v,e=.returned v∧s.post enc P fn false true false false W args v W':=by
 refine walk.mono fun e W' ⟨he,hb⟩=>?_
 have hW':=hW
 obtain⟨p,q,hA,hV,rfl,hfz,hnd⟩:=hW
 rw [hs.1] at hV
 obtain⟨rfl,rfl⟩:=trodVars_none hV
 have hlen:=kJ _ _ _ _ hA
 obtain⟨h1,h2,h3⟩:=hs.2 H ds hlen
 refine⟨_,he,ds,[],_,[],p,[],hW',?_,?_,?_,hb.frame _,fun h=>by cases h⟩
 ·rw [List.append_nil,h1,hr]
  exact trodAll_mk1 (shut_bool hB _)
 ·rw [List.append_nil,h2]
  exact iP hl hb _ _ _ _ hread hA
 ·rw [List.append_nil,h3,hs.1]
  rfl
end
end Go.Proofs.YtomolhbkdhjofaaGreatDoor
namespace Go.Proofs.YtomolhbkdhjofaaGreatDoor
open Go.ChangeShapes Go.WideShapes Go.ChangeAt Go.RowKit Go.Deep Go.Proofs.Tryz
section
variable {H:Type}{en:TypeId×Value→H}{P:Program}{w:World}{spare:Nat→Bool}{held:Bool}
theorem sK {n:Int}(h:(Lit.int .i64 n).wf=true) : -9223372036854775808≤n∧n≤9223372036854775807:=by
 simp [Lit.wf,IntKind.min,IntKind.max,IntKind.signed,IntKind.bits] at h
 omega
end
end Go.Proofs.YtomolhbkdhjofaaGreatDoor
namespace Go.Proofs.YtomolhbkdhjofaaGreatDoor
open Go.ChangeShapes Go.WideShapes Go.ChangeAt Go.RowKit Go.Deep Go.Proofs.Tryz
section
variable {P:Program}{t:TypeId}{e:E}
theorem E.Ty.int_ {k:IntKind}(h:e.Ty P t)(hU:P.underlying t=some (.int k)):∃n,e=.int k n∧(Lit.int k n).wf=true:=by
 cases e with
 | int k' n=>simp only [E.Ty,hU] at h;obtain⟨h1,h2⟩:=h;injection h1 with h1;injection h1 with h1;subst h1;exact⟨n,rfl,h2⟩
 | bool|str=>simp [E.Ty,hU] at h
 | agg fs=>simp [E.Ty,hU] at h
 | lst=>simp [E.Ty,hU] at h
theorem E.Ty.str_ (h:e.Ty P t)(hU:P.underlying t=some .string):∃s,e=.str s∧s.size≤9223372036854775807:=by
 cases e with
 | str s=>simp only [E.Ty,maxLen] at h;exact⟨s,rfl,omq⟩
 | bool|int=>simp [E.Ty,hU] at h
 | agg fs=>simp [E.Ty,hU] at h
 | lst=>simp [E.Ty,hU] at h
theorem E.Ty.agg_ {F:Array Field}(h:e.Ty P t)(hU:P.underlying t=some (.struct F)):∃fs,e=.agg fs∧E.TyF P fs (F.toList.map (·.type)):=by
 cases e with
 | agg fs =>
  simp only [E.Ty,hU] at h
  obtain⟨F',h1,h2⟩:=h
  injection h1 with h1;injection h1 with h1;subst h1
  exact⟨fs,rfl,h2⟩
 | bool|int|str=>simp [E.Ty,hU] at h
 | lst=>simp [E.Ty,hU] at h
theorem E.Ty.lst_ {T:TypeId}{k:Nat}(h:e.Ty P t)(hU:P.underlying t=some (.slice T))(hk:P.cellsOf T=k):∃A c l,e=.lst k T A c l∧(∀x∈l,x.Ty P T)∧(∀x∈l,x.enc.length=k):=by
 cases e with
 | lst k' T' A c l =>
  simp only [E.Ty,hU,E.TyL_iff] at h
  obtain⟨h1,⟨h2,_⟩,h3,h4⟩:=h
  injection h1 with h1;injection h1 with h1;subst h1
  rw [hk] at h2;subst h2
  exact⟨A,c,l,rfl,h4,h3⟩
 | bool|int|str=>simp [E.Ty,hU] at h
 | agg fs=>simp [E.Ty,hU] at h
theorem E.TyF.cons_ {fs:List E}{ts:List TypeId}(h:E.TyF P fs (t :: ts)):∃e r,fs=e :: r∧e.Ty P t∧E.TyF P r ts:=by
 cases fs with
 | nil=>simp [E.TyF] at h
 | cons e r =>
  simp only [E.TyF] at h
  obtain⟨t',tr,h1,h2,h3⟩:=h
  injection h1 with h1 h1';subst h1;subst h1'
  exact⟨e,r,rfl,h2,h3⟩
theorem E.TyF.nil_ {fs:List E}(h:E.TyF P fs []):fs=[]:=by
 cases fs with
 | nil=>rfl
 | cons e r=>simp [E.TyF] at h
theorem E.Ty.mk_lst {T:TypeId}{k c:Nat}{A:Option Addr}{l:List E}(hU:P.underlying t=some (.slice T))(hk:P.cellsOf T=k)(h:∀x∈l,x.Ty P T)(h2:∀x∈l,x.enc.length=k)(h64:k≤64:=by omega):(E.lst k T A c l).Ty P t:=by
 simp only [E.Ty,E.TyL_iff];exact⟨hU,⟨hk.symm,h64⟩,h2,h⟩
end
def zk (P:Program):Nat→List Field→Nat→Bool
 | a,[],n=>a==n
 | a,f :: r,n=>f.offset==a&&zk P (a+P.cellsOf f.type) r n
def ye (P:Program)(S:List TypeId)(t:TypeId):Bool :=
 match P.underlying t with
 | some (.int _)=>P.cellsOf t==1
 | some .bool=>P.cellsOf t==1
 | some .string=>P.cellsOf t==1
 | some (.slice T)=>P.cellsOf t==1&&decide (0<P.cellsOf T∧P.cellsOf T≤64)&&S.contains T
 | some (.struct F)=>F.toList.all (fun f=>S.contains f.type)&&zk P 0 F.toList (P.cellsOf t)
 | _=>false
section
variable {H:Type}{en:TypeId×Value→H}{P:Program}{w:World}{spare:Nat→Bool}{held:Bool}
instance:Inhabited E:=⟨.bool false⟩
end
end Go.Proofs.YtomolhbkdhjofaaGreatDoor
namespace Go.Proofs.YtomolhbkdhjofaaGreatDoor
open Go.RowKit Go.Proofs.Tryz
def Eq (f:FuncId)(a b:E):Prop:=a.d=b.d→∀(w:World),a.In w→b.In w →
 Calls prog f #[a.val,b.val] w fun r w'=>r=.returned (.bool true)∧Below w.heap.size w w'
def Mar (f:FuncId)(e:E):Prop:=∀(lo hi:Nat) (k0:Int) (w:World),e.Ho w lo hi→e.fp.Nodup→hi≤w.heap.size→0≤k0→k0+e.cnt≤1152921504606846976 →
 Calls prog f #[e.val,.int .i64 k0] w fun r w'=>r=.returned (.int .i64 (k0+e.cnt))∧(e.mk0 k0).Ho w' lo hi∧Fr e.fp w w'
def Hel (f:FuncId)(e:E):Prop:=∀(k0:Int) (w:World),(e.mk0 k0).In w→0≤k0→k0+e.cnt≤1152921504606846976 →
 Calls prog f #[e.val,.int .i64 k0] w fun r w'=>r=.returned (.int .i64 (k0+e.cnt))∧Below w.heap.size w w'
theorem E.szL_mem:∀{l:List E} {e:E},e∈l→e.sz≤E.szL l
 | [],_,h=>absurd h List.not_mem_nil
 | x :: r,e,h=>by
  rw [E.szL]
  rcases List.mem_cons.1 h with rfl|h
  ·omega
  ·have:=E.szL_mem h;omega
theorem lst_d {k k' c c':Nat}{T T':TypeId}{A A':Option Addr}{l m:List E}:(E.lst k T A c l).d=(E.lst k' T' A' c' m).d↔l.map E.d=m.map E.d:=by
 simp only [E.d,E.dL_eq,E.lst.injEq,true_and]
theorem d_len {l m:List E}(h:l.map E.d=m.map E.d):l.length=m.length:=by have:=congrArg List.length h;simpa using this
theorem d_at {l m:List E}(h:l.map E.d=m.map E.d){i:Nat}(hi:i<l.length)(hi':i<m.length):l[i].d=m[i].d:=by
 have e:(l.map E.d)[i]'(by simpa using hi)=(m.map E.d)[i]'(by simpa using hi'):=by simp only [h]
 simpa using e
theorem cu {w:World}{b o:Nat}{cs:Array Value}{t:TypeId}{u:Value}(h:w.heap[b]? = some (.cells cs t (0,0)))(hu:cs[o]? = some u):w.cell? ⟨b,o,none⟩=some u:=by rw [cell_of_row _ _ _ _ _ _ h];exact hu
theorem E.Ty.mk_agg {P:Program}{t:TypeId}{F:Array Field}{fs:List E}(hU:P.underlying t=some (.struct F))(h:E.TyF P fs (F.toList.map (·.type))):(E.agg fs).Ty P t:=by simp only [E.Ty];exact⟨F,hU,h⟩
theorem E.TyF.mk_cons {P:Program}{t:TypeId}{ts:List TypeId}{e:E}{fs:List E}(h0:e.Ty P t)(h:E.TyF P fs ts):E.TyF P (e :: fs) (t :: ts):=by simp only [E.TyF];exact⟨t,ts,rfl,h0,h⟩
theorem E.TyF.mk_nil {P:Program}:E.TyF P [] []:=by simp only [E.TyF]
theorem E.Ho.mk_agg {w:World}{lo hi:Nat}{fs:List E}(h:E.HoL w lo hi fs):(E.agg fs).Ho w lo hi:=by simp only [E.Ho];exact h
theorem E.HoL.mk_cons {w:World}{lo hi:Nat}{e:E}{fs:List E}(h0:e.Ho w lo hi)(h:E.HoL w lo hi fs):E.HoL w lo hi (e :: fs):=by simp only [E.HoL];exact⟨h0,h⟩
def Owns (w:World)(lo hi:Nat)(fs:List E):Prop:=E.HoL w lo hi fs∧(E.fpL fs).Nodup
theorem Owns.cons {w:World}{lo mid hi:Nat}{e:E}{fs:List E}(h0:e.Ho w lo mid)(hn:e.fp.Nodup)(h:Owns w mid hi fs)(h1:lo≤mid)(h2:mid≤hi):Owns w lo hi (e :: fs):=by
 refine⟨E.HoL.mk_cons (h0.wider (Nat.le_refl _) h2) ?_,?_⟩
 ·rw [E.HoL_iff];exact fun x hx=>((E.HoL_iff fs).1 h.1 x hx).wider h1 (Nat.le_refl _)
 ·rw [E.fpL,List.nodup_append]
  refine⟨hn,h.2,fun a ha b hb e=>?_⟩
  subst e
  obtain⟨x,hx,hg⟩:=E.mem_fpL.1 hb
  have:=h0.lt a ha
  have:=((E.HoL_iff fs).1 h.1 x hx).lt a hg
  omega
theorem gK:∀{fs:List E} {e:E},(E.fpL fs).Nodup→e∈fs→e.fp.Nodup
 | [],_,_,h=>absurd h List.not_mem_nil
 | x :: r,e,hn,h=>by
  rw [E.fpL,List.nodup_append] at hn
  rcases List.mem_cons.1 h with rfl|h
  ·exact hn.1
  ·exact gK hn.2.1 h
theorem zs2 {w:World}{lo hi:Nat}{e:E}{k k':Int}(h:(e.mk0 k).Ho w lo hi)(hk:k=k'):(e.mk0 k').Ho w lo hi:=hk▸h
theorem zt2 {w:World}{e:E}{k k':Int}(h:(e.mk0 k).In w)(hk:k=k'):(e.mk0 k').In w:=hk▸h
theorem m0 {ms:List E}{k:Nat}(h:k<ms.length)(x:E):x∈ms.set k x:=List.mem_iff_getElem.2 ⟨k,by simpa using h,by simp⟩
theorem gz {ms:List E}{k:Nat}(h:k<ms.length)(x:E):(ms.set k x)[k]'(by simpa using h)=x:=by simp
theorem HoL_repl {w w':World}{lo hi:Nat}{fs:List E}{i:Nat}(h:E.HoL w lo hi fs)(hn:(E.fpL fs).Nodup)(hi_:i<fs.length){f':E}(hf:Fr fs[i].fp w w')(h':f'.Ho w' lo hi):E.HoL w' lo hi (fs.set i f'):=by
 rw [E.HoL_iff] at h ⊢
 intro e he
 rw [List.mem_iff_getElem] at he
 obtain⟨m,hm,rfl⟩:=he
 by_cases e:i=m
 ·subst e;simpa using h'
 ·have hm':m<fs.length:=by simpa using hm
  simp only [List.getElem_set_ne e]
  exact (h _ (List.getElem_mem hm')).fr hf fun g hg=>E.fpL_apart hn m i hm' hi_ (fun h=>e h.symm) g hg
theorem Ho_repl {w w':World}{lo hi:Nat}{fs:List E}{i:Nat}(h:(E.agg fs).Ho w lo hi)(hn:(E.agg fs).fp.Nodup)(hi_:i<fs.length){f':E}(hf:Fr fs[i].fp w w')(h':f'.Ho w' lo hi):(E.agg (fs.set i f')).Ho w' lo hi :=
 E.Ho.mk_agg (HoL_repl (by simpa only [E.Ho] using h) hn hi_ hf h')
mutual
theorem E.sz_d:∀e:E,e.d.sz=e.sz
 | .int _ _=>rfl
 | .bool _=>rfl
 | .str _=>rfl
 | .agg fs=>by simp only [E.d,E.sz];exact E.szL_d fs
 | .lst _ _ _ _ l=>by simp only [E.d,E.sz];rw [E.szL_d l,E.dL_len l]
theorem E.szL_d:∀l:List E,E.szL (E.dL l)=E.szL l
 | []=>rfl
 | e :: r=>by simp only [E.dL,E.szL];rw [E.sz_d e,E.szL_d r]
theorem E.dL_len:∀l:List E,(E.dL l).length=l.length
 | []=>rfl
 | e :: r=>by simp only [E.dL,List.length_cons];rw [E.dL_len r]
end
theorem sz_le {e D:E}{n:Nat}(h:Hid (e.d=D))(hn:D.sz≤n):e.sz≤n:=by rw [←E.sz_d,h.out];exact hn
theorem E.Ho.fin {e:E}{w w':World}{lo hi lo' hi':Nat}(h:e.Ho w lo hi)(k:e.Ho w lo hi→e.Ho w' lo hi)(h1:lo'≤lo)(h2:hi≤hi'):e.Ho w' lo' hi':=(k h).wider h1 h2
theorem E.Re.fin {e:E}{w w':World}{lo hi lo' hi':Nat}(h:e.Re w lo hi)(k:e.Re w lo hi→e.Re w' lo hi)(h1:lo'≤lo)(h2:hi≤hi'):e.Re w' lo' hi':=(k h).wider h1 h2
theorem ul {w:World}{b:Nat}{o:Obj}(h:w.heap[b]? = some o):b<w.heap.size:=(Array.getElem?_eq_some_iff.1 h).1
theorem um {w:World}{o:Obj}{n:Nat}(hn:w.heap.size=n):(w.alloc o).heap[n]? = some o:=by subst hn;exact heap_alloc_new w o
mutual
theorem E.cntc_le {P:Program}:∀(e:E) (t:TypeId),e.Ty P t→e.cntc≤e.enc.length+64*e.sz∧e.cnt≤64*e.sz
 | .int _ _,_,_=>by simp [E.cntc,E.cnt,E.enc]
 | .bool _,_,_=>by simp [E.cntc,E.cnt,E.enc]
 | .str _,_,_=>by simp [E.cntc,E.cnt,E.enc]
 | .agg fs,t,h=>by
  simp only [E.Ty] at h
  obtain⟨F,_,h⟩:=h
  simp only [E.cntc,E.cnt,E.enc,E.sz]
  exact E.cntF_le fs _ h
 | .lst k T A c l,t,h=>by
  simp only [E.Ty] at h
  obtain⟨_,⟨_,h6⟩,h2,h3⟩:=h
  have h4:=E.cntE_le l T h3
  have h5:(E.encL l).length=l.length*k:=E.encL_len h2
  have h7:l.length*k≤64*l.length:=by rw [Nat.mul_comm];exact Nat.mul_le_mul_right _ h6
  simp only [E.cntc,E.cnt,E.enc,E.sz,Nat.mul_add]
  constructor<;>omega
theorem E.cntF_le {P:Program}:∀(fs:List E) (ts:List TypeId),E.TyF P fs ts→E.cntcL fs≤(E.encL fs).length+64*E.szL fs∧E.cntL fs≤64*E.szL fs
 | [],_,_=>by simp [E.cntcL,E.cntL,E.szL]
 | e :: r,ts,h=>by
  simp only [E.TyF] at h
  obtain⟨t,tr,_,h1,h2⟩:=h
  have h3:=E.cntc_le e t h1
  have h4:=E.cntF_le r tr h2
  simp only [E.cntcL,E.cntL,E.szL,E.encL,List.length_append,Nat.mul_add]
  omega
theorem E.cntE_le {P:Program}:∀(l:List E) (T:TypeId),E.TyL P l T→E.cntcL l≤(E.encL l).length+64*E.szL l
 | [],_,_=>by simp [E.cntcL,E.szL]
 | e :: r,T,h=>by
  simp only [E.TyL] at h
  have h3:=E.cntc_le e T h.1
  have h4:=E.cntE_le r T h.2
  simp only [E.cntcL,E.szL,E.encL,List.length_append,Nat.mul_add]
  omega
end
theorem uo {e D:E}{t:TypeId}(h:e.Ty prog t)(hd:Hid (e.d=D))(hn:D.sz≤1073741824):(e.cnt:Int)≤1125899906842624:=by
 have h1:=(E.cntc_le e t h).2
 have h2:=sz_le hd hn
 omega
def E.subs:E→List E
 | .agg fs=>fs
 | _=>[]
def E.elems:E→List E
 | .lst _ _ _ _ l=>l
 | _=>[]
def gvsA:List (Nat×(Array Value→Prop)):=[(3,fun cs=>cs=(Lib.pow10Tab.map fun z=>Value.int .u64 z).toArray)]
def gvsB:List (Nat×(Array Value→Prop)):=[(2,fun cs=>∃te pe,cs=#[.iface te pe])]
def gvs:List (Nat×(Array Value→Prop)):=gvsA++gvsB
def isG (b:Nat):Prop:=∃p∈gvs,p.1=b
def GlobOk (w:World):Prop:=∀p∈gvs,∃cs T fr,w.heap[p.1]? = some (.cells cs T fr)∧p.2 cs
def Gl (w:World):Prop:=GlobOk w
theorem GlobOk.keep {w w':World}(h:GlobOk w)(hb:∀b,isG b→w'.heap[b]? = w.heap[b]?):GlobOk w':=fun p hp=>by
 obtain⟨cs,T,fr,e,h1⟩:=h p hp
 exact⟨cs,T,fr,(hb p.1 ⟨p,hp,rfl⟩).trans e,h1⟩
theorem Gl.lt {w:World}(h:Gl w){b:Nat}(hb:isG b):b<w.heap.size:=by
 obtain⟨p,hp,rfl⟩:=hb
 obtain⟨cs,T,fr,e,_⟩:=h p hp
 exact (Array.getElem?_eq_some_iff.1 e).1
theorem Gl.below {w w':World}{B:Nat}(h:Gl w)(hb:Below B w w')(hB:w.heap.size≤B):Gl w':=GlobOk.keep h fun b hg=>hb.block b (Nat.lt_of_lt_of_le (h.lt hg) hB)
theorem Gl.below_ {w w':World}(h:Gl w)(hb:Below w.heap.size w w'):Gl w':=h.below hb (Nat.le_refl _)
theorem uq {w:World} (h:Gl w):Lib.TabIs prog w "internal/strconv.uint64pow10" .u64 Lib.pow10Tab:=by
 obtain⟨cs,T,fr,e,rfl⟩:=h _ (List.mem_append_left _ List.mem_cons_self)
 unfold Lib.TabIs World.var?
 have hg:(prog).globalNamed "internal/strconv.uint64pow10"=some 3:=by kernel_rfl
 rw [hg]
 simp only [Option.bind_some]
 rw [show (w.heap[3]? = _) from e]
theorem sL {w:World}(h:Gl w):∃te pe,w.cell? ⟨2,0,none⟩=some (.iface te pe):=by
 obtain⟨cs,T,fr,e,te,pe,rfl⟩:=h _ (List.mem_append_right _ List.mem_cons_self)
 refine⟨te,pe,?_⟩
 unfold World.cell?
 rw [show (w.heap[2]? = _) from e]
 rfl
end Go.Proofs.YtomolhbkdhjofaaGreatDoor
