/- T -/
import Derived.Test.YtmnneflenebgmaaGreatRows
import Derived.ProofKit
import Derived.OpenShut
import Derived.ShutString
import Derived.ChangeOld
import Derived.SizedLaws
import Derived.Deep.Slices
import Derived.Lib.SmallJoins
import Derived.Maps.AppendAt
import Derived.Deep.AppendLies
import Derived.Test.YtmnneflenebgmaaGreatCnOA
set_option maxHeartbeats 0
set_option maxRecDepth 100000
namespace Go.Proofs.YtmnneflenebgmaaGreat
open Go.RowKit Go.Proofs.Tryz
structure Fr (fp:List Nat)(w w':World):Prop where
 os:w'.os=w.os
 tape:w'.tape=w.tape
 output:w'.output=w.output
 size:w.heap.size≤w'.heap.size
 block:∀k,k<w.heap.size→k∉fp→w'.heap[k]? = w.heap[k]?
section
variable {fp fp':List Nat}{a b c w w':World}{lo hi B:Nat}{e:E}
theorem Fr.refl (fp:List Nat)(w:World):Fr fp w w:=⟨rfl,rfl,rfl,Nat.le_refl _,fun _ _ _=>rfl⟩
theorem Fr.trans (h:Fr fp a b)(k:Fr fp b c):Fr fp a c :=
 ⟨k.os.trans h.os,k.tape.trans h.tape,k.output.trans h.output,Nat.le_trans h.size k.size,fun i hi hh=>(k.block i (Nat.lt_of_lt_of_le hi h.size) hh).trans (h.block i hi hh)⟩
theorem Fr.of_below (h:Below a.heap.size a b):Fr fp a b:=⟨h.os,h.tape,h.output,h.size,fun k hk _=>h.block k hk⟩
theorem Fr.set (h:Fr fp a w){p:Addr}(h1:p.block∈fp)(u:Value):Fr fp a (w.setCell p u) :=
 ⟨h.os,h.tape,h.output,by simpa using h.size,fun k hk hh=>(Below.heap_setCell w p u k (by rintro rfl;exact hh h1)).trans (h.block k hk hh)⟩
theorem Fr.sub (h:Fr fp a b)(hs:∀g∈fp,g∈fp'):Fr fp' a b:=⟨h.os,h.tape,h.output,h.size,fun k hk hh=>h.block k hk fun hm=>hh (hs k hm)⟩
theorem Fr.kp (h:Fr fp a b)(hf:∀g∈fp,lo≤g∧g<hi):Kp lo hi a b:=⟨h.os,h.tape,h.output,h.size,fun k hk hh=>h.block k hk fun hm=>by have:=hf k hm;omega⟩
theorem Fr.below (h:Fr fp a b)(hf:∀g∈fp,B≤g)(hB:B≤a.heap.size):Below B a b:=⟨h.os,h.tape,h.output,h.size,fun k hk=>h.block k omq fun hm=>by have:=hf k hm;omega⟩
theorem E.Ho.fr (h:e.Ho a lo hi)(hb:Fr fp a b)(hd:∀g∈e.fp,g∉fp):e.Ho b lo hi:=h.of_fp fun g hg _ _ hs=>hb.block g hs (hd g hg)
end
mutual
def E.mkc:E→Int→E
 | .int kd _,k=>.int kd (if kd=.u8 then k % 256 else k)
 | .bool _,k=>.bool (decide (k % 3=0))
 | .str _,k=>.str (aM k)
 | .agg fs,k=>.agg (E.mkcL fs k)
 | .lst s T A c l,k=>.lst s T A c (E.mkcL l k)
def E.mkcL:List E→Int→List E
 | [],_=>[]
 | e :: r,k=>e.mkc k :: E.mkcL r (k+e.cntc)
end
mutual
def E.mk0:E→Int→E
 | .int kd n,_=>.int kd n
 | .bool b,_=>.bool b
 | .str s,_=>.str s
 | .agg fs,k=>.agg (E.mk0L fs k)
 | .lst s T A c l,k=>.lst s T A c (E.mkcL l k)
def E.mk0L:List E→Int→List E
 | [],_=>[]
 | e :: r,k=>e.mk0 k :: E.mk0L r (k+e.cnt)
end
theorem E.mkcL_len:∀(l:List E) (k:Int),(E.mkcL l k).length=l.length
 | [],_=>rfl
 | e :: r,k=>by simp [E.mkcL,E.mkcL_len r]
mutual
theorem E.mkc_fp:∀(e:E) (k:Int),(e.mkc k).fp=e.fp
 | .int _ _,_=>rfl
 | .bool _,_=>rfl
 | .str _,_=>rfl
 | .agg fs,k=>by simp only [E.mkc,E.fp];exact E.mkcL_fp fs k
 | .lst s T A c l,k=>by simp only [E.mkc,E.fp];rw [E.mkcL_fp l k]
theorem E.mkcL_fp:∀(l:List E) (k:Int),E.fpL (E.mkcL l k)=E.fpL l
 | [],_=>rfl
 | e :: r,k=>by simp only [E.mkcL,E.fpL];rw [E.mkc_fp e k,E.mkcL_fp r]
end
mutual
theorem E.mk0_fp:∀(e:E) (k:Int),(e.mk0 k).fp=e.fp
 | .int _ _,_=>rfl
 | .bool _,_=>rfl
 | .str _,_=>rfl
 | .agg fs,k=>by simp only [E.mk0,E.fp];exact E.mk0L_fp fs k
 | .lst s T A c l,k=>by simp only [E.mk0,E.fp];rw [E.mkcL_fp l k]
theorem E.mk0L_fp:∀(l:List E) (k:Int),E.fpL (E.mk0L l k)=E.fpL l
 | [],_=>rfl
 | e :: r,k=>by simp only [E.mk0L,E.fpL];rw [E.mk0_fp e k,E.mk0L_fp r]
end
theorem E.cntcL_app:∀(l r:List E),E.cntcL (l++r)=E.cntcL l+E.cntcL r
 | [],r=>by simp [E.cntcL]
 | e :: l,r=>by simp only [List.cons_append,E.cntcL,E.cntcL_app l r];omega
theorem E.cntcL_take (l:List E)(i:Nat)(h:i<l.length):E.cntcL (l.take (i+1))=E.cntcL (l.take i)+l[i].cntc:=by
 rw [List.take_succ_eq_append_getElem h,E.cntcL_app];simp [E.cntcL]
theorem E.cntcL_le (l:List E)(i:Nat):E.cntcL (l.take i)≤E.cntcL l:=by
 conv=>rhs;rw [←List.take_append_drop i l]
 rw [E.cntcL_app];omega
theorem E.mkcL_at:∀(l:List E) (k:Int) (i:Nat) (h:i<l.length),(E.mkcL l k)[i]'(by rw [E.mkcL_len];exact h)=l[i].mkc (k+E.cntcL (l.take i))
 | [],_,i,h=>absurd h (by simp)
 | e :: r,k,0,_=>by simp [E.mkcL,E.cntcL]
 | e :: r,k,i+1,h=>by
  simp only [E.mkcL,List.getElem_cons_succ,List.take_succ_cons,E.cntcL]
  rw [E.mkcL_at r _ i (by simpa using h)]
  congr 1
  omega
def ec (l:List E)(k:Int)(i:Nat):List E:=(E.mkcL l k).take i++l.drop i
theorem fI (l:List E)(k:Int)(i:Nat):(ec l k i).length=l.length:=by
 unfold ec;rw [List.length_append,List.length_take,List.length_drop,E.mkcL_len];omega
theorem fj (l:List E)(k:Int):ec l k 0=l:=by simp [ec]
theorem gC (l:List E)(k:Int):ec l k l.length=E.mkcL l k:=by
 unfold ec;rw [List.take_of_length_le (by rw [E.mkcL_len];exact Nat.le_refl _),List.drop_length,List.append_nil]
theorem ew (l:List E)(k:Int)(i:Nat)(h:i<l.length):(ec l k i)[i]'(by rw [fI];exact h)=l[i]:=by
 unfold ec
 rw [List.getElem_append_right (by rw [List.length_take,E.mkcL_len];omega)]
 simp only [List.length_take,E.mkcL_len,List.getElem_drop]
 congr 1;omega
theorem fm (l:List E)(k:Int)(i:Nat)(h:i<l.length):(ec l k i).set i (l[i].mkc (k+E.cntcL (l.take i)))=ec l k (i+1):=by
 have hl:((E.mkcL l k).take i).length=i:=by rw [List.length_take,E.mkcL_len];omega
 unfold ec
 rw [List.set_append_right _ _ omq,hl,Nat.sub_self,List.drop_eq_getElem_cons h,List.set_cons_zero,List.take_succ_eq_append_getElem (by rw [E.mkcL_len];exact h),E.mkcL_at l k i h,List.append_assoc]
 rfl
theorem iN (l:List E)(k:Int)(i:Nat):E.fpL (ec l k i)=E.fpL l:=by
 have h:∀a b:List E,E.fpL (a++b)=E.fpL a++E.fpL b:=fun a b=>by simp [E.fpL_eq]
 have h2:∀(l:List E) (k:Int) (i:Nat),E.fpL ((E.mkcL l k).take i)=E.fpL (l.take i):=by
  intro l
  induction l with
  | nil=>intro k i;simp [E.mkcL]
  | cons e r ih =>
   intro k i
   cases i with
   | zero=>simp
   | succ i=>simp only [E.mkcL,List.take_succ_cons,E.fpL];rw [E.mkc_fp,ih]
 unfold ec
 rw [h,h2,←h,List.take_append_drop]
theorem E.encL_app:∀(a b:List E),E.encL (a++b)=E.encL a++E.encL b:=fun a b=>by simp [E.encL_eq]
theorem E.fpL_app:∀(a b:List E),E.fpL (a++b)=E.fpL a++E.fpL b:=fun a b=>by simp [E.fpL_eq]
theorem E.fpL_set {l:List E}{i:Nat}(h:i<l.length){x:E}(hx:x.fp=l[i].fp):E.fpL (l.set i x)=E.fpL l:=by
 rw [E.fpL_eq,E.fpL_eq]
 simp only [List.flatMap]
 congr 1
 apply List.ext_getElem (by simp)
 intro j h1 h2
 simp only [List.getElem_map,List.getElem_set]
 by_cases e:i=j
 ·subst e;rw [if_pos rfl,hx]
 ·rw [if_neg e]
theorem E.encL_set {k:Nat}{l:List E}(hk:∀e∈l,e.enc.length=k){i:Nat}(h:i<l.length){x:E}{j:Nat}{u:Value}(hj:j<k)(hx:x.enc=l[i].enc.set j u):E.encL (l.set i x)=(E.encL l).set (i*k+j) u:=by
 have hlx:x.enc.length=k:=by rw [hx,List.length_set];exact hk _ (List.getElem_mem h)
 have hk2:∀e∈l.set i x,e.enc.length=k:=by
  intro e he
  rcases List.mem_or_eq_of_mem_set he with h|rfl
  ·exact hk e h
  ·exact hlx
 have hlen:=E.encL_len hk
 have hlen2:=E.encL_len hk2
 apply List.ext_getElem?
 intro m
 have hk0:0<k:=by omega
 rcases Nat.lt_or_ge m (l.length*k) with hm|hm
 ·have hq:m / k<l.length:=(Nat.div_lt_iff_lt_mul hk0).2 hm
  have hr:m % k<k:=Nat.mod_lt _ hk0
  have hm':m=m / k*k+m % k:=by rw [Nat.mul_comm];exact (Nat.div_add_mod m k).symm
  generalize m / k=q at *
  generalize m % k=r at *
  subst hm'
  rw [E.encL_at hk2 q (by simpa using hq) r hr,List.getElem?_set]
  have hpos:i*k+j<(E.encL l).length:=by
   rw [hlen]
   have:=Nat.mul_le_mul_right k (show i+1≤l.length from h)
   rw [Nat.add_mul] at this;omega
  by_cases e:i=q
  ·subst e
   simp only [List.getElem_set_self]
   by_cases e2:j=r
   ·subst e2
    rw [if_pos rfl,if_pos hpos,hx,List.getElem?_set_self (by rw [hk _ (List.getElem_mem h)];exact hj)]
   ·rw [if_neg omq,E.encL_at hk i h r hr,hx,List.getElem?_set_ne e2]
  ·have hne:i*k+j≠q*k+r:=by
    intro hh
    rcases Nat.lt_or_ge i q with hl|hl
    ·have:=Nat.mul_le_mul_right k (show i+1≤q from hl)
     rw [Nat.add_mul] at this;omega
    ·have:=Nat.mul_le_mul_right k (show q+1≤i by omega)
     rw [Nat.add_mul] at this;omega
   rw [if_neg hne,E.encL_at hk q hq r hr]
   simp only [List.getElem_set_ne e]
 ·rw [List.getElem?_eq_none (by rw [hlen2,List.length_set];exact hm),List.getElem?_eq_none (by rw [List.length_set,hlen];exact hm)]
theorem E.encL_same {k:Nat}{l:List E}{i:Nat}(h:i<l.length){x:E}(hx:x.enc=l[i].enc):E.encL (l.set i x)=E.encL l:=by
 rw [E.encL_eq,E.encL_eq]
 simp only [List.flatMap]
 congr 1
 apply List.ext_getElem (by simp)
 intro j h1 h2
 simp only [List.getElem_map,List.getElem_set]
 by_cases e:i=j
 ·subst e;rw [if_pos rfl,hx]
 ·rw [if_neg e]
theorem E.fpL_apart:∀{l:List E},(E.fpL l).Nodup→∀(i m:Nat) (hi:i<l.length) (hm:m<l.length),i≠m→∀b,b∈l[i].fp→b∉l[m].fp
 | [],_,i,_,hi,_,_,_,_=>absurd hi (by simp)
 | e :: r,hn,i,m,hi,hm,hne,b,h1=>by
  rw [E.fpL,List.nodup_append] at hn
  obtain⟨_,hr,hd⟩:=hn
  intro h2
  rcases i with _|i<;>rcases m with _|m
  ·exact hne rfl
  ·exact hd b (by simpa using h1) b (E.mem_fpL.2 ⟨_,List.getElem_mem (by simpa using hm),by simpa using h2⟩) rfl
  ·exact hd b (by simpa using h2) b (E.mem_fpL.2 ⟨_,List.getElem_mem (by simpa using hi),by simpa using h1⟩) rfl
  ·exact E.fpL_apart hr i m (by simpa using hi) (by simpa using hm) omq b (by simpa using h1) (by simpa using h2)
theorem Ow.of_own {w w':World}{lo hi k n:Nat}{e:TypeId}{v:Value}{xs:List Value}(h:Ow w lo hi e k v n xs)(hb:∀g,v.ownBlock=some g→g<w.heap.size→w'.heap[g]? = w.heap[g]?):Ow w' lo hi e k v n xs:=by
 obtain⟨⟨hl,h|⟨g,cap,cur,rfl,hg,hh,hn,hc,hs,ht⟩⟩,hh2⟩:=h
 ·exact⟨⟨hl,.inl h⟩,hh2⟩
 ·exact⟨⟨hl,.inr ⟨g,cap,cur,rfl,hg,(hb g rfl (by
   rcases Nat.lt_or_ge g w.heap.size with hlt|hge
   ·exact hlt
   ·rw [Array.getElem?_eq_none hge] at hh;cases hh)).trans hh,hn,hc,hs,ht⟩⟩,hh2⟩
section
variable {w w':World}{lo hi k c g i j:Nat}{T:TypeId}{l:List E}{x x':E}{u:Value}
theorem E.Ho.cellx (h:(E.lst k T (some ⟨g,0,none⟩) c l).Ho w lo hi)(hi_:i<l.length)(hx:l[i]=x)(hu:x.enc[j]? = some u):w.cell? ⟨g,i*k+j,none⟩=some u:=by
 have hr:=h.row
 have hlens:=h.lens
 have hjk:j<k:=by
  have:x.enc.length=k:=by rw [←hx];exact hlens _ (List.getElem_mem hi_)
  rw [←this];exact (List.getElem?_eq_some_iff.1 hu).1
 obtain⟨g2,hA,_,_,hc,_⟩:=hr.at_ omq
 cases hA
 refine hc (i*k+j) u ?_ ?_
 ·have:=Nat.mul_le_mul_right k (show i+1≤l.length from hi_)
  rw [Nat.add_mul] at this;omega
 ·rw [E.encL_at hlens i hi_ j hjk,hx];exact hu
theorem E.Ho.frzx (h:(E.lst k T (some ⟨g,0,none⟩) c l).Ho w lo hi):∀j,w.frozen? ⟨g,j,none⟩=false:=by
 obtain⟨⟨_,⟨hv,_⟩|⟨g2,cap,cur,hv,_,hh,_⟩⟩,_⟩:=h.row
 ·cases hv
 ·injection hv with e1
  injection e1 with e1
  injection e1 with e1
  subst e1
  intro j;simp [World.frozen?,hh]
theorem E.Ho.head {A:Option Addr}(h:(E.lst k T A c l).Ho w lo hi)(hi_:0<l.length):∃g,A=some ⟨g,0,none⟩∧lo≤g∧g<hi∧g<w.heap.size:=by
 obtain⟨g,hA,h1,h2,_⟩:=h.row.at_ omq
 subst hA
 exact⟨g,rfl,h1,h2,(h.lt g (by simp [E.fp])).2.2⟩
theorem E.Ho.store (h:(E.lst k T (some ⟨g,0,none⟩) c (l.set i x)).Ho w lo hi)(hn:(E.lst k T (some ⟨g,0,none⟩) c (l.set i x)).fp.Nodup)(hi_:i<l.length)(x':E)(j:Nat)(u:Value)(hj:j<k)(he:x'.enc=x.enc.set j u)
 (hin:∀W:World,x.Ho W lo hi→x'.Ho W lo hi):(E.lst k T (some ⟨g,0,none⟩) c (l.set i x')).Ho (w.setCell ⟨g,i*k+j,none⟩ u) lo hi:=by
 have hl:=h.lens
 have hi2:i<(l.set i x).length:=by simpa using hi_
 have hxi:(l.set i x)[i]=x:=by simp
 have hgn:g∉E.fpL (l.set i x):=by
  simp only [E.fp,List.singleton_append,List.nodup_cons] at hn
  exact hn.1
 have e1:l.set i x'=(l.set i x).set i x':=by rw [List.set_set]
 have hrow:=(h.row).set (i*k+j) u
 rw [List.length_set] at hrow
 have hk2:∀e∈l.set i x',e.enc.length=k:=by
  rw [e1]
  intro e he2
  rcases List.mem_or_eq_of_mem_set he2 with h2|rfl
  ·exact hl e h2
  ·rw [he,List.length_set];exact hl x (List.mem_iff_getElem.2 ⟨i,hi2,hxi⟩)
 refine E.Ho.mk ?_ hk2 ?_
 ·rw [List.length_set,e1,E.encL_set hl hi2 hj (by rw [hxi];exact he)]
  exact hrow
 ·have hold:∀e∈l.set i x,e.Ho (w.setCell ⟨g,i*k+j,none⟩ u) lo hi:=fun e he2 =>
   (h.el he2).of_fp fun b hb _ _ _=>Below.heap_setCell w _ u b (by rintro rfl;exact hgn (E.mem_fpL.2 ⟨e,he2,hb⟩))
  intro e he2
  rw [e1] at he2
  rcases List.mem_or_eq_of_mem_set he2 with h2|rfl
  ·exact hold e h2
  ·exact hin _ (hold x (List.mem_iff_getElem.2 ⟨i,hi2,hxi⟩))
theorem E.Ho.inside {A:Option Addr}{fp:List Nat}(h:(E.lst k T A c (l.set i x)).Ho w lo hi)(hn:(E.lst k T A c (l.set i x)).fp.Nodup)(hi_:i<l.length)(x':E)(hf:Fr fp w w')(hsub:∀b∈fp,b∈x.fp)(he:x'.enc=x.enc)
 (hin:x'.Ho w' lo hi):(E.lst k T A c (l.set i x')).Ho w' lo hi:=by
 have hl:=h.lens
 have hi2:i<(l.set i x).length:=by simpa using hi_
 have hxi:(l.set i x)[i]=x:=by simp
 have e1:l.set i x'=(l.set i x).set i x':=by rw [List.set_set]
 have hmem:=List.mem_iff_getElem.2 ⟨i,hi2,hxi⟩
 have hk2:∀e∈l.set i x',e.enc.length=k:=by
  rw [e1]
  intro e he2
  rcases List.mem_or_eq_of_mem_set he2 with h2|rfl
  ·exact hl e h2
  ·rw [he];exact hl x hmem
 refine E.Ho.mk ?_ hk2 ?_
 ·rw [List.length_set,e1,E.encL_same (k:=k) hi2 (by rw [hxi];exact he)]
  have hr:=h.row
  rw [List.length_set] at hr
  refine Ow.of_own hr fun b hob hs=>hf.block _ hs fun hm=>?_
  rcases A with _|a
  ·simp [Value.ownBlock] at hob
  ·obtain rfl:a.block=b:=by simpa [Value.ownBlock] using hob
   simp only [E.fp,List.singleton_append,List.nodup_cons] at hn
   exact hn.1 (E.mem_fpL.2 ⟨x,hmem,hsub _ hm⟩)
 ·intro e he2
  rw [List.mem_iff_getElem] at he2
  obtain⟨m,hm,rfl⟩:=he2
  by_cases e:i=m
  ·subst e;simpa using hin
  ·have hm':m<l.length:=by simpa using hm
   simp only [List.getElem_set_ne e]
   have hmm:l[m]∈l.set i x:=List.mem_iff_getElem.2 ⟨m,by simpa using hm',by simp [List.getElem_set_ne e]⟩
   refine (h.el hmm).fr hf fun b hb hm3=>?_
   have hb2:=hsub b hm3
   have hn2:(E.fpL (l.set i x)).Nodup:=by
    simp only [E.fp] at hn
    exact (List.nodup_append.1 hn).2.1
   exact E.fpL_apart hn2 i m hi2 (by simpa using hm') e b (by rw [hxi];exact hb2) (by simp only [List.getElem_set_ne e];exact hb)
end
end Go.Proofs.YtmnneflenebgmaaGreat
namespace Go.Proofs.YtmnneflenebgmaaGreat
open Go.ChangeShapes Go.WideShapes Go.ChangeAt Go.RowKit Go.Proofs.Tryz
theorem own:ownKnob prog.godebug=none:=by kernel_rfl
theorem zI:laidOutB prog=true:=by kernel_rfl
section
variable {H:Type}{enc:TypeId×Value→H}{P:Program}
theorem ib (hl:laidOutB P=true){W W':World}(hb:Below W.heap.size W W'):∀(ts:List TypeId) (vs:List Value) (ds:List (DataW H)) (ps:List MemPlace),
 (∀t∈ts,P.readableRec t=true∧t<P.types.size)→DataW.TrodAll enc P W 0 (fun _=>true) true ts vs ds ps →
 DataW.TrodAll enc P W' 0 (fun b=>decide (b<W.heap.size)) true ts vs ds ps
 | [],vs,ds,ps,_,h=>by
  cases vs<;>cases ds<;>simp_all [DataW.TrodAll]
 | t :: ts,vs,ds,ps,ht,h=>by
  obtain⟨v,vs',d,ds',p,q,rfl,rfl,rfl,h0,h1⟩:=trodAll_cons h
  have hlt:∀x∈p,x.block<W.heap.size:=by obtain⟨m,hm⟩:=h0;exact DataW.trod_lt m _ _ _ hm
  exact⟨p,q,Below.trod hl (ht t (by simp)).1 (ht t (by simp)).2 h0 hb hlt,ib hl hb ts vs' ds' q (fun x hx=>ht x (by simp [hx])) h1,rfl⟩
theorem jX {w:World}{base:Nat}{spare:Nat→Bool}{held:Bool}:∀(ts:List TypeId) (vs:List Value) (ds:List (DataW H)) (ps:List MemPlace),DataW.TrodAll enc P w base spare held ts vs ds ps→ds.length=ts.length
 | [],vs,ds,ps,h=>by cases vs<;>cases ds<;>simp_all [DataW.TrodAll]
 | t :: ts,vs,ds,ps,h=>by
  obtain⟨v,vs',d,ds',p,q,rfl,rfl,rfl,h0,h1⟩:=trodAll_cons h
  simp [jX ts vs' ds' q h1]
def IsLaw (s:ChangeSpec)(n:Nat):Prop:=s.vars=[]∧∀(H:Type) (ds:List (DataW H)),ds.length=n→(s.fn H ds).results=[.lit (.bool true)]∧(s.fn H ds).args=ds∧(s.fn H ds).vars=[]
theorem zx2 {s:ChangeSpec}(hv:s.vars=[])(h:∀(H:Type) (d:DataW H),s.fn H [d]={ results:=[.lit (.bool true)],args:=[d] }):IsLaw s 1 :=
 ⟨hv,fun H ds hl=>by match ds,hl with|[d],_=>rw [h];exact⟨rfl,rfl,rfl⟩⟩
theorem wG {f:FuncId}{fn:Func}{s:ChangeSpec}{tb:TypeId}(hl:laidOutB P=true)(hread:∀t∈fn.params.toList,P.readableRec t=true∧t<P.types.size)
 (hr:fn.resultTypes=#[tb]) (hB:P.underlying tb=some .bool) (hs:IsLaw s fn.params.toList.length)
 {W:World} {args:Array Value} {ds gs:List (DataW H)} {before:List MemPlace} (hW:DataW.Whole enc P fn.params.toList s.vars false W args.toList ds gs before)
 (walk:Calls P f args W fun e W'=>e=.returned (.bool true)∧Below W.heap.size W W') :
 Calls P f args W fun e W'=>∃v,e=.returned v∧s.post enc P fn false true false false W args v W':=by
 refine walk.mono fun e W' ⟨he,hb⟩=>?_
 have hW':=hW
 obtain⟨p,q,hA,hV,rfl,hfz,hnd⟩:=hW
 rw [hs.1] at hV
 obtain⟨rfl,rfl⟩:=trodVars_none hV
 have hlen:=jX _ _ _ _ hA
 obtain⟨h1,h2,h3⟩:=hs.2 H ds hlen
 refine⟨_,he,ds,[],_,[],p,[],hW',?_,?_,?_,hb.frame _,fun h=>by cases h⟩
 ·rw [List.append_nil,h1,hr]
  exact trodAll_mk1 (shut_bool hB _)
 ·rw [List.append_nil,h2]
  exact ib hl hb _ _ _ _ hread hA
 ·rw [List.append_nil,h3,hs.1]
  rfl
end
theorem rv {f:FuncId}{fn:Func}{s:ChangeSpec}{tb:TypeId}{os:Os}(started:os.Started)(H:Type)(enc:TypeId×Value→H)
 (noInit:Tryz.checked.prog.inits.idxOf? f=none) (hfn:Tryz.checked.prog.funcs[f]? = some fn)
 (hread:fn.params.toList.all (fun t=>prog.readableRec t&&decide (t<prog.types.size))=true)
 (hr:fn.resultTypes=#[tb]) (hB:prog.underlying tb=some .bool) (hs:IsLaw s fn.params.toList.length)
 (witness:∃(w:World) (tape:Tape) (i:Input),w.os=os∧(w.forCall tape i).Shaped Tryz.checked.prog∧i.vars=[]∧Input.okWide Tryz.checked.prog (w.forCall tape i) .any w.heap.size f i ∧
   s.pre6 enc Tryz.checked.prog fn [] false (w.forCall tape i).memory i.args∧({}:Assume).holds Tryz.checked.prog (lone (Frame.enter Tryz.checked.prog f i.args .normal) [] (w.forCall tape i)))
 (walk:∀(W:World) (base:Nat) (args:Array Value) (ds:List (DataW H)) (ps:List MemPlace),
   (∀(j:Nat) t v,fn.params[j]? = some t→args[j]? = some v→Value.okWide prog W .any base t v) →
   DataW.TrodAll enc prog W 0 (fun _=>true) true fn.params.toList args.toList ds ps →
   (DataW.weightsEach prog fn.params.toList ds).all (·≤ reachBytes)=true →
   Calls prog f args W fun e W'=>e=.returned (.bool true)∧Below W.heap.size W W') :
 ReturnsInHanded {} Tryz.checked os f .any (s.pre6 enc prog fn [] false) (s.post enc prog fn false true false false):=by
 refine returnsInHanded_of_change_sized (C:=Tryz.checked) own started noInit hfn witness ?_
 intro W base args ds gs before hval hW _ hsz _
 have hread':∀t∈fn.params.toList,prog.readableRec t=true∧t<prog.types.size:=fun t ht=>by
  have h:=List.all_eq_true.1 hread t ht
  rw [Bool.and_eq_true] at h
  exact⟨h.1,of_decide_eq_true h.2⟩
 obtain⟨p,q,hA,hV,_,_,_⟩:=id hW
 rw [hs.1] at hV
 obtain⟨rfl,rfl⟩:=trodVars_none hV
 refine wG (P:=prog) zI hread' hr hB hs hW (walk W base args ds p hval hA ?_)
 have e:s.plain.varTypes Tryz.checked.prog=[]:=by
  have:s.plain.vars=[]:=hs.1
  simp [DataSpec.varTypes,this]
 rw [e,List.append_nil,List.append_nil] at hsz
 exact hsz
end Go.Proofs.YtmnneflenebgmaaGreat
namespace Go.Proofs.YtmnneflenebgmaaGreat
open Go.ChangeShapes Go.WideShapes Go.ChangeAt Go.RowKit Go.Deep Go.Proofs.Tryz
section
variable {H:Type}{en:TypeId×Value→H}{P:Program}{w:World}{spare:Nat→Bool}{held:Bool}
theorem zJ {a:Addr}{u:Value}(h:w.cell? a=some u):a.block<w.heap.size:=by
 rcases Nat.lt_or_ge a.block w.heap.size with hlt|hge
 ·exact hlt
 ·unfold World.cell? at h
  rw [Array.getElem?_eq_none hge] at h
  cases h
theorem nk {b o:Nat}(n:Nat):(⟨b,o,none⟩:Addr).add n=⟨b,o+n,none⟩:=by
 unfold Addr.add;split
 ·subst_vars;rfl
 ·rfl
end
end Go.Proofs.YtmnneflenebgmaaGreat
namespace Go.Proofs.YtmnneflenebgmaaGreat
open Go.ChangeShapes Go.WideShapes Go.ChangeAt Go.RowKit Go.Deep Go.Proofs.Tryz
section
variable {P:Program}{t:TypeId}{e:E}
theorem E.Ty.int_ {k:IntKind}(h:e.Ty P t)(hU:P.underlying t=some (.int k)):∃n,e=.int k n∧(Lit.int k n).wf=true:=by
 cases e with
 | int k' n=>simp only [E.Ty,hU] at h;obtain⟨h1,h2⟩:=h;injection h1 with h1;injection h1 with h1;subst h1;exact⟨n,rfl,h2⟩
 | bool|str=>simp [E.Ty,hU] at h
 | agg fs=>simp [E.Ty,hU] at h
 | lst=>simp [E.Ty,hU] at h
theorem E.Ty.str_ (h:e.Ty P t)(hU:P.underlying t=some .string):∃s,e=.str s∧s.size≤9223372036854775807:=by
 cases e with
 | str s=>simp only [E.Ty,maxLen] at h;exact⟨s,rfl,omq⟩
 | bool|int=>simp [E.Ty,hU] at h
 | agg fs=>simp [E.Ty,hU] at h
 | lst=>simp [E.Ty,hU] at h
theorem E.Ty.agg_ {F:Array Field}(h:e.Ty P t)(hU:P.underlying t=some (.struct F)):∃fs,e=.agg fs∧E.TyF P fs (F.toList.map (·.type)):=by
 cases e with
 | agg fs =>
  simp only [E.Ty,hU] at h
  obtain⟨F',h1,h2⟩:=h
  injection h1 with h1;injection h1 with h1;subst h1
  exact⟨fs,rfl,h2⟩
 | bool|int|str=>simp [E.Ty,hU] at h
 | lst=>simp [E.Ty,hU] at h
theorem E.Ty.lst_ {T:TypeId}{k:Nat}(h:e.Ty P t)(hU:P.underlying t=some (.slice T))(hk:P.cellsOf T=k):∃A c l,e=.lst k T A c l∧(∀x∈l,x.Ty P T)∧(∀x∈l,x.enc.length=k):=by
 cases e with
 | lst k' T' A c l =>
  simp only [E.Ty,hU,E.TyL_iff] at h
  obtain⟨h1,⟨h2,_⟩,h3,h4⟩:=h
  injection h1 with h1;injection h1 with h1;subst h1
  rw [hk] at h2;subst h2
  exact⟨A,c,l,rfl,h4,h3⟩
 | bool|int|str=>simp [E.Ty,hU] at h
 | agg fs=>simp [E.Ty,hU] at h
theorem E.TyF.cons_ {fs:List E}{ts:List TypeId}(h:E.TyF P fs (t :: ts)):∃e r,fs=e :: r∧e.Ty P t∧E.TyF P r ts:=by
 cases fs with
 | nil=>simp [E.TyF] at h
 | cons e r =>
  simp only [E.TyF] at h
  obtain⟨t',tr,h1,h2,h3⟩:=h
  injection h1 with h1 h1';subst h1;subst h1'
  exact⟨e,r,rfl,h2,h3⟩
theorem E.TyF.nil_ {fs:List E}(h:E.TyF P fs []):fs=[]:=by
 cases fs with
 | nil=>rfl
 | cons e r=>simp [E.TyF] at h
theorem E.Ty.mk_lst {T:TypeId}{k c:Nat}{A:Option Addr}{l:List E}(hU:P.underlying t=some (.slice T))(hk:P.cellsOf T=k)(h:∀x∈l,x.Ty P T)(h2:∀x∈l,x.enc.length=k)(h64:k≤64:=by omega):(E.lst k T A c l).Ty P t:=by
 simp only [E.Ty,E.TyL_iff];exact⟨hU,⟨hk.symm,h64⟩,h2,h⟩
end
def np (P:Program):Nat→List Field→Nat→Bool
 | a,[],n=>a==n
 | a,f :: r,n=>f.offset==a&&np P (a+P.cellsOf f.type) r n
def jH (P:Program)(S:List TypeId)(t:TypeId):Bool :=
 match P.underlying t with
 | some (.int _)=>P.cellsOf t==1
 | some .bool=>P.cellsOf t==1
 | some .string=>P.cellsOf t==1
 | some (.slice T)=>P.cellsOf t==1&&decide (0<P.cellsOf T∧P.cellsOf T≤64)&&S.contains T
 | some (.struct F)=>F.toList.all (fun f=>S.contains f.type)&&np P 0 F.toList (P.cellsOf t)
 | _=>false
section
variable {H:Type}{en:TypeId×Value→H}{P:Program}{w:World}{spare:Nat→Bool}{held:Bool}
theorem oW {α:Type}[Inhabited α]{t e:TypeId}{k fuel:Nat}{enc:α→List Value}{good:α→Prop}{v:Value}{x:DataW H×List MemPlace}(ht:P.underlying t=some (.slice e))(hk:P.cellsOf e=k)(hk0:0<k)
 (hlen:∀d,good d→(enc d).length=k) (dec:∀(n:Nat) (cs:List Value) (y:DataW H×List MemPlace),fuel=n+1→cs.length=k→DataW.trod en P w 0 spare held n e cs=some y→∃d,cs=enc d∧good d)
 (h:DataW.trod en P w 0 spare held fuel t [v]=some x):∃ds:List α,Sl w 0 w.heap.size k enc v ds∧∀d∈ds,good d:=by
 rcases DataW.trod_slice ht h with ⟨hcs,_⟩|⟨a,len,cap,elems,rest,n,hfu,hcs,hx,hb,hl,hm,hel,hi,_⟩
 ·obtain rfl:v=.slice none 0 0:=by simpa using hcs
  exact⟨[],⟨none,0,rfl,by simp,⟨by unfold maxLen;omega,fun _=>rfl⟩,fun h=>absurd h (by simp)⟩,fun d hd=>absurd hd (by simp)⟩
 ·obtain rfl:v=.slice (some a) len cap:=by simpa using hcs
  have key:∀i,i<len→∃d:α,good d∧∀j,j<k→w.cell? ((a.add (i*k)).add j)=(enc d)[j]? := by
   intro i hi'
   have h1:=hi i hi'
   rw [List.getElem?_eq_getElem (by omega:i<elems.length),Option.bind_eq_some_iff] at h1
   obtain⟨cs',hc,htr⟩:=h1
   rw [hk] at hc
   obtain⟨_,hcl,hat⟩:=World.cells?_some hc
   obtain⟨d,rfl,hg⟩:=dec n cs' _ hfu hcl htr
   exact⟨d,hg,fun j hj=>hat j hj⟩
  rcases Nat.eq_zero_or_pos len with h0|h0
  ·subst h0
   exact⟨[],⟨some a,cap,by simp,by simp,⟨hm,fun h=>by cases h⟩,fun h=>absurd h (by simp)⟩,fun d hd=>absurd hd (by simp)⟩
  obtain⟨F,hF⟩:=choose_lt key
  refine⟨(List.range len).map F,⟨some a,cap,by simp,by simpa using hl,⟨hm,fun h=>by cases h⟩,fun hpos=>?_⟩,?_⟩
  ·have hpos':0<len:=by simpa using hpos
   have h00:=(hF 0 hpos').2 0 hk0
   obtain⟨u0,hu⟩:∃u,(enc (F 0))[0]? = some u:=⟨_,List.getElem?_eq_getElem (by rw [hlen _ (hF 0 hpos').1];exact hk0)⟩
   rw [hu,Nat.zero_mul] at h00
   have e00:(a.add 0).add 0=a:=by simp [Addr.add]
   rw [e00] at h00
   have hs:=World.cell?_spot h00
   obtain⟨b,o,sp⟩:=a
   simp only at hs
   subst hs
   refine⟨b,o,rfl,Nat.zero_le _,zJ h00,fun i hil j u hu=>?_⟩
   have hil':i<len:=by simpa using hil
   have hu':(enc (F i))[j]? = some u:=by simpa using hu
   have hj:j<k:=by
    rcases Nat.lt_or_ge j k with h|h
    ·exact h
    ·rw [List.getElem?_eq_none (by rw [hlen _ (hF i hil').1];exact h)] at hu';cases hu'
   have:=(hF i hil').2 j hj
   rw [nk,nk,hu'] at this
   exact this
  ·intro d hd
   obtain⟨i,hi,rfl⟩:=List.mem_map.1 hd
   exact (hF i (by simpa using hi)).1
instance:Inhabited E:=⟨.bool false⟩
theorem jY {S:List TypeId}{n:Nat}(ih:∀(t:TypeId) (cs:List Value) (y:DataW H×List MemPlace),t∈S→cs.length=P.cellsOf t→DataW.trod en P w 0 spare held n t cs=some y→∃e:E,cs=e.enc∧e.Ty P t∧e.Re w 0 w.heap.size)(cs:List Value) :
 ∀(fs:List Field) (a N:Nat),np P a fs N=true→(∀f∈fs,f.type∈S)→N≤cs.length→(∀f∈fs,∃y,DataW.trod en P w 0 spare held n f.type ((cs.drop f.offset).take (P.cellsOf f.type))=some y) →
 a≤N∧∃es:List E,(cs.take N).drop a=E.encL es∧E.TyF P es (fs.map (·.type))∧E.ReL w 0 w.heap.size es
 | [],a,N,ho,_,_,_=>by
  simp only [np,beq_iff_eq] at ho
  subst ho
  exact⟨Nat.le_refl _,[],by simp [E.encL],by simp [E.TyF],by simp [E.ReL]⟩
 | f :: r,a,N,ho,hS,hN,hf=>by
  simp only [np,Bool.and_eq_true,beq_iff_eq] at ho
  obtain⟨h1,h2⟩:=ho
  obtain⟨hle,es,e1,e2,e3⟩:=jY ih cs r _ N h2 (fun x hx=>hS x (List.mem_cons_of_mem _ hx)) hN (fun x hx=>hf x (List.mem_cons_of_mem _ hx))
  obtain⟨y,hy⟩:=hf f List.mem_cons_self
  rw [h1] at hy
  have hcl:((cs.drop a).take (P.cellsOf f.type)).length=P.cellsOf f.type:=by rw [List.length_take,List.length_drop];omega
  obtain⟨e,g1,g2,g3⟩:=ih f.type _ _ (hS f List.mem_cons_self) hcl hy
  refine⟨omq,e :: es,?_,?_,?_⟩
  ·rw [E.encL,←e1,←g1]
   apply List.ext_getElem?
   intro i
   by_cases hlt:i<P.cellsOf f.type
   ·rw [List.getElem?_append_left (by rw [hcl];exact hlt)]
    simp only [List.getElem?_drop,List.getElem?_take]
    rw [if_pos omq,if_pos hlt]
   ·rw [List.getElem?_append_right (by rw [hcl];omega),hcl]
    simp only [List.getElem?_drop,List.getElem?_take]
    have:a+i=a+P.cellsOf f.type+(i-P.cellsOf f.type):=by omega
    rw [this]
  ·simp only [E.TyF,List.map_cons];exact⟨_,_,rfl,g2,e2⟩
  ·simp only [E.ReL];exact⟨g3,e3⟩
theorem sY {S:List TypeId}(hS:∀t∈S,jH P S t=true):∀(fuel:Nat) (t:TypeId) (cs:List Value) (x:DataW H×List MemPlace),t∈S→cs.length=P.cellsOf t→DataW.trod en P w 0 spare held fuel t cs=some x→∃e:E,cs=e.enc∧e.Ty P t∧e.Re w 0 w.heap.size
 | 0,t,cs,x,_,_,h=>by simp [DataW.trod] at h
 | n+1,t,cs,x,ht,hc,h=>by
  have hcl:=hS t ht
  unfold jH at hcl
  split at hcl
  ·rename_i k hU
   obtain⟨n,rfl,_,hw⟩:=DataW.trod_int hU h
   exact⟨.int k n,rfl,⟨hU,hw⟩,trivial⟩
  ·rename_i hU
   obtain⟨b,rfl,_⟩:=DataW.trod_bool hU h
   exact⟨.bool b,rfl,hU,trivial⟩
  ·rename_i hU
   obtain⟨s,rfl,_,hw⟩:=DataW.trod_string hU h
   exact⟨.str s,rfl,⟨hU,hw⟩,trivial⟩
  ·rename_i T hU
   simp only [Bool.and_eq_true,beq_iff_eq,decide_eq_true_eq,List.contains_iff_mem] at hcl
   obtain⟨⟨h1,h2⟩,h3⟩:=hcl
   rw [h1] at hc
   match cs,hc with
   | [v],_ =>
    obtain⟨ds,hs,hg⟩:=oW (α:=E) (enc:=E.enc) (good:=fun e=>e.enc.length=P.cellsOf T∧e.Ty P T∧e.Re w 0 w.heap.size) hU rfl h2.1 (fun d hd=>hd.1) (fun m cs' y hm hcl' hy=>by
     injection hm with hm
     subst hm
     obtain⟨e,rfl,g2,g3⟩:=sY hS n T cs' y h3 hcl' hy
     exact⟨e,rfl,hcl',g2,g3⟩) h
    obtain⟨A,c,rfl,_,_⟩:=hs.form
    exact⟨.lst (P.cellsOf T) T A c ds,rfl,E.Ty.mk_lst hU rfl (fun x hx=>(hg x hx).2.1) (fun x hx=>(hg x hx).1) h2.2,E.Re.mk hs fun x hx=>(hg x hx).2.2⟩
  ·rename_i F hU
   simp only [Bool.and_eq_true,List.all_eq_true,List.contains_iff_mem] at hcl
   obtain⟨h1,h2⟩:=hcl
   obtain⟨ys,n',hn',hyy,hlen,hyl,hf⟩:=DataW.trod_struct hU h
   injection hn' with hn'
   subst hn'
   obtain⟨_,es,e1,e2,e3⟩:=jY (fun t cs y=>sY hS n t cs y) cs F.toList 0 _ h2 h1 omq (fun f hfm=>by
    obtain⟨i,hi,rfl⟩:=List.getElem_of_mem hfm
    have h5:=hf i F.toList[i] (by rw [←Array.getElem?_toList];exact List.getElem?_eq_getElem _)
    rw [List.getElem?_eq_getElem (by rw [hyl];simpa using hi)] at h5
    exact⟨_,h5⟩)
   rw [List.drop_zero,List.take_of_length_le omq] at e1
   exact⟨.agg es,e1,by simp only [E.Ty];exact⟨F,hU,e2⟩,by simp only [E.Re];exact e3⟩
  ·cases hcl
end
end Go.Proofs.YtmnneflenebgmaaGreat
