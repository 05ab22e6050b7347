/- T -/
import Derived.Test.YtomolhbkdhjofaaGreatDoorProg
import Derived.WalkKit
import Derived.WalkLawsBesides
import Derived.WalkSpells
import Derived.Lib.Hide
import Derived.BigQuiet
import Derived.Deep.QuietTactic
import Derived.Laws.AppendOwnNone
import Derived.Test.YtomolhbkdhjofaaGreatDoorRows
import Derived.ProofKit
import Derived.OpenShut
import Derived.ShutString
import Derived.ChangeOld
import Derived.SizedLaws
import Derived.Deep.Slices
import Derived.Lib.SmallJoins
import Derived.Lib.LaidTab
import Derived.Lib.ItoaNum
import Derived.LaidMore
import Derived.LaidLaws
import Derived.LaidHandle
import Derived.Handed
import Derived.Stop.Joined
import Derived.Stop.LaidErr
set_option maxHeartbeats 0
set_option maxRecDepth 100000
namespace Go.Proofs.YtomolhbkdhjofaaGreatDoor
open Go.RowKit Go.Proofs.Tryz
theorem rqf {p:Prop}(h:p:=by first|rfl|fail):p:=h
theorem krq {p:Prop}(h:p:=by first|kernel_rfl|fail):p:=h
theorem bnt (b:Bool):((!b)=true)=(b=false):=Bool.not_eq_true' b
theorem mge.{u}{α:Type u}{l:List α}{i:Nat}{a:α}(h:l[i]? = some a):a∈l:=List.mem_of_getElem? h
theorem mco.{u}{α:Type u}(y:α){a:α}{l:List α}:a∈l→a∈y :: l:=List.mem_cons_of_mem y
theorem lla.{u}{α:Type u}{x y:List α}:(x++y).length=x.length+y.length:=List.length_append
theorem nlr (n:Nat):n≤n:=Nat.le_refl n
theorem mcs.{u}{α:Type u}{a:α}{l:List α}:a∈a :: l:=List.mem_cons_self
theorem baq (a b:Bool):((a&&b)=true)=(a=true∧b=true):=Bool.and_eq_true a b
theorem dqn {p:Prop}[Decidable p]:decide p=false↔¬p:=decide_eq_false_iff_not
theorem dqt {p:Prop}[Decidable p]:decide p=true↔p:=decide_eq_true_iff
section
variable {w w':World}{b o:Nat}{u:Value}
end
end Go.Proofs.YtomolhbkdhjofaaGreatDoor
namespace Go.Proofs.YtomolhbkdhjofaaGreatDoor
open Go.ChangeShapes Go.WideShapes Go.ChangeAt Go.RowKit Go.Proofs.Tryz
theorem own:ownKnob prog.godebug=none:=by kernel_rfl
theorem zl3:laidOutB prog=true:=by kernel_rfl
section
variable {H:Type}{enc:TypeId×Value→H}{P:Program}
theorem js (hl:laidOutB P=true){W W':World}(hb:Below W.heap.size W W'):∀(ts:List TypeId) (vs:List Value) (ds:List (DataW H)) (ps:List MemPlace),
 (∀t∈ts,P.readableRec t=true∧t<P.types.size)→DataW.TrodAll enc P W 0 (fun _=>true) true ts vs ds ps →
 DataW.TrodAll enc P W' 0 (fun b=>decide (b<W.heap.size)) true ts vs ds ps
 | [],vs,ds,ps,_,h=>by
  cases vs<;>cases ds<;>simp_all [DataW.TrodAll]
 | t :: ts,vs,ds,ps,ht,h=>by
  obtain⟨v,vs',d,ds',p,q,rfl,rfl,rfl,h0,h1⟩:=trodAll_cons h
  have hlt:∀x∈p,x.block<W.heap.size:=by obtain⟨m,hm⟩:=h0;exact DataW.trod_lt m _ _ _ hm
  exact⟨p,q,Below.trod hl (ht t (by simp)).1 (ht t (by simp)).2 h0 hb hlt,js hl hb ts vs' ds' q (fun x hx=>ht x (by simp [hx])) h1,rfl⟩
theorem lF {w:World}{base:Nat}{spare:Nat→Bool}{held:Bool}:∀(ts:List TypeId) (vs:List Value) (ds:List (DataW H)) (ps:List MemPlace),DataW.TrodAll enc P w base spare held ts vs ds ps→ds.length=ts.length
 | [],vs,ds,ps,h=>by cases vs<;>cases ds<;>simp_all [DataW.TrodAll]
 | t :: ts,vs,ds,ps,h=>by
  obtain⟨v,vs',d,ds',p,q,rfl,rfl,rfl,h0,h1⟩:=trodAll_cons h
  simp [lF ts vs' ds' q h1]
def IsLaw (s:ChangeSpec)(n:Nat):Prop:=s.vars=[]∧∀(H:Type) (ds:List (DataW H)),ds.length=n→(s.fn H ds).results=[.lit (.bool true)]∧(s.fn H ds).args=ds∧(s.fn H ds).vars=[]
theorem ze7 {s:ChangeSpec}(hv:s.vars=[])(h:∀(H:Type) (d:DataW H),s.fn H [d]={ results:=[.lit (.bool true)],args:=[d] }):IsLaw s 1 :=
 ⟨hv,fun H ds hl=>by match ds,hl with|[d],_=>rw [h];exact⟨rfl,rfl,rfl⟩⟩
theorem yF {f:FuncId}{fn:Func}{s:ChangeSpec}{tb:TypeId}(hl:laidOutB P=true)(hread:∀t∈fn.params.toList,P.readableRec t=true∧t<P.types.size)
 (hr:fn.resultTypes=#[tb]) (hB:P.underlying tb=some .bool) (hs:IsLaw s fn.params.toList.length)
 {W:World} {args:Array Value} {ds gs:List (DataW H)} {before:List MemPlace} (hW:DataW.Whole enc P fn.params.toList s.vars false W args.toList ds gs before)
 (walk:Calls P f args W fun e W'=>e=.returned (.bool true)∧Below W.heap.size W W') :
 Calls P f args W fun e W'=>∃v,e=.returned v∧s.post enc P fn false true false false W args v W':=by
 refine walk.mono fun e W' ⟨he,hb⟩=>?_
 have hW':=hW
 obtain⟨p,q,hA,hV,rfl,hfz,hnd⟩:=hW
 rw [hs.1] at hV
 obtain⟨rfl,rfl⟩:=trodVars_none hV
 have hlen:=lF _ _ _ _ hA
 obtain⟨h1,h2,h3⟩:=hs.2 H ds hlen
 refine⟨_,he,ds,[],_,[],p,[],hW',?_,?_,?_,hb.frame _,fun h=>by cases h⟩
 ·rw [List.append_nil,h1,hr]
  exact trodAll_mk1 (shut_bool hB _)
 ·rw [List.append_nil,h2]
  exact js hl hb _ _ _ _ hread hA
 ·rw [List.append_nil,h3,hs.1]
  rfl
end
end Go.Proofs.YtomolhbkdhjofaaGreatDoor
namespace Go.Proofs.YtomolhbkdhjofaaGreatDoor
open Go.RowKit Go.Proofs.Tryz
theorem omq {p:Prop}(h:p:=by first|omega|fail):p:=h
section
variable {α:Type}{w w':World}{lo hi lo' hi' k:Nat}{enc:α→List Value}{v:Value}{ds:List α}
def Sl (w:World)(lo hi k:Nat)(enc:α→List Value)(v:Value)(ds:List α):Prop :=
 ∃A c,v=.slice A ds.length c∧ds.length≤c∧(c≤maxLen∧(A=none→c=0)) ∧
  (0<ds.length→∃b o,A=some ⟨b,o,none⟩∧lo≤b∧b<hi∧∀i (h:i<ds.length) j u,(enc ds[i])[j]? = some u→w.cell? ⟨b,o+i*k+j,none⟩=some u)
theorem Sl.len_le (h:Sl w lo hi k enc v ds):ds.length≤9223372036854775807:=by
 obtain⟨A,c,_,h1,⟨h2,_⟩,_⟩:=h;unfold maxLen at h2;omega
theorem Sl.len_eq {A:Option Addr}{n c:Nat}(h:Sl w lo hi k enc (.slice A n c) ds):n=ds.length:=by
 obtain⟨A',c',e,_⟩:=h;injection e
theorem Sl.keep (h:Sl w lo hi k enc v ds)(hk:∀p:Addr,lo≤p.block→p.block<hi→w'.cell? p=w.cell? p):Sl w' lo hi k enc v ds:=by
 obtain⟨A,c,e,h1,h2,h3⟩:=h
 refine⟨A,c,e,h1,h2,fun hn=>?_⟩
 obtain⟨b,o,eA,hl,hb,hc⟩:=h3 hn
 exact⟨b,o,eA,hl,hb,fun i hi j u hu=>(hk ⟨b,_,none⟩ hl hb).trans (hc i hi j u hu)⟩
theorem Sl.wider (h:Sl w lo hi k enc v ds)(h1:lo'≤lo)(h2:hi≤hi'):Sl w lo' hi' k enc v ds:=by
 obtain⟨A,c,e,g1,g2,h3⟩:=h
 refine⟨A,c,e,g1,g2,fun hn=>?_⟩
 obtain⟨b,o,eA,hl,hb,hc⟩:=h3 hn
 exact⟨b,o,eA,omq,omq,hc⟩
theorem Sl.below {B:Nat}(h:Sl w lo hi k enc v ds)(hb:Below B w w')(hB:hi≤B):Sl w' lo hi k enc v ds :=
 h.keep fun _ _ hp=>hb.cell omq
theorem Sl.alloc (h:Sl w lo hi k enc v ds)(hB:hi≤w.heap.size)(o:Obj):Sl (w.alloc o) lo hi k enc v ds:=h.below (B:=w.heap.size) ((Below.refl _ _).alloc (nlr _) o) hB
theorem Sl.setCell (h:Sl w lo hi k enc v ds){p:Addr}(hB:hi≤p.block)(u:Value):Sl (w.setCell p u) lo hi k enc v ds:=h.below (B:=hi) ((Below.refl _ _).setCell hB u) (nlr _)
theorem Sl.at_ {A:Option Addr}{n c:Nat}(h:Sl w lo hi k enc (.slice A n c) ds){i:Nat}(hi_:i<ds.length) :
 ∃b o,A=some ⟨b,o,none⟩∧lo≤b∧b<hi∧∀j u,(enc ds[i])[j]? = some u→w.cell? ⟨b,o+i*k+j,none⟩=some u:=by
 obtain⟨A',c',e,_,_,h3⟩:=h
 obtain⟨b,o,eA,hl,hb,hc⟩:=h3 omq
 injection e with e1 e2 e3
 exact⟨b,o,e1.trans eA,hl,hb,fun j u hu=>hc i hi_ j u hu⟩
theorem Sl.at1 {A:Option Addr}{n c:Nat}(h:Sl w lo hi 1 enc (.slice A n c) ds){i:Nat}(hi_:i<ds.length) :
 ∃b o,A=some ⟨b,o,none⟩∧lo≤b∧b<hi∧∀u,enc ds[i]=[u]→w.cell? ⟨b,o+i,none⟩=some u:=by
 obtain⟨b,o,e,h1,h2,hc⟩:=h.at_ hi_
 exact⟨b,o,e,h1,h2,fun u hu=>by simpa using hc 0 u (by rw [hu];rfl)⟩
end
def yy (c:UInt8):List Value:=[.int .u8 c.toNat]
def Fill (w:World)(g:Nat)(e:TypeId)(N m:Nat)(xs:List Value):Prop :=
 ∃cur,w.heap[g]? = some (.cells cur e (0,0))∧cur.size=N∧∀j,j<m→cur[j]? = xs[j]?
section
variable {w w':World}{g:Nat}{e:TypeId}{N m:Nat}{xs:List Value}
theorem Fill.lt (h:Fill w g e N m xs):g<w.heap.size:=by
 obtain⟨cur,hh,_⟩:=h
 rcases Nat.lt_or_ge g w.heap.size with hlt|hge
 ·exact hlt
 ·rw [Array.getElem?_eq_none hge] at hh;cases hh
theorem Fill.cell (h:Fill w g e N m xs){j:Nat}(hj:j<N):∃u,w.cell? ⟨g,j,none⟩=some u:=by
 obtain⟨cur,hh,hs,_⟩:=h
 exact⟨cur[j]'omq,by rw [cell_of_row w g j cur e (0,0) hh];exact Array.getElem?_eq_getElem omq⟩
theorem Fill.of_block (h:Fill w g e N m xs)(hb:w'.heap[g]? = w.heap[g]?):Fill w' g e N m xs:=by
 obtain⟨cur,hh,hs,hc⟩:=h
 exact⟨cur,hb.trans hh,hs,hc⟩
theorem Fill.below {B:Nat}(h:Fill w g e N m xs)(hb:Below B w w')(hg:g<B):Fill w' g e N m xs:=h.of_block (hb.block g hg)
theorem Fill.alloc (h:Fill w g e N m xs)(o:Obj):Fill (w.alloc o) g e N m xs:=h.of_block (Below.heap_alloc w o g h.lt)
theorem Fill.set (h:Fill w g e N m xs)(hm:m<N){u:Value}(hu:xs[m]? = some u):Fill (w.setCell ⟨g,m,none⟩ u) g e N (m+1) xs:=by
 obtain⟨cur,hh,hs,hc⟩:=h
 refine⟨cur.setIfInBounds m u,by simp [World.setCell,Array.getElem?_modify,hh],by simpa using hs,fun j hj=>?_⟩
 rw [Array.getElem?_setIfInBounds]
 by_cases hmm:m=j
 ·subst hmm;rw [if_pos rfl,if_pos omq,hu]
 ·rw [if_neg hmm];exact hc j omq
end
theorem uY {α:Type}{enc:α→List Value}{k:Nat}(hk:∀d,(enc d).length=k):∀(ds:List α) (i:Nat) (h:i<ds.length) (j:Nat),j<k→(ds.flatMap enc)[i*k+j]? = (enc ds[i])[j]?
 | [],i,h,_,_=>absurd h (by simp)
 | d :: ds,0,h,j,hj=>by
  rw [List.flatMap_cons,Nat.zero_mul,Nat.zero_add,List.getElem?_append_left (by rw [hk];exact hj)];rfl
 | d :: ds,i+1,h,j,hj=>by
  have e1:(i+1)*k+j=k+(i*k+j):=by rw [Nat.add_mul];omega
  rw [List.flatMap_cons,e1,List.getElem?_append_right (by rw [hk];omega),hk,Nat.add_sub_cancel_left]
  exact uY hk ds i (by simpa using h) j hj
structure Kp (lo hi:Nat)(w w':World):Prop where
 os:w'.os=w.os
 tape:w'.tape=w.tape
 output:w'.output=w.output
 size:w.heap.size≤w'.heap.size
 block:∀k,k<w.heap.size→(k<lo∨hi≤k)→w'.heap[k]? = w.heap[k]?
section
variable {lo hi B:Nat}{a b c w:World}
theorem Kp.refl (lo hi:Nat)(w:World):Kp lo hi w w:=⟨rfl,rfl,rfl,nlr _,fun _ _ _=>rfl⟩
theorem Kp.trans (h:Kp lo hi a b)(k:Kp lo hi b c):Kp lo hi a c :=
 ⟨k.os.trans h.os,k.tape.trans h.tape,k.output.trans h.output,Nat.le_trans h.size k.size,fun i hi hh=>(k.block i (Nat.lt_of_lt_of_le hi h.size) hh).trans (h.block i hi hh)⟩
theorem Kp.set (h:Kp lo hi a w){p:Addr}(h1:lo≤p.block)(h2:p.block<hi)(u:Value):Kp lo hi a (w.setCell p u) :=
 ⟨h.os,h.tape,h.output,by simpa using h.size,fun k hk hh=>(Below.heap_setCell w p u k omq).trans (h.block k hk hh)⟩
theorem Kp.below (h:Kp lo hi a b)(h1:B≤lo)(h2:B≤a.heap.size):Below B a b:=⟨h.os,h.tape,h.output,h.size,fun k hk=>h.block k omq omq⟩
theorem Kp.wider {lo' hi':Nat}(h:Kp lo hi a b)(h1:lo'≤lo)(h2:hi≤hi'):Kp lo' hi' a b:=⟨h.os,h.tape,h.output,h.size,fun k hk hh=>h.block k hk omq⟩
end
def Ow (w:World)(lo hi:Nat)(e:TypeId)(k:Nat)(v:Value)(n:Nat)(xs:List Value):Prop :=
 w.ownsRow lo e k v n xs∧∀b,v.ownBlock=some b→b<hi
section
variable {w w':World}{lo hi lo' hi' k n:Nat}{e:TypeId}{v:Value}{xs:List Value}
theorem Ow.of_block (h:Ow w lo hi e k v n xs)(hb:∀g,lo≤g→g<hi→g<w.heap.size→w'.heap[g]? = w.heap[g]?):Ow w' lo hi e k v n xs:=by
 obtain⟨⟨hl,h|⟨g,cap,cur,rfl,hg,hh,hn,hc,hs,ht⟩⟩,hh2⟩:=h
 ·exact⟨⟨hl,.inl h⟩,hh2⟩
 ·exact⟨⟨hl,.inr ⟨g,cap,cur,rfl,hg,(hb g hg (hh2 g rfl) (by
   rcases Nat.lt_or_ge g w.heap.size with hlt|hge
   ·exact hlt
   ·rw [Array.getElem?_eq_none hge] at hh;cases hh)).trans hh,hn,hc,hs,ht⟩⟩,hh2⟩
theorem Ow.below {B:Nat}(h:Ow w lo hi e k v n xs)(hb:Below B w w')(hB:hi≤B):Ow w' lo hi e k v n xs :=
 h.of_block fun g _ hg _=>hb.block g omq
theorem Ow.wider (h:Ow w lo hi e k v n xs)(h1:lo'≤lo)(h2:hi≤hi'):Ow w lo' hi' e k v n xs:=by
 obtain⟨⟨hl,h|⟨g,cap,cur,rfl,hg,hh⟩⟩,hh2⟩:=h
 ·exact⟨⟨hl,.inl h⟩,fun b hb=>by have:=hh2 b hb;omega⟩
 ·exact⟨⟨hl,.inr ⟨g,cap,cur,rfl,omq,hh⟩⟩,fun b hb=>by have:=hh2 b hb;omega⟩
theorem Ow.of_owns (h:w.ownsRow lo e k v n xs)(hh:w.heap.size≤hi):Ow w lo hi e k v n xs:=by
 refine⟨h,fun b hb=>?_⟩
 have:=(h.lt b hb).2
 omega
theorem Ow.set {g c:Nat}(h:Ow w lo hi e k (.slice (some ⟨g,0,none⟩) n c) n xs)(j:Nat)(u:Value):Ow (w.setCell ⟨g,j,none⟩ u) lo hi e k (.slice (some ⟨g,0,none⟩) n c) n (xs.set j u) :=
 ⟨(h.1.stored j u).1,h.2⟩
end
def Own {α:Type}(w:World)(lo hi:Nat)(e:TypeId)(k:Nat)(enc:α→List Value)(v:Value)(ds:List α):Prop :=
 Ow w lo hi e k v ds.length (ds.flatMap enc)
section
variable {α:Type}{w w':World}{lo hi lo' hi' k:Nat}{e:TypeId}{enc:α→List Value}{v:Value}{ds:List α}
theorem Own.sl (hk:∀d,(enc d).length=k)(h:Own w lo hi e k enc v ds):Sl w lo hi k enc v ds:=by
 obtain⟨⟨hl,h|⟨g,cap,cur,rfl,hg,hh,hn,hc,hs,ht⟩⟩,hb⟩:=h
 ·obtain⟨rfl,hn⟩:=h
  exact⟨none,0,by rw [hn],omq,⟨by unfold maxLen;omega,fun _=>rfl⟩,fun hp=>absurd hp omq⟩
 ·refine⟨_,cap,rfl,hn,⟨hc,fun h=>by cases h⟩,fun _=>⟨g,0,rfl,hg,hb g rfl,fun i hi j u hu=>?_⟩⟩
  rw [cell_of_row w g _ cur e (0,0) hh,Nat.zero_add]
  have hj:j<k:=by
   rcases Nat.lt_or_ge j k with h|h
   ·exact h
   ·rw [List.getElem?_eq_none (by rw [hk];exact h)] at hu;cases hu
  have hlt:i*k+j<ds.length*k:=by
   have:=Nat.mul_le_mul_right k (show i+1≤ds.length from hi)
   rw [Nat.add_mul] at this;omega
  rw [←Array.getElem?_toList]
  have:=uY hk ds i hi j hj
  rw [←ht,List.getElem?_take_of_lt hlt] at this
  rw [this,hu]
theorem Own.below {B:Nat}(h:Own w lo hi e k enc v ds)(hb:Below B w w')(hB:hi≤B):Own w' lo hi e k enc v ds:=Ow.below h hb hB
theorem Own.wider (h:Own w lo hi e k enc v ds)(h1:lo'≤lo)(h2:hi≤hi'):Own w lo' hi' e k enc v ds:=Ow.wider h h1 h2
theorem Own.of_owns (h:w.ownsRow lo e k v ds.length (ds.flatMap enc))(hh:w.heap.size≤hi):Own w lo hi e k enc v ds:=Ow.of_owns h hh
theorem Own.alloc (h:Own w lo hi e k enc v ds)(hB:hi≤w.heap.size)(o:Obj):Own (w.alloc o) lo hi e k enc v ds:=h.below (B:=w.heap.size) ((Below.refl _ _).alloc (nlr _) o) hB
theorem Own.setCell (h:Own w lo hi e k enc v ds){p:Addr}(hB:hi≤p.block)(u:Value):Own (w.setCell p u) lo hi e k enc v ds:=h.below (B:=hi) ((Below.refl _ _).setCell hB u) (nlr _)
end
def Mk (w:World)(lo hi:Nat)(e:TypeId)(sz:Nat)(f:Nat→Int→Value)(v:Value)(n:Nat)(k:Int):Prop :=
 ∃xs,Ow w lo hi e sz v n xs∧∀i j,i<n→j<sz→xs[i*sz+j]? = some (f j (k+(i*sz+j:Nat)))
section
variable {w w':World}{lo hi lo' hi' sz n:Nat}{e:TypeId}{f:Nat→Int→Value}{v:Value}{k:Int}
theorem Mk.below {B:Nat}(h:Mk w lo hi e sz f v n k)(hb:Below B w w')(hB:hi≤B):Mk w' lo hi e sz f v n k:=by
 obtain⟨xs,h1,h2⟩:=h;exact⟨xs,h1.below hb hB,h2⟩
theorem Mk.alloc (h:Mk w lo hi e sz f v n k)(hB:hi≤w.heap.size)(o:Obj):Mk (w.alloc o) lo hi e sz f v n k:=h.below (B:=w.heap.size) ((Below.refl _ _).alloc (nlr _) o) hB
theorem Mk.setCell (h:Mk w lo hi e sz f v n k){p:Addr}(hB:hi≤p.block)(u:Value):Mk (w.setCell p u) lo hi e sz f v n k:=h.below (B:=hi) ((Below.refl _ _).setCell hB u) (nlr _)
end
def El (P:Program)(t e:TypeId)(k bytes:Nat):Prop :=
 P.underlying t=some (.slice e)∧∃z:Value,(P.info? e).map (fun i=>(i.zero,i.size,i.bytes))=some (some z,k,bytes)∧z.cells.size=k∧0<k∧0<bytes
theorem El.mk {P:Program}{t e:TypeId}{k bytes:Nat}{z:Value}(h1:P.underlying t=some (.slice e))(h2:(P.info? e).map (fun i=>(i.zero,i.size,i.bytes))=some (some z,k,bytes))(h3:z.cells.size=k)(h4:0<k)(h5:0<bytes):El P t e k bytes:=⟨h1,z,h2,h3,h4,h5⟩
def Rd {α:Type}(w:World)(k:Nat)(enc:α→List Value)(v:Value)(ds:List α):Prop:=Sl w 0 w.heap.size k enc v ds
section
variable {α:Type}{w w':World}{lo hi k:Nat}{e:TypeId}{enc:α→List Value}{v:Value}{ds:List α}
theorem Sl.rd (h:Sl w lo hi k enc v ds)(hi_:hi≤w.heap.size):Rd w k enc v ds:=h.wider (Nat.zero_le _) hi_
theorem Rd.sl (h:Rd w k enc v ds):Sl w 0 w.heap.size k enc v ds:=h
theorem Own.rd (hk:∀d,(enc d).length=k)(h:Own w lo hi e k enc v ds):Rd w k enc v ds:=by
 obtain⟨A,c,hv,h1,h2,h3⟩:=h.sl hk
 refine⟨A,c,hv,h1,h2,fun hn=>?_⟩
 obtain⟨b,o,hA,_,_,hc⟩:=h3 hn
 subst hv;subst hA
 exact⟨b,o,rfl,Nat.zero_le _,(h.1.lt b rfl).2,hc⟩
theorem Rd.below {B:Nat}(h:Rd w k enc v ds)(hb:Below B w w')(hB:w.heap.size≤B):Rd w' k enc v ds:=(Sl.below h hb hB).wider (nlr _) hb.size
theorem Rd.alloc (h:Rd w k enc v ds)(o:Obj):Rd (w.alloc o) k enc v ds:=(Sl.alloc h (nlr _) o).wider (nlr _) (by simp)
theorem Rd.len_le (h:Rd w k enc v ds):ds.length≤9223372036854775807:=Sl.len_le h
end
end Go.Proofs.YtomolhbkdhjofaaGreatDoor
namespace Go.Proofs.YtomolhbkdhjofaaGreatDoor
open Go.ChangeShapes Go.WideShapes Go.ChangeAt Go.RowKit Go.Deep Go.Proofs.Tryz
section
variable {H:Type}{en:TypeId×Value→H}{P:Program}{w:World}{spare:Nat→Bool}{held:Bool}
theorem zm3 {a:Addr}{u:Value}(h:w.cell? a=some u):a.block<w.heap.size:=by
 rcases Nat.lt_or_ge a.block w.heap.size with hlt|hge
 ·exact hlt
 ·unfold World.cell? at h
  rw [Array.getElem?_eq_none hge] at h
  cases h
theorem oW {b o:Nat}(n:Nat):(⟨b,o,none⟩:Addr).add n=⟨b,o+n,none⟩:=by
 unfold Addr.add;split
 ·subst_vars;rfl
 ·rfl
theorem tB {n:Int}(h:(Lit.int .i64 n).wf=true) : -9223372036854775808≤n∧n≤9223372036854775807:=by
 simp [Lit.wf,IntKind.min,IntKind.max,IntKind.signed,IntKind.bits] at h
 omega
theorem tC {α:Type}{t e:TypeId}{k fuel:Nat}{enc:α→List Value}{uV:α→Prop}{v:Value}{x:DataW H×List MemPlace}(ht:P.underlying t=some (.slice e))(hk:P.cellsOf e=k)(hk0:0<k)
 (hlen:∀d,(enc d).length=k) (dec:∀(n:Nat) (cs:List Value) (y:DataW H×List MemPlace),DataW.trod en P w 0 spare held n e cs=some y→∃d,cs=enc d∧uV d)
 (h:DataW.trod en P w 0 spare held fuel t [v]=some x):∃ds:List α,Sl w 0 w.heap.size k enc v ds∧∀d∈ds,uV d:=by
 rcases open_slice ht h with ⟨hcs,_⟩|⟨a,len,cap,m,n,D,Pl,hcs,hb,hl,hm,hmm,hx,hi⟩
 ·obtain rfl:v=.slice none 0 0:=by simpa using hcs
  exact⟨[],⟨none,0,rfl,by simp,⟨by unfold maxLen;omega,fun _=>rfl⟩,fun h=>absurd h (by simp)⟩,fun d hd=>absurd hd (by simp)⟩
 ·obtain rfl:v=.slice (some a) len cap:=by simpa using hcs
  have hlm:len≤m:=by rw [hmm];split<;>omega
  have key:∀i,i<len→∃d:α,uV d∧∀j,j<k→w.cell? ((a.add (i*k)).add j)=(enc d)[j]? := by
   intro i hi'
   obtain⟨cs',hc,htr⟩:=hi i omq
   rw [hk] at hc
   obtain⟨_,hcl,hat⟩:=World.cells?_some hc
   obtain⟨d,rfl,hg⟩:=dec n cs' _ htr
   exact⟨d,hg,fun j hj=>hat j hj⟩
  rcases Nat.eq_zero_or_pos len with h0|h0
  ·subst h0
   exact⟨[],⟨some a,cap,by simp,by simp,⟨hm,fun h=>by cases h⟩,fun h=>absurd h (by simp)⟩,fun d hd=>absurd hd (by simp)⟩
  haveI:Inhabited α:=⟨(key 0 h0).choose⟩
  obtain⟨F,hF⟩:=choose_lt key
  refine⟨(List.range len).map F,⟨some a,cap,by simp,by simpa using hl,⟨hm,fun h=>by cases h⟩,fun hpos=>?_⟩,?_⟩
  ·have hpos':0<len:=by simpa using hpos
   have h00:=(hF 0 hpos').2 0 hk0
   have hu:(enc (F 0))[0]? = some ((enc (F 0))[0]'(by rw [hlen];exact hk0)):=List.getElem?_eq_getElem _
   rw [hu,Nat.zero_mul] at h00
   have e00:(a.add 0).add 0=a:=by simp [Addr.add]
   rw [e00] at h00
   have hs:=World.cell?_spot h00
   obtain⟨b,o,sp⟩:=a
   simp only at hs
   subst hs
   refine⟨b,o,rfl,Nat.zero_le _,zm3 h00,fun i hil j u hu=>?_⟩
   have hil':i<len:=by simpa using hil
   have hj:j<k:=by
    rcases Nat.lt_or_ge j k with h|h
    ·exact h
    ·rw [List.getElem?_eq_none (by rw [hlen];exact h)] at hu;cases hu
   have:=(hF i hil').2 j hj
   rw [oW,oW] at this
   rw [this]
   simpa using hu
  ·intro d hd
   obtain⟨i,hi',rfl⟩:=List.mem_map.1 hd
   exact (hF i (List.mem_range.1 hi')).1
theorem yG {t e:TypeId}{fuel:Nat}{v:Value}{x:DataW H×List MemPlace}(ht:P.underlying t=some (.slice e))(he:P.underlying e=some (.int .u8))(hk:P.cellsOf e=1)
 (h:DataW.trod en P w 0 spare held fuel t [v]=some x):∃ds:List UInt8,Sl w 0 w.heap.size 1 yy v ds∧∀d∈ds,True :=
 tC ht hk omq (fun _=>rfl) (fun n cs y hy=>by
  obtain⟨s,rfl,_,hs⟩:=DataW.trod_int he hy
  simp [Lit.wf,IntKind.min,IntKind.max,IntKind.signed,IntKind.bits] at hs
  exact⟨UInt8.ofNat s.toNat,by simp [yy];omega,trivial⟩) h
end
end Go.Proofs.YtomolhbkdhjofaaGreatDoor
namespace Go.Proofs.YtomolhbkdhjofaaGreatDoor
open Go.RowKit Go.Proofs.Tryz
def gvsA:List (Nat×(Array Value→Prop)):=[(3,fun cs=>cs=(Lib.pow10Tab.map fun z=>Value.int .u64 z).toArray)]
def gvsB:List (Nat×(Array Value→Prop)):=[(2,fun cs=>∃te pe,cs=#[.iface te pe])]
def gvs:List (Nat×(Array Value→Prop)):=gvsA++gvsB
def isG (b:Nat):Prop:=∃p∈gvs,p.1=b
def GlobOk (w:World):Prop:=∀p∈gvs,∃cs T fr,w.heap[p.1]? = some (.cells cs T fr)∧p.2 cs
def Gl (w:World):Prop:=GlobOk w
theorem GlobOk.keep {w w':World}(h:GlobOk w)(hb:∀b,isG b→w'.heap[b]? = w.heap[b]?):GlobOk w':=fun p hp=>by
 obtain⟨cs,T,fr,e,h1⟩:=h p hp
 exact⟨cs,T,fr,(hb p.1 ⟨p,hp,rfl⟩).trans e,h1⟩
theorem Gl.lt {w:World}(h:Gl w){b:Nat}(hb:isG b):b<w.heap.size:=by
 obtain⟨p,hp,rfl⟩:=hb
 obtain⟨cs,T,fr,e,_⟩:=h p hp
 exact (Array.getElem?_eq_some_iff.1 e).1
theorem Gl.below {w w':World}{B:Nat}(h:Gl w)(hb:Below B w w')(hB:w.heap.size≤B):Gl w':=GlobOk.keep h fun b hg=>hb.block b (Nat.lt_of_lt_of_le (h.lt hg) hB)
theorem uZ {w:World} (h:Gl w):Lib.TabIs prog w "internal/strconv.uint64pow10" .u64 Lib.pow10Tab:=by
 obtain⟨cs,T,fr,e,rfl⟩:=h _ (List.mem_append_left _ mcs)
 unfold Lib.TabIs World.var?
 have hg:(prog).globalNamed "internal/strconv.uint64pow10"=some 3:=by kernel_rfl
 rw [hg]
 simp only [Option.bind_some]
 rw [show (w.heap[3]? = _) from e]
theorem tD {w:World}(h:Gl w):∃te pe,w.cell? ⟨2,0,none⟩=some (.iface te pe):=by
 obtain⟨cs,T,fr,e,te,pe,rfl⟩:=h _ (List.mem_append_right _ mcs)
 refine⟨te,pe,?_⟩
 unfold World.cell?
 rw [show (w.heap[2]? = _) from e]
 rfl
end Go.Proofs.YtomolhbkdhjofaaGreatDoor
namespace Go.Proofs.YtomolhbkdhjofaaGreatDoor
open Go.ChangeShapes Go.WideShapes Go.ChangeAt Go.RowKit Go.Proofs.Tryz
def laidR:List (String×DataW Unit):=[("strconv.ErrRange",Rows.laid_strconv_ErrRange),("strconv.ErrSyntax",Rows.laid_strconv_ErrSyntax)]
def qo:List (String×DataW Unit):=("math/bits.deBruijn32tab",Rows.laid_math_bits_deBruijn32tab) :: ("math/bits.deBruijn64tab",Rows.laid_math_bits_deBruijn64tab) :: ("internal/strconv.uint64pow10",Rows.laid_internal_strconv_uint64pow10) :: laidR
def u5:Nat:=400
theorem yH (os:Os)(args:Array Value):laidMetH prog qo ((World.doorLaid prog u5 os).forCall (fun _ _=>0) ⟨#[],args,[]⟩).memory :=
 laidMetH_of_parts3 (fuel:=8) (laidMet_of_run' 8 krq krq) krq krq
theorem tE {W:World}(h:laidMetH prog qo W):Gl W:=by
 have h1:laidMet prog qo W:=h
 have h2:=laidMet.tail (laidMet.tail h1)
 have h3:laidMet prog (("internal/strconv.uint64pow10",Lib.tabData .u64 Lib.pow10Tab) :: laidR) W:=h2
 have hg:(prog).globalNamed "internal/strconv.uint64pow10"=some 3:=by kernel_rfl
 have h4:Lib.TabIs prog W "internal/strconv.uint64pow10" .u64 Lib.pow10Tab:=Lib.tabIs_of_head (t:=165) (e:=141) (n:=20) hg krq krq underlying141 krq krq h3
 have hA:∀p∈gvsA,∃cs T fr,W.heap[p.1]? = some (.cells cs T fr)∧p.2 cs:=fun p hp=>by
  obtain rfl:=List.mem_singleton.1 hp
  unfold Lib.TabIs World.var? at h4
  rw [hg] at h4
  simp only [Option.bind_some] at h4
  split at h4
  ·rename_i cs T fr he
   injection h4 with h4
   subst h4
   exact⟨_,_,_,he,rfl⟩
  ·cases h4
 have hB:∀p∈gvsB,∃cs T fr,W.heap[p.1]? = some (.cells cs T fr)∧p.2 cs:=fun p hp=>by
  obtain rfl:=List.mem_singleton.1 hp
  obtain⟨ps,⟨g0,t0,cs0,f0,p0,q0,hg0,ht0,hv0,hd0,_,e0⟩,_,_⟩:=laidMet.tail h3
  have hgE:(prog).globalNamed "strconv.ErrRange"=some 2:=by kernel_rfl
  have htE:((prog).globals[2]?).map (·.type)=some 83:=by kernel_rfl
  obtain rfl:=Option.some.inj (hgE.symm.trans hg0)
  obtain rfl:=Option.some.inj (htE.symm.trans ht0)
  obtain⟨l0⟩:=cs0
  obtain⟨_,u,v,e1,_,_⟩:=iface_of_trod underlying83 hd0
  have e1':l0=[.iface u v]:=e1
  subst e1'
  unfold World.var? at hv0
  rw [hgE] at hv0
  simp only [Option.bind_some] at hv0
  split at hv0
  ·rename_i cs T fr he
   injection hv0 with hv0
   subst hv0
   exact⟨_,_,_,he,u,v,rfl⟩
  ·cases hv0
 exact fun p hp=>(List.mem_append.1 hp).elim (hA p) (hB p)
theorem lG {f:FuncId}{fn:Func}{s:ChangeSpec}{tb:TypeId}{os:Os}(started:os.Started)(H:Type)(enc:TypeId×Value→H)
 (noInit:Tryz.checked.prog.inits.idxOf? f=none) (hfn:Tryz.checked.prog.funcs[f]? = some fn)
 (hread:fn.params.toList.all (fun t=>prog.readableRec t&&decide (t<prog.types.size))=true)
 (hr:fn.resultTypes=#[tb]) (hB:prog.underlying tb=some .bool) (hs:IsLaw s fn.params.toList.length)
 (args0:Array Value)
 (hok:Input.okWideB Tryz.checked.prog ((World.doorLaid prog u5 os).forCall (fun _ _=>0) ⟨#[],args0,[]⟩) f ⟨#[],args0,[]⟩=true)
 (hpre:s.preB enc Tryz.checked.prog fn [] false ((World.doorLaid prog u5 os).forCall (fun _ _=>0) ⟨#[],args0,[]⟩).memory args0 8=true)
 (hsz:s.sizedB enc Tryz.checked.prog fn false ((World.doorLaid prog u5 os).forCall (fun _ _=>0) ⟨#[],args0,[]⟩).memory args0 8=true)
 (walk:∀(W:World) (base:Nat) (args:Array Value) (ds:List (DataW H)) (ps:List MemPlace),Gl W →
   (∀(j:Nat) t v,fn.params[j]? = some t→args[j]? = some v→Value.okWide prog W .any base t v) →
   DataW.TrodAll enc prog W 0 (fun _=>true) true fn.params.toList args.toList ds ps →
   (DataW.weightsEach prog fn.params.toList ds).all (·≤ reachBytes)=true →
   Calls prog f args W fun e W'=>e=.returned (.bool true)∧Below W.heap.size W W') :
 ReturnsInHanded {} Tryz.checked os f .any (fun w args=>(s.pre enc prog fn [] false w args∧laidMetH prog qo w)∧sizedMet enc prog fn (OpenSpec.ofChange s) false w args) (s.post enc prog fn false true false false):=by
 refine returnsInHanded_of_change_and (C:=Tryz.checked) (X:=fun w _=>laidMetH prog qo w) (fun _ _ _ hh h=>h.of_heap hh) own started noInit hfn
  (ChangeSpec.witness_shaped (enc:=enc) (C:=Tryz.checked) (os:=os) (X:=fun w _=>laidMetH prog qo w) false (World.doorLaid prog u5 os) args0 8 rfl (World.shaped_of_RefB krq krq) hok hpre hsz (yH os _)) ?_
 intro W base args ds gs before hval hW _ hsz hL _
 have hread':∀t∈fn.params.toList,prog.readableRec t=true∧t<prog.types.size:=fun t ht=>by
  have h:=List.all_eq_true.1 hread t ht
  rw [baq] at h
  exact⟨h.1,of_decide_eq_true h.2⟩
 obtain⟨p,q,hA,hV,_,_,_⟩:=id hW
 rw [hs.1] at hV
 obtain⟨rfl,rfl⟩:=trodVars_none hV
 refine yF (P:=prog) zl3 hread' hr hB hs hW (walk W base args ds p (tE hL) hval hA ?_)
 have e:s.plain.varTypes Tryz.checked.prog=[]:=by
  have:s.plain.vars=[]:=hs.1
  simp [DataSpec.varTypes,this]
 rw [e,List.append_nil,List.append_nil] at hsz
 exact hsz
end Go.Proofs.YtomolhbkdhjofaaGreatDoor
