/- T -/
import Derived.Test.YtmnneflenebgmaaGreatProg
import Derived.WalkKit
import Derived.WalkLawsBesides
import Derived.WalkSpells
import Derived.Lib.Hide
import Derived.BigQuiet
import Derived.Deep.QuietTactic
import Derived.Laws.AppendOwnNone
import Derived.Deep.RegionHeld3
import Derived.Deep.RegionWith
set_option maxHeartbeats 0
set_option maxRecDepth 100000
namespace Go.Proofs.YtmnneflenebgmaaGreat
open Go.RowKit Go.Proofs.Tryz
theorem ri {a b:Int}(h:a=b):(Ending.returned (.int .i64 a)=.returned (.int .i64 b)):=by rw [h]
theorem zv2 {B:Nat}{a w:World}(h:Below B a w)(n:Nat):Below B a (w.drewN n):=⟨h.os,h.tape,h.output,h.size,h.block⟩
section
variable {w w':World}{b o:Nat}{u:Value}
theorem dH {cs:Array Value}{t:TypeId}(h:cs[o]? = some u):(w.alloc (.cells cs t)).cell? ⟨w.heap.size,o,none⟩=some u:=by
 rw [cell_of_row _ _ _ _ _ _ (heap_alloc_new w _)];exact h
theorem cell_new' {cs:Array Value}{t:TypeId}{n:Nat}(h:cs[o]? = some u)(hn:w.heap.size=n):(w.alloc (.cells cs t)).cell? ⟨n,o,none⟩=some u:=by subst hn;exact dH h
theorem cQ {x:Obj}(h:w.cell? ⟨b,o,none⟩=some u)(hb:b<w.heap.size):(w.alloc x).cell? ⟨b,o,none⟩=some u :=
 (World.cell?_alloc_lt w x ⟨b,o,none⟩ hb).trans h
theorem aJ {B:Nat}(hb:Below B w w')(h:w.cell? ⟨b,o,none⟩=some u)(hB:b<B):w'.cell? ⟨b,o,none⟩=some u:=(hb.cell (p:=⟨b,o,none⟩) hB).trans h
end
def jW (j:Nat)(v:Value):Obj→Obj
 | .cells c e f=>.cells (c.setIfInBounds j v) e f
 | o=>o
theorem eh (w:World)(g j:Nat)(v:Value)(i:Nat):(w.setCell ⟨g,j,none⟩ v).heap[i]? = if i=g then (w.heap[i]?).map (jW j v) else w.heap[i]? := by
 by_cases h:i=g
 ·subst h
  rw [if_pos rfl]
  simp only [World.setCell,Array.getElem?_modify,if_true]
  congr 1
 ·rw [if_neg h,Below.heap_setCell w _ v i h]
theorem ia {P:Program}{fn:Func}{p:Tmp}{ty t:TypeId}{tmps:Array Value}{w:World}{b:Nat}{cs:Array Value}{fr:Nat×Nat}{fs:Array Field}
 (h:fn.results=#[.cell p ty]) (ha:tmps.getD p undef=.pointer (some ⟨b,0,none⟩)) (ht:P.underlying ty=some (.struct fs))
 (hc:(P.info? ty).map (·.size)=some cs.size)
 (hg:w.heap[b]? = some (.cells cs t fr)):(results fn tmps).run P w=.ok (.agg cs) w:=by
 have ha':tmps[p]?.getD undef=.pointer (some ⟨b,0,none⟩):=by simpa using ha
 have hv:=run_loadVar_row (P:=P) w b t ty cs fr _ hg ht rfl hc
 simp only [results,h]
 simp [Sem.run_bind,Result.andThen,ha',asAddr,hv]
theorem omq {p:Prop}(h:p:=by first|omega|fail):p:=h
section
variable {α:Type}{w w':World}{lo hi lo' hi' k:Nat}{enc:α→List Value}{v:Value}{ds:List α}
def Sl (w:World)(lo hi k:Nat)(enc:α→List Value)(v:Value)(ds:List α):Prop :=
 ∃A c,v=.slice A ds.length c∧ds.length≤c∧(c≤maxLen∧(A=none→c=0)) ∧
  (0<ds.length→∃b o,A=some ⟨b,o,none⟩∧lo≤b∧b<hi∧∀i (h:i<ds.length) j u,(enc ds[i])[j]? = some u→w.cell? ⟨b,o+i*k+j,none⟩=some u)
theorem Sl.len_le (h:Sl w lo hi k enc v ds):ds.length≤9223372036854775807:=by
 obtain⟨A,c,_,h1,⟨h2,_⟩,_⟩:=h;unfold maxLen at h2;omega
theorem Sl.keep (h:Sl w lo hi k enc v ds)(hk:∀p:Addr,lo≤p.block→p.block<hi→w'.cell? p=w.cell? p):Sl w' lo hi k enc v ds:=by
 obtain⟨A,c,e,h1,h2,h3⟩:=h
 refine⟨A,c,e,h1,h2,fun hn=>?_⟩
 obtain⟨b,o,eA,hl,hb,hc⟩:=h3 hn
 exact⟨b,o,eA,hl,hb,fun i hi j u hu=>(hk ⟨b,_,none⟩ hl hb).trans (hc i hi j u hu)⟩
theorem Sl.wider (h:Sl w lo hi k enc v ds)(h1:lo'≤lo)(h2:hi≤hi'):Sl w lo' hi' k enc v ds:=by
 obtain⟨A,c,e,g1,g2,h3⟩:=h
 refine⟨A,c,e,g1,g2,fun hn=>?_⟩
 obtain⟨b,o,eA,hl,hb,hc⟩:=h3 hn
 exact⟨b,o,eA,omq,omq,hc⟩
theorem Sl.below {B:Nat}(h:Sl w lo hi k enc v ds)(hb:Below B w w')(hB:hi≤B):Sl w' lo hi k enc v ds :=
 h.keep fun _ _ hp=>hb.cell omq
theorem Sl.alloc (h:Sl w lo hi k enc v ds)(hB:hi≤w.heap.size)(o:Obj):Sl (w.alloc o) lo hi k enc v ds:=h.below (B:=w.heap.size) ((Below.refl _ _).alloc (Nat.le_refl _) o) hB
theorem Sl.setCell (h:Sl w lo hi k enc v ds){p:Addr}(hB:hi≤p.block)(u:Value):Sl (w.setCell p u) lo hi k enc v ds:=h.below (B:=hi) ((Below.refl _ _).setCell hB u) (Nat.le_refl _)
theorem Sl.kp_ {lo' hi':Nat}(h:Sl w lo hi k enc v ds)(hb:∀g,g<w.heap.size→(g<lo'∨hi'≤g)→w'.heap[g]? = w.heap[g]?)(hB:hi≤lo'∨hi'≤lo):Sl w' lo hi k enc v ds:=by
 obtain⟨A,c,e,h1,h2,h3⟩:=h
 refine⟨A,c,e,h1,h2,fun hn=>?_⟩
 obtain⟨b,o,eA,hl,hbb,hc⟩:=h3 hn
 refine⟨b,o,eA,hl,hbb,fun i hi_ j u hu=>?_⟩
 have hold:=hc i hi_ j u hu
 have hs:b<w.heap.size:=by
  rcases Nat.lt_or_ge b w.heap.size with hlt|hge
  ·exact hlt
  ·unfold World.cell? at hold
   rw [Array.getElem?_eq_none (by exact hge)] at hold
   cases hold
 exact (World.cell?_of_block (hb b hs omq)).trans hold
theorem Sl.at_ {A:Option Addr}{n c:Nat}(h:Sl w lo hi k enc (.slice A n c) ds){i:Nat}(hi_:i<ds.length) :
 ∃b o,A=some ⟨b,o,none⟩∧lo≤b∧b<hi∧∀j u,(enc ds[i])[j]? = some u→w.cell? ⟨b,o+i*k+j,none⟩=some u:=by
 obtain⟨A',c',e,_,_,h3⟩:=h
 obtain⟨b,o,eA,hl,hb,hc⟩:=h3 omq
 injection e with e1 e2 e3
 exact⟨b,o,e1.trans eA,hl,hb,fun j u hu=>hc i hi_ j u hu⟩
theorem Sl.at1 {A:Option Addr}{n c:Nat}(h:Sl w lo hi 1 enc (.slice A n c) ds){i:Nat}(hi_:i<ds.length) :
 ∃b o,A=some ⟨b,o,none⟩∧lo≤b∧b<hi∧∀u,enc ds[i]=[u]→w.cell? ⟨b,o+i,none⟩=some u:=by
 obtain⟨b,o,e,h1,h2,hc⟩:=h.at_ hi_
 exact⟨b,o,e,h1,h2,fun u hu=>by simpa using hc 0 u (by rw [hu];rfl)⟩
theorem Sl.form (h:Sl w lo hi k enc v ds):∃A c,v=.slice A ds.length c∧ds.length≤c∧c≤maxLen:=by
 obtain⟨A,c,e,h1,⟨h2,_⟩,_⟩:=h;exact⟨A,c,e,h1,h2⟩
end
theorem sW {P:Program}{t e:TypeId}{z:Value}{size bytes:Nat}(ht:P.underlying t=some (.slice e))(hinfo:(P.info? e).map (fun i=>(i.zero,i.size,i.bytes))=some (some z,size,bytes))
 (n:Nat) (hb:bytes*n≤281474976710656) (hm:n≤9223372036854775807) (W:World) :
 (Instr.makeSlice t (.int .i64 (n:Int)) (.int .i64 (n:Int))).run P W=.ok (.slice (some ⟨W.heap.size,0,none⟩) n n) (W.alloc (.cells (madeCells z.cells (n*size)) e)):=by
 obtain⟨i,h1,h2,h3,h4⟩:=info_parts hinfo
 have hb':(i.bytes:Int)*(n:Int)≤281474976710656:=by
  rw [h4]
  have h:((bytes*n:Nat):Int)≤281474976710656:=by omega
  rwa [Int.natCast_mul] at h
 have h:=run_make (P:=P) W t e i z ht h1 h2 .i64 .i64 n n omq omq hb' omq
 rw [Int.toNat_natCast,h3] at h
 exact h
def Fill (w:World)(g:Nat)(e:TypeId)(N m:Nat)(xs:List Value):Prop :=
 ∃cur,w.heap[g]? = some (.cells cur e (0,0))∧cur.size=N∧∀j,j<m→cur[j]? = xs[j]?
section
variable {w w':World}{g:Nat}{e:TypeId}{N m:Nat}{xs:List Value}
theorem Fill.new (w:World)(e:TypeId)(z:Array Value)(N:Nat)(xs:List Value):Fill (w.alloc (.cells (madeCells z N) e)) w.heap.size e N 0 xs :=
 ⟨_,heap_alloc_new w _,by simp [madeCells],fun _ h=>absurd h omq⟩
theorem Fill.lt (h:Fill w g e N m xs):g<w.heap.size:=by
 obtain⟨cur,hh,_⟩:=h
 rcases Nat.lt_or_ge g w.heap.size with hlt|hge
 ·exact hlt
 ·rw [Array.getElem?_eq_none hge] at hh;cases hh
theorem Fill.cell (h:Fill w g e N m xs){j:Nat}(hj:j<N):∃u,w.cell? ⟨g,j,none⟩=some u:=by
 obtain⟨cur,hh,hs,_⟩:=h
 exact⟨cur[j]'omq,by rw [cell_of_row w g j cur e (0,0) hh];exact Array.getElem?_eq_getElem omq⟩
theorem Fill.frozen (h:Fill w g e N m xs)(j:Nat):w.frozen? ⟨g,j,none⟩=false:=by
 obtain⟨cur,hh,hs,_⟩:=h
 simp [World.frozen?,hh]
theorem Fill.of_block (h:Fill w g e N m xs)(hb:w'.heap[g]? = w.heap[g]?):Fill w' g e N m xs:=by
 obtain⟨cur,hh,hs,hc⟩:=h
 exact⟨cur,hb.trans hh,hs,hc⟩
theorem Fill.below {B:Nat}(h:Fill w g e N m xs)(hb:Below B w w')(hg:g<B):Fill w' g e N m xs:=h.of_block (hb.block g hg)
theorem Fill.alloc (h:Fill w g e N m xs)(o:Obj):Fill (w.alloc o) g e N m xs:=h.of_block (Below.heap_alloc w o g h.lt)
theorem Fill.set (h:Fill w g e N m xs)(hm:m<N){u:Value}(hu:xs[m]? = some u):Fill (w.setCell ⟨g,m,none⟩ u) g e N (m+1) xs:=by
 obtain⟨cur,hh,hs,hc⟩:=h
 refine⟨cur.setIfInBounds m u,by simp [World.setCell,Array.getElem?_modify,hh],by simpa using hs,fun j hj=>?_⟩
 rw [Array.getElem?_setIfInBounds]
 by_cases hmm:m=j
 ·subst hmm;rw [if_pos rfl,if_pos omq,hu]
 ·rw [if_neg hmm];exact hc j omq
theorem Fill.owns (h:Fill w g e N N xs){lo k n:Nat}(hlo:lo≤g)(hN:N=n*k)(hx:xs.length=N)(hn:n≤maxLen):w.ownsRow lo e k (.slice (some ⟨g,0,none⟩) n n) n xs:=by
 obtain⟨cur,hh,hs,hc⟩:=h
 refine⟨omq,.inr ⟨g,n,cur,rfl,hlo,hh,Nat.le_refl _,hn,omq,?_⟩⟩
 rw [←hN,List.take_of_length_le (by simp;omega)]
 apply List.ext_getElem?
 intro j
 rw [Array.getElem?_toList]
 rcases Nat.lt_or_ge j N with hj|hj
 ·exact hc j hj
 ·rw [Array.getElem?_eq_none omq,List.getElem?_eq_none omq]
end
structure Kp (lo hi:Nat)(w w':World):Prop where
 os:w'.os=w.os
 tape:w'.tape=w.tape
 output:w'.output=w.output
 size:w.heap.size≤w'.heap.size
 block:∀k,k<w.heap.size→(k<lo∨hi≤k)→w'.heap[k]? = w.heap[k]?
section
variable {lo hi B:Nat}{a b c w:World}
theorem Kp.refl (lo hi:Nat)(w:World):Kp lo hi w w:=⟨rfl,rfl,rfl,Nat.le_refl _,fun _ _ _=>rfl⟩
theorem Kp.trans (h:Kp lo hi a b)(k:Kp lo hi b c):Kp lo hi a c :=
 ⟨k.os.trans h.os,k.tape.trans h.tape,k.output.trans h.output,Nat.le_trans h.size k.size,fun i hi hh=>(k.block i (Nat.lt_of_lt_of_le hi h.size) hh).trans (h.block i hi hh)⟩
theorem Kp.set (h:Kp lo hi a w){p:Addr}(h1:lo≤p.block)(h2:p.block<hi)(u:Value):Kp lo hi a (w.setCell p u) :=
 ⟨h.os,h.tape,h.output,by simpa using h.size,fun k hk hh=>(Below.heap_setCell w p u k omq).trans (h.block k hk hh)⟩
theorem Kp.below (h:Kp lo hi a b)(h1:B≤lo)(h2:B≤a.heap.size):Below B a b:=⟨h.os,h.tape,h.output,h.size,fun k hk=>h.block k omq omq⟩
theorem Kp.wider {lo' hi':Nat}(h:Kp lo hi a b)(h1:lo'≤lo)(h2:hi≤hi'):Kp lo' hi' a b:=⟨h.os,h.tape,h.output,h.size,fun k hk hh=>h.block k hk omq⟩
end
theorem Sl.kp {α:Type}{w w':World}{lo hi lo' hi' k:Nat}{enc:α→List Value}{v:Value}{ds:List α}(h:Sl w lo hi k enc v ds)(hb:Kp lo' hi' w w')(hB:hi≤lo'∨hi'≤lo):Sl w' lo hi k enc v ds:=h.kp_ hb.block hB
def Ow (w:World)(lo hi:Nat)(e:TypeId)(k:Nat)(v:Value)(n:Nat)(xs:List Value):Prop :=
 w.ownsRow lo e k v n xs∧∀b,v.ownBlock=some b→b<hi
section
variable {w w':World}{lo hi lo' hi' k n:Nat}{e:TypeId}{v:Value}{xs:List Value}
theorem Ow.of_block (h:Ow w lo hi e k v n xs)(hb:∀g,lo≤g→g<hi→g<w.heap.size→w'.heap[g]? = w.heap[g]?):Ow w' lo hi e k v n xs:=by
 obtain⟨⟨hl,h|⟨g,cap,cur,rfl,hg,hh,hn,hc,hs,ht⟩⟩,hh2⟩:=h
 ·exact⟨⟨hl,.inl h⟩,hh2⟩
 ·exact⟨⟨hl,.inr ⟨g,cap,cur,rfl,hg,(hb g hg (hh2 g rfl) (by
   rcases Nat.lt_or_ge g w.heap.size with hlt|hge
   ·exact hlt
   ·rw [Array.getElem?_eq_none hge] at hh;cases hh)).trans hh,hn,hc,hs,ht⟩⟩,hh2⟩
theorem Ow.below {B:Nat}(h:Ow w lo hi e k v n xs)(hb:Below B w w')(hB:hi≤B):Ow w' lo hi e k v n xs :=
 h.of_block fun g _ hg _=>hb.block g omq
theorem Ow.wider (h:Ow w lo hi e k v n xs)(h1:lo'≤lo)(h2:hi≤hi'):Ow w lo' hi' e k v n xs:=by
 obtain⟨⟨hl,h|⟨g,cap,cur,rfl,hg,hh⟩⟩,hh2⟩:=h
 ·exact⟨⟨hl,.inl h⟩,fun b hb=>by have:=hh2 b hb;omega⟩
 ·exact⟨⟨hl,.inr ⟨g,cap,cur,rfl,omq,hh⟩⟩,fun b hb=>by have:=hh2 b hb;omega⟩
theorem Ow.of_owns (h:w.ownsRow lo e k v n xs)(hh:w.heap.size≤hi):Ow w lo hi e k v n xs:=by
 refine⟨h,fun b hb=>?_⟩
 have:=(h.lt b hb).2
 omega
theorem Ow.at_ {A:Option Addr}{c:Nat}(h:Ow w lo hi e k (.slice A n c) n xs)(hn:0<n):∃g,A=some ⟨g,0,none⟩∧lo≤g∧g<hi ∧
 (∀j u,j<n*k→xs[j]? = some u→w.cell? ⟨g,j,none⟩=some u)∧(∀j,w.frozen? ⟨g,j,none⟩=false):=by
 obtain⟨ho,hh2⟩:=h
 obtain⟨hl,⟨hv,hn0⟩|⟨g,cap,cur,hv,hg,hh,_⟩⟩:=id ho
 ·omega
 ·injection hv with h1 h2 h3
  subst h1
  exact⟨g,rfl,hg,hh2 g rfl,fun j u hj hu=>(ho.cellAt j hj).trans hu,fun j=>ho.frozenAt j⟩
theorem Ow.set {g c:Nat}(h:Ow w lo hi e k (.slice (some ⟨g,0,none⟩) n c) n xs)(j:Nat)(u:Value):Ow (w.setCell ⟨g,j,none⟩ u) lo hi e k (.slice (some ⟨g,0,none⟩) n c) n (xs.set j u) :=
 ⟨(h.1.stored j u).1,h.2⟩
end
def Own {α:Type}(w:World)(lo hi:Nat)(e:TypeId)(k:Nat)(enc:α→List Value)(v:Value)(ds:List α):Prop :=
 Ow w lo hi e k v ds.length (ds.flatMap enc)
section
variable {α:Type}{w w':World}{lo hi lo' hi' k:Nat}{e:TypeId}{enc:α→List Value}{v:Value}{ds:List α}
theorem Own.below {B:Nat}(h:Own w lo hi e k enc v ds)(hb:Below B w w')(hB:hi≤B):Own w' lo hi e k enc v ds:=Ow.below h hb hB
theorem Own.wider (h:Own w lo hi e k enc v ds)(h1:lo'≤lo)(h2:hi≤hi'):Own w lo' hi' e k enc v ds:=Ow.wider h h1 h2
theorem Own.alloc (h:Own w lo hi e k enc v ds)(hB:hi≤w.heap.size)(o:Obj):Own (w.alloc o) lo hi e k enc v ds:=h.below (B:=w.heap.size) ((Below.refl _ _).alloc (Nat.le_refl _) o) hB
theorem Own.setCell (h:Own w lo hi e k enc v ds){p:Addr}(hB:hi≤p.block)(u:Value):Own (w.setCell p u) lo hi e k enc v ds:=h.below (B:=hi) ((Below.refl _ _).setCell hB u) (Nat.le_refl _)
end
def Mk (w:World)(lo hi:Nat)(e:TypeId)(sz:Nat)(f:Nat→Int→Value)(v:Value)(n:Nat)(k:Int):Prop :=
 ∃xs,Ow w lo hi e sz v n xs∧∀i j,i<n→j<sz→xs[i*sz+j]? = some (f j (k+(i*sz+j:Nat)))
section
variable {w w':World}{lo hi lo' hi' sz n:Nat}{e:TypeId}{f:Nat→Int→Value}{v:Value}{k:Int}
theorem Mk.below {B:Nat}(h:Mk w lo hi e sz f v n k)(hb:Below B w w')(hB:hi≤B):Mk w' lo hi e sz f v n k:=by
 obtain⟨xs,h1,h2⟩:=h;exact⟨xs,h1.below hb hB,h2⟩
theorem Mk.alloc (h:Mk w lo hi e sz f v n k)(hB:hi≤w.heap.size)(o:Obj):Mk (w.alloc o) lo hi e sz f v n k:=h.below (B:=w.heap.size) ((Below.refl _ _).alloc (Nat.le_refl _) o) hB
theorem Mk.setCell (h:Mk w lo hi e sz f v n k){p:Addr}(hB:hi≤p.block)(u:Value):Mk (w.setCell p u) lo hi e sz f v n k:=h.below (B:=hi) ((Below.refl _ _).setCell hB u) (Nat.le_refl _)
end
def El (P:Program)(t e:TypeId)(k bytes:Nat):Prop :=
 P.underlying t=some (.slice e)∧∃z:Value,(P.info? e).map (fun i=>(i.zero,i.size,i.bytes))=some (some z,k,bytes)∧z.cells.size=k∧0<k∧0<bytes
theorem El.mk {P:Program}{t e:TypeId}{k bytes:Nat}{z:Value}(h1:P.underlying t=some (.slice e))(h2:(P.info? e).map (fun i=>(i.zero,i.size,i.bytes))=some (some z,k,bytes))(h3:z.cells.size=k)(h4:0<k)(h5:0<bytes):El P t e k bytes:=⟨h1,z,h2,h3,h4,h5⟩
def Rd {α:Type}(w:World)(k:Nat)(enc:α→List Value)(v:Value)(ds:List α):Prop:=Sl w 0 w.heap.size k enc v ds
section
variable {α:Type}{w w':World}{lo hi k:Nat}{e:TypeId}{enc:α→List Value}{v:Value}{ds:List α}
theorem Rd.below {B:Nat}(h:Rd w k enc v ds)(hb:Below B w w')(hB:w.heap.size≤B):Rd w' k enc v ds:=(Sl.below h hb hB).wider (Nat.le_refl _) hb.size
theorem Rd.alloc (h:Rd w k enc v ds)(o:Obj):Rd (w.alloc o) k enc v ds:=(Sl.alloc h (Nat.le_refl _) o).wider (Nat.le_refl _) (by simp)
theorem Rd.len_le (h:Rd w k enc v ds):ds.length≤9223372036854775807:=Sl.len_le h
theorem Rd.at1 {A:Option Addr}{n c:Nat}(h:Rd w 1 enc (.slice A n c) ds){i:Nat}(hi_:i<ds.length):∃b o,A=some ⟨b,o,none⟩∧b<w.heap.size∧∀u,enc ds[i]=[u]→w.cell? ⟨b,o+i,none⟩=some u:=by
 obtain⟨b,o,h1,_,h2,h3⟩:=Sl.at1 h hi_
 exact⟨b,o,h1,h2,h3⟩
theorem Rd.at_ {A:Option Addr}{n c:Nat}(h:Rd w k enc (.slice A n c) ds){i:Nat}(hi_:i<ds.length):∃b o,A=some ⟨b,o,none⟩∧b<w.heap.size∧∀j u,(enc ds[i])[j]? = some u→w.cell? ⟨b,o+i*k+j,none⟩=some u:=by
 obtain⟨b,o,h1,_,h2,h3⟩:=Sl.at_ h hi_
 exact⟨b,o,h1,h2,h3⟩
end
inductive E where
 | int (k:IntKind) (n:Int)
 | bool (b:Bool)
 | str (s:ByteArray)
 | agg (fs:List E)
 | lst (k:Nat) (T:TypeId) (A:Option Addr) (c:Nat) (l:List E)
theorem E.ind {p:E→Prop}(h1:∀k n,p (.int k n))(h2:∀b,p (.bool b))(h3:∀s,p (.str s))(h4:∀fs,(∀e∈fs,p e)→p (.agg fs))(h5:∀k T A c l,(∀e∈l,p e)→p (.lst k T A c l)):∀e,p e :=
 E.rec (motive_1:=p) (motive_2:=fun l=>∀e∈l,p e) h1 h2 h3 (fun fs h=>h4 fs h) (fun k T A c l h=>h5 k T A c l h) (fun _ h=>absurd h List.not_mem_nil) (fun _ _ hh ht e he=>by
  rcases List.mem_cons.1 he with rfl|h
  ·exact hh
  ·exact ht e h)
mutual
def E.enc:E→List Value
 | .int k n=>[.int k n]
 | .bool b=>[.bool b]
 | .str s=>[.string s]
 | .agg fs=>E.encL fs
 | .lst _ _ A c l=>[.slice A l.length c]
def E.encL:List E→List Value
 | []=>[]
 | e :: r=>e.enc++E.encL r
end
mutual
def E.d:E→E
 | .int k n=>.int k n
 | .bool b=>.bool b
 | .str s=>.str s
 | .agg fs=>.agg (E.dL fs)
 | .lst _ _ _ _ l=>.lst 0 0 none 0 (E.dL l)
def E.dL:List E→List E
 | []=>[]
 | e :: r=>e.d :: E.dL r
end
mutual
def E.fp:E→List Nat
 | .agg fs=>E.fpL fs
 | .lst _ _ A _ l=>(match A with|some a=>[a.block]|none=>[])++E.fpL l
 | _=>[]
def E.fpL:List E→List Nat
 | []=>[]
 | e :: r=>e.fp++E.fpL r
end
mutual
def E.sz:E→Nat
 | .str s=>s.size
 | .agg fs=>E.szL fs
 | .lst _ _ _ _ l=>l.length+E.szL l
 | _=>0
def E.szL:List E→Nat
 | []=>0
 | e :: r=>e.sz+E.szL r
end
mutual
def E.cntc:E→Nat
 | .agg fs=>E.cntcL fs
 | .lst _ _ _ _ l=>E.cntcL l
 | _=>1
def E.cntcL:List E→Nat
 | []=>0
 | e :: r=>e.cntc+E.cntcL r
end
mutual
def E.cnt:E→Nat
 | .agg fs=>E.cntL fs
 | .lst _ _ _ _ l=>E.cntcL l
 | _=>0
def E.cntL:List E→Nat
 | []=>0
 | e :: r=>e.cnt+E.cntL r
end
mutual
def E.Re (w:World)(lo hi:Nat):E→Prop
 | .agg fs=>E.ReL w lo hi fs
 | .lst k _ A c l=>Sl w lo hi k E.enc (.slice A l.length c) l∧E.ReL w lo hi l
 | _=>True
def E.ReL (w:World)(lo hi:Nat):List E→Prop
 | []=>True
 | e :: r=>e.Re w lo hi∧E.ReL w lo hi r
end
mutual
def E.Ho (w:World)(lo hi:Nat):E→Prop
 | .agg fs=>E.HoL w lo hi fs
 | .lst k T A c l=>Ow w lo hi T k (.slice A l.length c) l.length (E.encL l)∧(∀e∈l,e.enc.length=k)∧E.HoL w lo hi l
 | _=>True
def E.HoL (w:World)(lo hi:Nat):List E→Prop
 | []=>True
 | e :: r=>e.Ho w lo hi∧E.HoL w lo hi r
end
mutual
def E.Ty (P:Program):E→TypeId→Prop
 | .int k n,t=>P.underlying t=some (.int k)∧(Lit.int k n).wf=true
 | .bool _,t=>P.underlying t=some .bool
 | .str s,t=>P.underlying t=some .string∧s.size≤maxLen
 | .agg fs,t=>∃F,P.underlying t=some (.struct F)∧E.TyF P fs (F.toList.map (·.type))
 | .lst k T _ _ l,t=>P.underlying t=some (.slice T)∧(k=P.cellsOf T∧k≤64)∧(∀e∈l,e.enc.length=k)∧E.TyL P l T
def E.TyF (P:Program):List E→List TypeId→Prop
 | [],ts=>ts=[]
 | e :: r,ts=>∃t tr,ts=t :: tr∧e.Ty P t∧E.TyF P r tr
def E.TyL (P:Program):List E→TypeId→Prop
 | [],_=>True
 | e :: r,t=>e.Ty P t∧E.TyL P r t
end
def E.val:E→Value
 | .int k n=>.int k n
 | .bool b=>.bool b
 | .str s=>.string s
 | .agg fs=>.agg (E.encL fs).toArray
 | .lst _ _ A c l=>.slice A l.length c
def E.In (e:E)(w:World):Prop:=e.Re w 0 w.heap.size
theorem E.encL_eq:∀l,E.encL l=l.flatMap E.enc
 | []=>rfl
 | e :: r=>by rw [E.encL,List.flatMap_cons,E.encL_eq r]
theorem E.dL_eq:∀l,E.dL l=l.map E.d
 | []=>rfl
 | e :: r=>by rw [E.dL,List.map_cons,E.dL_eq r]
theorem E.fpL_eq:∀l,E.fpL l=l.flatMap E.fp
 | []=>rfl
 | e :: r=>by rw [E.fpL,List.flatMap_cons,E.fpL_eq r]
theorem E.ReL_iff {w:World}{lo hi:Nat}:∀l,E.ReL w lo hi l↔∀e∈l,e.Re w lo hi
 | []=>by simp [E.ReL]
 | e :: r=>by rw [E.ReL,E.ReL_iff r];simp
theorem E.HoL_iff {w:World}{lo hi:Nat}:∀l,E.HoL w lo hi l↔∀e∈l,e.Ho w lo hi
 | []=>by simp [E.HoL]
 | e :: r=>by rw [E.HoL,E.HoL_iff r];simp
theorem E.TyL_iff {P:Program}{t:TypeId}:∀l,E.TyL P l t↔∀e∈l,e.Ty P t
 | []=>by simp [E.TyL]
 | e :: r=>by rw [E.TyL,E.TyL_iff r];simp
theorem E.mem_fpL {g:Nat}{l:List E}:g∈E.fpL l↔∃e∈l,g∈e.fp:=by rw [E.fpL_eq,List.mem_flatMap]
theorem E.encL_len {k:Nat}:∀{l:List E},(∀e∈l,e.enc.length=k)→(E.encL l).length=l.length*k
 | [],_=>by simp [E.encL]
 | e :: r,h=>by
  rw [E.encL,List.length_append,h e List.mem_cons_self,E.encL_len fun x hx=>h x (List.mem_cons_of_mem _ hx),List.length_cons,Nat.add_mul];omega
theorem E.encL_at {k:Nat}:∀{l:List E},(∀e∈l,e.enc.length=k)→∀(i:Nat) (h:i<l.length) (j:Nat),j<k→(E.encL l)[i*k+j]? = l[i].enc[j]?
 | [],_,i,h,_,_=>absurd h (by simp)
 | e :: r,hk,0,h,j,hj=>by
  rw [E.encL,Nat.zero_mul,Nat.zero_add,List.getElem?_append_left (by rw [hk e List.mem_cons_self];exact hj)];rfl
 | e :: r,hk,i+1,h,j,hj=>by
  have e1:(i+1)*k+j=k+(i*k+j):=by rw [Nat.add_mul];omega
  have he:=hk e List.mem_cons_self
  rw [E.encL,e1,List.getElem?_append_right (by rw [he];omega),he,Nat.add_sub_cancel_left]
  exact E.encL_at (fun x hx=>hk x (List.mem_cons_of_mem _ hx)) i (by simpa using h) j hj
section
variable {w w':World}{lo hi lo' hi':Nat}{e:E}
theorem E.Re.keep (hk:∀p:Addr,lo≤p.block→p.block<hi→w'.cell? p=w.cell? p):∀{e:E},e.Re w lo hi→e.Re w' lo hi:=by
 intro e
 induction e using E.ind with
 | h1|h2|h3=>intro _;simp [E.Re]
 | h4 fs ih=>intro h;simp only [E.Re,E.ReL_iff] at h ⊢;exact fun e he=>ih e he (h e he)
 | h5 k T A c l ih=>intro h;simp only [E.Re,E.ReL_iff] at h ⊢;exact⟨h.1.keep hk,fun e he=>ih e he (h.2 e he)⟩
theorem E.Re.wider (h1:lo'≤lo)(h2:hi≤hi'):∀{e:E},e.Re w lo hi→e.Re w lo' hi':=by
 intro e
 induction e using E.ind with
 | h1|h2|h3=>intro _;simp [E.Re]
 | h4 fs ih=>intro h;simp only [E.Re,E.ReL_iff] at h ⊢;exact fun e he=>ih e he (h e he)
 | h5 k T A c l ih=>intro h;simp only [E.Re,E.ReL_iff] at h ⊢;exact⟨h.1.wider h1 h2,fun e he=>ih e he (h.2 e he)⟩
theorem E.Re.below {B:Nat}(h:e.Re w lo hi)(hb:Below B w w')(hB:hi≤B):e.Re w' lo hi:=h.keep fun _ _ hp=>hb.cell omq
theorem E.Re.kp (hb:Kp lo' hi' w w')(hB:hi≤lo'∨hi'≤lo):∀{e:E},e.Re w lo hi→e.Re w' lo hi:=by
 intro e
 induction e using E.ind with
 | h1|h2|h3=>intro _;simp [E.Re]
 | h4 fs ih=>intro h;simp only [E.Re,E.ReL_iff] at h ⊢;exact fun e he=>ih e he (h e he)
 | h5 k T A c l ih=>intro h;simp only [E.Re,E.ReL_iff] at h ⊢;exact⟨h.1.kp hb hB,fun e he=>ih e he (h.2 e he)⟩
theorem E.Re.drew (h:e.Re w lo hi):e.Re w.drew lo hi:=E.Re.keep (w:=w) (w':=w.drew) (fun _ _ _=>rfl) h
theorem E.Re.alloc (h:e.Re w lo hi)(hB:hi≤w.heap.size)(o:Obj):e.Re (w.alloc o) lo hi:=h.below (B:=w.heap.size) ((Below.refl _ _).alloc (Nat.le_refl _) o) hB
theorem E.Re.setCell (h:e.Re w lo hi){p:Addr}(hB:hi≤p.block)(u:Value):e.Re (w.setCell p u) lo hi:=h.below (B:=hi) ((Below.refl _ _).setCell hB u) (Nat.le_refl _)
theorem E.Re.inn (h:e.Re w lo hi)(hh:hi≤w.heap.size):e.In w:=h.wider (Nat.zero_le _) hh
theorem E.In.below {B:Nat}(h:e.In w)(hb:Below B w w')(hB:w.heap.size≤B):e.In w':=(E.Re.below h hb hB).wider (Nat.le_refl _) hb.size
theorem E.In.drew (h:e.In w):e.In w.drew:=E.Re.drew h
theorem E.In.alloc (h:e.In w)(o:Obj):e.In (w.alloc o):=(E.Re.alloc h (Nat.le_refl _) o).wider (Nat.le_refl _) (by simp)
theorem E.Re.fld {fs:List E}(h:(E.agg fs).Re w lo hi){i:Nat}(hi_:fs[i]? = some e):e.Re w lo hi:=by
 simp only [E.Re,E.ReL_iff] at h
 exact h e (List.mem_of_getElem? hi_)
theorem E.In.fld {fs:List E}(h:(E.agg fs).In w){i:Nat}(hi_:fs[i]? = some e):e.In w:=E.Re.fld h hi_
theorem E.Re.sl {k c:Nat}{T:TypeId}{A:Option Addr}{l:List E}(h:(E.lst k T A c l).Re w lo hi):Sl w lo hi k E.enc (.slice A l.length c) l:=by simp only [E.Re] at h;exact h.1
theorem E.In.sl {k c:Nat}{T:TypeId}{A:Option Addr}{l:List E}(h:(E.lst k T A c l).In w):Proofs.YtmnneflenebgmaaGreat.Rd w k E.enc (.slice A l.length c) l:=E.Re.sl h
theorem E.Re.el {k c:Nat}{T:TypeId}{A:Option Addr}{l:List E}(h:(E.lst k T A c l).Re w lo hi)(he:e∈l):e.Re w lo hi:=by simp only [E.Re,E.ReL_iff] at h;exact h.2 e he
theorem E.In.el {k c:Nat}{T:TypeId}{A:Option Addr}{l:List E}(h:(E.lst k T A c l).In w)(he:e∈l):e.In w:=E.Re.el h he
theorem E.Re.mk {k c:Nat}{T:TypeId}{A:Option Addr}{l:List E}(h:Sl w lo hi k E.enc (.slice A l.length c) l)(h2:∀e∈l,e.Re w lo hi):(E.lst k T A c l).Re w lo hi:=by simp only [E.Re,E.ReL_iff];exact⟨h,h2⟩
theorem E.Ho.lt:∀{e:E},e.Ho w lo hi→∀g∈e.fp,lo≤g∧g<hi∧g<w.heap.size:=by
 intro e
 induction e using E.ind with
 | h1|h2|h3=>intro _ g hg;simp [E.fp] at hg
 | h4 fs ih =>
  intro h g hg
  simp only [E.Ho,E.HoL_iff] at h
  simp only [E.fp,E.mem_fpL] at hg
  obtain⟨e,he,hg⟩:=hg
  exact ih e he (h e he) g hg
 | h5 k T A c l ih =>
  intro h g hg
  simp only [E.Ho,E.HoL_iff] at h
  simp only [E.fp,List.mem_append,E.mem_fpL] at hg
  rcases hg with hg|⟨e,he,hg⟩
  ·rcases A with _|a
   ·simp at hg
   ·obtain rfl:g=a.block:=by simpa using hg
    have h1:=h.1.1.lt a.block rfl
    exact⟨h1.1,h.1.2 a.block rfl,h1.2⟩
  ·exact ih e he (h.2.2 e he) g hg
theorem E.Ho.of_fp:∀{e:E},e.Ho w lo hi→(∀g∈e.fp,lo≤g→g<hi→g<w.heap.size→w'.heap[g]? = w.heap[g]?)→e.Ho w' lo hi:=by
 intro e
 induction e using E.ind with
 | h1|h2|h3=>intro _ _;simp [E.Ho]
 | h4 fs ih =>
  intro h hb
  simp only [E.Ho,E.HoL_iff] at h ⊢
  exact fun e he=>ih e he (h e he) fun g hg=>hb g (by simp only [E.fp,E.mem_fpL];exact⟨e,he,hg⟩)
 | h5 k T A c l ih =>
  intro h hb
  have hlt:=E.Ho.lt h
  simp only [E.Ho,E.HoL_iff] at h ⊢
  refine⟨?_,h.2.1,fun e he=>ih e he (h.2.2 e he) fun g hg=>hb g (by simp only [E.fp,List.mem_append,E.mem_fpL];exact .inr ⟨e,he,hg⟩)⟩
  obtain⟨⟨hl,h0|⟨g,cap,cur,hv,hg,hh,hn,hc,hs,ht⟩⟩,hh2⟩:=h.1
  ·exact⟨⟨hl,.inl h0⟩,hh2⟩
  ·have hA:A=some ⟨g,0,none⟩:=by injection hv
   have hgf:g∈(E.lst k T A c l).fp:=by rw [hA];simp [E.fp]
   have hl3:=hlt g hgf
   exact⟨⟨hl,.inr ⟨g,cap,cur,hv,hg,(hb g hgf hl3.1 hl3.2.1 hl3.2.2).trans hh,hn,hc,hs,ht⟩⟩,hh2⟩
theorem E.Ho.wider (h1:lo'≤lo)(h2:hi≤hi'):∀{e:E},e.Ho w lo hi→e.Ho w lo' hi':=by
 intro e
 induction e using E.ind with
 | h1|h2|h3=>intro _;simp [E.Ho]
 | h4 fs ih=>intro h;simp only [E.Ho,E.HoL_iff] at h ⊢;exact fun e he=>ih e he (h e he)
 | h5 k T A c l ih=>intro h;simp only [E.Ho,E.HoL_iff] at h ⊢;exact⟨Ow.wider h.1 h1 h2,h.2.1,fun e he=>ih e he (h.2.2 e he)⟩
theorem E.Ho.below {B:Nat}(h:e.Ho w lo hi)(hb:Below B w w')(hB:hi≤B):e.Ho w' lo hi:=h.of_fp fun g _ _ hg _=>hb.block g omq
theorem E.Ho.kp (h:e.Ho w lo hi)(hb:Kp lo' hi' w w')(hB:hi≤lo'∨hi'≤lo):e.Ho w' lo hi:=h.of_fp fun g _ hl hg hs=>hb.block g hs omq
theorem E.Ho.alloc (h:e.Ho w lo hi)(hB:hi≤w.heap.size)(o:Obj):e.Ho (w.alloc o) lo hi:=h.below (B:=w.heap.size) ((Below.refl _ _).alloc (Nat.le_refl _) o) hB
theorem E.Ho.setCell (h:e.Ho w lo hi){p:Addr}(hB:hi≤p.block)(u:Value):e.Ho (w.setCell p u) lo hi:=h.below (B:=hi) ((Below.refl _ _).setCell hB u) (Nat.le_refl _)
theorem E.Ho.fld {fs:List E}(h:(E.agg fs).Ho w lo hi){i:Nat}(hi_:fs[i]? = some e):e.Ho w lo hi:=by
 simp only [E.Ho,E.HoL_iff] at h
 exact h e (List.mem_of_getElem? hi_)
theorem E.Ho.el {k c:Nat}{T:TypeId}{A:Option Addr}{l:List E}(h:(E.lst k T A c l).Ho w lo hi)(he:e∈l):e.Ho w lo hi:=by simp only [E.Ho,E.HoL_iff] at h;exact h.2.2 e he
theorem E.Ho.row {k c:Nat}{T:TypeId}{A:Option Addr}{l:List E}(h:(E.lst k T A c l).Ho w lo hi):Ow w lo hi T k (.slice A l.length c) l.length (E.encL l):=by simp only [E.Ho] at h;exact h.1
theorem E.Ho.lens {k c:Nat}{T:TypeId}{A:Option Addr}{l:List E}(h:(E.lst k T A c l).Ho w lo hi):∀e∈l,e.enc.length=k:=by simp only [E.Ho] at h;exact h.2.1
theorem E.Ho.mk {k c:Nat}{T:TypeId}{A:Option Addr}{l:List E}(h:Ow w lo hi T k (.slice A l.length c) l.length (E.encL l))(h1:∀e∈l,e.enc.length=k)(h2:∀e∈l,e.Ho w lo hi):(E.lst k T A c l).Ho w lo hi:=by simp only [E.Ho,E.HoL_iff];exact⟨h,h1,h2⟩
theorem sX {k c:Nat}{T:TypeId}{A:Option Addr}{l:List E}(h:Ow w lo hi T k (.slice A l.length c) l.length (E.encL l))(hk:∀e∈l,e.enc.length=k):Sl w lo hi k E.enc (.slice A l.length c) l:=by
 obtain⟨⟨hl,h|⟨g,cap,cur,hv,hg,hh,hn,hc,hs,ht⟩⟩,hb⟩:=h
 ·obtain⟨hv,hn⟩:=h
  injection hv with e1 e2 e3
  subst e1
  exact⟨none,c,rfl,omq,⟨by unfold maxLen;omega,fun _=>e3⟩,fun hp=>absurd hp omq⟩
 ·injection hv with e1 e2 e3
  subst e1 e3
  refine⟨_,c,rfl,hn,⟨hc,fun h=>by cases h⟩,fun _=>⟨g,0,rfl,hg,hb g rfl,fun i hi j u hu=>?_⟩⟩
  rw [cell_of_row w g _ cur T (0,0) hh,Nat.zero_add]
  have hj:j<k:=by
   rcases Nat.lt_or_ge j k with h|h
   ·exact h
   ·rw [List.getElem?_eq_none (by rw [hk _ (List.getElem_mem hi)];exact h)] at hu;cases hu
  have hlt:i*k+j<l.length*k:=by
   have:=Nat.mul_le_mul_right k (show i+1≤l.length from hi)
   rw [Nat.add_mul] at this;omega
  rw [←Array.getElem?_toList]
  have:=E.encL_at hk i hi j hj
  rw [←ht,List.getElem?_take_of_lt hlt] at this
  rw [this,hu]
theorem E.Ho.re:∀{e:E},e.Ho w lo hi→e.Re w lo hi:=by
 intro e
 induction e using E.ind with
 | h1|h2|h3=>intro _;simp [E.Re]
 | h4 fs ih=>intro h;simp only [E.Ho,E.Re,E.HoL_iff,E.ReL_iff] at h ⊢;exact fun e he=>ih e he (h e he)
 | h5 k T A c l ih =>
  intro h
  have h1:=h.row
  have h2:=h.lens
  exact E.Re.mk (sX h1 h2) fun e he=>ih e he (h.el he)
theorem E.Ho.cut (hh:w.heap.size≤hi'):∀{e:E},e.Ho w lo hi→e.Ho w lo hi':=by
 intro e
 induction e using E.ind with
 | h1|h2|h3=>intro _;simp [E.Ho]
 | h4 fs ih=>intro h;simp only [E.Ho,E.HoL_iff] at h ⊢;exact fun e he=>ih e he (h e he)
 | h5 k T A c l ih =>
  intro h
  have h1:=h.row
  exact E.Ho.mk (Ow.of_owns h1.1 hh) h.lens fun e he=>ih e he (h.el he)
theorem E.Ho.inn (h:e.Ho w lo hi):e.In w:=((h.cut (Nat.le_refl _)).re).inn (Nat.le_refl _)
end
theorem by1 {p:Prop}(h:p:=by first|omega|(·simp)|(·(simp;omega))):p:=h
theorem by0 {p:Prop}(h:p:=by repeat (first|(with_reducible refine Below.setCell ?_ by1 _)|(with_reducible refine Below.alloc ?_ by1 _)|(with_reducible refine Below.drew ?_)|(with_reducible refine zv2 ?_ _)|(with_reducible exact Below.refl _ _)|(with_reducible assumption)|(with_reducible refine Below.trans ?_ (Below.mono (by assumption) by1))|(with_reducible refine Below.trans ?_ (Kp.below (by assumption) by1 by1)))):p:=h
def mdig:Nat→Nat→List UInt8→List UInt8
 | 0,_,acc=>acc
 | f+1,k,acc=>if k=0 then acc else mdig f (k / 10) (UInt8.ofNat (48+k % 10) :: acc)
theorem conv1 {P:Program}{t e d:TypeId}(hs:P.underlying t=some (.slice e))(he:P.underlying e=some (.int .u8))(hd:P.underlying d=some .string)(X:Int)(W:World) :
 (convert t d (.slice (some ⟨W.heap.size,0,none⟩) 1 1)).run P (W.alloc (.cells #[.int .u8 X] e))=.ok (.string (strOfNums [X])) (W.alloc (.cells #[.int .u8 X] e)) :=
 run_convert_bytes_arg _ t e hs he W.heap.size 0 1 1 [X] rfl (fun i hi=>by
  have:i=0:=by omega
  subst this
  rw [cell_of_row _ _ _ _ _ _ (heap_alloc_new W _)];rfl) d hd
def aM (k:Int):ByteArray:=if k≤0 then ⟨#[109,48]⟩ else ⟨#[109]⟩++⟨(mdig (k.toNat+1) k.toNat []).toArray⟩
theorem zw2 (x:Int)(l:List UInt8):strOfNums [x]++⟨l.toArray⟩=⟨(UInt8.ofNat x.toNat :: l).toArray⟩:=by
 show (ByteArray.mk [UInt8.ofNat x.toNat].toArray++ByteArray.mk l.toArray)=_
 rw [ByteArray.mk_append_mk];rfl
theorem db (k:Int)(w:World)(hk:k≤1152921504606846976):Calls prog 71 #[.int .i64 k] w fun e w' =>
 e=.returned (.string (aM k))∧Below w.heap.size w w':=by
 have kc:=fun X W=>conv1 underlying22 underlying5 underlying9 X W
 by_cases h0:k≤0
 ·have e:aM k=⟨#[109,48]⟩:=if_pos h0
  rw [e]
  go_enter func71,Tryz.ntmps71
  go_wp2
  go_ret
  exact⟨rfl,Below.refl _ _⟩
 ·obtain⟨R,hR⟩:∃R,aM k=R:=⟨_,rfl⟩
  rw [hR]
  unfold aM at hR
  rw [if_neg h0] at hR
  obtain⟨L,hL⟩:∃L,mdig (k.toNat+1) k.toNat []=L:=⟨_,rfl⟩
  rw [hL] at hR
  have HR:=Lib.hid hR
  have HL:=Lib.hid hL
  clear hR hL
  have hsz:∀x,(strOfNums [x]).size=1:=fun x=>strOfNums_size _
  go_enter func71,Tryz.ntmps71
  go_wp2
  go_loopw [0,3] (fun i s wr=>∃(n f:Nat) (l:List UInt8),(n:Int)≤k∧l.length+n≤k∧i=.int .i64 n∧s=.string ⟨l.toArray⟩∧n<f∧mdig f n l=L∧Below w.heap.size w wr) (fun i _ _=>(intOf i).toNat)
  case atStart=>exact⟨k.toNat,k.toNat+1,[],omq,by simp;omega,by rw [show ((k.toNat:Nat):Int)=k from by omega],rfl,omq,HL.out,by0⟩
  case round =>
   obtain⟨n,f,l,hn,hln,rfl,rfl,hf,hd,hb⟩:=hrel
   have HD:=Lib.hid hd
   clear hd
   have hll:l.length≤9223372036854775806:=by omega
   by_cases hp:0<n
   ·have hll:1+l.length≤9223372036854775807:=by omega
    have hzb:=hb.size
    go_wp2
    go_roundw
    case rel =>
     refine⟨n / 10,f-1,_,omq,?_,by go_num,by rw [zw2],omq,?_,by0⟩
     ·simp only [List.length_cons];omega
     ·have h:=HD.out
      obtain⟨f',rfl⟩:∃f',f=f'+1:=⟨f-1,omq⟩
      rw [mdig,if_neg omq] at h
      rw [←h,Nat.add_sub_cancel]
      congr 2
    case measure=>simp [intOf];omega
   ·go_wp2
    go_ret
    have h:=HD.out
    obtain⟨f',rfl⟩:∃f',f=f'+1:=⟨f-1,omq⟩
    rw [mdig,if_pos omq] at h
    subst h
    exact⟨by rw [←HR.out];rfl,hb⟩
end Go.Proofs.YtmnneflenebgmaaGreat
