/- T -/
import Derived.Test.YtmnneflenebgmaaGreatCnOB
set_option maxHeartbeats 0
set_option maxRecDepth 100000
namespace Go.Proofs.YtmnneflenebgmaaGreat
open Go.RowKit Go.Proofs.Tryz
def Sz (f:FuncId)(e:E):Prop:=∀(left:Int) (w:World),e.In w→0≤left→left≤1048576 →
 Calls prog f #[e.val,.int .i64 left] w fun r w'=>∃n:Int,r=.returned (.int .i64 n)∧(n<0∨Hid (n+e.sz=left))∧n≤left∧Below w.heap.size w w'
def To (f:FuncId)(t:TypeId)(e:E):Prop:=∀(w:World),e.In w→e.sz≤1048576 →
 Calls prog f #[e.val] w fun r w'=>∃x:E,r=.returned x.val∧Hid (x.d=e.d)∧x.Ty prog t∧x.Ho w' w.heap.size w'.heap.size∧x.fp.Nodup∧Below w.heap.size w w'
def Eq (f:FuncId)(a b:E):Prop:=a.d=b.d→∀(w:World),a.In w→b.In w →
 Calls prog f #[a.val,b.val] w fun r w'=>r=.returned (.bool true)∧Below w.heap.size w w'
def Mar (f:FuncId)(e:E):Prop:=∀(lo hi:Nat) (k0:Int) (w:World),e.Ho w lo hi→e.fp.Nodup→hi≤w.heap.size→0≤k0→k0+e.cnt≤1152921504606846976 →
 Calls prog f #[e.val,.int .i64 k0] w fun r w'=>r=.returned (.int .i64 (k0+e.cnt))∧(e.mk0 k0).Ho w' lo hi∧Fr e.fp w w'
def Hel (f:FuncId)(e:E):Prop:=∀(k0:Int) (w:World),(e.mk0 k0).In w→0≤k0→k0+e.cnt≤1152921504606846976 →
 Calls prog f #[e.val,.int .i64 k0] w fun r w'=>r=.returned (.int .i64 (k0+e.cnt))∧Below w.heap.size w w'
theorem E.szL_app:∀(a b:List E),E.szL (a++b)=E.szL a+E.szL b
 | [],b=>by simp [E.szL]
 | e :: a,b=>by simp only [List.cons_append,E.szL,E.szL_app a b];omega
theorem E.szL_take (l:List E)(k:Nat)(h:k<l.length):E.szL (l.take (k+1))=E.szL (l.take k)+l[k].sz:=by
 rw [List.take_succ_eq_append_getElem h,E.szL_app];simp [E.szL]
theorem E.szL_mem:∀{l:List E} {e:E},e∈l→e.sz≤E.szL l
 | [],_,h=>absurd h List.not_mem_nil
 | x :: r,e,h=>by
  rw [E.szL]
  rcases List.mem_cons.1 h with rfl|h
  ·omega
  ·have:=E.szL_mem h;omega
theorem jZ {k k' c c':Nat}{T T':TypeId}{A A':Option Addr}{l m:List E}:(E.lst k T A c l).d=(E.lst k' T' A' c' m).d↔l.map E.d=m.map E.d:=by
 simp only [E.d,E.dL_eq,E.lst.injEq,true_and]
theorem rx {l m:List E}(h:l.map E.d=m.map E.d):l.length=m.length:=by have:=congrArg List.length h;simpa using this
theorem d_at {l m:List E}(h:l.map E.d=m.map E.d){i:Nat}(hi:i<l.length)(hi':i<m.length):l[i].d=m[i].d:=by
 have e:(l.map E.d)[i]'(by simpa using hi)=(m.map E.d)[i]'(by simpa using hi'):=by simp only [h]
 simpa using e
theorem qi {l us:List E}{k:Nat}(hk:k<l.length){x:E}(h:us.map E.d=(l.take k).map E.d)(hx:x.d=l[k].d):(us++[x]).map E.d=(l.take (k+1)).map E.d:=by
 rw [List.take_succ_eq_append_getElem hk,List.map_append,List.map_append,h];simp [hx]
theorem gU {w:World}{a b c:Obj}:(((w.alloc a).alloc b).alloc c).heap[w.heap.size]? = some a∧(((w.alloc a).alloc b).alloc c).heap[w.heap.size+1]? = some b∧(((w.alloc a).alloc b).alloc c).heap[w.heap.size+1+1]? = some c:=by
 refine⟨?_,?_,?_⟩
 ·rw [Below.heap_alloc _ _ _ (by simp;omega),Below.heap_alloc _ _ _ (by simp),heap_alloc_new]
 ·rw [Below.heap_alloc _ _ _ (by simp)]
  have h:=heap_alloc_new (w.alloc a) b
  simpa only [World.size_alloc] using h
 ·have h:=heap_alloc_new ((w.alloc a).alloc b) c
  simpa only [World.size_alloc] using h
theorem eJ {w:World}{b:Nat}{cs:Array Value}{t:TypeId}(h:w.heap[b]? = some (.cells cs t (0,0)))(o:Nat):w.frozen? ⟨b,o,none⟩=false:=by simp [World.frozen?,h]
theorem aw {w:World}{b o:Nat}{cs:Array Value}{t:TypeId}{u:Value}(h:w.heap[b]? = some (.cells cs t (0,0)))(hu:cs[o]? = some u):w.cell? ⟨b,o,none⟩=some u:=by rw [cell_of_row _ _ _ _ _ _ h];exact hu
theorem E.encL_app_lt (us:List E)(x:E)(j:Nat)(hj:j<(E.encL us).length):(E.encL (us++[x]))[j]? = (E.encL us)[j]? := by
 rw [E.encL_app,List.getElem?_append_left hj]
theorem Fill.swap' {w:World}{g N m:Nat}{e:TypeId}{xs ys:List Value}(h:Fill w g e N m xs)(hx:∀j,j<m→ys[j]? = xs[j]?):Fill w g e N m ys:=by
 obtain⟨cur,hh,hs,hc⟩:=h
 exact⟨cur,hh,hs,fun j hj=>(hc j hj).trans (hx j hj).symm⟩
theorem E.Ty.mk_agg {P:Program}{t:TypeId}{F:Array Field}{fs:List E}(hU:P.underlying t=some (.struct F))(h:E.TyF P fs (F.toList.map (·.type))):(E.agg fs).Ty P t:=by simp only [E.Ty];exact⟨F,hU,h⟩
theorem E.TyF.mk_cons {P:Program}{t:TypeId}{ts:List TypeId}{e:E}{fs:List E}(h0:e.Ty P t)(h:E.TyF P fs ts):E.TyF P (e :: fs) (t :: ts):=by simp only [E.TyF];exact⟨t,ts,rfl,h0,h⟩
theorem E.TyF.mk_nil {P:Program}:E.TyF P [] []:=by simp only [E.TyF]
theorem E.Ho.mk_agg {w:World}{lo hi:Nat}{fs:List E}(h:E.HoL w lo hi fs):(E.agg fs).Ho w lo hi:=by simp only [E.Ho];exact h
theorem E.HoL.mk_cons {w:World}{lo hi:Nat}{e:E}{fs:List E}(h0:e.Ho w lo hi)(h:E.HoL w lo hi fs):E.HoL w lo hi (e :: fs):=by simp only [E.HoL];exact⟨h0,h⟩
theorem E.fpL_nil:∀{l:List E},(∀e∈l,e.fp=[])→E.fpL l=[]
 | [],_=>rfl
 | x :: r,h=>by rw [E.fpL,h x List.mem_cons_self,E.fpL_nil fun e he=>h e (List.mem_cons_of_mem _ he)];rfl
theorem gD {us:List E}{x:E}(h1:(E.fpL us).Nodup)(h2:x.fp.Nodup)(h3:∀g∈E.fpL us,g∉x.fp):(E.fpL (us++[x])).Nodup:=by
 rw [E.fpL_app,List.nodup_append]
 simp only [E.fpL,List.append_nil]
 exact⟨h1,h2,fun a ha b hb e=>h3 a ha (e▸hb)⟩
def Owns (w:World)(lo hi:Nat)(fs:List E):Prop:=E.HoL w lo hi fs∧(E.fpL fs).Nodup
theorem Owns.nil {w:World}{lo hi:Nat}:Owns w lo hi []:=⟨by simp only [E.HoL],by simp [E.fpL]⟩
theorem Owns.leaf {w:World}{lo hi:Nat}{e:E}{fs:List E}(h0:e.fp=[])(h1:e.Ho w lo hi)(h:Owns w lo hi fs):Owns w lo hi (e :: fs) :=
 ⟨E.HoL.mk_cons h1 h.1,by rw [E.fpL,h0];exact h.2⟩
theorem Owns.cons {w:World}{lo mid hi:Nat}{e:E}{fs:List E}(h0:e.Ho w lo mid)(hn:e.fp.Nodup)(h:Owns w mid hi fs)(h1:lo≤mid)(h2:mid≤hi):Owns w lo hi (e :: fs):=by
 refine⟨E.HoL.mk_cons (h0.wider (Nat.le_refl _) h2) ?_,?_⟩
 ·rw [E.HoL_iff];exact fun x hx=>((E.HoL_iff fs).1 h.1 x hx).wider h1 (Nat.le_refl _)
 ·rw [E.fpL,List.nodup_append]
  refine⟨hn,h.2,fun a ha b hb e=>?_⟩
  subst e
  obtain⟨x,hx,hg⟩:=E.mem_fpL.1 hb
  have:=h0.lt a ha
  have:=((E.HoL_iff fs).1 h.1 x hx).lt a hg
  omega
theorem bk:∀{fs:List E} {e:E},(E.fpL fs).Nodup→e∈fs→e.fp.Nodup
 | [],_,_,h=>absurd h List.not_mem_nil
 | x :: r,e,hn,h=>by
  rw [E.fpL,List.nodup_append] at hn
  rcases List.mem_cons.1 h with rfl|h
  ·exact hn.1
  ·exact bk hn.2.1 h
theorem sZ {w:World}{lo hi:Nat}{e:E}{k k':Int}(h:(e.mk0 k).Ho w lo hi)(hk:k=k'):(e.mk0 k').Ho w lo hi:=hk▸h
theorem bV {ms:List E}{k:Nat}(h:k<ms.length)(x:E):x∈ms.set k x:=List.mem_iff_getElem.2 ⟨k,by simpa using h,by simp⟩
theorem a7 {ms:List E}{k:Nat}(h:k<ms.length)(x:E):(ms.set k x)[k]'(by simpa using h)=x:=by simp
theorem HoL_repl {w w':World}{lo hi:Nat}{fs:List E}{i:Nat}(h:E.HoL w lo hi fs)(hn:(E.fpL fs).Nodup)(hi_:i<fs.length){f':E}(hf:Fr fs[i].fp w w')(h':f'.Ho w' lo hi):E.HoL w' lo hi (fs.set i f'):=by
 rw [E.HoL_iff] at h ⊢
 intro e he
 rw [List.mem_iff_getElem] at he
 obtain⟨m,hm,rfl⟩:=he
 by_cases e:i=m
 ·subst e;simpa using h'
 ·have hm':m<fs.length:=by simpa using hm
  simp only [List.getElem_set_ne e]
  exact (h _ (List.getElem_mem hm')).fr hf fun g hg=>E.fpL_apart hn m i hm' hi_ (fun h=>e h.symm) g hg
theorem Ho_repl {w w':World}{lo hi:Nat}{fs:List E}{i:Nat}(h:(E.agg fs).Ho w lo hi)(hn:(E.agg fs).fp.Nodup)(hi_:i<fs.length){f':E}(hf:Fr fs[i].fp w w')(h':f'.Ho w' lo hi):(E.agg (fs.set i f')).Ho w' lo hi :=
 E.Ho.mk_agg (HoL_repl (by simpa only [E.Ho] using h) hn hi_ hf h')
mutual
theorem E.sz_d:∀e:E,e.d.sz=e.sz
 | .int _ _=>rfl
 | .bool _=>rfl
 | .str _=>rfl
 | .agg fs=>by simp only [E.d,E.sz];exact E.szL_d fs
 | .lst _ _ _ _ l=>by simp only [E.d,E.sz];rw [E.szL_d l,E.dL_len l]
theorem E.szL_d:∀l:List E,E.szL (E.dL l)=E.szL l
 | []=>rfl
 | e :: r=>by simp only [E.dL,E.szL];rw [E.sz_d e,E.szL_d r]
theorem E.dL_len:∀l:List E,(E.dL l).length=l.length
 | []=>rfl
 | e :: r=>by simp only [E.dL,List.length_cons];rw [E.dL_len r]
end
theorem wH {e D:E}{n:Nat}(h:Hid (e.d=D))(hn:D.sz≤n):e.sz≤n:=by rw [←E.sz_d,h.out];exact hn
theorem E.Ho.fin {e:E}{w w':World}{lo hi lo' hi':Nat}(h:e.Ho w lo hi)(k:e.Ho w lo hi→e.Ho w' lo hi)(h1:lo'≤lo)(h2:hi≤hi'):e.Ho w' lo' hi':=(k h).wider h1 h2
theorem E.Re.fin {e:E}{w w':World}{lo hi lo' hi':Nat}(h:e.Re w lo hi)(k:e.Re w lo hi→e.Re w' lo hi)(h1:lo'≤lo)(h2:hi≤hi'):e.Re w' lo' hi':=(k h).wider h1 h2
theorem yL {w:World}{b:Nat}{o:Obj}(h:w.heap[b]? = some o):b<w.heap.size:=(Array.getElem?_eq_some_iff.1 h).1
theorem yM {w:World}{o:Obj}{n:Nat}(hn:w.heap.size=n):(w.alloc o).heap[n]? = some o:=by subst hn;exact heap_alloc_new w o
theorem cL {w w':World}{B b:Nat}{x:Option Obj}(hB:Below B w w')(h:w.heap[b]? = x)(hb:b<B):w'.heap[b]? = x:=(hB.block b hb).trans h
theorem dj {w:World}{b:Nat}{x:Option Obj}(h:w.heap[b]? = x):w.drew.heap[b]? = x:=h
mutual
theorem E.cntc_le {P:Program}:∀(e:E) (t:TypeId),e.Ty P t→e.cntc≤e.enc.length+64*e.sz∧e.cnt≤64*e.sz
 | .int _ _,_,_=>by simp [E.cntc,E.cnt,E.enc]
 | .bool _,_,_=>by simp [E.cntc,E.cnt,E.enc]
 | .str _,_,_=>by simp [E.cntc,E.cnt,E.enc]
 | .agg fs,t,h=>by
  simp only [E.Ty] at h
  obtain⟨F,_,h⟩:=h
  simp only [E.cntc,E.cnt,E.enc,E.sz]
  exact E.cntF_le fs _ h
 | .lst k T A c l,t,h=>by
  simp only [E.Ty] at h
  obtain⟨_,⟨_,h6⟩,h2,h3⟩:=h
  have h4:=E.cntE_le l T h3
  have h5:(E.encL l).length=l.length*k:=E.encL_len h2
  have h7:l.length*k≤64*l.length:=by rw [Nat.mul_comm];exact Nat.mul_le_mul_right _ h6
  simp only [E.cntc,E.cnt,E.enc,E.sz,Nat.mul_add]
  constructor<;>omega
theorem E.cntF_le {P:Program}:∀(fs:List E) (ts:List TypeId),E.TyF P fs ts→E.cntcL fs≤(E.encL fs).length+64*E.szL fs∧E.cntL fs≤64*E.szL fs
 | [],_,_=>by simp [E.cntcL,E.cntL,E.szL]
 | e :: r,ts,h=>by
  simp only [E.TyF] at h
  obtain⟨t,tr,_,h1,h2⟩:=h
  have h3:=E.cntc_le e t h1
  have h4:=E.cntF_le r tr h2
  simp only [E.cntcL,E.cntL,E.szL,E.encL,List.length_append,Nat.mul_add]
  omega
theorem E.cntE_le {P:Program}:∀(l:List E) (T:TypeId),E.TyL P l T→E.cntcL l≤(E.encL l).length+64*E.szL l
 | [],_,_=>by simp [E.cntcL,E.szL]
 | e :: r,T,h=>by
  simp only [E.TyL] at h
  have h3:=E.cntc_le e T h.1
  have h4:=E.cntE_le r T h.2
  simp only [E.cntcL,E.szL,E.encL,List.length_append,Nat.mul_add]
  omega
end
theorem qj {e D:E}{t:TypeId}(h:e.Ty prog t)(hd:Hid (e.d=D))(hn:D.sz≤1073741824):(e.cnt:Int)≤1125899906842624:=by
 have h1:=(E.cntc_le e t h).2
 have h2:=wH hd hn
 omega
def E.subs:E→List E
 | .agg fs=>fs
 | _=>[]
def E.elems:E→List E
 | .lst _ _ _ _ l=>l
 | _=>[]
end Go.Proofs.YtmnneflenebgmaaGreat
namespace Go.Proofs.YtmnneflenebgmaaGreat
open Go.ChangeShapes Go.WideShapes Go.ChangeAt Go.RowKit Go.Deep Go.Joins Go.Proofs.Tryz
section
variable {H:Type}{en:TypeId×Value→H}{P:Program}{w:World}{spare:Nat→Bool}{held:Bool}{r:Reach}{base:Nat}
theorem oX {S:List TypeId}(hS:∀t∈S,jH P S t=true){t:TypeId}(ht:t∈S){F:Array Field}(hU:P.underlying t=some (.struct F)){v:Value}{x:DataW H×List MemPlace}(hv:Value.okWide P w r base t v)
 (h:∃fuel,DataW.trod en P w 0 spare held fuel t v.cells.toList=some x):∃e:E,v=e.val∧e.Ty P t∧e.In w:=by
 unfold Value.okWide at hv
 rw [hU] at hv
 obtain⟨cs,rfl,hsz,_⟩:=hv
 obtain⟨m,hm⟩:=h
 have hc:(Value.agg cs).cells=cs:=rfl
 rw [hc] at hm
 obtain⟨e,he,hty,hre⟩:=sY hS m t _ _ ht (by simpa using hsz) hm
 obtain⟨fs,rfl,_⟩:=hty.agg_ hU
 refine⟨_,?_,hty,hre⟩
 have h2:cs.toList=E.encL fs:=he
 show Value.agg cs=.agg (E.encL fs).toArray
 rw [←h2]
end
end Go.Proofs.YtmnneflenebgmaaGreat
namespace Go.Proofs.YtmnneflenebgmaaGreat
open Go.RowKit Go.Proofs.Tryz
def gvsA:List (Nat×(Array Value→Prop)):=[]
def gvsB:List (Nat×(Array Value→Prop)):=[]
def gvs:List (Nat×(Array Value→Prop)):=gvsA++gvsB
def isG (b:Nat):Prop:=∃p∈gvs,p.1=b
def GlobOk (w:World):Prop:=∀p∈gvs,∃cs T fr,w.heap[p.1]? = some (.cells cs T fr)∧p.2 cs
def Gl (w:World):Prop:=GlobOk w
theorem GlobOk.keep {w w':World}(h:GlobOk w)(hb:∀b,isG b→w'.heap[b]? = w.heap[b]?):GlobOk w':=fun p hp=>by
 obtain⟨cs,T,fr,e,h1⟩:=h p hp
 exact⟨cs,T,fr,(hb p.1 ⟨p,hp,rfl⟩).trans e,h1⟩
theorem Gl.lt {w:World}(h:Gl w){b:Nat}(hb:isG b):b<w.heap.size:=by
 obtain⟨p,hp,rfl⟩:=hb
 obtain⟨cs,T,fr,e,_⟩:=h p hp
 exact (Array.getElem?_eq_some_iff.1 e).1
theorem Gl.below {w w':World}{B:Nat}(h:Gl w)(hb:Below B w w')(hB:w.heap.size≤B):Gl w':=GlobOk.keep h fun b hg=>hb.block b (Nat.lt_of_lt_of_le (h.lt hg) hB)
theorem yN (w:World):Gl w:=fun p hp=>by simp [gvs,gvsA,gvsB] at hp
end Go.Proofs.YtmnneflenebgmaaGreat
