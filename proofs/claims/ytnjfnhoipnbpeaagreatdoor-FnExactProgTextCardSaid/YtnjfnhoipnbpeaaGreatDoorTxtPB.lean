/- Data with places: types; marks; frames by footprints. -/
import Derived.Test.YtnjfnhoipnbpeaaGreatDoorRows
import Derived.ProofKit
import Derived.OpenShut
import Derived.ShutString
import Derived.ChangeOld
import Derived.SizedLaws
import Derived.Deep.Slices
import Derived.Lib.SmallJoins
import Derived.Maps.AppendAt
import Derived.Deep.AppendLies
import Derived.Lib.LaidTab
import Derived.Lib.ItoaNum
import Derived.LaidMore
import Derived.LaidLaws
import Derived.LaidHandle
import Derived.Handed
import Derived.Stop.Joined
import Derived.Stop.LaidErr
import Derived.Test.YtnjfnhoipnbpeaaGreatDoorTxtPA
namespace Go.Proofs.YtnjfnhoipnbpeaaGreatDoor
open Go.RowKit
structure Fr (fp:List Nat)(w w':World):Prop where
 os:w'.os=w.os
 tape:w'.tape=w.tape
 output:w'.output=w.output
 size:w.heap.size≤w'.heap.size
 block:∀k,k<w.heap.size→k∉fp→w'.heap[k]? = w.heap[k]?
section
variable {fp fp':List Nat}{a b c w w':World}{lo hi B:Nat}{e:E}
theorem Fr.refl (fp:List Nat)(w:World):Fr fp w w:=⟨rfl,rfl,rfl,Nat.le_refl _,fun _ _ _=>rfl⟩
theorem Fr.trans (h:Fr fp a b)(k:Fr fp b c):Fr fp a c :=
 ⟨k.os.trans h.os,k.tape.trans h.tape,k.output.trans h.output,Nat.le_trans h.size k.size,fun i hi hh=>(k.block i (Nat.lt_of_lt_of_le hi h.size) hh).trans (h.block i hi hh)⟩
theorem Fr.set (h:Fr fp a w){p:Addr}(h1:p.block∈fp)(u:Value):Fr fp a (w.setCell p u) :=
 ⟨h.os,h.tape,h.output,by simpa using h.size,fun k hk hh=>(Below.heap_setCell w p u k (by rintro rfl;exact hh h1)).trans (h.block k hk hh)⟩
theorem Fr.sub (h:Fr fp a b)(hs:∀g∈fp,g∈fp'):Fr fp' a b:=⟨h.os,h.tape,h.output,h.size,fun k hk hh=>h.block k hk fun hm=>hh (hs k hm)⟩
theorem Fr.kp (h:Fr fp a b)(hf:∀g∈fp,lo≤g∧g<hi):Kp lo hi a b:=⟨h.os,h.tape,h.output,h.size,fun k hk hh=>h.block k hk fun hm=>by have:=hf k hm;omega⟩
theorem Fr.below (h:Fr fp a b)(hf:∀g∈fp,B≤g)(hB:B≤a.heap.size):Below B a b:=⟨h.os,h.tape,h.output,h.size,fun k hk=>h.block k (by omega) fun hm=>by have:=hf k hm;omega⟩
theorem E.Ho.fr (h:e.Ho a lo hi)(hb:Fr fp a b)(hd:∀g∈e.fp,g∉fp):e.Ho b lo hi:=h.of_fp fun g hg _ _ hs=>hb.block g hs (hd g hg)
end
theorem E.encL_app:∀(a b:List E),E.encL (a++b)=E.encL a++E.encL b:=fun a b=>by simp [E.encL_eq]
theorem E.fpL_app:∀(a b:List E),E.fpL (a++b)=E.fpL a++E.fpL b:=fun a b=>by simp [E.fpL_eq]
theorem E.encL_set {k:Nat}{l:List E}(hk:∀e∈l,e.enc.length=k){i:Nat}(h:i<l.length){x:E}{j:Nat}{u:Value}(hj:j<k)(hx:x.enc=l[i].enc.set j u):E.encL (l.set i x)=(E.encL l).set (i*k+j) u:=by
 have hlx:x.enc.length=k:=by rw [hx,List.length_set];exact hk _ (List.getElem_mem h)
 have hk2:∀e∈l.set i x,e.enc.length=k:=by
  intro e he
  rcases List.mem_or_eq_of_mem_set he with h|rfl
  ·exact hk e h
  ·exact hlx
 have hlen:=E.encL_len hk
 have hlen2:=E.encL_len hk2
 apply List.ext_getElem?
 intro m
 have hk0:0<k:=by omega
 rcases Nat.lt_or_ge m (l.length*k) with hm|hm
 ·have hq:m / k<l.length:=(Nat.div_lt_iff_lt_mul hk0).2 hm
  have hr:m % k<k:=Nat.mod_lt _ hk0
  have hm':m=m / k*k+m % k:=by rw [Nat.mul_comm];exact (Nat.div_add_mod m k).symm
  generalize m / k=q at *
  generalize m % k=r at *
  subst hm'
  rw [E.encL_at hk2 q (by simpa using hq) r hr,List.getElem?_set]
  have hpos:i*k+j<(E.encL l).length:=by
   rw [hlen]
   have:=Nat.mul_le_mul_right k (show i+1≤l.length from h)
   rw [Nat.add_mul] at this;omega
  by_cases e:i=q
  ·subst e
   simp only [List.getElem_set_self]
   by_cases e2:j=r
   ·subst e2
    rw [if_pos rfl,if_pos hpos,hx,List.getElem?_set_self (by rw [hk _ (List.getElem_mem h)];exact hj)]
   ·rw [if_neg (by omega),E.encL_at hk i h r hr,hx,List.getElem?_set_ne e2]
  ·have hne:i*k+j≠q*k+r:=by
    intro hh
    rcases Nat.lt_or_ge i q with hl|hl
    ·have:=Nat.mul_le_mul_right k (show i+1≤q from hl)
     rw [Nat.add_mul] at this;omega
    ·have:=Nat.mul_le_mul_right k (show q+1≤i by omega)
     rw [Nat.add_mul] at this;omega
   rw [if_neg hne,E.encL_at hk q hq r hr]
   simp only [List.getElem_set_ne e]
 ·rw [List.getElem?_eq_none (by rw [hlen2,List.length_set];exact hm),List.getElem?_eq_none (by rw [List.length_set,hlen];exact hm)]
section
variable {w w':World}{lo hi k c g i j:Nat}{T:TypeId}{l:List E}{x x':E}{u:Value}
theorem E.Ho.store (h:(E.lst k T (some ⟨g,0,none⟩) c (l.set i x)).Ho w lo hi)(hn:(E.lst k T (some ⟨g,0,none⟩) c (l.set i x)).fp.Nodup)(hi_:i<l.length)(x':E)(j:Nat)(u:Value)(hj:j<k)(he:x'.enc=x.enc.set j u)
 (hin:∀W:World,x.Ho W lo hi→x'.Ho W lo hi):(E.lst k T (some ⟨g,0,none⟩) c (l.set i x')).Ho (w.setCell ⟨g,i*k+j,none⟩ u) lo hi:=by
 have hl:=h.lens
 have hi2:i<(l.set i x).length:=by simpa using hi_
 have hxi:(l.set i x)[i]=x:=by simp
 have hgn:g∉E.fpL (l.set i x):=by
  simp only [E.fp,List.singleton_append,List.nodup_cons] at hn
  exact hn.1
 have e1:l.set i x'=(l.set i x).set i x':=by rw [List.set_set]
 have hrow:=(h.row).set (i*k+j) u
 rw [List.length_set] at hrow
 have hk2:∀e∈l.set i x',e.enc.length=k:=by
  rw [e1]
  intro e he2
  rcases List.mem_or_eq_of_mem_set he2 with h2|rfl
  ·exact hl e h2
  ·rw [he,List.length_set];exact hl x (List.mem_iff_getElem.2 ⟨i,hi2,hxi⟩)
 refine E.Ho.mk ?_ hk2 ?_
 ·rw [List.length_set,e1,E.encL_set hl hi2 hj (by rw [hxi];exact he)]
  exact hrow
 ·have hold:∀e∈l.set i x,e.Ho (w.setCell ⟨g,i*k+j,none⟩ u) lo hi:=fun e he2 =>
   (h.el he2).of_fp fun b hb _ _ _=>Below.heap_setCell w _ u b (by rintro rfl;exact hgn (E.mem_fpL.2 ⟨e,he2,hb⟩))
  intro e he2
  rw [e1] at he2
  rcases List.mem_or_eq_of_mem_set he2 with h2|rfl
  ·exact hold e h2
  ·exact hin _ (hold x (List.mem_iff_getElem.2 ⟨i,hi2,hxi⟩))
end
end Go.Proofs.YtnjfnhoipnbpeaaGreatDoor
namespace Go.Proofs.YtnjfnhoipnbpeaaGreatDoor
open Go.ChangeShapes Go.WideShapes Go.ChangeAt Go.RowKit
theorem own:ownKnob Tryz.prog.godebug=none:=by kernel_rfl
theorem laidOut:laidOutB Tryz.prog=true:=by kernel_rfl
section
variable {H:Type}{enc:TypeId×Value→H}{P:Program}
theorem zl7 (hl:laidOutB P=true){W W':World}(hb:Below W.heap.size W W'):∀(ts:List TypeId) (vs:List Value) (ds:List (DataW H)) (ps:List MemPlace),
 (∀t∈ts,P.readableRec t=true∧t<P.types.size)→DataW.TrodAll enc P W 0 (fun _=>true) true ts vs ds ps →
 DataW.TrodAll enc P W' 0 (fun b=>decide (b<W.heap.size)) true ts vs ds ps
 | [],vs,ds,ps,_,h=>by
  cases vs<;>cases ds<;>simp_all [DataW.TrodAll]
 | t :: ts,vs,ds,ps,ht,h=>by
  obtain⟨v,vs',d,ds',p,q,rfl,rfl,rfl,h0,h1⟩:=trodAll_cons h
  have hlt:∀x∈p,x.block<W.heap.size:=by obtain⟨m,hm⟩:=h0;exact DataW.trod_lt m _ _ _ hm
  exact⟨p,q,Below.trod hl (ht t (by simp)).1 (ht t (by simp)).2 h0 hb hlt,zl7 hl hb ts vs' ds' q (fun x hx=>ht x (by simp [hx])) h1,rfl⟩
theorem zf10 {w:World}{base:Nat}{spare:Nat→Bool}{held:Bool}:∀(ts:List TypeId) (vs:List Value) (ds:List (DataW H)) (ps:List MemPlace),DataW.TrodAll enc P w base spare held ts vs ds ps→ds.length=ts.length
 | [],vs,ds,ps,h=>by cases vs<;>cases ds<;>simp_all [DataW.TrodAll]
 | t :: ts,vs,ds,ps,h=>by
  obtain⟨v,vs',d,ds',p,q,rfl,rfl,rfl,h0,h1⟩:=trodAll_cons h
  simp [zf10 ts vs' ds' q h1]
def IsLaw (s:ChangeSpec)(n:Nat):Prop:=s.vars=[]∧∀(H:Type) (ds:List (DataW H)),ds.length=n→(s.fn H ds).results=[.lit (.bool true)]∧(s.fn H ds).args=ds∧(s.fn H ds).vars=[]
theorem isLaw1 {s:ChangeSpec}(hv:s.vars=[])(h:∀(H:Type) (d:DataW H),s.fn H [d]={ results:=[.lit (.bool true)],args:=[d] }):IsLaw s 1 :=
 ⟨hv,fun H ds hl=>by match ds,hl with|[d],_=>rw [h];exact⟨rfl,rfl,rfl⟩⟩
theorem law_post {f:FuncId}{fn:Func}{s:ChangeSpec}{tb:TypeId}(hl:laidOutB P=true)(hread:∀t∈fn.params.toList,P.readableRec t=true∧t<P.types.size)
 (hr:fn.resultTypes=#[tb]) (hB:P.underlying tb=some .bool) (hs:IsLaw s fn.params.toList.length)
 {W:World} {args:Array Value} {ds gs:List (DataW H)} {before:List MemPlace} (hW:DataW.Whole enc P fn.params.toList s.vars false W args.toList ds gs before)
 (walk:Calls P f args W fun e W'=>e=.returned (.bool true)∧Below W.heap.size W W') :
 Calls P f args W fun e W'=>∃v,e=.returned v∧s.post enc P fn false true false false W args v W':=by
 refine walk.mono fun e W' ⟨he,hb⟩=>?_
 have hW':=hW
 obtain⟨p,q,hA,hV,rfl,hfz,hnd⟩:=hW
 rw [hs.1] at hV
 obtain⟨rfl,rfl⟩:=trodVars_none hV
 have hlen:=zf10 _ _ _ _ hA
 obtain⟨h1,h2,h3⟩:=hs.2 H ds hlen
 refine⟨_,he,ds,[],_,[],p,[],hW',?_,?_,?_,hb.frame _,fun h=>by cases h⟩
 ·rw [List.append_nil,h1,hr]
  exact trodAll_mk1 (shut_bool hB _)
 ·rw [List.append_nil,h2]
  exact zl7 hl hb _ _ _ _ hread hA
 ·rw [List.append_nil,h3,hs.1]
  rfl
end
end Go.Proofs.YtnjfnhoipnbpeaaGreatDoor
namespace Go.Proofs.YtnjfnhoipnbpeaaGreatDoor
open Go.ChangeShapes Go.WideShapes Go.ChangeAt Go.RowKit Go.Deep
section
variable {H:Type}{en:TypeId×Value→H}{P:Program}{w:World}{spare:Nat→Bool}{held:Bool}
theorem cell_lt {a:Addr}{u:Value}(h:w.cell? a=some u):a.block<w.heap.size:=by
 rcases Nat.lt_or_ge a.block w.heap.size with hlt|hge
 ·exact hlt
 ·unfold World.cell? at h
  rw [Array.getElem?_eq_none hge] at h
  cases h
theorem zp14 {b o:Nat}(n:Nat):(⟨b,o,none⟩:Addr).add n=⟨b,o+n,none⟩:=by
 unfold Addr.add;split
 ·subst_vars;rfl
 ·rfl
theorem zu20 {n:Int}(h:(Lit.int .i64 n).wf=true) : -9223372036854775808≤n∧n≤9223372036854775807:=by
 simp [Lit.wf,IntKind.min,IntKind.max,IntKind.signed,IntKind.bits] at h
 omega
end
end Go.Proofs.YtnjfnhoipnbpeaaGreatDoor
namespace Go.Proofs.YtnjfnhoipnbpeaaGreatDoor
open Go.ChangeShapes Go.WideShapes Go.ChangeAt Go.RowKit Go.Deep
section
variable {P:Program}{t:TypeId}{e:E}
theorem E.Ty.int_ {k:IntKind}(h:e.Ty P t)(hU:P.underlying t=some (.int k)):∃n,e=.int k n∧(Lit.int k n).wf=true:=by
 cases e with
 | int k' n=>simp only [E.Ty,hU] at h;obtain⟨h1,h2⟩:=h;injection h1 with h1;injection h1 with h1;subst h1;exact⟨n,rfl,h2⟩
 | bool|str=>simp [E.Ty,hU] at h
 | agg fs=>simp [E.Ty,hU] at h
 | lst=>simp [E.Ty,hU] at h
theorem E.Ty.str_ (h:e.Ty P t)(hU:P.underlying t=some .string):∃s,e=.str s∧s.size≤9223372036854775807:=by
 cases e with
 | str s=>simp only [E.Ty,maxLen] at h;exact⟨s,rfl,by omega⟩
 | bool|int=>simp [E.Ty,hU] at h
 | agg fs=>simp [E.Ty,hU] at h
 | lst=>simp [E.Ty,hU] at h
theorem E.Ty.agg_ {F:Array Field}(h:e.Ty P t)(hU:P.underlying t=some (.struct F)):∃fs,e=.agg fs∧E.TyF P fs (F.toList.map (·.type)):=by
 cases e with
 | agg fs =>
  simp only [E.Ty,hU] at h
  obtain⟨F',h1,h2⟩:=h
  injection h1 with h1;injection h1 with h1;subst h1
  exact⟨fs,rfl,h2⟩
 | bool|int|str=>simp [E.Ty,hU] at h
 | lst=>simp [E.Ty,hU] at h
theorem E.Ty.lst_ {T:TypeId}{k:Nat}(h:e.Ty P t)(hU:P.underlying t=some (.slice T))(hk:P.cellsOf T=k):∃A c l,e=.lst k T A c l∧(∀x∈l,x.Ty P T)∧(∀x∈l,x.enc.length=k):=by
 cases e with
 | lst k' T' A c l =>
  simp only [E.Ty,hU,E.TyL_iff] at h
  obtain⟨h1,⟨h2,_⟩,h3,h4⟩:=h
  injection h1 with h1;injection h1 with h1;subst h1
  rw [hk] at h2;subst h2
  exact⟨A,c,l,rfl,h4,h3⟩
 | bool|int|str=>simp [E.Ty,hU] at h
 | agg fs=>simp [E.Ty,hU] at h
theorem E.TyF.cons_ {fs:List E}{ts:List TypeId}(h:E.TyF P fs (t :: ts)):∃e r,fs=e :: r∧e.Ty P t∧E.TyF P r ts:=by
 cases fs with
 | nil=>simp [E.TyF] at h
 | cons e r =>
  simp only [E.TyF] at h
  obtain⟨t',tr,h1,h2,h3⟩:=h
  injection h1 with h1 h1';subst h1;subst h1'
  exact⟨e,r,rfl,h2,h3⟩
theorem E.TyF.nil_ {fs:List E}(h:E.TyF P fs []):fs=[]:=by
 cases fs with
 | nil=>rfl
 | cons e r=>simp [E.TyF] at h
theorem E.Ty.mk_lst {T:TypeId}{k c:Nat}{A:Option Addr}{l:List E}(hU:P.underlying t=some (.slice T))(hk:P.cellsOf T=k)(h:∀x∈l,x.Ty P T)(h2:∀x∈l,x.enc.length=k)(h64:k≤64:=by omega):(E.lst k T A c l).Ty P t:=by
 simp only [E.Ty,E.TyL_iff];exact⟨hU,⟨hk.symm,h64⟩,h2,h⟩
end
def offsOk (P:Program):Nat→List Field→Nat→Bool
 | a,[],n=>a==n
 | a,f :: r,n=>f.offset==a&&offsOk P (a+P.cellsOf f.type) r n
def closedAt (P:Program)(S:List TypeId)(t:TypeId):Bool :=
 match P.underlying t with
 | some (.int _)=>P.cellsOf t==1
 | some .bool=>P.cellsOf t==1
 | some .string=>P.cellsOf t==1
 | some (.slice T)=>P.cellsOf t==1&&decide (0<P.cellsOf T∧P.cellsOf T≤64)&&S.contains T
 | some (.struct F)=>F.toList.all (fun f=>S.contains f.type)&&offsOk P 0 F.toList (P.cellsOf t)
 | _=>false
section
variable {H:Type}{en:TypeId×Value→H}{P:Program}{w:World}{spare:Nat→Bool}{held:Bool}
theorem zu16 {α:Type}[Inhabited α]{t e:TypeId}{k fuel:Nat}{enc:α→List Value}{good:α→Prop}{v:Value}{x:DataW H×List MemPlace}(ht:P.underlying t=some (.slice e))(hk:P.cellsOf e=k)(hk0:0<k)
 (hlen:∀d,good d→(enc d).length=k) (dec:∀(n:Nat) (cs:List Value) (y:DataW H×List MemPlace),fuel=n+1→cs.length=k→DataW.trod en P w 0 spare held n e cs=some y→∃d,cs=enc d∧good d)
 (h:DataW.trod en P w 0 spare held fuel t [v]=some x):∃ds:List α,Sl w 0 w.heap.size k enc v ds∧∀d∈ds,good d:=by
 rcases DataW.trod_slice ht h with ⟨hcs,_⟩|⟨a,len,cap,elems,rest,n,hfu,hcs,hx,hb,hl,hm,hel,hi,_⟩
 ·obtain rfl:v=.slice none 0 0:=by simpa using hcs
  exact⟨[],⟨none,0,rfl,by simp,⟨by unfold maxLen;omega,fun _=>rfl⟩,fun h=>absurd h (by simp)⟩,fun d hd=>absurd hd (by simp)⟩
 ·obtain rfl:v=.slice (some a) len cap:=by simpa using hcs
  have key:∀i,i<len→∃d:α,good d∧∀j,j<k→w.cell? ((a.add (i*k)).add j)=(enc d)[j]? := by
   intro i hi'
   have h1:=hi i hi'
   rw [List.getElem?_eq_getElem (by omega:i<elems.length),Option.bind_eq_some_iff] at h1
   obtain⟨cs',hc,htr⟩:=h1
   rw [hk] at hc
   obtain⟨_,hcl,hat⟩:=World.cells?_some hc
   obtain⟨d,rfl,hg⟩:=dec n cs' _ hfu hcl htr
   exact⟨d,hg,fun j hj=>hat j hj⟩
  rcases Nat.eq_zero_or_pos len with h0|h0
  ·subst h0
   exact⟨[],⟨some a,cap,by simp,by simp,⟨hm,fun h=>by cases h⟩,fun h=>absurd h (by simp)⟩,fun d hd=>absurd hd (by simp)⟩
  obtain⟨F,hF⟩:=choose_lt key
  refine⟨(List.range len).map F,⟨some a,cap,by simp,by simpa using hl,⟨hm,fun h=>by cases h⟩,fun hpos=>?_⟩,?_⟩
  ·have hpos':0<len:=by simpa using hpos
   have h00:=(hF 0 hpos').2 0 hk0
   obtain⟨u0,hu⟩:∃u,(enc (F 0))[0]? = some u:=⟨_,List.getElem?_eq_getElem (by rw [hlen _ (hF 0 hpos').1];exact hk0)⟩
   rw [hu,Nat.zero_mul] at h00
   have e00:(a.add 0).add 0=a:=by simp [Addr.add]
   rw [e00] at h00
   have hs:=World.cell?_spot h00
   obtain⟨b,o,sp⟩:=a
   simp only at hs
   subst hs
   refine⟨b,o,rfl,Nat.zero_le _,cell_lt h00,fun i hil j u hu=>?_⟩
   have hil':i<len:=by simpa using hil
   have hu':(enc (F i))[j]? = some u:=by simpa using hu
   have hj:j<k:=by
    rcases Nat.lt_or_ge j k with h|h
    ·exact h
    ·rw [List.getElem?_eq_none (by rw [hlen _ (hF i hil').1];exact h)] at hu';cases hu'
   have:=(hF i hil').2 j hj
   rw [zp14,zp14,hu'] at this
   exact this
  ·intro d hd
   obtain⟨i,hi,rfl⟩:=List.mem_map.1 hd
   exact (hF i (by simpa using hi)).1
instance:Inhabited E:=⟨.bool false⟩
theorem zg10 {S:List TypeId}{n:Nat}(ih:∀(t:TypeId) (cs:List Value) (y:DataW H×List MemPlace),t∈S→cs.length=P.cellsOf t→DataW.trod en P w 0 spare held n t cs=some y→∃e:E,cs=e.enc∧e.Ty P t∧e.Re w 0 w.heap.size)(cs:List Value) :
 ∀(fs:List Field) (a N:Nat),offsOk P a fs N=true→(∀f∈fs,f.type∈S)→N≤cs.length→(∀f∈fs,∃y,DataW.trod en P w 0 spare held n f.type ((cs.drop f.offset).take (P.cellsOf f.type))=some y) →
 a≤N∧∃es:List E,(cs.take N).drop a=E.encL es∧E.TyF P es (fs.map (·.type))∧E.ReL w 0 w.heap.size es
 | [],a,N,ho,_,_,_=>by
  simp only [offsOk,beq_iff_eq] at ho
  subst ho
  exact⟨Nat.le_refl _,[],by simp [E.encL],by simp [E.TyF],by simp [E.ReL]⟩
 | f :: r,a,N,ho,hS,hN,hf=>by
  simp only [offsOk,Bool.and_eq_true,beq_iff_eq] at ho
  obtain⟨h1,h2⟩:=ho
  obtain⟨hle,es,e1,e2,e3⟩:=zg10 ih cs r _ N h2 (fun x hx=>hS x (List.mem_cons_of_mem _ hx)) hN (fun x hx=>hf x (List.mem_cons_of_mem _ hx))
  obtain⟨y,hy⟩:=hf f List.mem_cons_self
  rw [h1] at hy
  have hcl:((cs.drop a).take (P.cellsOf f.type)).length=P.cellsOf f.type:=by rw [List.length_take,List.length_drop];omega
  obtain⟨e,g1,g2,g3⟩:=ih f.type _ _ (hS f List.mem_cons_self) hcl hy
  refine⟨by omega,e :: es,?_,?_,?_⟩
  ·rw [E.encL,←e1,←g1]
   apply List.ext_getElem?
   intro i
   by_cases hlt:i<P.cellsOf f.type
   ·rw [List.getElem?_append_left (by rw [hcl];exact hlt)]
    simp only [List.getElem?_drop,List.getElem?_take]
    rw [if_pos (by omega),if_pos hlt]
   ·rw [List.getElem?_append_right (by rw [hcl];omega),hcl]
    simp only [List.getElem?_drop,List.getElem?_take]
    have:a+i=a+P.cellsOf f.type+(i-P.cellsOf f.type):=by omega
    rw [this]
  ·simp only [E.TyF,List.map_cons];exact⟨_,_,rfl,g2,e2⟩
  ·simp only [E.ReL];exact⟨g3,e3⟩
theorem zx22 {S:List TypeId}(hS:∀t∈S,closedAt P S t=true):∀(fuel:Nat) (t:TypeId) (cs:List Value) (x:DataW H×List MemPlace),t∈S→cs.length=P.cellsOf t→DataW.trod en P w 0 spare held fuel t cs=some x→∃e:E,cs=e.enc∧e.Ty P t∧e.Re w 0 w.heap.size
 | 0,t,cs,x,_,_,h=>by simp [DataW.trod] at h
 | n+1,t,cs,x,ht,hc,h=>by
  have hcl:=hS t ht
  unfold closedAt at hcl
  split at hcl
  ·rename_i k hU
   obtain⟨n,rfl,_,hw⟩:=DataW.trod_int hU h
   exact⟨.int k n,rfl,⟨hU,hw⟩,trivial⟩
  ·rename_i hU
   obtain⟨b,rfl,_⟩:=DataW.trod_bool hU h
   exact⟨.bool b,rfl,hU,trivial⟩
  ·rename_i hU
   obtain⟨s,rfl,_,hw⟩:=DataW.trod_string hU h
   exact⟨.str s,rfl,⟨hU,hw⟩,trivial⟩
  ·rename_i T hU
   simp only [Bool.and_eq_true,beq_iff_eq,decide_eq_true_eq,List.contains_iff_mem] at hcl
   obtain⟨⟨h1,h2⟩,h3⟩:=hcl
   rw [h1] at hc
   match cs,hc with
   | [v],_ =>
    obtain⟨ds,hs,hg⟩:=zu16 (α:=E) (enc:=E.enc) (good:=fun e=>e.enc.length=P.cellsOf T∧e.Ty P T∧e.Re w 0 w.heap.size) hU rfl h2.1 (fun d hd=>hd.1) (fun m cs' y hm hcl' hy=>by
     injection hm with hm
     subst hm
     obtain⟨e,rfl,g2,g3⟩:=zx22 hS n T cs' y h3 hcl' hy
     exact⟨e,rfl,hcl',g2,g3⟩) h
    obtain⟨A,c,rfl,_,_⟩:=hs.form
    exact⟨.lst (P.cellsOf T) T A c ds,rfl,E.Ty.mk_lst hU rfl (fun x hx=>(hg x hx).2.1) (fun x hx=>(hg x hx).1) h2.2,E.Re.mk hs fun x hx=>(hg x hx).2.2⟩
  ·rename_i F hU
   simp only [Bool.and_eq_true,List.all_eq_true,List.contains_iff_mem] at hcl
   obtain⟨h1,h2⟩:=hcl
   obtain⟨ys,n',hn',hyy,hlen,hyl,hf⟩:=DataW.trod_struct hU h
   injection hn' with hn'
   subst hn'
   obtain⟨_,es,e1,e2,e3⟩:=zg10 (fun t cs y=>zx22 hS n t cs y) cs F.toList 0 _ h2 h1 (by omega) (fun f hfm=>by
    obtain⟨i,hi,rfl⟩:=List.getElem_of_mem hfm
    have h5:=hf i F.toList[i] (by rw [←Array.getElem?_toList];exact List.getElem?_eq_getElem _)
    rw [List.getElem?_eq_getElem (by rw [hyl];simpa using hi)] at h5
    exact⟨_,h5⟩)
   rw [List.drop_zero,List.take_of_length_le (by omega)] at e1
   exact⟨.agg es,e1,by simp only [E.Ty];exact⟨F,hU,e2⟩,by simp only [E.Re];exact e3⟩
  ·cases hcl
end
end Go.Proofs.YtnjfnhoipnbpeaaGreatDoor
namespace Go.Proofs.YtnjfnhoipnbpeaaGreatDoor
open Go.RowKit
section
variable {α:Type}{P:Program}{ops:Array Oper}{o:Oper}{a:Act}{w:World}{lo hi k bytes H:Nat}{t e:TypeId}{enc:α→List Value}
end
theorem Kp.setAny {lo hi:Nat}{a w:World}(h:Kp lo hi a w){g j:Nat}(hp:lo≤g∧g<hi∨a.heap.size≤g)(u:Value):Kp lo hi a (w.setCell ⟨g,j,none⟩ u) :=
 ⟨h.os,h.tape,h.output,by simpa using h.size,fun k hk hh=>(Below.heap_setCell w ⟨g,j,none⟩ u k (by show k≠g;omega)).trans (h.block k hk hh)⟩
def Sz (f:FuncId)(e:E):Prop:=∀(left:Int) (w:World),e.In w→0≤left→left≤1048576 →
 Calls Tryz.prog f #[e.val,.int .i64 left] w fun r w'=>∃n:Int,r=.returned (.int .i64 n)∧(n<0∨Hid (n+e.sz=left))∧n≤left∧Below w.heap.size w w'
def To (f:FuncId)(t:TypeId)(e:E):Prop:=∀(w:World),e.In w→e.sz≤1048576 →
 Calls Tryz.prog f #[e.val] w fun r w'=>∃x:E,r=.returned x.val∧Hid (x.d=e.d)∧x.Ty Tryz.prog t∧x.Ho w' w.heap.size w'.heap.size∧x.fp.Nodup∧Below w.heap.size w w'
def Eq (f:FuncId)(a b:E):Prop:=a.d=b.d→∀(w:World),a.In w→b.In w →
 Calls Tryz.prog f #[a.val,b.val] w fun r w'=>r=.returned (.bool true)∧Below w.heap.size w w'
theorem E.szL_app:∀(a b:List E),E.szL (a++b)=E.szL a+E.szL b
 | [],b=>by simp [E.szL]
 | e :: a,b=>by simp only [List.cons_append,E.szL,E.szL_app a b];omega
theorem E.szL_take (l:List E)(k:Nat)(h:k<l.length):E.szL (l.take (k+1))=E.szL (l.take k)+l[k].sz:=by
 rw [List.take_succ_eq_append_getElem h,E.szL_app];simp [E.szL]
theorem E.szL_mem:∀{l:List E} {e:E},e∈l→e.sz≤E.szL l
 | [],_,h=>absurd h List.not_mem_nil
 | x :: r,e,h=>by
  rw [E.szL]
  rcases List.mem_cons.1 h with rfl|h
  ·omega
  ·have:=E.szL_mem h;omega
theorem zw11 {k k' c c':Nat}{T T':TypeId}{A A':Option Addr}{l m:List E}:(E.lst k T A c l).d=(E.lst k' T' A' c' m).d↔l.map E.d=m.map E.d:=by
 simp only [E.d,E.dL_eq,E.lst.injEq,true_and]
theorem zy22 {l m:List E}(h:l.map E.d=m.map E.d):l.length=m.length:=by have:=congrArg List.length h;simpa using this
theorem d_at {l m:List E}(h:l.map E.d=m.map E.d){i:Nat}(hi:i<l.length)(hi':i<m.length):l[i].d=m[i].d:=by
 have e:(l.map E.d)[i]'(by simpa using hi)=(m.map E.d)[i]'(by simpa using hi'):=by simp only [h]
 simpa using e
theorem zw18 {l us:List E}{k:Nat}(hk:k<l.length){x:E}(h:us.map E.d=(l.take k).map E.d)(hx:x.d=l[k].d):(us++[x]).map E.d=(l.take (k+1)).map E.d:=by
 rw [List.take_succ_eq_append_getElem hk,List.map_append,List.map_append,h];simp [hx]
theorem zv6 {w:World}{a b c:Obj}:(((w.alloc a).alloc b).alloc c).heap[w.heap.size]? = some a∧(((w.alloc a).alloc b).alloc c).heap[w.heap.size+1]? = some b∧(((w.alloc a).alloc b).alloc c).heap[w.heap.size+1+1]? = some c:=by
 refine⟨?_,?_,?_⟩
 ·rw [Below.heap_alloc _ _ _ (by simp;omega),Below.heap_alloc _ _ _ (by simp),heap_alloc_new]
 ·rw [Below.heap_alloc _ _ _ (by simp)]
  have h:=heap_alloc_new (w.alloc a) b
  simpa only [World.size_alloc] using h
 ·have h:=heap_alloc_new ((w.alloc a).alloc b) c
  simpa only [World.size_alloc] using h
theorem zc5 {w:World}{b:Nat}{cs:Array Value}{t:TypeId}(h:w.heap[b]? = some (.cells cs t (0,0)))(o:Nat):w.frozen? ⟨b,o,none⟩=false:=by simp [World.frozen?,h]
theorem zi1 {w:World}{b o:Nat}{cs:Array Value}{t:TypeId}{u:Value}(h:w.heap[b]? = some (.cells cs t (0,0)))(hu:cs[o]? = some u):w.cell? ⟨b,o,none⟩=some u:=by rw [cell_of_row _ _ _ _ _ _ h];exact hu
theorem E.encL_app_lt (us:List E)(x:E)(j:Nat)(hj:j<(E.encL us).length):(E.encL (us++[x]))[j]? = (E.encL us)[j]? := by
 rw [E.encL_app,List.getElem?_append_left hj]
theorem Fill.swap' {w:World}{g N m:Nat}{e:TypeId}{xs ys:List Value}(h:Fill w g e N m xs)(hx:∀j,j<m→ys[j]? = xs[j]?):Fill w g e N m ys:=by
 obtain⟨cur,hh,hs,hc⟩:=h
 exact⟨cur,hh,hs,fun j hj=>(hc j hj).trans (hx j hj).symm⟩
theorem E.Ty.mk_agg {P:Program}{t:TypeId}{F:Array Field}{fs:List E}(hU:P.underlying t=some (.struct F))(h:E.TyF P fs (F.toList.map (·.type))):(E.agg fs).Ty P t:=by simp only [E.Ty];exact⟨F,hU,h⟩
theorem E.TyF.mk_cons {P:Program}{t:TypeId}{ts:List TypeId}{e:E}{fs:List E}(h0:e.Ty P t)(h:E.TyF P fs ts):E.TyF P (e :: fs) (t :: ts):=by simp only [E.TyF];exact⟨t,ts,rfl,h0,h⟩
theorem E.TyF.mk_nil {P:Program}:E.TyF P [] []:=by simp only [E.TyF]
theorem E.Ho.mk_agg {w:World}{lo hi:Nat}{fs:List E}(h:E.HoL w lo hi fs):(E.agg fs).Ho w lo hi:=by simp only [E.Ho];exact h
theorem E.HoL.mk_cons {w:World}{lo hi:Nat}{e:E}{fs:List E}(h0:e.Ho w lo hi)(h:E.HoL w lo hi fs):E.HoL w lo hi (e :: fs):=by simp only [E.HoL];exact⟨h0,h⟩
theorem E.fpL_nil:∀{l:List E},(∀e∈l,e.fp=[])→E.fpL l=[]
 | [],_=>rfl
 | x :: r,h=>by rw [E.fpL,h x List.mem_cons_self,E.fpL_nil fun e he=>h e (List.mem_cons_of_mem _ he)];rfl
theorem zm6 {us:List E}{x:E}(h1:(E.fpL us).Nodup)(h2:x.fp.Nodup)(h3:∀g∈E.fpL us,g∉x.fp):(E.fpL (us++[x])).Nodup:=by
 rw [E.fpL_app,List.nodup_append]
 simp only [E.fpL,List.append_nil]
 exact⟨h1,h2,fun a ha b hb e=>h3 a ha (e▸hb)⟩
def Owns (w:World)(lo hi:Nat)(fs:List E):Prop:=E.HoL w lo hi fs∧(E.fpL fs).Nodup
theorem Owns.nil {w:World}{lo hi:Nat}:Owns w lo hi []:=⟨by simp only [E.HoL],by simp [E.fpL]⟩
theorem Owns.leaf {w:World}{lo hi:Nat}{e:E}{fs:List E}(h0:e.fp=[])(h1:e.Ho w lo hi)(h:Owns w lo hi fs):Owns w lo hi (e :: fs) :=
 ⟨E.HoL.mk_cons h1 h.1,by rw [E.fpL,h0];exact h.2⟩
theorem Owns.cons {w:World}{lo mid hi:Nat}{e:E}{fs:List E}(h0:e.Ho w lo mid)(hn:e.fp.Nodup)(h:Owns w mid hi fs)(h1:lo≤mid)(h2:mid≤hi):Owns w lo hi (e :: fs):=by
 refine⟨E.HoL.mk_cons (h0.wider (Nat.le_refl _) h2) ?_,?_⟩
 ·rw [E.HoL_iff];exact fun x hx=>((E.HoL_iff fs).1 h.1 x hx).wider h1 (Nat.le_refl _)
 ·rw [E.fpL,List.nodup_append]
  refine⟨hn,h.2,fun a ha b hb e=>?_⟩
  subst e
  obtain⟨x,hx,hg⟩:=E.mem_fpL.1 hb
  have:=h0.lt a ha
  have:=((E.HoL_iff fs).1 h.1 x hx).lt a hg
  omega
mutual
theorem E.sz_d:∀e:E,e.d.sz=e.sz
 | .int _ _=>rfl
 | .bool _=>rfl
 | .str _=>rfl
 | .agg fs=>by simp only [E.d,E.sz];exact E.szL_d fs
 | .lst _ _ _ _ l=>by simp only [E.d,E.sz];rw [E.szL_d l,E.dL_len l]
theorem E.szL_d:∀l:List E,E.szL (E.dL l)=E.szL l
 | []=>rfl
 | e :: r=>by simp only [E.dL,E.szL];rw [E.sz_d e,E.szL_d r]
theorem E.dL_len:∀l:List E,(E.dL l).length=l.length
 | []=>rfl
 | e :: r=>by simp only [E.dL,List.length_cons];rw [E.dL_len r]
end
theorem sz_le {e D:E}{n:Nat}(h:Hid (e.d=D))(hn:D.sz≤n):e.sz≤n:=by rw [←E.sz_d,h.out];exact hn
theorem zv16 {w:World}{b o g j:Nat}{u v:Value}(h:w.cell? ⟨b,o,none⟩=some u)(hb:b≠g):(w.setCell ⟨g,j,none⟩ v).cell? ⟨b,o,none⟩=some u:=(World.cell?_of_block (Below.heap_setCell w _ v b hb)).trans h
theorem E.Ho.fin {e:E}{w w':World}{lo hi lo' hi':Nat}(h:e.Ho w lo hi)(k:e.Ho w lo hi→e.Ho w' lo hi)(h1:lo'≤lo)(h2:hi≤hi'):e.Ho w' lo' hi':=(k h).wider h1 h2
theorem E.Re.fin {e:E}{w w':World}{lo hi lo' hi':Nat}(h:e.Re w lo hi)(k:e.Re w lo hi→e.Re w' lo hi)(h1:lo'≤lo)(h2:hi≤hi'):e.Re w' lo' hi':=(k h).wider h1 h2
theorem E.Ho.setAny {e:E}{w:World}{lo hi:Nat}{p:Addr}(h:e.Ho w lo hi)(hB:p.block<lo∨hi≤p.block)(u:Value):e.Ho (w.setCell p u) lo hi:=h.of_fp fun g _ hl hg _=>Below.heap_setCell w p u g (by omega)
theorem E.Re.setAny {e:E}{w:World}{lo hi:Nat}{p:Addr}(h:e.Re w lo hi)(hB:p.block<lo∨hi≤p.block)(u:Value):e.Re (w.setCell p u) lo hi:=E.Re.keep (w:=w) (fun q h1 h2=>World.cell?_of_block (Below.heap_setCell w p u q.block (by omega))) h
theorem blk_lt {w:World}{b:Nat}{o:Obj}(h:w.heap[b]? = some o):b<w.heap.size:=(Array.getElem?_eq_some_iff.1 h).1
theorem hp_new {w:World}{o:Obj}{n:Nat}(hn:w.heap.size=n):(w.alloc o).heap[n]? = some o:=by subst hn;exact heap_alloc_new w o
theorem zv3 {w:World}{o:Obj}{b:Nat}{x:Option Obj}(h:w.heap[b]? = x)(hb:b<w.heap.size):(w.alloc o).heap[b]? = x:=(Below.heap_alloc w o b hb).trans h
theorem zw3 {w w':World}{B b:Nat}{x:Option Obj}(hB:Below B w w')(h:w.heap[b]? = x)(hb:b<B):w'.heap[b]? = x:=(hB.block b hb).trans h
theorem zm4 {w:World}{b:Nat}{x:Option Obj}(h:w.heap[b]? = x):w.drew.heap[b]? = x:=h
theorem zx3 {w:World}{b n:Nat}{x:Option Obj}(h:w.heap[b]? = x):(w.drewN n).heap[b]? = x:=h
def E.subs:E→List E
 | .agg fs=>fs
 | _=>[]
def E.elems:E→List E
 | .lst _ _ _ _ l=>l
 | _=>[]
end Go.Proofs.YtnjfnhoipnbpeaaGreatDoor
namespace Go.Proofs.YtnjfnhoipnbpeaaGreatDoor
open Go.ChangeShapes Go.WideShapes Go.ChangeAt Go.RowKit Go.Deep Go.Joins
section
variable {H:Type}{en:TypeId×Value→H}{P:Program}{w:World}{spare:Nat→Bool}{held:Bool}{r:Reach}{base:Nat}
theorem zw16 {S:List TypeId}(hS:∀t∈S,closedAt P S t=true){t:TypeId}(ht:t∈S){F:Array Field}(hU:P.underlying t=some (.struct F)){v:Value}{x:DataW H×List MemPlace}(hv:Value.okWide P w r base t v)
 (h:∃fuel,DataW.trod en P w 0 spare held fuel t v.cells.toList=some x):∃e:E,v=e.val∧e.Ty P t∧e.In w:=by
 unfold Value.okWide at hv
 rw [hU] at hv
 obtain⟨cs,rfl,hsz,_⟩:=hv
 obtain⟨m,hm⟩:=h
 have hc:(Value.agg cs).cells=cs:=rfl
 rw [hc] at hm
 obtain⟨e,he,hty,hre⟩:=zx22 hS m t _ _ ht (by simpa using hsz) hm
 obtain⟨fs,rfl,_⟩:=hty.agg_ hU
 refine⟨_,?_,hty,hre⟩
 have h2:cs.toList=E.encL fs:=he
 show Value.agg cs=.agg (E.encL fs).toArray
 rw [←h2]
end
end Go.Proofs.YtnjfnhoipnbpeaaGreatDoor
namespace Go.Proofs.YtnjfnhoipnbpeaaGreatDoor
open Go.RowKit
def gvsA:List (Nat×(Array Value→Prop)):=[(1,fun cs=>cs=(Lib.pow10Tab.map fun z=>Value.int .u64 z).toArray)]
def gvsB:List (Nat×(Array Value→Prop)):=[]
def gvs:List (Nat×(Array Value→Prop)):=gvsA++gvsB
def isG (b:Nat):Prop:=∃p∈gvs,p.1=b
def GlobOk (w:World):Prop:=∀p∈gvs,∃cs T fr,w.heap[p.1]? = some (.cells cs T fr)∧p.2 cs
def Gl (w:World):Prop:=GlobOk w
theorem GlobOk.keep {w w':World}(h:GlobOk w)(hb:∀b,isG b→w'.heap[b]? = w.heap[b]?):GlobOk w':=fun p hp=>by
 obtain⟨cs,T,fr,e,h1⟩:=h p hp
 exact⟨cs,T,fr,(hb p.1 ⟨p,hp,rfl⟩).trans e,h1⟩
theorem Gl.lt {w:World}(h:Gl w){b:Nat}(hb:isG b):b<w.heap.size:=by
 obtain⟨p,hp,rfl⟩:=hb
 obtain⟨cs,T,fr,e,_⟩:=h p hp
 exact (Array.getElem?_eq_some_iff.1 e).1
theorem Gl.below {w w':World}{B:Nat}(h:Gl w)(hb:Below B w w')(hB:w.heap.size≤B):Gl w':=GlobOk.keep h fun b hg=>hb.block b (Nat.lt_of_lt_of_le (h.lt hg) hB)
theorem Gl.below_ {w w':World}(h:Gl w)(hb:Below w.heap.size w w'):Gl w':=h.below hb (Nat.le_refl _)
theorem zz22 {w:World} (h:Gl w):Lib.TabIs Tryz.prog w "internal/strconv.uint64pow10" .u64 Lib.pow10Tab:=by
 obtain⟨cs,T,fr,e,rfl⟩:=h _ (List.mem_append_left _ List.mem_cons_self)
 unfold Lib.TabIs World.var?
 have hg:(Tryz.prog).globalNamed "internal/strconv.uint64pow10"=some 1:=by kernel_rfl
 rw [hg]
 simp only [Option.bind_some]
 rw [show (w.heap[1]? = _) from e]
end Go.Proofs.YtnjfnhoipnbpeaaGreatDoor
namespace Go.Proofs.YtnjfnhoipnbpeaaGreatDoor
open Go.ChangeShapes Go.WideShapes Go.ChangeAt Go.RowKit
set_option maxRecDepth 100000
def laidR:List (String×DataW Unit):=[]
def laidL:List (String×DataW Unit):=("math/bits.deBruijn32tab",Rows.laid_math_bits_deBruijn32tab) :: ("math/bits.deBruijn64tab",Rows.laid_math_bits_deBruijn64tab) :: ("internal/strconv.uint64pow10",Rows.laid_internal_strconv_uint64pow10) :: laidR
def doorN:Nat:=24
theorem door_met (os:Os)(args:Array Value):laidMetH Tryz.prog laidL ((World.doorLaid Tryz.prog doorN os).forCall (fun _ _=>0) ⟨#[],args,[]⟩).memory :=
 laidMetH_of_parts3 (fuel:=8) (laidMet_of_run' 8 (by kernel_rfl) (by kernel_rfl)) (by kernel_rfl) (by kernel_rfl)
theorem zv20 {W:World}(h:laidMetH Tryz.prog laidL W):Gl W:=by
 have h1:laidMet Tryz.prog laidL W:=h
 have h2:=laidMet.tail (laidMet.tail h1)
 have h3:laidMet Tryz.prog (("internal/strconv.uint64pow10",Lib.tabData .u64 Lib.pow10Tab) :: laidR) W:=h2
 have hg:(Tryz.prog).globalNamed "internal/strconv.uint64pow10"=some 1:=by kernel_rfl
 have h4:Lib.TabIs Tryz.prog W "internal/strconv.uint64pow10" .u64 Lib.pow10Tab:=Lib.tabIs_of_head (t:=145) (e:=133) (n:=20) hg (by kernel_rfl) (by kernel_rfl) Tryz.underlying133 (by kernel_rfl) (by kernel_rfl) h3
 have hA:∀p∈gvsA,∃cs T fr,W.heap[p.1]? = some (.cells cs T fr)∧p.2 cs:=fun p hp=>by
  obtain rfl:=List.mem_singleton.1 hp
  unfold Lib.TabIs World.var? at h4
  rw [hg] at h4
  simp only [Option.bind_some] at h4
  split at h4
  ·rename_i cs T fr he
   injection h4 with h4
   subst h4
   exact⟨_,_,_,he,rfl⟩
  ·cases h4
 have hB:∀p∈gvsB,∃cs T fr,W.heap[p.1]? = some (.cells cs T fr)∧p.2 cs:=fun p hp=>by
  exact absurd hp List.not_mem_nil
 exact fun p hp=>(List.mem_append.1 hp).elim (hA p) (hB p)
set_option maxRecDepth 100000 in
theorem zh10 {f:FuncId}{fn:Func}{s:ChangeSpec}{tb:TypeId}{os:Os}(started:os.Started)(H:Type)(enc:TypeId×Value→H)
 (noInit:Tryz.checked.prog.inits.idxOf? f=none) (hfn:Tryz.checked.prog.funcs[f]? = some fn)
 (hread:fn.params.toList.all (fun t=>Tryz.prog.readableRec t&&decide (t<Tryz.prog.types.size))=true)
 (hr:fn.resultTypes=#[tb]) (hB:Tryz.prog.underlying tb=some .bool) (hs:IsLaw s fn.params.toList.length)
 (args0:Array Value)
 (hok:Input.okWideB Tryz.checked.prog ((World.doorLaid Tryz.prog doorN os).forCall (fun _ _=>0) ⟨#[],args0,[]⟩) f ⟨#[],args0,[]⟩=true)
 (hpre:s.preB enc Tryz.checked.prog fn [] false ((World.doorLaid Tryz.prog doorN os).forCall (fun _ _=>0) ⟨#[],args0,[]⟩).memory args0 8=true)
 (hsz:s.sizedB enc Tryz.checked.prog fn false ((World.doorLaid Tryz.prog doorN os).forCall (fun _ _=>0) ⟨#[],args0,[]⟩).memory args0 8=true)
 (walk:∀(W:World) (base:Nat) (args:Array Value) (ds:List (DataW H)) (ps:List MemPlace),Gl W →
   (∀(j:Nat) t v,fn.params[j]? = some t→args[j]? = some v→Value.okWide Tryz.prog W .any base t v) →
   DataW.TrodAll enc Tryz.prog W 0 (fun _=>true) true fn.params.toList args.toList ds ps →
   (DataW.weightsEach Tryz.prog fn.params.toList ds).all (·≤ reachBytes)=true →
   Calls Tryz.prog f args W fun e W'=>e=.returned (.bool true)∧Below W.heap.size W W') :
 ReturnsInHanded {} Tryz.checked os f .any (fun w args=>(s.pre enc Tryz.prog fn [] false w args∧laidMetH Tryz.prog laidL w)∧sizedMet enc Tryz.prog fn (OpenSpec.ofChange s) false w args) (s.post enc Tryz.prog fn false true false false):=by
 refine returnsInHanded_of_change_and (C:=Tryz.checked) (X:=fun w _=>laidMetH Tryz.prog laidL w) (fun _ _ _ hh h=>h.of_heap hh) own started noInit hfn
  (ChangeSpec.witness_shaped (enc:=enc) (C:=Tryz.checked) (os:=os) (X:=fun w _=>laidMetH Tryz.prog laidL w) false (World.doorLaid Tryz.prog doorN os) args0 8 rfl (World.shaped_of_RefB (by kernel_rfl) (by kernel_rfl)) hok hpre hsz (door_met os _)) ?_
 intro W base args ds gs before hval hW _ hsz hL _
 have hread':∀t∈fn.params.toList,Tryz.prog.readableRec t=true∧t<Tryz.prog.types.size:=fun t ht=>by
  have h:=List.all_eq_true.1 hread t ht
  rw [Bool.and_eq_true] at h
  exact⟨h.1,of_decide_eq_true h.2⟩
 obtain⟨p,q,hA,hV,_,_,_⟩:=id hW
 rw [hs.1] at hV
 obtain⟨rfl,rfl⟩:=trodVars_none hV
 refine law_post (P:=Tryz.prog) laidOut hread' hr hB hs hW (walk W base args ds p (zv20 hL) hval hA ?_)
 have e:s.plain.varTypes Tryz.checked.prog=[]:=by
  have:s.plain.vars=[]:=hs.1
  simp [DataSpec.varTypes,this]
 rw [e,List.append_nil,List.append_nil] at hsz
 exact hsz
end Go.Proofs.YtnjfnhoipnbpeaaGreatDoor
