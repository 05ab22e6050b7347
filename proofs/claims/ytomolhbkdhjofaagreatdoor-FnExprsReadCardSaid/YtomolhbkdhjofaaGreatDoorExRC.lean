/- T -/
import Derived.Deep.RegionHeld3
import Derived.Deep.RegionWith
import Derived.Maps.AppendAt
import Derived.Deep.AppendLies
import Derived.Test.YtomolhbkdhjofaaGreatDoorExRB
set_option maxHeartbeats 0
set_option maxRecDepth 100000
namespace Go.Proofs.YtomolhbkdhjofaaGreatDoor
open Go.RowKit Go.Proofs.Tryz
inductive E where
 | int (k:IntKind) (n:Int)
 | bool (b:Bool)
 | str (s:ByteArray)
 | agg (fs:List E)
 | lst (k:Nat) (T:TypeId) (A:Option Addr) (c:Nat) (l:List E)
theorem E.ind {p:E→Prop}(h1:∀k n,p (.int k n))(h2:∀b,p (.bool b))(h3:∀s,p (.str s))(h4:∀fs,(∀e∈fs,p e)→p (.agg fs))(h5:∀k T A c l,(∀e∈l,p e)→p (.lst k T A c l)):∀e,p e :=
 E.rec (motive_1:=p) (motive_2:=fun l=>∀e∈l,p e) h1 h2 h3 (fun fs h=>h4 fs h) (fun k T A c l h=>h5 k T A c l h) (fun _ h=>absurd h List.not_mem_nil) (fun _ _ hh ht e he=>by
  rcases List.mem_cons.1 he with rfl|h
  ·exact hh
  ·exact ht e h)
mutual
def E.enc:E→List Value
 | .int k n=>[.int k n]
 | .bool b=>[.bool b]
 | .str s=>[.string s]
 | .agg fs=>E.encL fs
 | .lst _ _ A c l=>[.slice A l.length c]
def E.encL:List E→List Value
 | []=>[]
 | e :: r=>e.enc++E.encL r
end
mutual
def E.d:E→E
 | .int k n=>.int k n
 | .bool b=>.bool b
 | .str s=>.str s
 | .agg fs=>.agg (E.dL fs)
 | .lst _ _ _ _ l=>.lst 0 0 none 0 (E.dL l)
def E.dL:List E→List E
 | []=>[]
 | e :: r=>e.d :: E.dL r
end
mutual
def E.fp:E→List Nat
 | .agg fs=>E.fpL fs
 | .lst _ _ A _ l=>(match A with|some a=>[a.block]|none=>[])++E.fpL l
 | _=>[]
def E.fpL:List E→List Nat
 | []=>[]
 | e :: r=>e.fp++E.fpL r
end
mutual
def E.sz:E→Nat
 | .str s=>s.size
 | .agg fs=>E.szL fs
 | .lst _ _ _ _ l=>l.length+E.szL l
 | _=>0
def E.szL:List E→Nat
 | []=>0
 | e :: r=>e.sz+E.szL r
end
mutual
def E.Re (w:World)(lo hi:Nat):E→Prop
 | .agg fs=>E.ReL w lo hi fs
 | .lst k _ A c l=>Sl w lo hi k E.enc (.slice A l.length c) l∧E.ReL w lo hi l
 | _=>True
def E.ReL (w:World)(lo hi:Nat):List E→Prop
 | []=>True
 | e :: r=>e.Re w lo hi∧E.ReL w lo hi r
end
mutual
def E.Ho (w:World)(lo hi:Nat):E→Prop
 | .agg fs=>E.HoL w lo hi fs
 | .lst k T A c l=>Ow w lo hi T k (.slice A l.length c) l.length (E.encL l)∧(∀e∈l,e.enc.length=k)∧E.HoL w lo hi l
 | _=>True
def E.HoL (w:World)(lo hi:Nat):List E→Prop
 | []=>True
 | e :: r=>e.Ho w lo hi∧E.HoL w lo hi r
end
mutual
def E.Ty (P:Program):E→TypeId→Prop
 | .int k n,t=>P.underlying t=some (.int k)∧(Lit.int k n).wf=true
 | .bool _,t=>P.underlying t=some .bool
 | .str s,t=>P.underlying t=some .string∧s.size≤maxLen
 | .agg fs,t=>∃F,P.underlying t=some (.struct F)∧E.TyF P fs (F.toList.map (·.type))
 | .lst k T _ _ l,t=>P.underlying t=some (.slice T)∧(k=P.cellsOf T∧k≤64)∧(∀e∈l,e.enc.length=k)∧E.TyL P l T
def E.TyF (P:Program):List E→List TypeId→Prop
 | [],ts=>ts=[]
 | e :: r,ts=>∃t tr,ts=t :: tr∧e.Ty P t∧E.TyF P r tr
def E.TyL (P:Program):List E→TypeId→Prop
 | [],_=>True
 | e :: r,t=>e.Ty P t∧E.TyL P r t
end
def E.In (e:E)(w:World):Prop:=e.Re w 0 w.heap.size
theorem E.fpL_eq:∀l,E.fpL l=l.flatMap E.fp
 | []=>rfl
 | e :: r=>by rw [E.fpL,List.flatMap_cons,E.fpL_eq r]
theorem E.ReL_iff {w:World}{lo hi:Nat}:∀l,E.ReL w lo hi l↔∀e∈l,e.Re w lo hi
 | []=>by simp [E.ReL]
 | e :: r=>by rw [E.ReL,E.ReL_iff r];simp
theorem E.HoL_iff {w:World}{lo hi:Nat}:∀l,E.HoL w lo hi l↔∀e∈l,e.Ho w lo hi
 | []=>by simp [E.HoL]
 | e :: r=>by rw [E.HoL,E.HoL_iff r];simp
theorem E.TyL_iff {P:Program}{t:TypeId}:∀l,E.TyL P l t↔∀e∈l,e.Ty P t
 | []=>by simp [E.TyL]
 | e :: r=>by rw [E.TyL,E.TyL_iff r];simp
theorem E.mem_fpL {g:Nat}{l:List E}:g∈E.fpL l↔∃e∈l,g∈e.fp:=by rw [E.fpL_eq,List.mem_flatMap]
theorem E.encL_len {k:Nat}:∀{l:List E},(∀e∈l,e.enc.length=k)→(E.encL l).length=l.length*k
 | [],_=>by simp [E.encL]
 | e :: r,h=>by
  rw [E.encL,lla,h e mcs,E.encL_len fun x hx=>h x (mco _ hx),List.length_cons,Nat.add_mul];omega
section
variable {w w':World}{lo hi lo' hi':Nat}{e:E}
theorem E.Re.keep (hk:∀p:Addr,lo≤p.block→p.block<hi→w'.cell? p=w.cell? p):∀{e:E},e.Re w lo hi→e.Re w' lo hi:=by
 intro e
 induction e using E.ind with
 | h1|h2|h3=>intro _;simp [E.Re]
 | h4 fs ih=>intro h;simp only [E.Re,E.ReL_iff] at h ⊢;exact fun e he=>ih e he (h e he)
 | h5 k T A c l ih=>intro h;simp only [E.Re,E.ReL_iff] at h ⊢;exact⟨h.1.keep hk,fun e he=>ih e he (h.2 e he)⟩
theorem E.Re.wider (h1:lo'≤lo)(h2:hi≤hi'):∀{e:E},e.Re w lo hi→e.Re w lo' hi':=by
 intro e
 induction e using E.ind with
 | h1|h2|h3=>intro _;simp [E.Re]
 | h4 fs ih=>intro h;simp only [E.Re,E.ReL_iff] at h ⊢;exact fun e he=>ih e he (h e he)
 | h5 k T A c l ih=>intro h;simp only [E.Re,E.ReL_iff] at h ⊢;exact⟨h.1.wider h1 h2,fun e he=>ih e he (h.2 e he)⟩
theorem E.Re.below {B:Nat}(h:e.Re w lo hi)(hb:Below B w w')(hB:hi≤B):e.Re w' lo hi:=h.keep fun _ _ hp=>hb.cell omq
theorem E.Re.alloc (h:e.Re w lo hi)(hB:hi≤w.heap.size)(o:Obj):e.Re (w.alloc o) lo hi:=h.below (B:=w.heap.size) ((Below.refl _ _).alloc (nlr _) o) hB
theorem E.Re.setCell (h:e.Re w lo hi){p:Addr}(hB:hi≤p.block)(u:Value):e.Re (w.setCell p u) lo hi:=h.below (B:=hi) ((Below.refl _ _).setCell hB u) (nlr _)
theorem E.In.below {B:Nat}(h:e.In w)(hb:Below B w w')(hB:w.heap.size≤B):e.In w':=(E.Re.below h hb hB).wider (nlr _) hb.size
theorem E.In.alloc (h:e.In w)(o:Obj):e.In (w.alloc o):=(E.Re.alloc h (nlr _) o).wider (nlr _) (by simp)
theorem E.Re.sl {k c:Nat}{T:TypeId}{A:Option Addr}{l:List E}(h:(E.lst k T A c l).Re w lo hi):Sl w lo hi k E.enc (.slice A l.length c) l:=by simp only [E.Re] at h;exact h.1
theorem E.In.sl {k c:Nat}{T:TypeId}{A:Option Addr}{l:List E}(h:(E.lst k T A c l).In w):Proofs.YtomolhbkdhjofaaGreatDoor.Rd w k E.enc (.slice A l.length c) l:=E.Re.sl h
theorem E.Re.el {k c:Nat}{T:TypeId}{A:Option Addr}{l:List E}(h:(E.lst k T A c l).Re w lo hi)(he:e∈l):e.Re w lo hi:=by simp only [E.Re,E.ReL_iff] at h;exact h.2 e he
theorem E.In.el {k c:Nat}{T:TypeId}{A:Option Addr}{l:List E}(h:(E.lst k T A c l).In w)(he:e∈l):e.In w:=E.Re.el h he
theorem E.Re.mk {k c:Nat}{T:TypeId}{A:Option Addr}{l:List E}(h:Sl w lo hi k E.enc (.slice A l.length c) l)(h2:∀e∈l,e.Re w lo hi):(E.lst k T A c l).Re w lo hi:=by simp only [E.Re,E.ReL_iff];exact⟨h,h2⟩
theorem E.Ho.lt:∀{e:E},e.Ho w lo hi→∀g∈e.fp,lo≤g∧g<hi∧g<w.heap.size:=by
 intro e
 induction e using E.ind with
 | h1|h2|h3=>intro _ g hg;simp [E.fp] at hg
 | h4 fs ih =>
  intro h g hg
  simp only [E.Ho,E.HoL_iff] at h
  simp only [E.fp,E.mem_fpL] at hg
  obtain⟨e,he,hg⟩:=hg
  exact ih e he (h e he) g hg
 | h5 k T A c l ih =>
  intro h g hg
  simp only [E.Ho,E.HoL_iff] at h
  simp only [E.fp,List.mem_append,E.mem_fpL] at hg
  rcases hg with hg|⟨e,he,hg⟩
  ·rcases A with _|a
   ·simp at hg
   ·obtain rfl:g=a.block:=by simpa using hg
    have h1:=h.1.1.lt a.block rfl
    exact⟨h1.1,h.1.2 a.block rfl,h1.2⟩
  ·exact ih e he (h.2.2 e he) g hg
theorem E.Ho.of_fp:∀{e:E},e.Ho w lo hi→(∀g∈e.fp,lo≤g→g<hi→g<w.heap.size→w'.heap[g]? = w.heap[g]?)→e.Ho w' lo hi:=by
 intro e
 induction e using E.ind with
 | h1|h2|h3=>intro _ _;simp [E.Ho]
 | h4 fs ih =>
  intro h hb
  simp only [E.Ho,E.HoL_iff] at h ⊢
  exact fun e he=>ih e he (h e he) fun g hg=>hb g (by simp only [E.fp,E.mem_fpL];exact⟨e,he,hg⟩)
 | h5 k T A c l ih =>
  intro h hb
  have hlt:=E.Ho.lt h
  simp only [E.Ho,E.HoL_iff] at h ⊢
  refine⟨?_,h.2.1,fun e he=>ih e he (h.2.2 e he) fun g hg=>hb g (by simp only [E.fp,List.mem_append,E.mem_fpL];exact .inr ⟨e,he,hg⟩)⟩
  obtain⟨⟨hl,h0|⟨g,cap,cur,hv,hg,hh,hn,hc,hs,ht⟩⟩,hh2⟩:=h.1
  ·exact⟨⟨hl,.inl h0⟩,hh2⟩
  ·have hA:A=some ⟨g,0,none⟩:=by injection hv
   have hgf:g∈(E.lst k T A c l).fp:=by rw [hA];simp [E.fp]
   have hl3:=hlt g hgf
   exact⟨⟨hl,.inr ⟨g,cap,cur,hv,hg,(hb g hgf hl3.1 hl3.2.1 hl3.2.2).trans hh,hn,hc,hs,ht⟩⟩,hh2⟩
theorem E.Ho.wider (h1:lo'≤lo)(h2:hi≤hi'):∀{e:E},e.Ho w lo hi→e.Ho w lo' hi':=by
 intro e
 induction e using E.ind with
 | h1|h2|h3=>intro _;simp [E.Ho]
 | h4 fs ih=>intro h;simp only [E.Ho,E.HoL_iff] at h ⊢;exact fun e he=>ih e he (h e he)
 | h5 k T A c l ih=>intro h;simp only [E.Ho,E.HoL_iff] at h ⊢;exact⟨Ow.wider h.1 h1 h2,h.2.1,fun e he=>ih e he (h.2.2 e he)⟩
theorem E.Ho.below {B:Nat}(h:e.Ho w lo hi)(hb:Below B w w')(hB:hi≤B):e.Ho w' lo hi:=h.of_fp fun g _ _ hg _=>hb.block g omq
theorem E.Ho.alloc (h:e.Ho w lo hi)(hB:hi≤w.heap.size)(o:Obj):e.Ho (w.alloc o) lo hi:=h.below (B:=w.heap.size) ((Below.refl _ _).alloc (nlr _) o) hB
theorem E.Ho.setCell (h:e.Ho w lo hi){p:Addr}(hB:hi≤p.block)(u:Value):e.Ho (w.setCell p u) lo hi:=h.below (B:=hi) ((Below.refl _ _).setCell hB u) (nlr _)
theorem E.Ho.el {k c:Nat}{T:TypeId}{A:Option Addr}{l:List E}(h:(E.lst k T A c l).Ho w lo hi)(he:e∈l):e.Ho w lo hi:=by simp only [E.Ho,E.HoL_iff] at h;exact h.2.2 e he
theorem E.Ho.row {k c:Nat}{T:TypeId}{A:Option Addr}{l:List E}(h:(E.lst k T A c l).Ho w lo hi):Ow w lo hi T k (.slice A l.length c) l.length (E.encL l):=by simp only [E.Ho] at h;exact h.1
theorem E.Ho.lens {k c:Nat}{T:TypeId}{A:Option Addr}{l:List E}(h:(E.lst k T A c l).Ho w lo hi):∀e∈l,e.enc.length=k:=by simp only [E.Ho] at h;exact h.2.1
theorem E.Ho.mk {k c:Nat}{T:TypeId}{A:Option Addr}{l:List E}(h:Ow w lo hi T k (.slice A l.length c) l.length (E.encL l))(h1:∀e∈l,e.enc.length=k)(h2:∀e∈l,e.Ho w lo hi):(E.lst k T A c l).Ho w lo hi:=by simp only [E.Ho,E.HoL_iff];exact⟨h,h1,h2⟩
theorem E.Ho.cut (hh:w.heap.size≤hi'):∀{e:E},e.Ho w lo hi→e.Ho w lo hi':=by
 intro e
 induction e using E.ind with
 | h1|h2|h3=>intro _;simp [E.Ho]
 | h4 fs ih=>intro h;simp only [E.Ho,E.HoL_iff] at h ⊢;exact fun e he=>ih e he (h e he)
 | h5 k T A c l ih =>
  intro h
  have h1:=h.row
  exact E.Ho.mk (Ow.of_owns h1.1 hh) h.lens fun e he=>ih e he (h.el he)
end
structure Fr (fp:List Nat)(w w':World):Prop where
 os:w'.os=w.os
 tape:w'.tape=w.tape
 output:w'.output=w.output
 size:w.heap.size≤w'.heap.size
 block:∀k,k<w.heap.size→k∉fp→w'.heap[k]? = w.heap[k]?
section
variable {fp fp':List Nat}{a b c w w':World}{lo hi B:Nat}{e:E}
theorem Fr.refl (fp:List Nat)(w:World):Fr fp w w:=⟨rfl,rfl,rfl,nlr _,fun _ _ _=>rfl⟩
theorem Fr.trans (h:Fr fp a b)(k:Fr fp b c):Fr fp a c :=
 ⟨k.os.trans h.os,k.tape.trans h.tape,k.output.trans h.output,Nat.le_trans h.size k.size,fun i hi hh=>(k.block i (Nat.lt_of_lt_of_le hi h.size) hh).trans (h.block i hi hh)⟩
theorem Fr.set (h:Fr fp a w){p:Addr}(h1:p.block∈fp)(u:Value):Fr fp a (w.setCell p u) :=
 ⟨h.os,h.tape,h.output,by simpa using h.size,fun k hk hh=>(Below.heap_setCell w p u k (by rintro rfl;exact hh h1)).trans (h.block k hk hh)⟩
theorem Fr.below (h:Fr fp a b)(hf:∀g∈fp,B≤g)(hB:B≤a.heap.size):Below B a b:=⟨h.os,h.tape,h.output,h.size,fun k hk=>h.block k omq fun hm=>by have:=hf k hm;omega⟩
end
section
variable {w w':World}{lo hi k c g i j:Nat}{T:TypeId}{l:List E}{x x':E}{u:Value}
end
end Go.Proofs.YtomolhbkdhjofaaGreatDoor
namespace Go.Proofs.YtomolhbkdhjofaaGreatDoor
open Go.ChangeShapes Go.WideShapes Go.ChangeAt Go.RowKit Go.Deep Go.Proofs.Tryz
section
variable {P:Program}{t:TypeId}{e:E}
theorem E.Ty.int_ {k:IntKind}(h:e.Ty P t)(hU:P.underlying t=some (.int k)):∃n,e=.int k n∧(Lit.int k n).wf=true:=by
 cases e with
 | int k' n=>simp only [E.Ty,hU] at h;obtain⟨h1,h2⟩:=h;injection h1 with h1;injection h1 with h1;subst h1;exact⟨n,rfl,h2⟩
 | bool|str=>simp [E.Ty,hU] at h
 | agg fs=>simp [E.Ty,hU] at h
 | lst=>simp [E.Ty,hU] at h
theorem E.Ty.str_ (h:e.Ty P t)(hU:P.underlying t=some .string):∃s,e=.str s∧s.size≤9223372036854775807:=by
 cases e with
 | str s=>simp only [E.Ty,maxLen] at h;exact⟨s,rfl,omq⟩
 | bool|int=>simp [E.Ty,hU] at h
 | agg fs=>simp [E.Ty,hU] at h
 | lst=>simp [E.Ty,hU] at h
theorem E.Ty.agg_ {F:Array Field}(h:e.Ty P t)(hU:P.underlying t=some (.struct F)):∃fs,e=.agg fs∧E.TyF P fs (F.toList.map (·.type)):=by
 cases e with
 | agg fs =>
  simp only [E.Ty,hU] at h
  obtain⟨F',h1,h2⟩:=h
  injection h1 with h1;injection h1 with h1;subst h1
  exact⟨fs,rfl,h2⟩
 | bool|int|str=>simp [E.Ty,hU] at h
 | lst=>simp [E.Ty,hU] at h
theorem E.Ty.lst_ {T:TypeId}{k:Nat}(h:e.Ty P t)(hU:P.underlying t=some (.slice T))(hk:P.cellsOf T=k):∃A c l,e=.lst k T A c l∧(∀x∈l,x.Ty P T)∧(∀x∈l,x.enc.length=k):=by
 cases e with
 | lst k' T' A c l =>
  simp only [E.Ty,hU,E.TyL_iff] at h
  obtain⟨h1,⟨h2,_⟩,h3,h4⟩:=h
  injection h1 with h1;injection h1 with h1;subst h1
  rw [hk] at h2;subst h2
  exact⟨A,c,l,rfl,h4,h3⟩
 | bool|int|str=>simp [E.Ty,hU] at h
 | agg fs=>simp [E.Ty,hU] at h
theorem E.TyF.cons_ {fs:List E}{ts:List TypeId}(h:E.TyF P fs (t :: ts)):∃e r,fs=e :: r∧e.Ty P t∧E.TyF P r ts:=by
 cases fs with
 | nil=>simp [E.TyF] at h
 | cons e r =>
  simp only [E.TyF] at h
  obtain⟨t',tr,h1,h2,h3⟩:=h
  injection h1 with h1 h1';subst h1;subst h1'
  exact⟨e,r,rfl,h2,h3⟩
theorem E.TyF.nil_ {fs:List E}(h:E.TyF P fs []):fs=[]:=by
 cases fs with
 | nil=>rfl
 | cons e r=>simp [E.TyF] at h
theorem E.Ty.mk_lst {T:TypeId}{k c:Nat}{A:Option Addr}{l:List E}(hU:P.underlying t=some (.slice T))(hk:P.cellsOf T=k)(h:∀x∈l,x.Ty P T)(h2:∀x∈l,x.enc.length=k)(h64:k≤64:=by omega):(E.lst k T A c l).Ty P t:=by
 simp only [E.Ty,E.TyL_iff];exact⟨hU,⟨hk.symm,h64⟩,h2,h⟩
end
section
variable {H:Type}{en:TypeId×Value→H}{P:Program}{w:World}{spare:Nat→Bool}{held:Bool}
instance:Inhabited E:=⟨.bool false⟩
end
end Go.Proofs.YtomolhbkdhjofaaGreatDoor
namespace Go.Proofs.YtomolhbkdhjofaaGreatDoor
open Go.RowKit Go.Proofs.Tryz
theorem E.szL_mem:∀{l:List E} {e:E},e∈l→e.sz≤E.szL l
 | [],_,h=>absurd h List.not_mem_nil
 | x :: r,e,h=>by
  rw [E.szL]
  rcases List.mem_cons.1 h with rfl|h
  ·omega
  ·have:=E.szL_mem h;omega
theorem E.Ty.mk_agg {P:Program}{t:TypeId}{F:Array Field}{fs:List E}(hU:P.underlying t=some (.struct F))(h:E.TyF P fs (F.toList.map (·.type))):(E.agg fs).Ty P t:=by simp only [E.Ty];exact⟨F,hU,h⟩
theorem E.TyF.mk_cons {P:Program}{t:TypeId}{ts:List TypeId}{e:E}{fs:List E}(h0:e.Ty P t)(h:E.TyF P fs ts):E.TyF P (e :: fs) (t :: ts):=by simp only [E.TyF];exact⟨t,ts,rfl,h0,h⟩
theorem E.TyF.mk_nil {P:Program}:E.TyF P [] []:=by simp only [E.TyF]
theorem E.Ho.mk_agg {w:World}{lo hi:Nat}{fs:List E}(h:E.HoL w lo hi fs):(E.agg fs).Ho w lo hi:=by simp only [E.Ho];exact h
theorem E.HoL.mk_cons {w:World}{lo hi:Nat}{e:E}{fs:List E}(h0:e.Ho w lo hi)(h:E.HoL w lo hi fs):E.HoL w lo hi (e :: fs):=by simp only [E.HoL];exact⟨h0,h⟩
def Owns (w:World)(lo hi:Nat)(fs:List E):Prop:=E.HoL w lo hi fs∧(E.fpL fs).Nodup
theorem Owns.cons {w:World}{lo mid hi:Nat}{e:E}{fs:List E}(h0:e.Ho w lo mid)(hn:e.fp.Nodup)(h:Owns w mid hi fs)(h1:lo≤mid)(h2:mid≤hi):Owns w lo hi (e :: fs):=by
 refine⟨E.HoL.mk_cons (h0.wider (nlr _) h2) ?_,?_⟩
 ·rw [E.HoL_iff];exact fun x hx=>((E.HoL_iff fs).1 h.1 x hx).wider h1 (nlr _)
 ·rw [E.fpL,List.nodup_append]
  refine⟨hn,h.2,fun a ha b hb e=>?_⟩
  subst e
  obtain⟨x,hx,hg⟩:=E.mem_fpL.1 hb
  have:=h0.lt a ha
  have:=((E.HoL_iff fs).1 h.1 x hx).lt a hg
  omega
end Go.Proofs.YtomolhbkdhjofaaGreatDoor
