/- Data with places: one kind of word for all plain types (numbers, booleans, strings, structs, slices), whatever their nesting. -/
import Derived.Deep.RegionHeld3
import Derived.Deep.RegionWith
import Derived.Test.YtghljnfbbaklnaaGreatPutModuleA
namespace Go.Proofs.YtghljnfbbaklnaaGreat
open Go.RowKit
inductive E where
 | int (k:IntKind) (n:Int)
 | bool (b:Bool)
 | str (s:ByteArray)
 | agg (fs:List E)
 | lst (k:Nat) (T:TypeId) (A:Option Addr) (c:Nat) (l:List E)
theorem E.ind {p:E→Prop}(h1:∀k n,p (.int k n))(h2:∀b,p (.bool b))(h3:∀s,p (.str s))(h4:∀fs,(∀e∈fs,p e)→p (.agg fs))(h5:∀k T A c l,(∀e∈l,p e)→p (.lst k T A c l)):∀e,p e :=
 E.rec (motive_1:=p) (motive_2:=fun l=>∀e∈l,p e) h1 h2 h3 (fun fs h=>h4 fs h) (fun k T A c l h=>h5 k T A c l h) (fun _ h=>absurd h List.not_mem_nil) (fun _ _ hh ht e he=>by
  rcases List.mem_cons.1 he with rfl|h
  ·exact hh
  ·exact ht e h)
mutual
def E.enc:E→List Value
 | .int k n=>[.int k n]
 | .bool b=>[.bool b]
 | .str s=>[.string s]
 | .agg fs=>E.encL fs
 | .lst _ _ A c l=>[.slice A l.length c]
def E.encL:List E→List Value
 | []=>[]
 | e :: r=>e.enc++E.encL r
end
mutual
def E.d:E→E
 | .int k n=>.int k n
 | .bool b=>.bool b
 | .str s=>.str s
 | .agg fs=>.agg (E.dL fs)
 | .lst _ _ _ _ l=>.lst 0 0 none 0 (E.dL l)
def E.dL:List E→List E
 | []=>[]
 | e :: r=>e.d :: E.dL r
end
mutual
def E.fp:E→List Nat
 | .agg fs=>E.fpL fs
 | .lst _ _ A _ l=>(match A with|some a=>[a.block]|none=>[])++E.fpL l
 | _=>[]
def E.fpL:List E→List Nat
 | []=>[]
 | e :: r=>e.fp++E.fpL r
end
mutual
def E.sz:E→Nat
 | .str s=>s.size
 | .agg fs=>E.szL fs
 | .lst _ _ _ _ l=>l.length+E.szL l
 | _=>0
def E.szL:List E→Nat
 | []=>0
 | e :: r=>e.sz+E.szL r
end
mutual
def E.cntc:E→Nat
 | .agg fs=>E.cntcL fs
 | .lst _ _ _ _ l=>E.cntcL l
 | _=>1
def E.cntcL:List E→Nat
 | []=>0
 | e :: r=>e.cntc+E.cntcL r
end
mutual
def E.cnt:E→Nat
 | .agg fs=>E.cntL fs
 | .lst _ _ _ _ l=>E.cntcL l
 | _=>0
def E.cntL:List E→Nat
 | []=>0
 | e :: r=>e.cnt+E.cntL r
end
mutual
def E.Re (w:World)(lo hi:Nat):E→Prop
 | .agg fs=>E.ReL w lo hi fs
 | .lst k _ A c l=>Sl w lo hi k E.enc (.slice A l.length c) l∧E.ReL w lo hi l
 | _=>True
def E.ReL (w:World)(lo hi:Nat):List E→Prop
 | []=>True
 | e :: r=>e.Re w lo hi∧E.ReL w lo hi r
end
mutual
def E.Ho (w:World)(lo hi:Nat):E→Prop
 | .agg fs=>E.HoL w lo hi fs
 | .lst k T A c l=>Ow w lo hi T k (.slice A l.length c) l.length (E.encL l)∧(∀e∈l,e.enc.length=k)∧E.HoL w lo hi l
 | _=>True
def E.HoL (w:World)(lo hi:Nat):List E→Prop
 | []=>True
 | e :: r=>e.Ho w lo hi∧E.HoL w lo hi r
end
mutual
def E.Ty (P:Program):E→TypeId→Prop
 | .int k n,t=>P.underlying t=some (.int k)∧(Lit.int k n).wf=true
 | .bool _,t=>P.underlying t=some .bool
 | .str s,t=>P.underlying t=some .string∧s.size≤maxLen
 | .agg fs,t=>∃F,P.underlying t=some (.struct F)∧E.TyF P fs (F.toList.map (·.type))
 | .lst k T _ _ l,t=>P.underlying t=some (.slice T)∧(k=P.cellsOf T∧k≤64)∧(∀e∈l,e.enc.length=k)∧E.TyL P l T
def E.TyF (P:Program):List E→List TypeId→Prop
 | [],ts=>ts=[]
 | e :: r,ts=>∃t tr,ts=t :: tr∧e.Ty P t∧E.TyF P r tr
def E.TyL (P:Program):List E→TypeId→Prop
 | [],_=>True
 | e :: r,t=>e.Ty P t∧E.TyL P r t
end
def E.val:E→Value
 | .int k n=>.int k n
 | .bool b=>.bool b
 | .str s=>.string s
 | .agg fs=>.agg (E.encL fs).toArray
 | .lst _ _ A c l=>.slice A l.length c
def E.In (e:E)(w:World):Prop:=e.Re w 0 w.heap.size
theorem E.encL_eq:∀l,E.encL l=l.flatMap E.enc
 | []=>rfl
 | e :: r=>by rw [E.encL,List.flatMap_cons,E.encL_eq r]
theorem E.dL_eq:∀l,E.dL l=l.map E.d
 | []=>rfl
 | e :: r=>by rw [E.dL,List.map_cons,E.dL_eq r]
theorem E.fpL_eq:∀l,E.fpL l=l.flatMap E.fp
 | []=>rfl
 | e :: r=>by rw [E.fpL,List.flatMap_cons,E.fpL_eq r]
theorem E.ReL_iff {w:World}{lo hi:Nat}:∀l,E.ReL w lo hi l↔∀e∈l,e.Re w lo hi
 | []=>by simp [E.ReL]
 | e :: r=>by rw [E.ReL,E.ReL_iff r];simp
theorem E.HoL_iff {w:World}{lo hi:Nat}:∀l,E.HoL w lo hi l↔∀e∈l,e.Ho w lo hi
 | []=>by simp [E.HoL]
 | e :: r=>by rw [E.HoL,E.HoL_iff r];simp
theorem E.TyL_iff {P:Program}{t:TypeId}:∀l,E.TyL P l t↔∀e∈l,e.Ty P t
 | []=>by simp [E.TyL]
 | e :: r=>by rw [E.TyL,E.TyL_iff r];simp
theorem E.mem_fpL {g:Nat}{l:List E}:g∈E.fpL l↔∃e∈l,g∈e.fp:=by rw [E.fpL_eq,List.mem_flatMap]
theorem E.encL_len {k:Nat}:∀{l:List E},(∀e∈l,e.enc.length=k)→(E.encL l).length=l.length*k
 | [],_=>by simp [E.encL]
 | e :: r,h=>by
  rw [E.encL,List.length_append,h e List.mem_cons_self,E.encL_len fun x hx=>h x (List.mem_cons_of_mem _ hx),List.length_cons,Nat.add_mul];omega
theorem E.encL_at {k:Nat}:∀{l:List E},(∀e∈l,e.enc.length=k)→∀(i:Nat) (h:i<l.length) (j:Nat),j<k→(E.encL l)[i*k+j]? = l[i].enc[j]?
 | [],_,i,h,_,_=>absurd h (by simp)
 | e :: r,hk,0,h,j,hj=>by
  rw [E.encL,Nat.zero_mul,Nat.zero_add,List.getElem?_append_left (by rw [hk e List.mem_cons_self];exact hj)];rfl
 | e :: r,hk,i+1,h,j,hj=>by
  have e1:(i+1)*k+j=k+(i*k+j):=by rw [Nat.add_mul];omega
  have he:=hk e List.mem_cons_self
  rw [E.encL,e1,List.getElem?_append_right (by rw [he];omega),he,Nat.add_sub_cancel_left]
  exact E.encL_at (fun x hx=>hk x (List.mem_cons_of_mem _ hx)) i (by simpa using h) j hj
section
variable {w w':World}{lo hi lo' hi':Nat}{e:E}
theorem E.Re.keep (hk:∀p:Addr,lo≤p.block→p.block<hi→w'.cell? p=w.cell? p):∀{e:E},e.Re w lo hi→e.Re w' lo hi:=by
 intro e
 induction e using E.ind with
 | h1|h2|h3=>intro _;simp [E.Re]
 | h4 fs ih=>intro h;simp only [E.Re,E.ReL_iff] at h ⊢;exact fun e he=>ih e he (h e he)
 | h5 k T A c l ih=>intro h;simp only [E.Re,E.ReL_iff] at h ⊢;exact⟨h.1.keep hk,fun e he=>ih e he (h.2 e he)⟩
theorem E.Re.wider (h1:lo'≤lo)(h2:hi≤hi'):∀{e:E},e.Re w lo hi→e.Re w lo' hi':=by
 intro e
 induction e using E.ind with
 | h1|h2|h3=>intro _;simp [E.Re]
 | h4 fs ih=>intro h;simp only [E.Re,E.ReL_iff] at h ⊢;exact fun e he=>ih e he (h e he)
 | h5 k T A c l ih=>intro h;simp only [E.Re,E.ReL_iff] at h ⊢;exact⟨h.1.wider h1 h2,fun e he=>ih e he (h.2 e he)⟩
theorem E.Re.below {B:Nat}(h:e.Re w lo hi)(hb:Below B w w')(hB:hi≤B):e.Re w' lo hi:=h.keep fun _ _ hp=>hb.cell (by omega)
theorem E.Re.kp (hb:Kp lo' hi' w w')(hB:hi≤lo'∨hi'≤lo):∀{e:E},e.Re w lo hi→e.Re w' lo hi:=by
 intro e
 induction e using E.ind with
 | h1|h2|h3=>intro _;simp [E.Re]
 | h4 fs ih=>intro h;simp only [E.Re,E.ReL_iff] at h ⊢;exact fun e he=>ih e he (h e he)
 | h5 k T A c l ih=>intro h;simp only [E.Re,E.ReL_iff] at h ⊢;exact⟨h.1.kp hb hB,fun e he=>ih e he (h.2 e he)⟩
theorem E.Re.drew (h:e.Re w lo hi):e.Re w.drew lo hi:=E.Re.keep (w:=w) (w':=w.drew) (fun _ _ _=>rfl) h
theorem E.Re.drewN (h:e.Re w lo hi)(n:Nat):e.Re (w.drewN n) lo hi:=E.Re.keep (w:=w) (w':=w.drewN n) (fun _ _ _=>rfl) h
theorem E.Re.alloc (h:e.Re w lo hi)(hB:hi≤w.heap.size)(o:Obj):e.Re (w.alloc o) lo hi:=h.below (B:=w.heap.size) ((Below.refl _ _).alloc (Nat.le_refl _) o) hB
theorem E.Re.setCell (h:e.Re w lo hi){p:Addr}(hB:hi≤p.block)(u:Value):e.Re (w.setCell p u) lo hi:=h.below (B:=hi) ((Below.refl _ _).setCell hB u) (Nat.le_refl _)
theorem E.Re.inn (h:e.Re w lo hi)(hh:hi≤w.heap.size):e.In w:=h.wider (Nat.zero_le _) hh
theorem E.In.below {B:Nat}(h:e.In w)(hb:Below B w w')(hB:w.heap.size≤B):e.In w':=(E.Re.below h hb hB).wider (Nat.le_refl _) hb.size
theorem E.In.drew (h:e.In w):e.In w.drew:=E.Re.drew h
theorem E.In.drewN (h:e.In w)(n:Nat):e.In (w.drewN n):=E.Re.drewN h n
theorem E.In.alloc (h:e.In w)(o:Obj):e.In (w.alloc o):=(E.Re.alloc h (Nat.le_refl _) o).wider (Nat.le_refl _) (by simp)
theorem E.Re.fld {fs:List E}(h:(E.agg fs).Re w lo hi){i:Nat}(hi_:fs[i]? = some e):e.Re w lo hi:=by
 simp only [E.Re,E.ReL_iff] at h
 exact h e (List.mem_of_getElem? hi_)
theorem E.In.fld {fs:List E}(h:(E.agg fs).In w){i:Nat}(hi_:fs[i]? = some e):e.In w:=E.Re.fld h hi_
theorem E.Re.sl {k c:Nat}{T:TypeId}{A:Option Addr}{l:List E}(h:(E.lst k T A c l).Re w lo hi):Sl w lo hi k E.enc (.slice A l.length c) l:=by simp only [E.Re] at h;exact h.1
theorem E.In.sl {k c:Nat}{T:TypeId}{A:Option Addr}{l:List E}(h:(E.lst k T A c l).In w):Proofs.YtghljnfbbaklnaaGreat.Rd w k E.enc (.slice A l.length c) l:=E.Re.sl h
theorem E.Re.el {k c:Nat}{T:TypeId}{A:Option Addr}{l:List E}(h:(E.lst k T A c l).Re w lo hi)(he:e∈l):e.Re w lo hi:=by simp only [E.Re,E.ReL_iff] at h;exact h.2 e he
theorem E.In.el {k c:Nat}{T:TypeId}{A:Option Addr}{l:List E}(h:(E.lst k T A c l).In w)(he:e∈l):e.In w:=E.Re.el h he
theorem E.Re.mk {k c:Nat}{T:TypeId}{A:Option Addr}{l:List E}(h:Sl w lo hi k E.enc (.slice A l.length c) l)(h2:∀e∈l,e.Re w lo hi):(E.lst k T A c l).Re w lo hi:=by simp only [E.Re,E.ReL_iff];exact⟨h,h2⟩
theorem E.Ho.lt:∀{e:E},e.Ho w lo hi→∀g∈e.fp,lo≤g∧g<hi∧g<w.heap.size:=by
 intro e
 induction e using E.ind with
 | h1|h2|h3=>intro _ g hg;simp [E.fp] at hg
 | h4 fs ih =>
  intro h g hg
  simp only [E.Ho,E.HoL_iff] at h
  simp only [E.fp,E.mem_fpL] at hg
  obtain⟨e,he,hg⟩:=hg
  exact ih e he (h e he) g hg
 | h5 k T A c l ih =>
  intro h g hg
  simp only [E.Ho,E.HoL_iff] at h
  simp only [E.fp,List.mem_append,E.mem_fpL] at hg
  rcases hg with hg|⟨e,he,hg⟩
  ·rcases A with _|a
   ·simp at hg
   ·obtain rfl:g=a.block:=by simpa using hg
    have h1:=h.1.1.lt a.block rfl
    exact⟨h1.1,h.1.2 a.block rfl,h1.2⟩
  ·exact ih e he (h.2.2 e he) g hg
theorem E.Ho.of_fp:∀{e:E},e.Ho w lo hi→(∀g∈e.fp,lo≤g→g<hi→g<w.heap.size→w'.heap[g]? = w.heap[g]?)→e.Ho w' lo hi:=by
 intro e
 induction e using E.ind with
 | h1|h2|h3=>intro _ _;simp [E.Ho]
 | h4 fs ih =>
  intro h hb
  simp only [E.Ho,E.HoL_iff] at h ⊢
  exact fun e he=>ih e he (h e he) fun g hg=>hb g (by simp only [E.fp,E.mem_fpL];exact⟨e,he,hg⟩)
 | h5 k T A c l ih =>
  intro h hb
  have hlt:=E.Ho.lt h
  simp only [E.Ho,E.HoL_iff] at h ⊢
  refine⟨?_,h.2.1,fun e he=>ih e he (h.2.2 e he) fun g hg=>hb g (by simp only [E.fp,List.mem_append,E.mem_fpL];exact .inr ⟨e,he,hg⟩)⟩
  obtain⟨⟨hl,h0|⟨g,cap,cur,hv,hg,hh,hn,hc,hs,ht⟩⟩,hh2⟩:=h.1
  ·exact⟨⟨hl,.inl h0⟩,hh2⟩
  ·have hA:A=some ⟨g,0,none⟩:=by injection hv
   have hgf:g∈(E.lst k T A c l).fp:=by rw [hA];simp [E.fp]
   have hl3:=hlt g hgf
   exact⟨⟨hl,.inr ⟨g,cap,cur,hv,hg,(hb g hgf hl3.1 hl3.2.1 hl3.2.2).trans hh,hn,hc,hs,ht⟩⟩,hh2⟩
theorem E.Ho.wider (h1:lo'≤lo)(h2:hi≤hi'):∀{e:E},e.Ho w lo hi→e.Ho w lo' hi':=by
 intro e
 induction e using E.ind with
 | h1|h2|h3=>intro _;simp [E.Ho]
 | h4 fs ih=>intro h;simp only [E.Ho,E.HoL_iff] at h ⊢;exact fun e he=>ih e he (h e he)
 | h5 k T A c l ih=>intro h;simp only [E.Ho,E.HoL_iff] at h ⊢;exact⟨Ow.wider h.1 h1 h2,h.2.1,fun e he=>ih e he (h.2.2 e he)⟩
theorem E.Ho.below {B:Nat}(h:e.Ho w lo hi)(hb:Below B w w')(hB:hi≤B):e.Ho w' lo hi:=h.of_fp fun g _ _ hg _=>hb.block g (by omega)
theorem E.Ho.kp (h:e.Ho w lo hi)(hb:Kp lo' hi' w w')(hB:hi≤lo'∨hi'≤lo):e.Ho w' lo hi:=h.of_fp fun g _ hl hg hs=>hb.block g hs (by omega)
theorem E.Ho.drew (h:e.Ho w lo hi):e.Ho w.drew lo hi:=E.Ho.of_fp (w:=w) (w':=w.drew) h fun _ _ _ _ _=>rfl
theorem E.Ho.drewN (h:e.Ho w lo hi)(n:Nat):e.Ho (w.drewN n) lo hi:=E.Ho.of_fp (w:=w) (w':=w.drewN n) h fun _ _ _ _ _=>rfl
theorem E.Ho.alloc (h:e.Ho w lo hi)(hB:hi≤w.heap.size)(o:Obj):e.Ho (w.alloc o) lo hi:=h.below (B:=w.heap.size) ((Below.refl _ _).alloc (Nat.le_refl _) o) hB
theorem E.Ho.setCell (h:e.Ho w lo hi){p:Addr}(hB:hi≤p.block)(u:Value):e.Ho (w.setCell p u) lo hi:=h.below (B:=hi) ((Below.refl _ _).setCell hB u) (Nat.le_refl _)
theorem E.Ho.fld {fs:List E}(h:(E.agg fs).Ho w lo hi){i:Nat}(hi_:fs[i]? = some e):e.Ho w lo hi:=by
 simp only [E.Ho,E.HoL_iff] at h
 exact h e (List.mem_of_getElem? hi_)
theorem E.Ho.el {k c:Nat}{T:TypeId}{A:Option Addr}{l:List E}(h:(E.lst k T A c l).Ho w lo hi)(he:e∈l):e.Ho w lo hi:=by simp only [E.Ho,E.HoL_iff] at h;exact h.2.2 e he
theorem E.Ho.row {k c:Nat}{T:TypeId}{A:Option Addr}{l:List E}(h:(E.lst k T A c l).Ho w lo hi):Ow w lo hi T k (.slice A l.length c) l.length (E.encL l):=by simp only [E.Ho] at h;exact h.1
theorem E.Ho.lens {k c:Nat}{T:TypeId}{A:Option Addr}{l:List E}(h:(E.lst k T A c l).Ho w lo hi):∀e∈l,e.enc.length=k:=by simp only [E.Ho] at h;exact h.2.1
theorem E.Ho.mk {k c:Nat}{T:TypeId}{A:Option Addr}{l:List E}(h:Ow w lo hi T k (.slice A l.length c) l.length (E.encL l))(h1:∀e∈l,e.enc.length=k)(h2:∀e∈l,e.Ho w lo hi):(E.lst k T A c l).Ho w lo hi:=by simp only [E.Ho,E.HoL_iff];exact⟨h,h1,h2⟩
theorem zv21 {k c:Nat}{T:TypeId}{A:Option Addr}{l:List E}(h:Ow w lo hi T k (.slice A l.length c) l.length (E.encL l))(hk:∀e∈l,e.enc.length=k):Sl w lo hi k E.enc (.slice A l.length c) l:=by
 obtain⟨⟨hl,h|⟨g,cap,cur,hv,hg,hh,hn,hc,hs,ht⟩⟩,hb⟩:=h
 ·obtain⟨hv,hn⟩:=h
  injection hv with e1 e2 e3
  subst e1
  exact⟨none,c,rfl,by omega,⟨by unfold maxLen;omega,fun _=>e3⟩,fun hp=>absurd hp (by omega)⟩
 ·injection hv with e1 e2 e3
  subst e1 e3
  refine⟨_,c,rfl,hn,⟨hc,fun h=>by cases h⟩,fun _=>⟨g,0,rfl,hg,hb g rfl,fun i hi j u hu=>?_⟩⟩
  rw [cell_of_row w g _ cur T (0,0) hh,Nat.zero_add]
  have hj:j<k:=by
   rcases Nat.lt_or_ge j k with h|h
   ·exact h
   ·rw [List.getElem?_eq_none (by rw [hk _ (List.getElem_mem hi)];exact h)] at hu;cases hu
  have hlt:i*k+j<l.length*k:=by
   have:=Nat.mul_le_mul_right k (show i+1≤l.length from hi)
   rw [Nat.add_mul] at this;omega
  rw [←Array.getElem?_toList]
  have:=E.encL_at hk i hi j hj
  rw [←ht,List.getElem?_take_of_lt hlt] at this
  rw [this,hu]
theorem E.Ho.re:∀{e:E},e.Ho w lo hi→e.Re w lo hi:=by
 intro e
 induction e using E.ind with
 | h1|h2|h3=>intro _;simp [E.Re]
 | h4 fs ih=>intro h;simp only [E.Ho,E.Re,E.HoL_iff,E.ReL_iff] at h ⊢;exact fun e he=>ih e he (h e he)
 | h5 k T A c l ih =>
  intro h
  have h1:=h.row
  have h2:=h.lens
  exact E.Re.mk (zv21 h1 h2) fun e he=>ih e he (h.el he)
theorem E.Ho.cut (hh:w.heap.size≤hi'):∀{e:E},e.Ho w lo hi→e.Ho w lo hi':=by
 intro e
 induction e using E.ind with
 | h1|h2|h3=>intro _;simp [E.Ho]
 | h4 fs ih=>intro h;simp only [E.Ho,E.HoL_iff] at h ⊢;exact fun e he=>ih e he (h e he)
 | h5 k T A c l ih =>
  intro h
  have h1:=h.row
  exact E.Ho.mk (Ow.of_owns h1.1 hh) h.lens fun e he=>ih e he (h.el he)
theorem E.Ho.inn (h:e.Ho w lo hi):e.In w:=((h.cut (Nat.le_refl _)).re).inn (Nat.le_refl _)
end
end Go.Proofs.YtghljnfbbaklnaaGreat
namespace Go.Proofs.YtghljnfbbaklnaaGreat
open Go.RowKit
end Go.Proofs.YtghljnfbbaklnaaGreat
namespace Go.Proofs.YtghljnfbbaklnaaGreat
open Go.RowKit
theorem by1 {p:Prop}(h:p:=by first|omega|(·simp)|(·(simp;omega))):p:=h
theorem by0 {p:Prop}(h:p:=by repeat (first|(with_reducible refine Below.setCell ?_ by1 _)|(with_reducible refine Below.alloc ?_ by1 _)|(with_reducible refine Below.drew ?_)|(with_reducible refine bdrewN ?_ _)|(with_reducible exact Below.refl _ _)|(with_reducible assumption)|(with_reducible refine Below.trans ?_ (Below.mono (by assumption) by1))|(with_reducible refine Below.trans ?_ (Kp.below (by assumption) by1 by1)))):p:=h
def mdig:Nat→Nat→List UInt8→List UInt8
 | 0,_,acc=>acc
 | f+1,k,acc=>if k=0 then acc else mdig f (k / 10) (UInt8.ofNat (48+k % 10) :: acc)
theorem conv1 {P:Program}{t e d:TypeId}(hs:P.underlying t=some (.slice e))(he:P.underlying e=some (.int .u8))(hd:P.underlying d=some .string)(X:Int)(W:World) :
 (convert t d (.slice (some ⟨W.heap.size,0,none⟩) 1 1)).run P (W.alloc (.cells #[.int .u8 X] e))=.ok (.string (strOfNums [X])) (W.alloc (.cells #[.int .u8 X] e)) :=
 run_convert_bytes_arg _ t e hs he W.heap.size 0 1 1 [X] rfl (fun i hi=>by
  have:i=0:=by omega
  subst this
  rw [cell_of_row _ _ _ _ _ _ (heap_alloc_new W _)];rfl) d hd
def markT (k:Int):ByteArray:=if k≤0 then ⟨#[109,48]⟩ else ⟨#[109]⟩++⟨(mdig (k.toNat+1) k.toNat []).toArray⟩
theorem strOf1 (x:Int)(l:List UInt8):strOfNums [x]++⟨l.toArray⟩=⟨(UInt8.ofNat x.toNat :: l).toArray⟩:=by
 show (ByteArray.mk [UInt8.ofNat x.toNat].toArray++ByteArray.mk l.toArray)=_
 rw [ByteArray.mk_append_mk];rfl
set_option maxRecDepth 100000 in
set_option maxHeartbeats 400000 in
theorem zk10 (k:Int)(w:World)(hk:k≤1152921504606846976):Calls Tryz.prog 117 #[.int .i64 k] w fun e w' =>
 e=.returned (.string (markT k))∧Below w.heap.size w w':=by
 have kc:=fun X W=>conv1 Tryz.underlying28 Tryz.underlying5 Tryz.underlying9 X W
 by_cases h0:k≤0
 ·have e:markT k=⟨#[109,48]⟩:=if_pos h0
  rw [e]
  go_enter Tryz.func117,Tryz.ntmps117
  go_wp2
  go_ret
  exact⟨rfl,Below.refl _ _⟩
 ·obtain⟨R,hR⟩:∃R,markT k=R:=⟨_,rfl⟩
  rw [hR]
  unfold markT at hR
  rw [if_neg h0] at hR
  obtain⟨L,hL⟩:∃L,mdig (k.toNat+1) k.toNat []=L:=⟨_,rfl⟩
  rw [hL] at hR
  have HR:=Lib.hid hR
  have HL:=Lib.hid hL
  clear hR hL
  have hsz:∀x,(strOfNums [x]).size=1:=fun x=>strOfNums_size _
  go_enter Tryz.func117,Tryz.ntmps117
  go_wp2
  go_loopw [0,3] (fun i s wr=>∃(n f:Nat) (l:List UInt8),(n:Int)≤k∧l.length+n≤k∧i=.int .i64 n∧s=.string ⟨l.toArray⟩∧n<f∧mdig f n l=L∧Below w.heap.size w wr) (fun i _ _=>(intOf i).toNat)
  case atStart=>exact⟨k.toNat,k.toNat+1,[],by omega,by simp;omega,by rw [show ((k.toNat:Nat):Int)=k from by omega],rfl,by omega,HL.out,by0⟩
  case round =>
   obtain⟨n,f,l,hn,hln,rfl,rfl,hf,hd,hb⟩:=hrel
   have HD:=Lib.hid hd
   clear hd
   have hll:l.length≤9223372036854775806:=by omega
   by_cases hp:0<n
   ·have hll:1+l.length≤9223372036854775807:=by omega
    have hzb:=hb.size
    go_wp2
    go_roundw
    case rel =>
     refine⟨n / 10,f-1,_,by omega,?_,by go_num,by rw [strOf1],by omega,?_,by0⟩
     ·simp only [List.length_cons];omega
     ·have h:=HD.out
      obtain⟨f',rfl⟩:∃f',f=f'+1:=⟨f-1,by omega⟩
      rw [mdig,if_neg (by omega)] at h
      rw [←h,Nat.add_sub_cancel]
      congr 2
    case measure=>simp [intOf];omega
   ·go_wp2
    go_ret
    have h:=HD.out
    obtain⟨f',rfl⟩:∃f',f=f'+1:=⟨f-1,by omega⟩
    rw [mdig,if_pos (by omega)] at h
    subst h
    exact⟨by rw [←HR.out];rfl,hb⟩
end Go.Proofs.YtghljnfbbaklnaaGreat
