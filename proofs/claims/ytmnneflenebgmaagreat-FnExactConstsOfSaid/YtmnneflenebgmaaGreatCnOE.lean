/- T -/
import Derived.Test.YtmnneflenebgmaaGreatCnOD
set_option maxHeartbeats 0
set_option maxRecDepth 100000
namespace Go.Proofs.YtmnneflenebgmaaGreat
open Go.RowKit Go.Proofs.Tryz
structure AEq (σ τ:AS):Prop where
 tm:σ.tm=τ.tm
 hp:σ.hp=τ.hp
 gn:σ.gn=τ.gn
 us:∀i,i∈σ.us↔i∈τ.us
 L:σ.L=τ.L
theorem AEq.refl (σ:AS):AEq σ σ:=⟨rfl,rfl,rfl,fun _=>Iff.rfl,rfl⟩
theorem AEq.symm {σ τ:AS}(h:AEq σ τ):AEq τ σ:=⟨h.tm.symm,h.hp.symm,h.gn.symm,fun i=>(h.us i).symm,h.L.symm⟩
theorem AEq.kn {σ τ:AS}(h:AEq σ τ):σ.Kn=τ.Kn:=by
 funext i;unfold AS.Kn;rw [h.gn,h.us i]
theorem Sim.aeq {C:Ctx}{σ τ:AS}{a:Act}{w:World}(h:Sim C σ a w)(e:AEq σ τ):Sim C τ a w:=by
 obtain⟨φ,F,St,h⟩:=h
 have hk:=e.kn
 refine⟨φ,F,St,h.dfr,by rw [←e.L];exact h.len,fun t=>by rw [←e.tm,←hk];exact h.tms t,?_,?_,?_,?_,?_,?_,?_,h.frm,?_,?_,?_,by rw [←e.gn];exact h.gnN,h.stS⟩
 all_goals rw [←e.hp]
 ·rw [←hk];exact h.row
 ·exact h.nod
 ·exact h.dis
 ·exact h.bxF
 ·exact h.bxd
 ·exact h.stF
 ·exact h.stB
 ·exact h.own
 ·exact h.par
 ·exact h.new
def fG (hp:Nat→Option Row):List (Nat×Option Row)→Nat→Option Row
 | []=>hp
 | (i,r) :: l=>fG (upd hp i r) l
theorem ft:∀{U:List (Nat×Option Row)} {hp:Nat→Option Row} {i:Nat},(∀p∈U,p.1≠i)→fG hp U i=hp i
 | [],_,_,_=>rfl
 | (j,r) :: l,hp,i,h=>by
  rw [fG,ft (fun p hp=>h p (List.mem_cons_of_mem _ hp)),bh _ _ (fun e=>h (j,r) List.mem_cons_self e.symm)]
theorem ke:∀{U:List (Nat×Option Row)} {hp hp':Nat→Option Row} {i:Nat},(hp i=hp' i∨∃p∈U,p.1=i)→fG hp U i=fG hp' U i
 | [],_,_,_,h=>by
  rcases h with h|⟨p,hp,_⟩
  ·exact h
  ·cases hp
 | (j,r) :: l,hp,hp',i,h=>by
  rw [fG,fG]
  refine ke ?_
  by_cases e:i=j
  ·subst e;exact .inl (by rw [aX,aX])
  ·rw [bh _ _ e,bh _ _ e]
   rcases h with h|⟨p,hp,h⟩
   ·exact .inl h
   ·rcases List.mem_cons.1 hp with rfl|hp
    ·exact absurd h.symm e
    ·exact .inr ⟨p,hp,h⟩
theorem tx {U V:List (Nat×Option Row)}{hp:Nat→Option Row}(h:∀p∈U,∀q∈V,p.1≠q.1):fG (fG hp U) V=fG (fG hp V) U:=by
 funext i
 by_cases hU:∃p∈U,p.1=i
 ·obtain⟨p,hp1,rfl⟩:=hU
  rw [ft (fun q hq e=>h p hp1 q hq e.symm)]
  exact ke (.inr ⟨p,hp1,rfl⟩)
 ·have hU':∀p∈U,p.1≠i:=fun p hp e=>hU ⟨p,hp,e⟩
  rw [ft (U:=U) (hp:=fG hp V) hU']
  exact ke (.inl (ft hU'))
structure Inf where
 fp:List Nat
 U:List (Nat×Option Row)
 N:List Nat
 x:AV
def AS.app (σ:AS)(I:Inf)(o:Oper):AS:=({ σ with hp:=fG σ.hp I.U,us:=I.N++σ.us }:AS).put o.dst I.x
structure Agr (ops:Array Oper)(o:Oper)(I:Inf)(σ τ:AS):Prop where
 tm:∀t∈o.looksAt ops,τ.tm t=σ.tm t
 hp:∀i∈I.fp,τ.hp i=σ.hp i
 gn:τ.gn=σ.gn
 L:τ.L=σ.L
 us:∀n∈I.N,n∉τ.us
section
variable {P:Program}{ops:Array Oper}{Q:Exit→Act→World→Prop}{C:Ctx}
def Snd (P:Program)(ops:Array Oper)(Q:Exit→Act→World→Prop)(C:Ctx)(i:Nat)(o:Oper)(σ:AS)(I:Inf):Prop :=
 ∀τ a w,Agr ops o I σ τ→Sim C τ a w→∀K:Act→World→Prop,(∀a' w',Sim C (τ.app I o) a' w'→K a' w')→wpOp P ops Q i K a w
def inp (ops:Array Oper)(o:Oper)(I:Inf)(p:Oper)(J:Inf):Bool :=
 o.apart ops p&&(I.U.all fun q=>!J.fp.contains q.1)&&(J.U.all fun q=>!I.fp.contains q.1)&&(I.U.all fun q=>J.U.all fun q'=>q.1 != q'.1)&&(I.N.all fun n=>!J.N.contains n)
structure Inp (ops:Array Oper)(o:Oper)(I:Inf)(p:Oper)(J:Inf):Prop where
 l1:∀d,o.dst=some d→d∉p.looksAt ops
 l2:∀d,p.dst=some d→d∉o.looksAt ops
 dd:∀d,o.dst=some d→p.dst≠some d
 u1:∀q∈I.U,q.1∉J.fp
 u2:∀q∈J.U,q.1∉I.fp
 uu:∀q∈I.U,∀q'∈J.U,q.1≠q'.1
 nn:∀n∈I.N,n∉J.N
theorem zy2 {o p:Oper}{I J:Inf}(h:inp ops o I p J=true):Inp ops o I p J:=by
 simp only [inp,Bool.and_eq_true,List.all_eq_true,Bool.not_eq_true',bne_iff_ne,ne_eq] at h
 obtain⟨⟨⟨⟨h1,h2⟩,h3⟩,h4⟩,h5⟩:=h
 obtain⟨g1,g2,g3⟩:=Oper.apart_spec h1
 refine⟨g1,g3,g2,fun q hq hc=>?_,fun q hq hc=>?_,h4,fun n hn hc=>?_⟩
 ·have:=h2 q hq;simp at this;exact this hc
 ·have:=h3 q hq;simp at this;exact this hc
 ·have:=h5 n hn;simp at this;exact this hc
theorem Inp.symm {o p:Oper}{I J:Inf}(h:Inp ops o I p J):Inp ops p J o I :=
 ⟨h.l2,h.l1,fun d h1 h2=>h.dd d h2 h1,h.u2,h.u1,fun q hq q' hq' e=>h.uu q' hq' q hq e.symm,fun n h1 h2=>h.nn n h2 h1⟩
theorem dK (σ:AS)(d:Option Nat)(x:AV):(σ.put d x).hp=σ.hp∧(σ.put d x).gn=σ.gn∧(σ.put d x).us=σ.us∧(σ.put d x).L=σ.L:=by
 unfold AS.put
 split
 ·split<;>exact⟨rfl,rfl,rfl,rfl⟩
 ·exact⟨rfl,rfl,rfl,rfl⟩
theorem yX (σ:AS)(d:Option Nat)(x:AV):(σ.put d x).tm=fun t=>if d=some t∧t<σ.L then x else σ.tm t:=by
 funext t
 unfold AS.put
 split
 ·rename_i d
  split
  ·rename_i hd
   show upd σ.tm d x t=_
   by_cases e:t=d
   ·subst e;rw [aX];simp [hd]
   ·have:¬(some d=some t∧t<σ.L):=fun h=>e (by have:=h.1;injection this with h;exact h.symm)
    rw [bh _ _ e,if_neg this]
  ·rename_i hd
   have:¬(some d=some t∧t<σ.L):=fun h=>hd (by have h1:=h.1;injection h1 with h1;rw [h1];exact h.2)
   rw [if_neg this]
 ·simp
theorem gi (σ:AS)(I:Inf)(o:Oper):(σ.app I o).hp=fG σ.hp I.U:=(dK _ _ _).1
theorem jg (σ:AS)(I:Inf)(o:Oper):(σ.app I o).gn=σ.gn:=(dK _ _ _).2.1
theorem jh (σ:AS)(I:Inf)(o:Oper):(σ.app I o).us=I.N++σ.us:=(dK _ _ _).2.2.1
theorem lg (σ:AS)(I:Inf)(o:Oper):(σ.app I o).L=σ.L:=(dK _ _ _).2.2.2
theorem gj (σ:AS)(I:Inf)(o:Oper):(σ.app I o).tm=fun t=>if o.dst=some t∧t<σ.L then I.x else σ.tm t:=yX _ _ _
theorem wN {σ:AS}{o p:Oper}{I J:Inf}(h:Inp ops o I p J):AEq ((σ.app I o).app J p) ((σ.app J p).app I o):=by
 refine⟨?_,?_,?_,fun i=>?_,?_⟩
 ·rw [gj,gj,gj,gj,lg,lg]
  funext t
  by_cases h1:o.dst=some t∧t<σ.L
  ·have h2:¬(p.dst=some t∧t<σ.L):=fun h2=>h.dd t h1.1 h2.1
   rw [if_neg h2];simp only [h1,and_self,if_true]
  ·simp only [if_neg h1]
 ·rw [gi,gi,gi,gi];exact tx h.uu
 ·simp only [jg]
 ·simp only [jh,List.mem_append];constructor<;>rintro (h|h|h)<;>simp [h]
 ·simp only [lg]
theorem zQ {σ τ:AS}(h:AEq σ τ)(I:Inf)(o:Oper):AEq (σ.app I o) (τ.app I o):=by
 refine⟨?_,?_,?_,fun i=>?_,?_⟩
 ·rw [gj,gj,h.tm,h.L]
 ·rw [gi,gi,h.hp]
 ·rw [jg,jg,h.gn]
 ·rw [jh,jh,List.mem_append,List.mem_append,h.us]
 ·rw [lg,lg,h.L]
theorem Agr.app {σ τ:AS}{o p:Oper}{I J:Inf}(h:Agr ops o I σ τ)(hi:Inp ops o I p J):Agr ops o I (σ.app J p) τ:=by
 refine⟨fun t ht=>(h.tm t ht).trans ?_,fun i hi'=>(h.hp i hi').trans ?_,by rw [jg];exact h.gn,by rw [lg];exact h.L,h.us⟩
 ·rw [gj]
  have:¬(p.dst=some t∧t<σ.L):=fun h1=>hi.l2 t h1.1 ht
  simp only [if_neg this]
 ·rw [gi];exact (ft fun q hq e=>hi.u2 q hq (e▸hi')).symm
theorem Agr.unapp {σ τ:AS}{o p:Oper}{I J:Inf}(h:Agr ops o I (σ.app J p) τ)(hi:Inp ops o I p J):Agr ops o I σ τ:=by
 refine⟨fun t ht=>(h.tm t ht).trans ?_,fun i hi'=>(h.hp i hi').trans ?_,by have:=h.gn;rwa [jg] at this,by have:=h.L;rwa [lg] at this,h.us⟩
 ·rw [gj]
  have:¬(p.dst=some t∧t<σ.L):=fun h1=>hi.l2 t h1.1 ht
  simp only [if_neg this]
 ·rw [gi];exact ft fun q hq e=>hi.u2 q hq (e▸hi')
def Chain (P:Program)(ops:Array Oper)(Q:Exit→Act→World→Prop)(C:Ctx)(inf:Nat→Inf):List Nat→AS→Prop
 | [],σ=>∀a w,Sim C σ a w→Q .normal a w
 | i :: r,σ=>∃o,ops[i]? = some o∧Snd P ops Q C i o σ (inf i)∧(∀n∈(inf i).N,n∉σ.us)∧Chain P ops Q C inf r (σ.app (inf i) o)
theorem Snd.aeq {i:Nat}{o:Oper}{σ τ:AS}{I:Inf}(h:Snd P ops Q C i o σ I)(e:AEq σ τ):Snd P ops Q C i o τ I:=fun υ a w ha hs =>
 h υ a w ⟨fun t ht=>by rw [e.tm];exact ha.tm t ht,fun i hi=>by rw [e.hp];exact ha.hp i hi,by rw [e.gn];exact ha.gn,by rw [e.L];exact ha.L,ha.us⟩ hs
theorem Chain.aeq {inf:Nat→Inf}:∀{L:List Nat} {σ τ:AS},Chain P ops Q C inf L σ→AEq σ τ→Chain P ops Q C inf L τ
 | [],σ,τ,h,e=>fun a w hs=>h a w (hs.aeq e.symm)
 | i :: r,σ,τ,⟨o,h1,h2,h3,h4⟩,e=>⟨o,h1,h2.aeq e,fun n hn hm=>h3 n hn ((e.us n).2 hm),h4.aeq (zQ e _ _)⟩
theorem Chain.swap {inf:Nat→Inf}{i j:Nat}{r:List Nat}{σ:AS}{oi oj:Oper}(hi:ops[i]? = some oi)(hj:ops[j]? = some oj)(hp:Inp ops oi (inf i) oj (inf j))(h:Chain P ops Q C inf (j :: i :: r) σ):Chain P ops Q C inf (i :: j :: r) σ:=by
 obtain⟨o1,e1,s1,f1,o2,e2,s2,f2,h⟩:=h
 rw [hj] at e1;injection e1 with e1;subst e1
 rw [hi] at e2;injection e2 with e2;subst e2
 refine⟨oi,hi,fun τ a w ha hs=>s2 τ a w (ha.app hp) hs,fun n hn hm=>f2 n hn (by rw [jh];exact List.mem_append_right _ hm),oj,hj,fun τ a w ha hs=>s1 τ a w (ha.unapp hp.symm) hs,fun n hn hm=>?_,h.aeq (wN hp.symm)⟩
 rw [jh] at hm
 rcases List.mem_append.1 hm with hm|hm
 ·exact hp.nn n hm hn
 ·exact f1 n hn hm
theorem Chain.bubble {inf:Nat→Inf}{i:Nat}{oi:Oper}(hi:ops[i]? = some oi):∀{L r:List Nat} {σ:AS},(∀j∈L,∃oj,ops[j]? = some oj∧Inp ops oi (inf i) oj (inf j))→Chain P ops Q C inf (L++i :: r) σ→Chain P ops Q C inf (i :: (L++r)) σ
 | [],r,σ,_,h=>h
 | j :: L,r,σ,hh,h=>by
  obtain⟨oj,hj,hp⟩:=hh j List.mem_cons_self
  obtain⟨o,e1,s1,f1,h⟩:=h
  exact Chain.swap hi hj hp ⟨o,e1,s1,f1,Chain.bubble hi (fun k hk=>hh k (List.mem_cons_of_mem _ hk)) h⟩
def wt (md:Region.Mode)(ops:Array Oper):Nat→Nat→Nat→Bool
 | 0,_,_=>false
 | f+1,i,j=>match ops[i]? with
  | some o=>o.after.any fun e=>Region.binds md e&&(e.on==j||wt md ops f e.on j)
  | none=>false
def wO (md:Region.Mode)(ops:Array Oper):Bool:=(List.range ops.size).all fun i=>match ops[i]? with|some o=>o.after.all fun e=>!Region.binds md e||decide (e.on<i)|none=>true
structure Lst (md:Region.Mode)(ops:Array Oper)(listed:Array Bool)(L:List Nat):Prop where
 size:listed.size=ops.size
 closed:∀j oj,ops[j]? = some oj→listed.getD j false=true→∀e∈oj.after,Region.binds md e=true→listed.getD e.on false=true
 mem:∀i,i∈L↔i<ops.size∧listed.getD i true=false
 sort:L.Pairwise (·< ·)
theorem nD {listed:Array Bool}{i:Nat}(h:i<listed.size)(d d':Bool):listed.getD i d=listed.getD i d':=by simp [h]
theorem nE {md:Region.Mode}{listed:Array Bool}(hc:∀j oj,ops[j]? = some oj→listed.getD j false=true→∀e∈oj.after,Region.binds md e=true→listed.getD e.on false=true) :
 ∀(f i j:Nat),wt md ops f i j=true→(∀oi,ops[i]? = some oi→∀e∈oi.after,Region.binds md e=true→listed.getD e.on false=true)→listed.getD j false=true
 | 0,i,j,h,_=>by simp [wt] at h
 | f+1,i,j,h,hr=>by
  simp only [wt] at h
  split at h
  ·rename_i o ho
   obtain⟨e,he,hb⟩:=Array.any_eq_true'.1 h
   simp only [Bool.and_eq_true,Bool.or_eq_true,beq_iff_eq] at hb
   have hl:=hr o ho e he hb.1
   rcases hb.2 with rfl|h2
   ·exact hl
   ·exact nE hc f e.on j h2 fun oi hoi=>hc e.on oi hoi hl
  ·cases h
theorem o7 {md:Region.Mode}{inf:Nat→Inf}(hback:wO md ops=true)
 (hind:∀i j oi oj,j<i→ops[i]? = some oi→ops[j]? = some oj→wt md ops ops.size i j=true∨Inp ops oi (inf i) oj (inf j)) :
 ∀(fuel:Nat) (L:List Nat) (listed:Array Bool) (σ:AS) (a:Act) (w:World),L.length=fuel→Lst md ops listed L→Chain P ops Q C inf L σ→Sim C σ a w→wpAny P md ops Q fuel listed a w:=by
 have hb:∀i o,ops[i]? = some o→∀e∈o.after,Region.binds md e=true→e.on<i:=by
  intro i o ho e he hbd
  have h1:=List.all_eq_true.1 hback i (List.mem_range.2 (Array.getElem?_eq_some_iff.1 ho).1)
  rw [ho] at h1
  have h2:=Array.all_eq_true_iff_forall_mem.1 h1 e he
  simpa [hbd] using h2
 have none_ready:∀listed,Lst md ops listed []→Region.ready md ops listed=[]:=by
  intro listed hL
  apply List.eq_nil_iff_forall_not_mem.2
  intro j hj
  obtain⟨h1,oj,h2,_⟩:=mem_ready.1 hj
  have:=(hL.mem j).2 ⟨(Array.getElem?_eq_some_iff.1 h2).1,h1⟩
  cases this
 intro fuel
 induction fuel with
 | zero =>
  intro L listed σ a w hl hL hC hs
  obtain rfl:=List.eq_nil_of_length_eq_zero hl
  exact⟨none_ready listed hL,hC a w hs⟩
 | succ fuel ih =>
  intro L listed σ a w hl hL hC hs
  refine⟨fun h0=>?_,fun i hi=>?_⟩
  ·rcases L with _|⟨j,L⟩
   ·cases hl
   ·exfalso
    obtain⟨h1,h2⟩:=(hL.mem j).1 List.mem_cons_self
    have:j∈Region.ready md ops listed:=by
     refine mem_ready.2 ⟨h2,ops[j],Array.getElem?_eq_getElem h1,fun e he hbd=>?_⟩
     have hlt:=hb j _ (Array.getElem?_eq_getElem h1) e he hbd
     cases hx:listed.getD e.on false with
     | true=>rfl
     | false =>
      have hm:=(hL.mem e.on).2 ⟨omq,by rw [nD (by rw [hL.size];omega) true false];exact hx⟩
      rcases List.mem_cons.1 hm with e1|hm
      ·omega
      ·have:=List.rel_of_pairwise_cons hL.sort hm;omega
    rw [h0] at this;cases this
  ·obtain⟨h1,oi,h2,h3⟩:=mem_ready.1 hi
   have hlt:=(Array.getElem?_eq_some_iff.1 h2).1
   have hm:=(hL.mem i).2 ⟨hlt,h1⟩
   obtain⟨L1,r,rfl⟩:=List.append_of_mem hm
   have hsort:=List.pairwise_append.1 hL.sort
   have hC2:=Chain.bubble (i:=i) h2 (L:=L1) (r:=r) (fun j hj=>by
    have hji:j<i:=hsort.2.2 j hj i List.mem_cons_self
    have hjm:=(hL.mem j).1 (List.mem_append_left _ hj)
    refine⟨ops[j],Array.getElem?_eq_getElem hjm.1,(hind i j oi _ hji h2 (Array.getElem?_eq_getElem hjm.1)).resolve_left fun hw=>?_⟩
    have:=nE hL.closed ops.size i j hw fun oi' h2'=>by rw [h2] at h2';injection h2' with h2';subst h2';exact h3
    rw [nD (by rw [hL.size];exact hjm.1) false true,hjm.2] at this
    cases this) hC
   obtain⟨o,e1,s1,f1,hC3⟩:=hC2
   rw [h2] at e1;injection e1 with e1;subst e1
   refine s1 σ a w ⟨fun _ _=>rfl,fun _ _=>rfl,rfl,rfl,f1⟩ hs _ fun a' w' hs'=>?_
   have hnd:¬i∈L1++r:=by
    intro hmem
    rcases List.mem_append.1 hmem with h|h
    ·have:=hsort.2.2 i h i List.mem_cons_self;omega
    ·have:=List.rel_of_pairwise_cons hsort.2.1 h;omega
   refine ih (L1++r) (listed.setIfInBounds i true) _ a' w' (by simp only [List.length_append,List.length_cons] at hl ⊢;omega) ⟨by simp [hL.size],fun j oj hj hlj e he hbd=>?_,fun j=>?_,?_⟩ hC3 hs'
   ·by_cases hji:i=j
    ·subst hji
     rw [h2] at hj;injection hj with hj;subst hj
     exact getD_set_true (h3 e he hbd)
    ·rw [getD_set_ne false hji] at hlj
     exact getD_set_true (hL.closed j oj hj hlj e he hbd)
   ·by_cases hji:i=j
    ·subst hji
     constructor
     ·exact fun h=>absurd h hnd
     ·rintro ⟨_,h⟩
      simp [hL.size,hlt] at h
    ·rw [getD_set_ne true hji,←hL.mem j]
     simp [Ne.symm hji]
   ·refine List.pairwise_append.2 ⟨hsort.1,(List.pairwise_cons.1 hsort.2.1).2,fun x hx y hy=>hsort.2.2 x hx y (List.mem_cons_of_mem _ hy)⟩
theorem kg:∀{H:List (Nat×Oper×Inf)} {h:Nat×Oper×Inf},(H.Pairwise fun a b=>b.1<a.1)→h∈H→H.find? (fun h'=>h'.1==h.1)=some h
 | [],_,_,hh=>by cases hh
 | x :: r,h,hs,hh=>by
  rcases List.mem_cons.1 hh with rfl|hh'
  ·simp
  ·have h1:=List.rel_of_pairwise_cons hs hh'
   rw [List.find?_cons_of_neg (by simp;omega)]
   exact kg (List.pairwise_cons.1 hs).2 hh'
def Walk (P:Program)(ops:Array Oper)(Q:Exit→Act→World→Prop)(C:Ctx)(dr:Bool):List (Nat×Oper×Inf)→List Nat→AS→Prop
 | _,[],σ=>∀a w,Sim C σ a w→Q .normal a w
 | H,i :: r,σ=>∃o I,ops[i]? = some o∧Snd P ops Q C i o σ I∧(∀n∈I.N,n∉σ.us)∧(dr=true→(H.all fun h=>wt .any ops ops.size i h.1||inp ops o I h.2.1 h.2.2)=true)∧Walk P ops Q C dr ((i,o,I) :: H) r (σ.app I o)
theorem iQ {dr:Bool}:∀{L:List Nat} {H:List (Nat×Oper×Inf)} {σ:AS},L.Pairwise (·< ·)→(∀h∈H,∀i∈L,h.1<i)→(∀h∈H,ops[h.1]? = some h.2.1)→(H.Pairwise fun a b=>b.1<a.1)→Walk P ops Q C dr H L σ →
 ∃inf:Nat→Inf,(∀h∈H,inf h.1=h.2.2)∧Chain P ops Q C inf L σ∧(dr=true→∀i∈L,∀j oi oj,j<i→(j∈L∨∃h∈H,h.1=j)→ops[i]? = some oi→ops[j]? = some oj→wt .any ops ops.size i j=true∨Inp ops oi (inf i) oj (inf j))
 | [],H,σ,_,_,_,hs,h=>by
  refine⟨fun i=>((H.find? (fun h=>h.1==i)).map (·.2.2)).getD ⟨[],[],[],.c .un⟩,fun h hh=>?_,h,fun _ i hi=>absurd hi List.not_mem_nil⟩
  have:H.find? (fun h'=>h'.1==h.1)=some h:=kg hs hh
  simp [this]
 | i :: r,H,σ,hL,hHL,hops,hs,h=>by
  obtain⟨o,I,h1,h2,h3,h4,h5⟩:=h
  obtain⟨inf,g1,g2,g3⟩:=iQ (L:=r) (H:=(i,o,I) :: H) (List.pairwise_cons.1 hL).2 (fun h hh j hj=>by
   rcases List.mem_cons.1 hh with rfl|hh
   ·exact List.rel_of_pairwise_cons hL hj
   ·exact hHL h hh j (List.mem_cons_of_mem _ hj)) (fun h hh=>by
   rcases List.mem_cons.1 hh with rfl|hh
   ·exact h1
   ·exact hops h hh) (List.pairwise_cons.2 ⟨fun h hh=>hHL h hh i List.mem_cons_self,hs⟩) h5
  have hi:inf i=I:=g1 _ List.mem_cons_self
  refine⟨inf,fun h hh=>g1 h (List.mem_cons_of_mem _ hh),⟨o,h1,by rw [hi];exact h2,by rw [hi];exact h3,by rw [hi];exact g2⟩,fun hd k hk j oi oj hjk hj hoi hoj=>?_⟩
  rcases List.mem_cons.1 hk with rfl|hk
  ·have hjH:∃h∈H,h.1=j:=by
    rcases hj with hj|hj
    ·rcases List.mem_cons.1 hj with rfl|hj
     ·omega
     ·have:=List.rel_of_pairwise_cons hL hj;omega
    ·exact hj
   obtain⟨h,hh,rfl⟩:=hjH
   have:=List.all_eq_true.1 (h4 hd) h hh
   rw [Bool.or_eq_true] at this
   rw [h1] at hoi;injection hoi with hoi;subst hoi
   have e:=hops h hh
   rw [hoj] at e;injection e with e;subst e
   refine this.imp id fun hp=>?_
   rw [hi,g1 h (List.mem_cons_of_mem _ hh)]
   exact zy2 hp
  ·refine g3 hd k hk j oi oj hjk ?_ hoi hoj
   rcases hj with hj|⟨h,hh,e⟩
   ·rcases List.mem_cons.1 hj with rfl|hj
    ·exact .inr ⟨_,List.mem_cons_self,rfl⟩
    ·exact .inl hj
   ·exact .inr ⟨h,List.mem_cons_of_mem _ hh,e⟩
theorem gk (n:Nat):(List.range n).Pairwise (·< ·):=by
 rw [List.pairwise_iff_getElem]
 intro i j hi hj hij
 simpa using hij
theorem kh {inf:Nat→Inf}:∀{L:List Nat} {σ:AS} {a:Act} {w:World},Chain P ops Q C inf L σ→Sim C σ a w→wpOps P ops Q L a w
 | [],σ,a,w,h,hs=>h a w hs
 | i :: r,σ,a,w,⟨o,h1,h2,h3,h4⟩,hs=>by
  rw [wpOps_cons]
  exact h2 σ a w ⟨fun _ _=>rfl,fun _ _=>rfl,rfl,rfl,h3⟩ hs _ fun a' w' hs'=>kh h4 hs'
theorem Sim.drawn {σ:AS}{a:Act}{w:World}(h:Sim C σ a w)(n:Nat):Sim C σ a { w with drawn:=n }:=by
 obtain⟨φ,F,St,h⟩:=h
 exact⟨φ,F,St,h.keep (Stp.drawn w n none)⟩
theorem tz {id:Nat}{dr:Bool}{σ:AS}(hm:dr=true→P.follows .mixedOrders=true∧wO .any ops=true)(h:Walk P ops Q C dr [] (List.range ops.size) σ){a:Act}{w:World}(hs:Sim C σ a w):(Code.region id ops dr).wp P Q a w:=by
 obtain⟨inf,_,h2,h3⟩:=iQ (gk _) (fun h hh=>absurd hh List.not_mem_nil) (fun h hh=>absurd hh List.not_mem_nil) List.Pairwise.nil h
 cases dr with
 | false=>exact wp_region (kh h2 hs)
 | true =>
  refine wp_region_any (hm rfl).1 ?_
  refine o7 (hm rfl).2 (fun i j oi oj hji hoi hoj=>h3 rfl i (List.mem_range.2 (Array.getElem?_eq_some_iff.1 hoi).1) j oi oj hji (.inl (List.mem_range.2 (Array.getElem?_eq_some_iff.1 hoj).1)) hoi hoj) ops.size (List.range ops.size) _ σ a _ (by simp) ⟨by simp,fun j oj hj hl=>?_,fun i=>?_,gk _⟩ h2 (hs.drawn _)
  ·have hlt:=(Array.getElem?_eq_some_iff.1 hj).1
   simp [hlt] at hl
  ·rw [List.mem_range]
   constructor
   ·exact fun h=>⟨h,by simp [h]⟩
   ·exact fun h=>h.1
end
inductive Dl where
 | nop
 | gr (id:Nat) (r:Row)
 | st (i:Nat) (r:Row)
 | mv (j id:Nat) (r:Row)
def Dl.ap:Dl→AS→AS
 | .nop,σ=>σ
 | .gr id r,σ=>σ.grow id r
 | .st i r,σ=>σ.set i (some r)
 | .mv j id r,σ=>(σ.set j none).grow id r
def Dl.N:Dl→List Nat
 | .nop=>[]
 | .gr id _=>[id]
 | .st _ _=>[]
 | .mv _ id _=>[id]
def Dl.U:Dl→List (Nat×Option Row)
 | .nop=>[]
 | .gr id r=>[(id,some r)]
 | .st i r=>[(i,some r)]
 | .mv j id r=>[(j,none),(id,some r)]
def Dl.inf (d:Dl)(fp:List Nat)(x:AV):Inf:=⟨fp,d.U,d.N,x⟩
theorem Dl.app_eq (d:Dl)(fp:List Nat)(x:AV)(σ:AS)(o:Oper):σ.app (d.inf fp x) o=(d.ap σ).put o.dst x:=by
 cases d<;>rfl
def nmV:AV→List Nat
 | .c (.sl i _)=>[i]
 | .c (.pt i _)=>[i]
 | _=>[]
def tA (P:Program)(id:Nat)(T:TypeId):Option (AV×Dl) :=
 match (P.info? T).bind (·.zero) with
 | some z=>some (.c (.pt id 0),.gr id ⟨T,0,0,true,z.cells.toList.map ofC⟩)
 | none=>none
def dBox (id:Nat)(T:TypeId)(x:AV):Option (AV×Dl) :=
 match x.cells with
 | some cs=>some (.c (.pt id 0),.gr id ⟨T,0,0,true,cs⟩)
 | none=>none
def lI (P:Program)(hp:Nat→Option Row)(t:TypeId)(p x:AV):Option (AV×Dl) :=
 match p,x.cells with
 | .c (.pt i o),some cs =>
  match hp i with
  | some r=>if (P.info? t).map (·.size)=some cs.length∧cs.all td=true∧o+cs.length≤r.cs.length then some (.c .un,.st i { r with cs:=spl r.cs o cs }) else none
  | none=>none
 | _,_=>none
def fM (P:Program)(id:Nat)(T:TypeId)(len:Nat)(parts:List (Nat×AV)):Option (AV×Dl) :=
 match P.underlying T with
 | some (.slice e) =>
  match P.info? e with
  | some i =>
   match i.zero with
   | some z =>
    match mf (fun j=>some (j*i.size,i.size)) ((madeCells z.cells (len*i.size)).toList.map ofC) parts with
    | some cs=>if len*i.size≤16777216∧len≤16777216 then some (.c (.sl id len),.gr id ⟨e,i.size,len,false,cs⟩) else none
    | none=>none
   | none=>none
  | none=>none
 | _=>none
def gV (P:Program)(hp:Nat→Option Row)(id:Nat)(T T2:TypeId)(x y:AV):Option (AV×Dl) :=
 match P.underlying T,P.underlying T2 with
 | some (.slice e),some d2 =>
  match P.info? e with
  | some i =>
   match i.zero with
   | some z =>
    if tk d2=true∧z.cells.size=i.size∧0<i.size then
    match ig hp i.size y with
    | some (m,ys) =>
     if ys.all td=true then
     match x with
     | .c (.sl j n) =>
      match hp j with
      | some r=>if r.T=e∧r.k=i.size∧r.n=n∧r.box=false∧(n+m)*i.bytes≤140737488355328∧n+m≤9223372036854775807 then some (.c (.sl id (n+m)),.mv j id ⟨e,i.size,n+m,false,r.cs++ys⟩) else none
      | none=>none
     | .c (.v (.slice none 0 0))=>if m*i.bytes≤140737488355328∧m≤9223372036854775807 then some (.c (.sl id m),.gr id ⟨e,i.size,m,false,ys⟩) else none
     | _=>none
     else none
    | none=>none
    else none
   | none=>none
  | none=>none
 | _,_=>none
def ji (P:Program)(hp:Nat→Option Row)(id:Nat)(T:TypeId)(x:AV)(lo hi:Option AV):Option (AV×Dl) :=
 match P.underlying T with
 | some (.slice e) =>
  match (P.info? e).map (·.size) with
  | some k =>
   match x with
   | .c (.ro n k' l) =>
    match bnd 0 lo,bnd n hi with
    | some a,some b=>if k'=k∧a≤b∧b≤n then some (.c (.ro (b-a) k (gQ l (a*k) ((b-a)*k))),.nop) else none
    | _,_=>none
   | .c (.sl i n) =>
    match bnd 0 lo,bnd n hi,hp i with
    | some 0,some b,some r=>if r.k=k∧r.n=n∧r.box=false∧b≤n then some (.c (.sl id b),.mv i id ⟨r.T,k,b,false,r.cs.take (b*k)⟩) else none
    | _,_,_=>none
   | _=>none
  | none=>none
 | _=>none
def nop? (x:Option AV):Option (AV×Dl):=x.map fun y=>(y,.nop)
def EffCallD (P:Program)(o:Oper)(ev:Operand→AV)(hp:Nat→Option Row)(id:Nat)(c:Call):Option (AV×Dl) :=
 match c.callee,c.args.toList,c.argTypes.toList with
 | .builtin .len,[x],[t]=>if mg P t (ev x)=true then nop? (yR (ev x)) else none
 | .builtin .append,[x,y],[T,T2]=>gV P hp id T T2 (ev x) (ev y)
 | .builtin .min,_,_=>nop? (dz P ev o)
 | .builtin .max,_,_=>nop? (dz P ev o)
 | _,_,_=>none
def EffD (P:Program)(o:Oper)(ev:Operand→AV)(hp:Nat→Option Row)(id:Nat):Option (AV×Dl) :=
 match o.op with
 | .move x=>some (ev x,.nop)
 | .assign x=>some (ev x,.nop)
 | .pick c a b=>nop? (tf (ev c) (ev a) (ev b))
 | .alloc T=>tA P id T
 | .box T x=>dBox id T (ev x)
 | .load t p=>nop? (fo P t hp (ev p))
 | .store t p x=>lI P hp t (ev p) (ev x)
 | .nilCheck x=>nop? (aNil (ev x))
 | .fieldAddr S p f=>nop? (di P S f (ev p))
 | .indexAddr T x i=>nop? (dy P hp T (ev x) (ev i))
 | .field S x f=>nop? (qm P S f (ev x))
 | .extract x j=>nop? (gE j (ev x))
 | .build T parts=>nop? (qn P T (parts.toList.map fun p=>(p.1,ev p.2)))
 | .buildSlice T n parts=>fM P id T n (parts.toList.map fun p=>(p.1,ev p.2))
 | .makeFunc (.func f) first caps=>if first.size=0 then nop? (zO f (caps.toList.map ev)) else none
 | .slice T x lo hi mx=>if mx.isSome=true then none else if ii (ev x)=true then nop? (dz P ev o) else ji P hp id T (ev x) (lo.map ev) (hi.map ev)
 | .convert s d x=>if (ev x).val?.isSome=true∧ii (ev x)=true∨(ev x).val?.isSome=true∧(wL P hp s d (ev x)).isSome=false then nop? (dz P ev o) else if ii (ev x)=true then none else nop? (wL P hp s d (ev x))
 | .binOp ..=>nop? (dz P ev o)
 | .unOp ..=>nop? (dz P ev o)
 | .index ..=>nop? (dz P ev o)
 | .call c=>EffCallD P o ev hp id c
 | _=>none
def fpO (ev:Operand→AV)(o:Oper):List Nat:=o.op.operands.toList.flatMap fun x=>nmV (ev x)
section
variable {P:Program}{σ τ:AS}{id:Nat}{x:AV}{d:Dl}{o:Oper}
theorem cC {e:Option AV}(h:nop? e=some (x,d)):eL σ e=some (x,d.ap σ):=by
 unfold nop? at h
 simp only [Option.map_eq_some_iff,Prod.mk.injEq] at h
 obtain⟨y,rfl,rfl,rfl⟩:=h
 rfl
theorem tB {T:TypeId}(h:tA P id T=some (x,d))(hf:∀n∈d.N,σ.gn≤n∧n∉σ.us):nu P σ id T=some (x,d.ap σ):=by
 unfold tA at h
 split at h
 ·rename_i z hz
  simp only [Option.some.injEq,Prod.mk.injEq] at h
  obtain⟨rfl,rfl⟩:=h
  unfold nu
  rw [hz]
  exact if_pos (hf id (by simp [Dl.N]))
 ·cases h
theorem zR {T:TypeId}{y:AV}(h:dBox id T y=some (x,d))(hf:∀n∈d.N,σ.gn≤n∧n∉σ.us):aBox σ id T y=some (x,d.ap σ):=by
 unfold dBox at h
 split at h
 ·rename_i z hz
  simp only [Option.some.injEq,Prod.mk.injEq] at h
  obtain⟨rfl,rfl⟩:=h
  unfold aBox
  rw [hz]
  exact if_pos (hf id (by simp [Dl.N]))
 ·cases h
theorem tC {t:TypeId}{p y:AV}(h:lI P σ.hp t p y=some (x,d)):nx P σ t p y=some (x,d.ap σ):=by
 unfold lI at h
 split at h
 ·rename_i i o cs hcs
  split at h
  ·rename_i r hr
   split at h
   ·rename_i hc
    simp only [Option.some.injEq,Prod.mk.injEq] at h
    obtain⟨rfl,rfl⟩:=h
    unfold nx
    simp only [hcs,hr]
    exact if_pos hc
   ·cases h
  ·cases h
 ·cases h
theorem lh {T:TypeId}{len:Nat}{parts:List (Nat×AV)}(h:fM P id T len parts=some (x,d))(hf:∀n∈d.N,σ.gn≤n∧n∉σ.us):eK P σ id T len parts=some (x,d.ap σ):=by
 unfold fM at h
 split at h
 ·rename_i e hT
  split at h
  ·rename_i i hi
   split at h
   ·rename_i z hz
    split at h
    ·rename_i cs hcs
     split at h
     ·rename_i hc
      simp only [Option.some.injEq,Prod.mk.injEq] at h
      obtain⟨rfl,rfl⟩:=h
      have:=hf id (by simp [Dl.N])
      unfold eK
      simp only [hT,hi,hz,hcs]
      exact if_pos ⟨this.1,this.2,hc⟩
     ·cases h
    ·cases h
   ·cases h
  ·cases h
 ·cases h
theorem rD {T T2:TypeId}{y z:AV}(h:gV P σ.hp id T T2 y z=some (x,d))(hf:∀n∈d.N,σ.gn≤n∧n∉σ.us):iP P σ id T T2 y z=some (x,d.ap σ):=by
 unfold gV at h
 split at h
 ·rename_i e d2 hT hT2
  split at h
  ·rename_i i hi
   split at h
   ·rename_i zz hz
    split at h
    ·rename_i hc
     split at h
     ·rename_i m ys hsrc
      split at h
      ·rename_i hnu
       split at h
       ·rename_i j n
        split at h
        ·rename_i r hr
         split at h
         ·rename_i hc2
          simp only [Option.some.injEq,Prod.mk.injEq] at h
          obtain⟨rfl,rfl⟩:=h
          have:=hf id (by simp [Dl.N])
          unfold iP
          simp only [hT,hT2,hi,hz,hsrc,hr]
          rw [if_pos ⟨hc.1,hc.2.1,hc.2.2,this.1,this.2⟩,if_pos hnu,if_pos hc2]
          rfl
         ·cases h
        ·cases h
       ·split at h
        ·rename_i hc2
         simp only [Option.some.injEq,Prod.mk.injEq] at h
         obtain⟨rfl,rfl⟩:=h
         have:=hf id (by simp [Dl.N])
         unfold iP
         simp only [hT,hT2,hi,hz,hsrc]
         rw [if_pos ⟨hc.1,hc.2.1,hc.2.2,this.1,this.2⟩,if_pos hnu,if_pos hc2]
         rfl
        ·cases h
       ·cases h
      ·cases h
     ·cases h
    ·cases h
   ·cases h
  ·cases h
 ·cases h
theorem tD {T:TypeId}{y:AV}{lo hi:Option AV}(h:ji P σ.hp id T y lo hi=some (x,d))(hf:∀n∈d.N,σ.gn≤n∧n∉σ.us):lH P σ id T y lo hi=some (x,d.ap σ):=by
 unfold ji at h
 split at h
 ·rename_i e hT
  split at h
  ·rename_i k hk
   split at h
   ·split at h
    ·rename_i a b ha hb
     split at h
     ·rename_i hc
      simp only [Option.some.injEq,Prod.mk.injEq] at h
      obtain⟨rfl,rfl⟩:=h
      unfold lH
      simp only [hT,hk,ha,hb]
      exact if_pos hc
     ·cases h
    ·cases h
   ·split at h
    ·rename_i b r ha hb hr
     split at h
     ·rename_i hc
      simp only [Option.some.injEq,Prod.mk.injEq] at h
      obtain⟨rfl,rfl⟩:=h
      have:=hf id (by simp [Dl.N])
      unfold lH
      simp only [hT,hk,ha,hb,hr]
      exact if_pos ⟨hc.1,hc.2.1,hc.2.2.1,hc.2.2.2,this.1,this.2⟩
     ·cases h
    ·cases h
   ·cases h
  ·cases h
 ·cases h
theorem zS (h:EffD P o σ.ev σ.hp id=some (x,d))(hf:∀n∈d.N,σ.gn≤n∧n∉σ.us):Eff P o σ id=some (x,d.ap σ):=by
 obtain⟨dst,op,type,pos,after,guard⟩:=o
 cases op<;>simp only [EffD] at h<;>(try cases h;done)<;>simp only [Eff]
 case move y=>simp only [Option.some.injEq,Prod.mk.injEq] at h;obtain⟨rfl,rfl⟩:=h;rfl
 case assign y=>simp only [Option.some.injEq,Prod.mk.injEq] at h;obtain⟨rfl,rfl⟩:=h;rfl
 case pick=>exact cC h
 case alloc T=>exact tB h hf
 case box T y=>exact zR h hf
 case load=>exact cC h
 case store=>exact tC h
 case nilCheck=>exact cC h
 case fieldAddr=>exact cC h
 case indexAddr=>exact cC h
 case field=>exact cC h
 case extract=>exact cC h
 case build=>exact cC h
 case buildSlice=>exact lh h hf
 case makeFunc fn first caps =>
  cases fn<;>simp only [] at h ⊢<;>(try cases h;done)
  split at h
  ·rename_i hc;rw [if_pos hc];exact cC h
  ·cases h
 case slice T y lo hi mx =>
  split at h
  ·cases h
  ·rename_i h1
   rw [if_neg h1]
   split at h
   ·rename_i h2;rw [if_pos h2];exact cC h
   ·rename_i h2;rw [if_neg h2];exact tD h hf
 case convert s dd y =>
  split at h
  ·rename_i h1;rw [if_pos h1];exact cC h
  ·rename_i h1
   rw [if_neg h1]
   split at h
   ·cases h
   ·rename_i h2;rw [if_neg h2];exact cC h
 case binOp=>exact cC h
 case unOp=>exact cC h
 case index=>exact cC h
 case call c =>
  unfold EffCallD at h
  unfold EffCall
  split at h
  ·rename_i y t hc ha ht
   simp only [hc,ha,ht]
   split at h
   ·rename_i h1;rw [if_pos h1];exact cC h
   ·cases h
  ·rename_i y z T T2 hc ha ht
   simp only [hc,ha,ht]
   exact rD h hf
  ·rename_i hc
   simp only [hc]
   exact cC h
  ·rename_i hc
   simp only [hc]
   exact cC h
  ·cases h
end
section
variable {P:Program}{hp hp':Nat→Option Row}{ev ev':Operand→AV}
theorem tE {t:TypeId}{v:AV}(h:∀i∈nmV v,hp' i=hp i):fo P t hp' v=fo P t hp v:=by
 unfold fo
 split
 ·rw [h _ (by simp [nmV])]
 ·rfl
 ·rfl
theorem rE {t:TypeId}{p x:AV}(h:∀i∈nmV p,hp' i=hp i):lI P hp' t p x=lI P hp t p x:=by
 unfold lI
 split
 ·rw [h _ (by simp [nmV])]
 ·rfl
theorem li {T:TypeId}{x ix:AV}(h:∀i∈nmV x,hp' i=hp i):dy P hp' T x ix=dy P hp T x ix:=by
 unfold dy
 split
 ·split
  ·split
   ·rw [h _ (by simp [nmV])]
   ·rfl
   ·rfl
  ·rfl
 ·rfl
theorem nF {k:Nat}{v:AV}(h:∀i∈nmV v,hp' i=hp i):ig hp' k v=ig hp k v:=by
 unfold ig
 split
 ·rw [h _ (by simp [nmV])]
 all_goals rfl
theorem wP {s d:TypeId}{v:AV}(h:∀i∈nmV v,hp' i=hp i):wL P hp' s d v=wL P hp s d v:=by
 unfold wL
 rw [nF h]
theorem o8 {id:Nat}{T T2:TypeId}{x y:AV}(h:∀i∈nmV x,hp' i=hp i)(h2:∀i∈nmV y,hp' i=hp i):gV P hp' id T T2 x y=gV P hp id T T2 x y:=by
 unfold gV
 split
 ·split
  ·split
   ·split
    ·rw [nF h2]
     split
     ·split
      ·split
       ·rw [h _ (by simp [nmV])]
       ·rfl
       ·rfl
      ·rfl
     ·rfl
    ·rfl
   ·rfl
  ·rfl
 ·rfl
theorem rF {id:Nat}{T:TypeId}{x:AV}{lo hi:Option AV}(h:∀i∈nmV x,hp' i=hp i):ji P hp' id T x lo hi=ji P hp id T x lo hi:=by
 unfold ji
 split
 ·split
  ·split
   ·rfl
   ·rw [h _ (by simp [nmV])]
   ·rfl
  ·rfl
 ·rfl
theorem tF {o:Oper}(he:∀x∈o.op.operands,ev' x=ev x):dz P ev' o=dz P ev o:=by
 unfold dz
 have h1:(nz o.op=true∧∀x∈o.op.operands,(ev' x).val?.isSome=true)↔(nz o.op=true∧∀x∈o.op.operands,(ev x).val?.isSome=true):=by
  constructor
  ·exact fun h=>⟨h.1,fun x hx=>by rw [←he x hx];exact h.2 x hx⟩
  ·exact fun h=>⟨h.1,fun x hx=>by rw [he x hx];exact h.2 x hx⟩
 by_cases hc:nz o.op=true∧∀x∈o.op.operands,(ev x).val?.isSome=true
 ·rw [if_pos hc,if_pos (h1.2 hc)]
  have:execOp (fun x=>((ev' x).val?).getD undef) o=execOp (fun x=>((ev x).val?).getD undef) o :=
   execOp_congr o (fun cs b e=>by have:=hc.1;rw [e] at this;cases this) fun x hx=>by rw [he x hx]
  rw [this]
 ·rw [if_neg hc,if_neg fun h=>hc (h1.1 h)]
theorem yY {l:List Operand}(h:∀x∈l,ev' x=ev x):l.map ev'=l.map ev:=List.map_congr_left h
theorem qs {l:Array (Nat×Operand)}(h:∀x∈(l.toList.map (·.2)).toArray,ev' x=ev x):(l.toList.map fun p=>(p.1,ev' p.2))=l.toList.map fun p=>(p.1,ev p.2) :=
 List.map_congr_left fun p hp=>by rw [h p.2 (by simp only [List.mem_toArray,List.mem_map];exact⟨p,hp,rfl⟩)]
theorem wQ {o:Oper}{id:Nat}(he:∀x∈o.op.operands,ev' x=ev x)(hh:∀i∈fpO ev o,hp' i=hp i):EffD P o ev' hp' id=EffD P o ev hp id:=by
 have hh':∀x∈o.op.operands,∀i∈nmV (ev x),hp' i=hp i:=fun x hx i hi=>hh i (List.mem_flatMap.2 ⟨x,by simpa using hx,hi⟩)
 have sc:=tF (P:=P) he
 clear hh
 obtain⟨dst,op,type,pos,after,guard⟩:=o
 cases op<;>simp only [Op.operands] at he hh'<;>simp only [EffD]
 case move y=>rw [he y (by simp)]
 case assign y=>rw [he y (by simp)]
 case pick c a b=>rw [he c (by simp),he a (by simp),he b (by simp)]
 case box T y=>rw [he y (by simp)]
 case load t p=>rw [he p (by simp),tE (hh' p (by simp))]
 case store t p y=>rw [he p (by simp),he y (by simp),rE (hh' p (by simp))]
 case nilCheck y=>rw [he y (by simp)]
 case fieldAddr S p f=>rw [he p (by simp)]
 case indexAddr T y i=>rw [he y (by simp),he i (by simp),li (hh' y (by simp))]
 case field S y f=>rw [he y (by simp)]
 case extract y j=>rw [he y (by simp)]
 case build T parts=>rw [qs he]
 case buildSlice T n parts=>rw [qs he]
 case makeFunc fn first caps =>
  cases fn<;>simp only []
  rw [yY (l:=caps.toList) fun x hx=>he x (by simp;exact .inr (by simpa using hx))]
 case slice T y lo hi mx =>
  rw [he y (by simp),sc]
  have h1:lo.map ev'=lo.map ev:=by cases lo<;>simp;exact he _ (by simp)
  have h2:hi.map ev'=hi.map ev:=by cases hi<;>simp;exact he _ (by simp)
  rw [h1,h2,rF (hh' y (by simp))]
 case convert s d y=>rw [he y (by simp),sc,wP (hh' y (by simp))]
 case binOp=>rw [sc]
 case unOp=>rw [sc]
 case index=>rw [sc]
 case call c =>
  obtain⟨callee,args,argTypes⟩:=c
  unfold EffCallD
  split
  ·rename_i y t hc ha ht
   simp only at hc ha ht
   rw [he y (by simp [Call.operands];exact .inr (by rw [←Array.mem_toList_iff,ha];simp))]
  ·rename_i y z T T2 hc ha ht
   simp only at hc ha ht
   have h1:y∈(Call.operands { callee:=callee,args:=args,argTypes:=argTypes }):=by simp [Call.operands];exact .inr (by rw [←Array.mem_toList_iff,ha];simp)
   have h2:z∈(Call.operands { callee:=callee,args:=args,argTypes:=argTypes }):=by simp [Call.operands];exact .inr (by rw [←Array.mem_toList_iff,ha];simp)
   rw [he y h1,he z h2,o8 (hh' y h1) (hh' z h2)]
  ·rw [sc]
  ·rw [sc]
  ·rfl
end
def gw (ops:Array Oper)(tm:Nat→AV)(o:Oper):Option Bool :=
 match o.guard with
 | none=>some true
 | some (g,want) =>
  match (ops[g]?).bind (·.dst) with
  | none=>some false
  | some t =>
   match tm t with
   | .c (.v (.bool b))=>some (b==want)
   | .tu []=>some false
   | _=>none
section
variable {P:Program}{ops:Array Oper}{Q:Exit→Act→World→Prop}{C:Ctx}{φ:Nat→Lc}{F:Nat→List Nat}{St:Nat→Prop}{σ:AS}{a:Act}{w:World}{o:Oper}{i:Nat}
theorem o9 (h:SimF C φ F St σ a w){b:Bool}(hg:gw ops σ.tm o=some b):Region.wanted o (yielded ops a.tmps)=b:=by
 unfold gw at hg
 unfold Region.wanted
 split at hg
 ·rename_i hgu;injection hg with hg;simp only [hgu];exact hg
 ·rename_i g want hgu
  simp only [hgu]
  split at hg
  ·rename_i hd
   injection hg with hg
   subst hg
   simp [yielded,hd]
  ·rename_i t hd
   have ht:=h.tms t
   have hy1:∀b',a.tmps[t]? = some (.bool b')→yielded ops a.tmps g=some b':=fun v hv=>by simp [yielded,hd,hv]
   have hy2:∀us,a.tmps[t]? = some (.tuple us)→yielded ops a.tmps g=none:=fun v hv=>by simp [yielded,hd,hv]
   have hy3:a.tmps[t]? = none→yielded ops a.tmps g=none:=fun hv=>by simp [yielded,hd,hv]
   split at hg
   ·rename_i b' e
    injection hg with hg
    subst hg
    rw [e] at ht
    simp only [VR,CR] at ht
    have:a.tmps[t]? = some (.bool b'):=by
     have h1:=ht.1
     rw [Array.getD_eq_getD_getElem?] at h1
     cases e2:a.tmps[t]? with
     | none=>rw [e2] at h1;simp [undef] at h1
     | some v=>rw [e2] at h1;simp at h1;rw [h1]
    rw [hy1 _ this]
    cases b'<;>cases want<;>rfl
   ·rename_i e
    injection hg with hg
    subst hg
    rw [e] at ht
    simp only [VR,VRL] at ht
    obtain⟨us,h1,rfl⟩:=ht
    have:yielded ops a.tmps g=none:=by
     rw [Array.getD_eq_getD_getElem?] at h1
     cases e2:a.tmps[t]? with
     | none=>exact hy3 e2
     | some v=>rw [e2] at h1;simp at h1;subst h1;exact hy2 _ e2
    rw [this];rfl
   ·cases hg
theorem Agr.gw {I:Inf}{σ τ:AS}(h:Agr ops o I σ τ):gw ops τ.tm o=gw ops σ.tm o:=by
 unfold Proofs.YtmnneflenebgmaaGreat.gw
 split
 ·rfl
 ·rename_i g want hgu
  split
  ·rfl
  ·rename_i t hd
   rw [h.tm t (by unfold Oper.looksAt;rw [hgu];simp [hd])]
theorem Agr.ev {I:Inf}{σ τ:AS}(h:Agr ops o I σ τ):∀x∈o.op.operands,τ.ev x=σ.ev x:=by
 intro x hx
 cases x with
 | tmp t=>exact h.tm t (by unfold Oper.looksAt;exact List.mem_append_left _ (List.mem_filterMap.2 ⟨.tmp t,by simpa using hx,rfl⟩))
 | _=>rfl
theorem tG {id:Nat}{x:AV}{d:Dl}(hop:ops[i]? = some o)(hg:gw ops σ.tm o=some true)(he:EffD P o σ.ev σ.hp id=some (x,d))(hf:∀n∈d.N,σ.gn≤n):Snd P ops Q C i o σ (d.inf (fpO σ.ev o) x):=by
 intro τ a w ha hs K hK
 obtain⟨φ,F,St,hs⟩:=hs
 have h1:EffD P o τ.ev τ.hp id=some (x,d):=by rw [wQ ha.ev ha.hp];exact he
 have h2:=zS h1 fun n hn=>⟨by rw [ha.gn];exact hf n hn,ha.us n hn⟩
 obtain⟨n,v,w',h3,h4,φ',F',St',h5,h6⟩:=tq (P:=P) hs h2
 unfold wpOp
 rw [hop]
 have hw:=o9 hs (b:=true) (by rw [ha.gw];exact hg)
 simp only [hw,if_true]
 refine .inl ?_
 unfold Oper.wp
 rw [h3]
 have h7:=h5.put o.dst h6
 rw [Dl.app_eq] at hK
 rcases h4 with rfl|⟨rfl,rfl⟩
 ·exact hK _ _ ⟨φ',F',St',h7⟩
 ·exact hK _ _ ⟨φ',F',St',h7⟩
def fN:Inf:=⟨[],[],[],.tu []⟩
theorem wR (hop:ops[i]? = some o)(hg:gw ops σ.tm o=some false):Snd P ops Q C i o σ fN:=by
 intro τ a w ha hs K hK
 obtain⟨φ,F,St,hs⟩:=hs
 unfold wpOp
 rw [hop]
 have hw:=o9 hs (b:=false) (by rw [ha.gw];exact hg)
 simp only [hw]
 exact hK _ _ ⟨φ,F,St,hs.put o.dst (x:=.tu []) (by simp only [VR];exact⟨[],rfl,by simp [VRL]⟩)⟩
variable {H:List (Nat×Oper×Inf)}{r:List Nat}{dr:Bool}
theorem jK (id:Nat){x:AV}{d:Dl}(hop:ops[i]? = some o)(hg:gw ops σ.tm o=some true)(he:EffD P o σ.ev σ.hp id=some (x,d))(hf:∀n∈d.N,σ.gn≤n∧n∉σ.us)
 (hc:dr=true→(H.all fun h=>wt .any ops ops.size i h.1||inp ops o (d.inf (fpO σ.ev o) x) h.2.1 h.2.2)=true) (h:Walk P ops Q C dr ((i,o,d.inf (fpO σ.ev o) x) :: H) r ((d.ap σ).put o.dst x)):Walk P ops Q C dr H (i :: r) σ :=
 ⟨o,_,hop,tG hop hg he fun n hn=>(hf n hn).1,fun n hn=>(hf n hn).2,hc,by rw [Dl.app_eq];exact h⟩
theorem tH (hop:ops[i]? = some o)(hg:gw ops σ.tm o=some false)(hc:dr=true→(H.all fun h=>wt .any ops ops.size i h.1||inp ops o fN h.2.1 h.2.2)=true)
 (h:Walk P ops Q C dr ((i,o,fN) :: H) r (σ.put o.dst (.tu []))):Walk P ops Q C dr H (i :: r) σ :=
 ⟨o,_,hop,wR hop hg,fun n hn=>absurd hn List.not_mem_nil,hc,h⟩
end
def opC (id:Nat):AC→AC×List (Nat×Row)
 | .ow T n k l=>(.sl id n,[(id,⟨T,k,n,false,l⟩)])
 | .v x=>(.v x,[])
 | .ro n k l=>(.ro n k l,[])
 | .rp l o=>(.rp l o,[])
 | .fn f c=>(.fn f c,[])
 | .nn=>(.nn,[])
 | _=>(.un,[])
def opL (id:Nat):List AC→List AC×List (Nat×Row)
 | []=>([],[])
 | c :: r=>((opC id c).1 :: (opL (id+(opC id c).2.length) r).1,(opC id c).2++(opL (id+(opC id c).2.length) r).2)
mutual
def opV (id:Nat):AV→AV×List (Nat×Row)
 | .c x=>(.c (opC id x).1,(opC id x).2)
 | .ag l=>(.ag (opL id l).1,(opL id l).2)
 | .tu l=>(.tu (sR id l).1,(sR id l).2)
def sR (id:Nat):List AV→List AV×List (Nat×Row)
 | []=>([],[])
 | c :: r=>((opV id c).1 :: (sR (id+(opV id c).2.length) r).1,(opV id c).2++(sR (id+(opV id c).2.length) r).2)
end
def fe (σ:AS):List (Nat×Row)→AS
 | []=>σ
 | (i,r) :: l=>fe (σ.grow i r) l
theorem ki (σ:AS):∀(l m:List (Nat×Row)),fe σ (l++m)=fe (fe σ l) m
 | [],m=>rfl
 | (i,r) :: l,m=>ki (σ.grow i r) l m
theorem mm:∀(l:List (Nat×Row)) (σ:AS) (i:Nat),i∈(fe σ l).us↔(∃p∈l,p.1=i)∨i∈σ.us
 | [],σ,i=>by simp [fe]
 | (j,r) :: l,σ,i=>by
  rw [fe,mm l]
  simp only [AS.grow,List.mem_cons,exists_eq_or_imp]
  constructor
  ·rintro (h|h|h)
   ·exact .inl (.inr h)
   ·exact .inl (.inl h.symm)
   ·exact .inr h
  ·rintro ((h|h)|h)
   ·exact .inr (.inl h.symm)
   ·exact .inl h
   ·exact .inr (.inr h)
theorem pa:∀(l:List (Nat×Row)) (σ:AS),(fe σ l).tm=σ.tm∧(fe σ l).gn=σ.gn∧(fe σ l).L=σ.L∧(fe σ l).hp=fG σ.hp (l.map fun p=>(p.1,some p.2))
 | [],σ=>⟨rfl,rfl,rfl,rfl⟩
 | (j,r) :: l,σ=>pa l (σ.grow j r)
section
variable {P:Program}{C:Ctx}{φ φ':Nat→Lc}{F F':Nat→List Nat}{St St':Nat→Prop}{σ σ':AS}{a:Act}{w:World}
structure Opn (C:Ctx)(φ:Nat→Lc)(F:Nat→List Nat)(St:Nat→Prop)(σ:AS)(a:Act)(w:World)(fp:List Nat)(σ':AS)(φ':Nat→Lc)(F':Nat→List Nat)(St':Nat→Prop):Prop where
 sim:SimF C φ' F' St' σ' a w
 free:∀b,Free C φ F St σ b→b∉fp→Free C φ' F' St' σ' b
 hS:∀b,St b→b<w.heap.size→St' b
 hK:∀i,σ.Kn i→σ'.Kn i∧φ' i=φ i
theorem Opn.refl (h:SimF C φ F St σ a w)(fp:List Nat):Opn C φ F St σ a w fp σ φ F St:=⟨h,fun b hb _=>hb,fun b hb _=>hb,fun i hi=>⟨hi,rfl⟩⟩
theorem Opn.trans {φ'':Nat→Lc}{F'':Nat→List Nat}{St'':Nat→Prop}{σ'':AS}{fp fp':List Nat}(h:Opn C φ F St σ a w fp σ' φ' F' St')(k:Opn C φ' F' St' σ' a w fp' σ'' φ'' F'' St''):Opn C φ F St σ a w (fp++fp') σ'' φ'' F'' St'' :=
 ⟨k.sim,fun b hb hn=>k.free b (h.free b hb fun hm=>hn (List.mem_append_left _ hm)) fun hm=>hn (List.mem_append_right _ hm),fun b hb hl=>k.hS b (h.hS b hb hl) hl,fun i hi=>⟨(k.hK i (h.hK i hi).1).1,(k.hK i (h.hK i hi).1).2.trans (h.hK i hi).2⟩⟩
theorem Opn.cr {fp:List Nat}(h:Opn C φ F St σ a w fp σ' φ' F' St'){c:AC}{u:Value}{f:List Nat}(hc:CR w St φ σ.Kn c u f):CR w St' φ' σ'.Kn c u f:=CR.mono (fun b hb hl=>⟨h.hS b hb hl,rfl⟩) (Nat.le_refl _) h.hK c u f (fun _ _=>rfl) hc
theorem Opn.vr {fp:List Nat}(h:Opn C φ F St σ a w fp σ' φ' F' St'){x:AV}{u:Value}(hc:VR w St φ σ.Kn x u):VR w St' φ' σ'.Kn x u:=VR.mono (fun b hb hl=>⟨h.hS b hb hl,rfl⟩) (Nat.le_refl _) h.hK x u hc
theorem CR.up (K:Nat→Prop)(φ:Nat→Lc)(hS:∀b,St b→b<w.heap.size→St' b){c:AC}{u:Value}{f:List Nat}(hc:CR w St φ0 K0 c u f):CR w St' φ K c u f:=CR.mono (fun b hb hl=>⟨hS b hb hl,rfl⟩) (Nat.le_refl _) (fun i hi=>hi.elim) c u f (fun _ _=>rfl) hc
theorem CRL.up (K:Nat→Prop)(φ:Nat→Lc)(hS:∀b,St b→b<w.heap.size→St' b){c:List AC}{u:List Value}{f:List Nat}(hc:CRL w St φ0 K0 c u f):CRL w St' φ K c u f:=hc.mono (fun b hb hl=>⟨hS b hb hl,rfl⟩) (Nat.le_refl _) (fun i hi=>hi.elim) (fun _ _=>rfl)
mutual
theorem VRF.up {St St':Nat→Prop}(hS:∀b,St b→b<w.heap.size→St' b):∀{x:AV} {u:Value} {f:List Nat},VRF w St φ0 K0 x u f→VRF w St' φ0 K0 x u f
 | .c x,u,f,h=>by simp only [VRF] at h ⊢;exact CR.up _ _ hS h
 | .ag l,u,f,h=>by simp only [VRF] at h ⊢;obtain⟨us,e,h⟩:=h;exact⟨us,e,CRL.up _ _ hS h⟩
 | .tu l,u,f,h=>by simp only [VRF] at h ⊢;obtain⟨us,e,h⟩:=h;exact⟨us,e,VRFL.up hS h⟩
theorem VRFL.up {St St':Nat→Prop}(hS:∀b,St b→b<w.heap.size→St' b):∀{x:List AV} {u:List Value} {f:List Nat},VRFL w St φ0 K0 x u f→VRFL w St' φ0 K0 x u f
 | [],u,f,h=>by simp only [VRFL] at h ⊢;exact h
 | c :: r,u,f,h=>by
  simp only [VRFL] at h ⊢
  obtain⟨v,vs,f1,f2,e1,e2,h1,h2⟩:=h
  exact⟨v,vs,f1,f2,e1,e2,VRF.up hS h1,VRFL.up hS h2⟩
end
theorem yZ (h:SimF C φ F St σ a w){c:AC}{u:Value}{fp:List Nat}(hx:CR w St φ0 K0 c u fp)(hnd:fp.Nodup)(hfr:∀b∈fp,Free C φ F St σ b){id:Nat}(hid:∀p∈(opC id c).2,σ.gn≤p.1∧p.1∉σ.us) :
 ∃φ' F' St',Opn C φ F St σ a w fp (fe σ (opC id c).2) φ' F' St'∧CR w St' φ' (fe σ (opC id c).2).Kn (opC id c).1 u []:=by
 cases c with
 | ow T n k l =>
  simp only [CR] at hx
  obtain⟨us,fs,g1,g2,rfl⟩:=hx
  have hf:=hid (id,⟨T,k,n,false,l⟩) (by simp [opC])
  have h':=h.newRow hf.1 hf.2 (b0:=none) (Stp.refl none w) (fun b hb=>by cases hb) (r:=⟨T,k,n,false,l⟩) (L:=.slc u) (fp:=obl u++fs)
   (fun St' φ' hS hK=>⟨rfl,us,fs,CRL.up _ φ' (fun b hb hl=>(hS b hb hl).1) g1,g2,rfl⟩) hnd (fun b hb=>.inr (hfr b hb)) (fun b lo e=>by cases e)
  have hnk:¬σ.Kn id:=fun hk=>hk.elim (fun h1=>absurd h1 (by have:=hf.1;omega)) hf.2
  have hkn:∀j,σ.Kn j→j≠id:=fun j hj e=>hnk (e▸hj)
  refine⟨_,_,_,⟨h',fun b hb hn=>⟨fun j s hj=>?_,fun hs=>hb.2.1 hs.1,hb.2.2⟩,fun b hb hl=>⟨hb,hl⟩,fun j hj=>⟨hj.imp (fun q=>q) (List.mem_cons_of_mem _),bh _ _ (hkn j hj)⟩⟩,?_⟩
  ·by_cases e:j=id
   ·subst e
    simp only [aX]
    exact⟨hn,fun lo e=>by cases e⟩
   ·have hj':upd σ.hp id (some ⟨T,k,n,false,l⟩) j=some s:=hj
    rw [bh _ _ e] at hj'
    simp only [bh _ _ e]
    exact hb.1 j s hj'
  ·simp only [opC,CR]
   refine⟨trivial,.inr List.mem_cons_self,by rw [aX],?_⟩
   obtain⟨_,⟨rfl,rfl⟩|⟨g,cap,cur,rfl,_⟩⟩:=g2
   ·exact⟨none,0,rfl⟩
   ·exact⟨_,cap,rfl⟩
 | sl i n=>simp only [CR] at hx;exact hx.2.1.elim
 | pt i o=>simp only [CR] at hx;exact hx.2.1.elim
 | bx T l=>exact⟨φ,F,St,Opn.refl h _,by simp [opC,CR]⟩
 | un=>exact⟨φ,F,St,Opn.refl h _,by simp [opC,CR]⟩
 | mp l=>exact⟨φ,F,St,Opn.refl h _,by simp [opC,CR]⟩
 | nn=>have h0:fp=[]:=by (simp only [CR] at hx;exact hx.1)
       subst h0;exact⟨φ,F,St,Opn.refl h _,CR.up _ _ (fun b hb _=>hb) hx⟩
 | v x=>have h0:fp=[]:=by (simp only [CR] at hx;exact hx.2.2)
        subst h0;exact⟨φ,F,St,Opn.refl h _,CR.up _ _ (fun b hb _=>hb) hx⟩
 | ro n k l=>have h0:fp=[]:=by (simp only [CR] at hx;exact hx.1)
             subst h0;exact⟨φ,F,St,Opn.refl h _,CR.up _ _ (fun b hb _=>hb) hx⟩
 | rp l o=>have h0:fp=[]:=by (simp only [CR] at hx;exact hx.1)
           subst h0;exact⟨φ,F,St,Opn.refl h _,CR.up _ _ (fun b hb _=>hb) hx⟩
 | fn f c=>have h0:fp=[]:=by (simp only [CR] at hx;exact hx.1)
           subst h0;exact⟨φ,F,St,Opn.refl h _,CR.up _ _ (fun b hb _=>hb) hx⟩
def Seq (id:Nat)(l:List (Nat×Row)):Prop:=∀j p,l[j]? = some p→p.1=id+j
theorem pb (id:Nat)(c:AC):Seq id (opC id c).2:=by
 cases c<;>intro j p h<;>simp only [opC] at h<;>rcases j with _|j<;>simp at h
 subst h;rfl
theorem Seq.app {id:Nat}{l m:List (Nat×Row)}(h:Seq id l)(k:Seq (id+l.length) m):Seq id (l++m):=by
 intro j p hj
 rw [List.getElem?_append] at hj
 split at hj
 ·exact h j p hj
 ·have:=k _ p hj;omega
theorem pd:∀(l:List AC) (id:Nat),Seq id (opL id l).2
 | [],id=>by intro j p h;simp [opL] at h
 | c :: r,id=>(pb id c).app (pd r _)
mutual
theorem tI:∀(x:AV) (id:Nat),Seq id (opV id x).2
 | .c x,id=>by simp only [opV];exact pb id x
 | .ag l,id=>by simp only [opV];exact pd l id
 | .tu l,id=>by simp only [opV];exact mn l id
theorem mn:∀(l:List AV) (id:Nat),Seq id (sR id l).2
 | [],id=>by intro j p h;simp [sR] at h
 | c :: r,id=>(tI c id).app (mn r _)
end
theorem Seq.range {id:Nat}{l:List (Nat×Row)}(h:Seq id l){p:Nat×Row}(hp:p∈l):id≤p.1∧p.1<id+l.length:=by
 obtain⟨j,hj,rfl⟩:=List.mem_iff_getElem.1 hp
 have:=h j _ (List.getElem?_eq_getElem hj)
 omega
theorem nG {id:Nat}{l m:List (Nat×Row)}(h1:Seq id l)(h2:Seq (id+l.length) m)(hid:∀p∈l++m,σ.gn≤p.1∧p.1∉σ.us):(∀p∈l,σ.gn≤p.1∧p.1∉σ.us)∧∀p∈m,(fe σ l).gn≤p.1∧p.1∉(fe σ l).us:=by
 refine⟨fun p hp=>hid p (List.mem_append_left _ hp),fun p hp=>⟨by rw [(pa l σ).2.1];exact (hid p (List.mem_append_right _ hp)).1,fun hm=>?_⟩⟩
 rcases (mm l σ p.1).1 hm with ⟨q,hq,e⟩|hm
 ·have:=h1.range hq;have:=h2.range hp;omega
 ·exact (hid p (List.mem_append_right _ hp)).2 hm
theorem y4:∀{l:List AC} {us:List Value} {fp:List Nat} {φ:Nat→Lc} {F:Nat→List Nat} {St:Nat→Prop} {σ:AS} {id:Nat},SimF C φ F St σ a w→CRL w St φ0 K0 l us fp→fp.Nodup→(∀b∈fp,Free C φ F St σ b)→(∀p∈(opL id l).2,σ.gn≤p.1∧p.1∉σ.us) →
 ∃φ' F' St',Opn C φ F St σ a w fp (fe σ (opL id l).2) φ' F' St'∧CRL w St' φ' (fe σ (opL id l).2).Kn (opL id l).1 us []
 | [],us,fp,φ,F,St,σ,id,h,hx,_,_,_=>by
  simp only [CRL] at hx
  obtain⟨rfl,rfl⟩:=hx
  exact⟨φ,F,St,Opn.refl h _,by simp only [opL];exact CRL.nil⟩
 | c :: r,us,fp,φ,F,St,σ,id,h,hx,hnd,hfr,hid=>by
  simp only [CRL] at hx
  obtain⟨u,us',f,f',rfl,rfl,h1,h2⟩:=hx
  simp only [opL] at hid ⊢
  have hn:=List.nodup_append.1 hnd
  obtain⟨i1,i2⟩:=nG (pb id c) (pd r _) hid
  obtain⟨φ1,F1,St1,o1,g1⟩:=yZ h h1 hn.1 (fun b hb=>hfr b (List.mem_append_left _ hb)) i1
  obtain⟨φ2,F2,St2,o2,g2⟩:=y4 o1.sim (CRL.up _ _ o1.hS h2) hn.2.1 (fun b hb=>o1.free b (hfr b (List.mem_append_right _ hb)) fun hm=>hn.2.2 b hm b hb rfl) i2
  rw [ki]
  exact⟨φ2,F2,St2,o1.trans o2,CRL.cons (f:=[]) (f':=[]) (o2.cr g1) g2⟩
mutual
theorem y5:∀{x:AV} {u:Value} {fp:List Nat} {φ:Nat→Lc} {F:Nat→List Nat} {St:Nat→Prop} {σ:AS} {id:Nat},SimF C φ F St σ a w→VRF w St φ0 K0 x u fp→fp.Nodup→(∀b∈fp,Free C φ F St σ b)→(∀p∈(opV id x).2,σ.gn≤p.1∧p.1∉σ.us) →
 ∃φ' F' St',Opn C φ F St σ a w fp (fe σ (opV id x).2) φ' F' St'∧VR w St' φ' (fe σ (opV id x).2).Kn (opV id x).1 u
 | .c x,u,fp,φ,F,St,σ,id,h,hx,hnd,hfr,hid=>by
  simp only [VRF] at hx
  simp only [opV] at hid ⊢
  obtain⟨φ1,F1,St1,o1,g1⟩:=yZ h hx hnd hfr hid
  exact⟨φ1,F1,St1,o1,by simp only [VR];exact g1⟩
 | .ag l,u,fp,φ,F,St,σ,id,h,hx,hnd,hfr,hid=>by
  simp only [VRF] at hx
  simp only [opV] at hid ⊢
  obtain⟨us,e,hx⟩:=hx
  obtain⟨φ1,F1,St1,o1,g1⟩:=y4 h hx hnd hfr hid
  exact⟨φ1,F1,St1,o1,by simp only [VR];exact⟨us,e,g1⟩⟩
 | .tu l,u,fp,φ,F,St,σ,id,h,hx,hnd,hfr,hid=>by
  simp only [VRF] at hx
  simp only [opV] at hid ⊢
  obtain⟨us,e,hx⟩:=hx
  obtain⟨φ1,F1,St1,o1,g1⟩:=tJ h hx hnd hfr hid
  exact⟨φ1,F1,St1,o1,by simp only [VR];exact⟨us,e,g1⟩⟩
theorem tJ:∀{l:List AV} {us:List Value} {fp:List Nat} {φ:Nat→Lc} {F:Nat→List Nat} {St:Nat→Prop} {σ:AS} {id:Nat},SimF C φ F St σ a w→VRFL w St φ0 K0 l us fp→fp.Nodup→(∀b∈fp,Free C φ F St σ b)→(∀p∈(sR id l).2,σ.gn≤p.1∧p.1∉σ.us) →
 ∃φ' F' St',Opn C φ F St σ a w fp (fe σ (sR id l).2) φ' F' St'∧VRL w St' φ' (fe σ (sR id l).2).Kn (sR id l).1 us
 | [],us,fp,φ,F,St,σ,id,h,hx,_,_,_=>by
  simp only [VRFL] at hx
  obtain⟨rfl,rfl⟩:=hx
  exact⟨φ,F,St,Opn.refl h _,by simp [sR,VRL]⟩
 | c :: r,us,fp,φ,F,St,σ,id,h,hx,hnd,hfr,hid=>by
  simp only [VRFL] at hx
  obtain⟨u,us',f,f',rfl,rfl,h1,h2⟩:=hx
  simp only [sR] at hid ⊢
  have hn:=List.nodup_append.1 hnd
  obtain⟨i1,i2⟩:=nG (tI c id) (mn r _) hid
  obtain⟨φ1,F1,St1,o1,g1⟩:=y5 h h1 hn.1 (fun b hb=>hfr b (List.mem_append_left _ hb)) i1
  obtain⟨φ2,F2,St2,o2,g2⟩:=tJ o1.sim (VRFL.up o1.hS h2) hn.2.1 (fun b hb=>o1.free b (hfr b (List.mem_append_right _ hb)) fun hm=>hn.2.2 b hm b hb rfl) i2
  rw [ki]
  exact⟨φ2,F2,St2,o1.trans o2,by simp only [VRL];exact⟨u,us',rfl,o2.vr g1,g2⟩⟩
end
end
def eG (hp:Nat→Option Row):List Nat→List (List AC)→List (Nat×Option Row)
 | i :: D,c :: rows=>(i,(hp i).map fun r=>{ r with cs:=c }) :: eG hp D rows
 | _,_=>[]
theorem mo:∀(U V:List (Nat×Option Row)) (hp:Nat→Option Row),fG hp (U++V)=fG (fG hp U) V
 | [],_,_=>rfl
 | (i,r) :: U,V,hp=>mo U V (upd hp i r)
theorem nH {hp:Nat→Option Row}:∀{D:List Nat} {rows:List (List AC)} {f:Nat→Option Row} {i:Nat},D.Nodup→rows.length=D.length →
 (∃d c,idx i D=some d∧rows[d]? = some c∧fG f (eG hp D rows) i=(hp i).map fun r=>{ r with cs:=c })∨(idx i D=none∧fG f (eG hp D rows) i=f i)
 | [],[],f,i,_,_=>.inr ⟨rfl,rfl⟩
 | [],c :: rows,f,i,_,hl=>by simp at hl
 | j :: D,[],f,i,_,hl=>by simp at hl
 | j :: D,c :: rows,f,i,hD,hl=>by
  simp only [eG,fG]
  have hD':=List.nodup_cons.1 hD
  rcases nH (hp:=hp) (D:=D) (rows:=rows) (f:=upd f j ((hp j).map fun r=>{ r with cs:=c })) (i:=i) hD'.2 (by simpa using hl) with ⟨d,c',h1,h2,h3⟩|⟨h1,h2⟩
  ·have hji:j≠i:=by rintro rfl;exact hD'.1 (List.mem_of_getElem? (eY h1))
   refine .inl ⟨d+1,c',by simp [idx,hji,h1],by simpa using h2,h3⟩
  ·by_cases hji:j=i
   ·subst hji
    exact .inl ⟨0,c,by simp [idx],rfl,by rw [h2,aX]⟩
   ·exact .inr ⟨by simp [idx,hji,h1],by rw [h2,bh _ _ (Ne.symm hji)]⟩
theorem updZ:∀(Z:List Nat) (f:Nat→Option Row) (i:Nat),fG f (Z.map fun z=>(z,none)) i=if i∈Z then none else f i
 | [],f,i=>by simp [fG]
 | z :: Z,f,i=>by
  simp only [List.map_cons,fG]
  rw [updZ Z]
  by_cases h:i∈Z
  ·simp [h]
  ·rw [if_neg h]
   by_cases e:i=z
   ·subst e;simp [aX]
   ·rw [bh _ _ e];simp [h,e]
def zT (P:Program) (f:FuncId):Bool:=match P.funcs[f]? with|some fn=>!(fn.name=="runtime.NumGoroutine")&&!fn.body.isNone|none=>false
def Ctr (P:Program)(f:FuncId)(ins:List AV)(pars:List (List AC))(res:AV)(rows:List (List AC)):Prop:=zT P f=true∧Fun P f ins pars fun r c=>r=res∧c=rows
theorem jj {P:Program}{f:FuncId}(h:zT P f=true)(args:Array Value)(w:World):(callFunc f args).run P w=.ok (.enter f args) w:=by
 unfold zT at h
 split at h
 ·rename_i fn hf
  simp only [Bool.and_eq_true,Bool.not_eq_true'] at h
  obtain⟨h1,h2⟩:=h
  have h1':¬fn.name="runtime.NumGoroutine":=by simpa using h1
  have h2':¬fn.body=none:=by intro e;rw [e] at h2;cases h2
  simp [callFunc,hf,h1',h2']
 ·cases h
theorem qt {hp hp':Nat→Option Row}:∀{D:List Nat},(∀i∈D,hp' i=hp i)→ij hp' D=ij hp D
 | [],_=>rfl
 | j :: D,h=>by simp only [ij];rw [h j List.mem_cons_self,qt fun i hi=>h i (List.mem_cons_of_mem _ hi)]
theorem nI {hp hp':Nat→Option Row}:∀{D:List Nat} {rows:List (List AC)},(∀i∈D,hp' i=hp i)→eG hp' D rows=eG hp D rows
 | [],rows,_=>by simp [eG]
 | j :: D,[],_=>by simp [eG]
 | j :: D,c :: rows,h=>by simp only [eG];rw [h j List.mem_cons_self,nI fun i hi=>h i (List.mem_cons_of_mem _ hi)]
theorem mq {i:Nat}:∀{l:List AC} {c:AC},c∈l→i∈snC c→i∈snL l
 | [],_,h,_=>by cases h
 | x :: r,c,h,hi=>by
  simp only [snL,List.mem_append]
  rcases List.mem_cons.1 h with rfl|h
  ·exact .inl hi
  ·exact .inr (mq h hi)
theorem tK {hp hp':Nat→Option Row}{D:List Nat}:∀c:AC,(∀i∈snC c,hp' i=hp i)→cvC hp' D c=cvC hp D c:=by
 intro c
 induction c using AC.ind with
 | h4 i n=>intro h;simp only [cvC];rw [h i (by simp [snC])]
 | h6 l o ih =>
  intro _
  simp only [cvC,j9]
  split
  ·rfl
  ·split
   ·rename_i hs
    congr 1
    refine List.map_congr_left fun x hx=>ih x hx fun i hi=>?_
    have:=mq hx hi
    rw [List.isEmpty_iff.1 hs] at this
    cases this
   ·rfl
 | h7 f c ih =>
  intro h
  simp only [cvC,j9]
  congr 1
  exact List.map_congr_left fun x hx=>ih x hx fun i hi=>h i (mq hx hi)
 | _=>intros;simp [cvC]
theorem zU {hp hp':Nat→Option Row}{D:List Nat}(x:AV)(h:∀i∈snV x,hp' i=hp i):cvV hp' D x=cvV hp D x:=by
 cases x with
 | c x=>simp only [cvV];rw [tK x h]
 | ag l=>simp only [cvV,j9];congr 1;exact List.map_congr_left fun c hc=>tK c fun i hi=>h i (mq hc hi)
 | tu l=>rfl
section
variable {P:Program}{ops:Array Oper}{Q:Exit→Act→World→Prop}{C:Ctx}{φ:Nat→Lc}{F:Nat→List Nat}{St:Nat→Prop}{σ:AS}{a:Act}{w:World}{o:Oper}{i:Nat}
theorem tL {K:Nat→Prop}:∀{l:List AC} {us:List Value},CRL w St φ K l us []→VRL w St φ K (l.map .c) us
 | [],us,h=>by simp only [CRL] at h;rw [h.1];simp [VRL]
 | c :: r,us,h=>by
  simp only [CRL] at h
  obtain⟨u,us',f,f',rfl,e,h1,h2⟩:=h
  have e':=List.append_eq_nil_iff.1 e.symm
  rw [e'.1] at h1
  rw [e'.2] at h2
  simp only [List.map_cons,VRL]
  exact⟨u,us',rfl,by simp only [VR];exact h1,tL h2⟩
theorem VRL.app {K:Nat→Prop}:∀{l m:List AV} {us vs:List Value},VRL w St φ K l us→VRL w St φ K m vs→VRL w St φ K (l++m) (us++vs)
 | [],m,us,vs,h,k=>by simp only [VRL] at h;subst h;exact k
 | c :: r,m,us,vs,h,k=>by
  simp only [VRL] at h
  obtain⟨u,us',rfl,h1,h2⟩:=h
  simp only [List.cons_append,VRL]
  exact⟨u,us'++vs,rfl,h1,h2.app k⟩
def cZ (σ:AS)(R D Z:List Nat)(id:Nat)(res:AV)(rows:List (List AC)):Inf :=
 ⟨D++R++Z,eG σ.hp D rows++(Z.map fun z=>(z,none))++(opV id res).2.map (fun p=>(p.1,some p.2)),(opV id res).2.map (·.1),(opV id res).1⟩
def cD (σ:AS)(c:Call)(caps:List AC):List AV:=c.args.toList.map σ.ev++caps.map .c
def tM (σ:AS)(c:Call)(caps:List AC):List Nat:=(cD σ c caps).flatMap snV
theorem wS {c:Call}(hop:ops[i]? = some o)(hoc:o.op=.call c){fv:Operand}(hcal:c.callee=.value fv){f:FuncId}{caps:List AC}(hfv:σ.ev fv=.c (.fn f caps))(hg:gw ops σ.tm o=some true)
 {D Z:List Nat} {pars:List (List AC)} {res:AV} {rows:List (List AC)} {id:Nat} (hl:ij σ.hp D=some pars) (hRD:∀z∈tM σ c caps,z∉D) (hZD:∀z∈Z,z∉D)
 (hm:(dS res=true∧∀c∈rows,dm c=true)∨∀z∈tM σ c caps,z∈Z) (hctr:Ctr P f ((cD σ c caps).map (cvV σ.hp D)) pars res rows) (hf:∀p∈(opV id res).2,σ.gn≤p.1) :
 Snd P ops Q C i o σ (cZ σ (tM σ c caps) D Z id res rows):=by
 intro τ a w ha hs K hK
 obtain⟨φ,F,St,hs⟩:=hs
 have hev:=ha.ev
 rw [hoc] at hev
 have hargs:∀x∈c.args.toList,τ.ev x=σ.ev x:=fun x hx=>hev x (by simp only [Op.operands,Call.operands];exact Array.mem_append.2 (.inr (by simpa using hx)))
 have hfe:τ.ev fv=.c (.fn f caps):=by rw [hev fv (by simp [Op.operands,Call.operands,hcal]),hfv]
 have eargs:cD τ c caps=cD σ c caps:=by unfold cD;rw [yY hargs]
 have eD:∀i∈D,τ.hp i=σ.hp i:=fun i hi=>ha.hp i (by simp [cZ,hi])
 have eR:∀i∈tM σ c caps,τ.hp i=σ.hp i:=fun i hi=>ha.hp i (by simp [cZ,hi])
 have hl':ij τ.hp D=some pars:=by rw [qt eD];exact hl
 have ecv:(cD σ c caps).map (cvV τ.hp D)=(cD σ c caps).map (cvV σ.hp D):=List.map_congr_left fun x hx=>zU x fun i hi=>eR i (List.mem_flatMap.2 ⟨x,hx,hi⟩)
 have hfn:=hs.ev fv
 rw [hfe] at hfn
 simp only [VR,CR] at hfn
 obtain⟨_,us,hfu,hcaps⟩:=hfn
 have hin:VRL w St φ τ.Kn (cD σ c caps) (c.args.toList.map a.eval++us):=by
  rw [←eargs];exact (evs hs _).app (tL hcaps)
 have hent:=hs.ent hl' (R:=tM σ c caps) hRD hin fun x hx i hi=>List.mem_flatMap.2 ⟨x,hx,hi⟩
 rw [ecv] at hent
 have hcall:=hctr.2 w _ _ _ _ hent
 unfold wpOp
 rw [hop]
 have hw:=o9 hs (b:=true) (by rw [ha.gw];exact hg)
 simp only [hw,if_true]
 refine .inl ?_
 unfold Oper.wp
 have hrun:(execOp a.eval o).run P w=.ok (.enter f (c.args.toList.map a.eval++us).toArray) w:=by
  have e:(#[]++c.args.map a.eval++us.toArray:Array Value)=(c.args.toList.map a.eval++us).toArray:=by
   apply Array.ext';simp
  have h1:(resolve a.eval c o.type).run P w=.ok { target:=.fn (.func f) us.toArray,args:=#[]++c.args.map a.eval } w:=by
   unfold resolve;rw [hcal];simp only [hfu,Deferred.ofValue,Sem.run_pure]
  have h2:execOp a.eval o=(do let d ←resolve a.eval c o.type;invoke d.target d.args):=by unfold execOp;rw [hoc]
  rw [h2,Sem.run_bind,h1]
  simp only [Result.andThen_ok,invoke]
  rw [e]
  exact jj hctr.1 _ _
 rw [hrun,Oper.upon_enter]
 refine hcall.mono ?_
 rintro e w' ⟨res',rows',u,St',F',G,⟨rfl,rfl⟩,rfl,hx⟩
 have hrl:rows'.length=D.length:=by rw [hx.len,fL hl']
 have hDn:=gG hl'
 have hget:∀i,fG τ.hp (eG τ.hp D rows'++Z.map fun z=>(z,none)) i=if i∈Z then none else fG τ.hp (eG τ.hp D rows') i:=fun i=>by rw [mo,updZ]
 obtain⟨St3,b1,b2,b3⟩:=hs.back hl' hx (hp3:=fG τ.hp (eG τ.hp D rows'++Z.map fun z=>(z,none))) (fun i s hi=>by
  rw [hget] at hi
  split at hi
  ·cases hi
  ·rcases nH (hp:=τ.hp) (f:=τ.hp) (i:=i) hDn hrl with ⟨d,cc,h1,h2,h3⟩|⟨h1,h2⟩
   ·rw [h3] at hi
    simp only [Option.map_eq_some_iff] at hi
    obtain⟨r,h4,h5⟩:=hi
    exact .inl ⟨d,r,cc,h1,h4,h2,h5.symm⟩
   ·rw [h2] at hi;exact .inr ⟨h1,hi⟩) (hm.imp (fun q=>q) fun hz i hi=>by rw [hget,if_pos (hz i hi)])
 obtain⟨φ4,F4,St4,o1,o2⟩:=y5 b1 b2 hx.nodG b3 (id:=id) (fun p hp=>⟨by show τ.gn≤_;rw [ha.gn];exact hf p hp,by
  show p.1∉τ.us
  exact ha.us p.1 (by simp only [cZ,List.mem_map];exact⟨p,hp,rfl⟩)⟩)
 refine hK _ _ (Sim.aeq ⟨φ4,F4,St4,o1.sim.put o.dst o2⟩ ?_)
 obtain⟨g1,g2,g3,g4⟩:=pa (opV id res').2 { τ with hp:=fG τ.hp (eG τ.hp D rows'++Z.map fun z=>(z,none)) }
 have eb:eG τ.hp D rows'=eG σ.hp D rows':=nI eD
 refine⟨?_,?_,?_,fun j=>?_,?_⟩
 ·rw [gj,yX,g1,g3];rfl
 ·rw [gi,(dK _ _ _).1,g4]
  simp only [cZ]
  rw [←mo,eb]
 ·rw [jg,(dK _ _ _).2.1,g2]
 ·rw [jh,(dK _ _ _).2.2.1,mm]
  simp only [cZ,List.mem_append,List.mem_map]
 ·rw [lg,(dK _ _ _).2.2.2,g3]
theorem tN {H:List (Nat×Oper×Inf)}{r:List Nat}{dr:Bool}{c:Call}(id:Nat)(D Z:List Nat)(hop:ops[i]? = some o)(hg:gw ops σ.tm o=some true)(hoc:o.op=.call c){fv:Operand}(hcal:c.callee=.value fv){f:FuncId}{caps:List AC}(hfv:σ.ev fv=.c (.fn f caps))
 {args:List AV} (hargs:cD σ c caps=args) {pars:List (List AC)} {res:AV} {rows:List (List AC)} (hl:ij σ.hp D=some pars) (hctr:Ctr P f (args.map (cvV σ.hp D)) pars res rows)
 (hRD:((args.flatMap snV).all fun z=>!D.contains z)=true) (hZD:(Z.all fun z=>!D.contains z)=true)
 (hm:(dS res=true∧∀c∈rows,dm c=true)∨((args.flatMap snV).all fun z=>Z.contains z)=true) (hf:((opV id res).2.all fun p=>decide (σ.gn≤p.1)&&!σ.us.contains p.1)=true)
 (hc:dr=true→(H.all fun h=>wt .any ops ops.size i h.1||inp ops o (cZ σ (args.flatMap snV) D Z id res rows) h.2.1 h.2.2)=true)
 (h:Walk P ops Q C dr ((i,o,cZ σ (args.flatMap snV) D Z id res rows) :: H) r (σ.app (cZ σ (args.flatMap snV) D Z id res rows) o)):Walk P ops Q C dr H (i :: r) σ:=by
 subst hargs
 have nc:∀{l m:List Nat},(l.all fun z=>!m.contains z)=true→∀z∈l,z∉m:=fun h z hz hm=>by have:=List.all_eq_true.1 h z hz;simp at this;exact this hm
 have hf':∀p∈(opV id res).2,σ.gn≤p.1∧p.1∉σ.us:=fun p hp=>by have:=List.all_eq_true.1 hf p hp;simpa using this
 refine⟨o,_,hop,wS hop hoc hcal hfv hg hl (nc hRD) (nc hZD) (hm.imp (fun q=>q) fun h z hz=>by have:=List.all_eq_true.1 h z hz;simpa using this) hctr (fun p hp=>(hf' p hp).1),fun n hn=>?_,hc,h⟩
 simp only [cZ,List.mem_map] at hn
 obtain⟨p,hp,rfl⟩:=hn
 exact (hf' p hp).2
end
section
variable {P:Program}{Q:Exit→AS→Prop}{σ:AS}
theorem wT {c:Code}{Q':Exit→AS→Prop}(h:AWp P c Q σ)(hq:∀e σ,Q e σ→Q' e σ):AWp P c Q' σ:=fun C a w hs=>wp_mono (h C a w hs) fun _ _ _ ⟨σ',h1,h2⟩=>⟨σ',hq _ _ h1,h2⟩
theorem ai (h:Q .normal σ):AWp P .skip Q σ:=fun _ _ _ hs=>wp_skip ⟨σ,h,hs⟩
theorem au {id:Nat}(h:Q (.exit id) σ):AWp P (.exit id) Q σ:=fun _ _ _ hs=>wp_exit ⟨σ,h,hs⟩
theorem am (h:Q .ret σ):AWp P .ret Q σ:=fun _ _ _ hs=>wp_ret ⟨σ,h,hs⟩
def wU (next:AS→Prop)(Q:Exit→AS→Prop):Exit→AS→Prop
 | .normal,σ=>next σ
 | e,σ=>Q e σ
theorem ae {x y:Code}(h:AWp P x (wU (AWp P y Q) Q) σ):AWp P (.seq x y) Q σ:=fun C a w hs=>wp_seq (wp_mono (h C a w hs) fun e a' w' ⟨σ',h1,h2⟩=>by
 cases e with
 | normal=>exact h1 C a' w' h2
 | exit id=>exact⟨σ',h1,h2⟩
 | goto l=>exact⟨σ',h1,h2⟩
 | ret=>exact⟨σ',h1,h2⟩
 | panic c=>exact⟨σ',h1,h2⟩
 | outgrown=>exact⟨σ',h1,h2⟩)
theorem cy {c:Operand}{x y:Code}{t:Bool}(hc:σ.ev c=.c (.v (.bool t)))(h1:t=true→AWp P x Q σ)(h2:t=false→AWp P y Q σ):AWp P (.cond c x y) Q σ:=fun C a w hs=>by
 have hv:a.eval c=.bool t:=by
  obtain⟨φ,F,St,hs⟩:=hs
  have:=hs.ev c
  rw [hc] at this
  simp only [VR,CR] at this
  exact this.1
 cases t with
 | false=>exact wp_cond_false hv (h2 rfl C a w hs)
 | true=>exact wp_cond_true hv (h1 rfl C a w hs)
def qu (id:Nat)(Q:Exit→AS→Prop):Exit→AS→Prop
 | .exit id',σ=>if id'=id then Q .normal σ else Q (.exit id') σ
 | e,σ=>Q e σ
theorem ah {id:Nat}{c:Code}(h:AWp P c (qu id Q) σ):AWp P (.block id c) Q σ:=fun C a w hs=>wp_block (wp_mono (h C a w hs) fun e a' w' ⟨σ',h1,h2⟩=>by
 cases e with
 | exit id' =>
  simp only [qu,Exit.inBlock] at h1 ⊢
  split
  ·rename_i e;rw [if_pos e] at h1;exact⟨σ',h1,h2⟩
  ·rename_i e;rw [if_neg e] at h1;exact⟨σ',h1,h2⟩
 | normal=>exact⟨σ',h1,h2⟩
 | goto l=>exact⟨σ',h1,h2⟩
 | ret=>exact⟨σ',h1,h2⟩
 | panic c=>exact⟨σ',h1,h2⟩
 | outgrown=>exact⟨σ',h1,h2⟩)
theorem lJ {id:Nat}{ops:Array Oper}{dr:Bool}(hm:dr=true→P.follows .mixedOrders=true∧wO .any ops=true)
 (h:∀C,Walk P ops (fun e a w=>∃σ',Q e σ'∧Sim C σ' a w) C dr [] (List.range ops.size) σ):AWp P (.region id ops dr) Q σ:=fun C _ _ hs=>tz hm (h C) hs
theorem ab {ops:Array Oper}{C:Ctx}{dr:Bool}{H:List (Nat×Oper×Inf)}(h:Q .normal σ):Walk P ops (fun e a w=>∃σ',Q e σ'∧Sim C σ' a w) C dr H [] σ:=fun _ _ hs=>⟨σ,h,hs⟩
theorem tO {c:Code}{σ':AS}(hg:∀C a w,Sim C σ a w→Sim C σ' a w)(h:AWp P c Q σ'):AWp P c Q σ:=fun C a w hs=>h C a w (hg C a w hs)
end
section
variable {C:Ctx}{φ:Nat→Lc}{F:Nat→List Nat}{St:Nat→Prop}{σ:AS}{a:Act}{w:World}
theorem SimF.absorb (h:SimF C φ F St σ a w){i j n:Nat}{r s:Row}(hij:i≠j)(hr:σ.hp i=some r)(hs:σ.hp j=some s)(hsb:s.box=false)(hsn:s.n=n){pre post:List AC}(hcs:r.cs=pre++.sl j n :: post) :
 ∃F',SimF C φ F' St { σ with hp:=upd (upd σ.hp j none) i (some { r with cs:=pre++.ow s.T n s.k s.cs :: post }) } a w:=by
 have key:∀(us:List Value) (fp:List Nat),CRL w St φ σ.Kn r.cs us fp→(∀b∈fp,b∈F i)→fp.Nodup→∃fp',CRL w St φ σ.Kn (pre++.ow s.T n s.k s.cs :: post) us fp'∧(∀b,b∈fp'↔b∈fp∨b∈F j)∧fp'.Nodup:=by
  intro us fp hc hsub hnd
  rw [hcs] at hc
  obtain⟨u1,u2,f1,f2,rfl,rfl,g1,g2⟩:=hc.split
  simp only [CRL] at g2
  obtain⟨u,u3,f3,f4,rfl,rfl,g3,g4⟩:=g2
  simp only [CR] at g3
  obtain⟨rfl,_,e,A,c,rfl⟩:=g3
  have hrow:=(h.row j s hs).2
  rw [e] at hrow
  obtain⟨_,vs,fs,q1,q2,q3⟩:=hrow
  have hn2:=h.nod j s hs
  have hd:∀b∈F j,b∉f1++([]++f4):=fun b hb hm=>h.dis i j r s hr hs hij b (hsub b hm) hb
  simp only [List.nil_append] at hd hnd ⊢
  refine⟨f1++(F j++f4),g1.app (CRL.cons (by simp only [CR];subst hsn;exact⟨vs,fs,q1,q2,q3⟩) g4),fun b=>by simp only [List.mem_append];exact⟨fun h=>h.elim (fun h=>.inl (.inl h)) fun h=>h.elim .inr fun h=>.inl (.inr h),fun h=>h.elim (fun h=>h.elim .inl fun h=>.inr (.inr h)) fun h=>.inr (.inl h)⟩,?_⟩
  have h3:=List.nodup_append.1 hnd
  refine List.nodup_append.2 ⟨h3.1,List.nodup_append.2 ⟨hn2,h3.2.1,fun p hp q hq e=>hd p hp (List.mem_append_right _ (e▸hq))⟩,fun p hp q hq e=>?_⟩
  rcases List.mem_append.1 hq with hq|hq
  ·exact hd q hq (List.mem_append_left _ (e▸hp))
  ·exact h3.2.2 p hp q hq e
 have hrow:=(h.row i r hr).2
 have hnd:=h.nod i r hr
 obtain⟨X,x1,x2,x3⟩:∃X,RowOk w St φ σ.Kn { r with cs:=pre++.ow s.T n s.k s.cs :: post } X (φ i)∧(∀b,b∈X↔b∈F i∨b∈F j)∧X.Nodup:=by
  cases e:φ i with
  | box b lo =>
   rw [e] at hrow
   obtain⟨hb,us,g1,g2⟩:=hrow
   obtain⟨fp',k1,k2,k3⟩:=key us (F i) g1 (fun b hb=>hb) hnd
   exact⟨fp',⟨hb,us,k1,g2⟩,k2,k3⟩
  | slc u =>
   rw [e] at hrow
   obtain⟨hb,us,fs,g1,g2,g3⟩:=hrow
   rw [g3] at hnd
   have hn3:=List.nodup_append.1 hnd
   obtain⟨fp',k1,k2,k3⟩:=key us fs g1 (fun b hb=>by rw [g3];exact List.mem_append_right _ hb) hn3.2.1
   refine⟨obl u++fp',⟨hb,us,fp',k1,g2,rfl⟩,fun b=>by rw [g3];simp only [List.mem_append,k2,or_assoc],List.nodup_append.2 ⟨hn3.1,k3,fun p hp q hq e=>?_⟩⟩
   rcases (k2 q).1 hq with hq|hq
   ·exact hn3.2.2 p hp q hq e
   ·exact h.dis i j r s hr hs hij q (by rw [g3];exact List.mem_append_left _ (e▸hp)) hq
 have hlen:(pre++.ow s.T n s.k s.cs :: post).length=r.cs.length:=by rw [hcs];simp
 have old:∀k t,upd (upd σ.hp j none) i (some { r with cs:=pre++.ow s.T n s.k s.cs :: post }) k=some t→(k=i∧t={ r with cs:=pre++.ow s.T n s.k s.cs :: post })∨(k≠i∧k≠j∧σ.hp k=some t):=fun k t hk=>by
  by_cases e:k=i
  ·subst e;rw [aX] at hk;injection hk with hk;exact .inl ⟨rfl,hk.symm⟩
  ·rw [bh _ _ e] at hk
   by_cases e2:k=j
   ·subst e2;rw [aX] at hk;cases hk
   ·rw [bh _ _ e2] at hk;exact .inr ⟨e,e2,hk⟩
 have fi:upd F i X i=X:=aX _ _ _
 have fk:∀k,k≠i→upd F i X k=F k:=fun k hk=>bh _ _ hk
 have get:∀k t,upd (upd σ.hp j none) i (some { r with cs:=pre++.ow s.T n s.k s.cs :: post }) k=some t→∃t',σ.hp k=some t'∧t.cs.length=t'.cs.length∧∀b,b∈upd F i X k→b∈F k∨(k=i∧b∈F j):=fun k t hk=>by
  rcases old k t hk with ⟨rfl,rfl⟩|⟨e1,e2,e3⟩
  ·exact⟨r,hr,hlen,fun b hb=>by rw [fi] at hb;exact ((x2 b).1 hb).imp (fun q=>q) fun q=>⟨rfl,q⟩⟩
  ·exact⟨t,e3,rfl,fun b hb=>by rw [fk k e1] at hb;exact .inl hb⟩
 refine⟨upd F i X,h.dfr,h.len,h.tms,fun k t hk=>?_,fun k t hk=>?_,fun k m t v hk hm hkm b hb=>?_,fun k m t v b lo hk hm e=>?_,fun k m t v b lo lo' hk hm hkm e e'=>?_,fun k t b hk hb=>?_,fun k t b lo hk e=>?_,h.frm,fun k t b hk hb=>?_,fun k hk=>⟨(h.par k hk).1,fun t ht q hq=>?_⟩,fun k t b lo hk e hN=>?_,h.gnN,h.stS⟩
 ·rcases old k t hk with ⟨rfl,rfl⟩|⟨e1,e2,e3⟩
  ·rw [fi];exact⟨(h.row k r hr).1,x1⟩
  ·rw [fk k e1];exact h.row k t e3
 ·rcases old k t hk with ⟨rfl,rfl⟩|⟨e1,e2,e3⟩
  ·rw [fi];exact x3
  ·rw [fk k e1];exact h.nod k t e3
 ·obtain⟨t',k1,_,k3⟩:=get k t hk
  obtain⟨v',m1,_,m3⟩:=get m v hm
  have kj:k≠j:=by
   rcases old k t hk with ⟨rfl,_⟩|⟨_,e2,_⟩
   ·exact hij
   ·exact e2
  have mj:m≠j:=by
   rcases old m v hm with ⟨rfl,_⟩|⟨_,e2,_⟩
   ·exact hij
   ·exact e2
  intro hb'
  rcases k3 b hb with c1|⟨e1,c1⟩<;>rcases m3 b hb' with c2|⟨e2,c2⟩
  ·exact h.dis k m t' v' k1 m1 hkm b c1 c2
  ·exact h.dis k j t' s k1 hs kj b c1 c2
  ·exact h.dis j m s v' hs m1 (Ne.symm mj) b c1 c2
  ·exact hkm (e1.trans e2.symm)
 ·obtain⟨t',k1,_,_⟩:=get k t hk
  obtain⟨v',m1,_,m3⟩:=get m v hm
  intro hb
  rcases m3 b hb with c1|⟨_,c1⟩
  ·exact h.bxF k m t' v' b lo k1 m1 e c1
  ·exact h.bxF k j t' s b lo k1 hs e c1
 ·obtain⟨t',k1,k2,_⟩:=get k t hk
  obtain⟨v',m1,m2,_⟩:=get m v hm
  rw [k2,m2]
  exact h.bxd k m t' v' b lo lo' k1 m1 hkm e e'
 ·obtain⟨t',k1,_,k3⟩:=get k t hk
  rcases k3 b hb with c1|⟨_,c1⟩
  ·exact h.stF k t' b k1 c1
  ·exact h.stF j s b hs c1
 ·obtain⟨t',k1,_,_⟩:=get k t hk;exact h.stB k t' b lo k1 e
 ·obtain⟨t',k1,_,k3⟩:=get k t hk
  rcases k3 b hb with c1|⟨_,c1⟩
  ·exact h.own k t' b k1 c1
  ·exact h.own j s b hs c1
 ·obtain⟨t',k1,k2,_⟩:=get k t ht
  exact (h.par k hk).2 t' k1 q (by rw [←k2];exact hq)
 ·obtain⟨t',k1,_,_⟩:=get k t hk;exact h.new k t' b lo k1 e hN
theorem SimF.reveal (h:SimF C φ F St σ a w){i id n k:Nat}{T:TypeId}{l:List AC}{r:Row}(hr:σ.hp i=some r)(hg:σ.gn≤id)(hu:id∉σ.us){pre post:List AC}(hcs:r.cs=pre++.ow T n k l :: post) :
 ∃φ' F',SimF C φ' F' St { σ with hp:=upd (upd σ.hp id (some ⟨T,k,n,false,l⟩)) i (some { r with cs:=pre++.sl id n :: post }),us:=id :: σ.us } a w:=by
 have hnk:¬σ.Kn id:=fun hk=>hk.elim (fun h1=>absurd h1 omq) hu
 have hid:i≠id:=by rintro rfl;exact hnk (h.row i r hr).1
 have hK:∀(L:Lc) j,σ.Kn j→(j<σ.gn∨j∈id :: σ.us)∧upd φ id L j=φ j:=fun L j hj=>⟨hj.imp (fun q=>q) (List.mem_cons_of_mem _),bh _ _ (by rintro rfl;exact hnk hj)⟩
 have hS:∀b,St b→b<w.heap.size→St b∧w.heap[b]? = w.heap[b]? := fun b hb _=>⟨hb,rfl⟩
 have key:∀(us:List Value) (fp:List Nat),CRL w St φ σ.Kn r.cs us fp→fp.Nodup→∃fp' u vs fs,(∀L,L=Lc.slc u→CRL w St (upd φ id L) (fun j=>j<σ.gn∨j∈id :: σ.us) (pre++.sl id n :: post) us fp')∧CRL w St φ σ.Kn l vs fs∧w.ownsRow 0 T k u n vs∧(∀b,b∈fp↔b∈fp'∨b∈obl u++fs)∧fp'.Nodup∧(obl u++fs).Nodup∧∀b∈fp',b∉obl u++fs:=by
  intro us fp hc hnd
  rw [hcs] at hc
  obtain⟨u1,u2,f1,f2,rfl,rfl,g1,g2⟩:=hc.split
  simp only [CRL] at g2
  obtain⟨u,u3,f3,f4,rfl,rfl,g3,g4⟩:=g2
  simp only [CR] at g3
  obtain⟨vs,fs,q1,q2,rfl⟩:=g3
  have h3:=List.nodup_append.1 hnd
  have h4:=List.nodup_append.1 h3.2.1
  refine⟨f1++f4,u,vs,fs,fun L hL=>?_,q1,q2,fun b=>by simp only [List.mem_append];exact⟨fun h=>h.elim (fun h=>.inl (.inl h)) fun h=>h.elim .inr fun h=>.inl (.inr h),fun h=>h.elim (fun h=>h.elim .inl fun h=>.inr (.inr h)) fun h=>.inr (.inl h)⟩,List.nodup_append.2 ⟨h3.1,h4.2.1,fun p hp q hq e=>h3.2.2 p hp q (List.mem_append_right _ hq) e⟩,h4.1,fun b hb hm=>?_⟩
  ·have:=(g1.mono hS (Nat.le_refl _) (hK L) (fun _ _=>rfl)).app (CRL.cons (c:=.sl id n) (u:=u) (f:=[]) (by
    subst hL
    simp only [CR]
    refine⟨trivial,.inr List.mem_cons_self,by rw [aX],?_⟩
    obtain⟨_,⟨rfl,rfl⟩|⟨g,cap,cur,rfl,_⟩⟩:=q2
    ·exact⟨none,0,rfl⟩
    ·exact⟨_,cap,rfl⟩) (g4.mono hS (Nat.le_refl _) (hK L) (fun _ _=>rfl)))
   exact this
  ·rcases List.mem_append.1 hb with hb|hb
   ·exact h3.2.2 b hb b (List.mem_append_left _ hm) rfl
   ·exact h4.2.2 b hm b hb rfl
 have hrow:=(h.row i r hr).2
 have hnd:=h.nod i r hr
 obtain⟨X,Y,u,x1,x2,x3,x4,x5,x6⟩:∃X Y u,(∀L,L=Lc.slc u→RowOk w St (upd φ id L) (fun j=>j<σ.gn∨j∈id :: σ.us) { r with cs:=pre++.sl id n :: post } X (φ i))∧RowOk w St φ σ.Kn ⟨T,k,n,false,l⟩ Y (.slc u)∧(∀b,b∈F i↔b∈X∨b∈Y)∧X.Nodup∧Y.Nodup∧∀b∈X,b∉Y:=by
  cases e:φ i with
  | box b lo =>
   rw [e] at hrow
   obtain⟨hb,us,g1,g2⟩:=hrow
   obtain⟨fp',u,vs,fs,k1,k2,k3,k4,k5,k6,k7⟩:=key us (F i) g1 hnd
   exact⟨fp',obl u++fs,u,fun L hL=>⟨hb,us,k1 L hL,g2⟩,⟨rfl,vs,fs,k2,k3,rfl⟩,k4,k5,k6,k7⟩
  | slc v =>
   rw [e] at hrow
   obtain⟨hb,us,fs0,g1,g2,g3⟩:=hrow
   rw [g3] at hnd
   have hn3:=List.nodup_append.1 hnd
   obtain⟨fp',u,vs,fs,k1,k2,k3,k4,k5,k6,k7⟩:=key us fs0 g1 hn3.2.1
   refine⟨obl v++fp',obl u++fs,u,fun L hL=>⟨hb,us,fp',k1 L hL,g2,rfl⟩,⟨rfl,vs,fs,k2,k3,rfl⟩,fun b=>by rw [g3,List.mem_append,List.mem_append,k4,or_assoc],List.nodup_append.2 ⟨hn3.1,k5,fun p hp q hq e=>hn3.2.2 p hp q ((k4 q).2 (.inl hq)) e⟩,k6,fun b hb hm=>?_⟩
   rcases List.mem_append.1 hb with hb|hb
   ·exact hn3.2.2 b hb b ((k4 b).2 (.inr hm)) rfl
   ·exact k7 b hb hm
 have hlen:(pre++AC.sl id n :: post).length=r.cs.length:=by rw [hcs];simp
 have old:∀m t,upd (upd σ.hp id (some ⟨T,k,n,false,l⟩)) i (some { r with cs:=pre++.sl id n :: post }) m=some t→(m=i∧t={ r with cs:=pre++.sl id n :: post })∨(m=id∧t=⟨T,k,n,false,l⟩)∨(m≠i∧m≠id∧σ.hp m=some t):=fun m t hm=>by
  by_cases e:m=i
  ·subst e;rw [aX] at hm;injection hm with hm;exact .inl ⟨rfl,hm.symm⟩
  ·rw [bh _ _ e] at hm
   by_cases e2:m=id
   ·subst e2;rw [aX] at hm;injection hm with hm;exact .inr (.inl ⟨rfl,hm.symm⟩)
   ·rw [bh _ _ e2] at hm;exact .inr (.inr ⟨e,e2,hm⟩)
 have fi:upd (upd F id Y) i X i=X:=aX _ _ _
 have fid:upd (upd F id Y) i X id=Y:=by rw [bh _ _ (Ne.symm hid),aX]
 have fk:∀m,m≠i→m≠id→upd (upd F id Y) i X m=F m:=fun m h1 h2=>by rw [bh _ _ h1,bh _ _ h2]
 have φi:∀L,upd φ id L i=φ i:=fun L=>bh _ _ hid
 -- each row of after stands for a row of before: its blocks are among that one's
 have get:∀m t,upd (upd σ.hp id (some ⟨T,k,n,false,l⟩)) i (some { r with cs:=pre++.sl id n :: post }) m=some t→∃m' t',σ.hp m'=some t'∧(∀b∈upd (upd F id Y) i X m,b∈F m')∧((m=id∧m'=i)∨(m≠id∧m'=m∧t.cs.length=t'.cs.length)):=fun m t hm=>by
  rcases old m t hm with ⟨rfl,rfl⟩|⟨rfl,rfl⟩|⟨e1,e2,e3⟩
  ·exact⟨m,r,hr,fun b hb=>by rw [fi] at hb;exact (x3 b).2 (.inl hb),.inr ⟨hid,rfl,hlen⟩⟩
  ·exact⟨i,r,hr,fun b hb=>by rw [fid] at hb;exact (x3 b).2 (.inr hb),.inl ⟨rfl,rfl⟩⟩
  ·exact⟨m,t,e3,fun b hb=>by rw [fk m e1 e2] at hb;exact hb,.inr ⟨e2,rfl,rfl⟩⟩
 have bxo:∀m t b lo,upd (upd σ.hp id (some ⟨T,k,n,false,l⟩)) i (some { r with cs:=pre++.sl id n :: post }) m=some t→upd φ id (.slc u) m=.box b lo→m≠id∧φ m=.box b lo:=fun m t b lo _ e=>by
  by_cases e2:m=id
  ·subst e2;rw [aX] at e;cases e
  ·rw [bh _ _ e2] at e;exact⟨e2,e⟩
 refine⟨upd φ id (.slc u),upd (upd F id Y) i X,h.dfr,h.len,fun t=>VR.mono hS (Nat.le_refl _) (hK _) _ _ (h.tms t),fun m t hm=>?_,fun m t hm=>?_,fun m q t v hm hq hmq b hb=>?_,fun m q t v b lo hm hq e=>?_,fun m q t v b lo lo' hm hq hmq e e'=>?_,fun m t b hm hb=>?_,fun m t b lo hm e=>?_,h.frm,fun m t b hm hb=>?_,fun m hm=>?_,fun m t b lo hm e hN=>?_,h.gnN,h.stS⟩
 ·rcases old m t hm with ⟨rfl,rfl⟩|⟨rfl,rfl⟩|⟨e1,e2,e3⟩
  ·rw [fi,φi];exact⟨(hK (.slc u) m (h.row m r hr).1).1,x1 _ rfl⟩
  ·rw [fid,aX]
   exact⟨.inr List.mem_cons_self,x2.mono hS (Nat.le_refl _) (hK _) (fun _ _=>rfl) (fun _ _ _ _ _ hB=>hB)⟩
  ·rw [fk m e1 e2,bh _ _ e2]
   exact⟨(hK (.slc u) m (h.row m t e3).1).1,(h.row m t e3).2.mono hS (Nat.le_refl _) (hK _) (fun _ _=>rfl) (fun _ _ _ _ _ hB=>hB)⟩
 ·rcases old m t hm with ⟨rfl,rfl⟩|⟨rfl,rfl⟩|⟨e1,e2,e3⟩
  ·rw [fi];exact x4
  ·rw [fid];exact x5
  ·rw [fk m e1 e2];exact h.nod m t e3
 ·intro hb'
  rcases old m t hm with ⟨rfl,rfl⟩|⟨rfl,rfl⟩|⟨e1,e2,e3⟩<;>rcases old q v hq with ⟨rfl,rfl⟩|⟨rfl,rfl⟩|⟨d1,d2,d3⟩
  ·exact hmq rfl
  ·rw [fi] at hb;rw [fid] at hb';exact x6 b hb hb'
  ·rw [fi] at hb;rw [fk q d1 d2] at hb';exact h.dis m q r v hr d3 hmq b ((x3 b).2 (.inl hb)) hb'
  ·rw [fid] at hb;rw [fi] at hb';exact x6 b hb' hb
  ·exact hmq rfl
  ·rw [fid] at hb;rw [fk q d1 d2] at hb';exact h.dis i q r v hr d3 (Ne.symm d1) b ((x3 b).2 (.inr hb)) hb'
  ·rw [fk m e1 e2] at hb;rw [fi] at hb';exact h.dis m q t r e3 hr hmq b hb ((x3 b).2 (.inl hb'))
  ·rw [fk m e1 e2] at hb;rw [fid] at hb';exact h.dis m i t r e3 hr e1 b hb ((x3 b).2 (.inr hb'))
  ·rw [fk m e1 e2] at hb;rw [fk q d1 d2] at hb';exact h.dis m q t v e3 d3 hmq b hb hb'
 ·obtain⟨m1,m2⟩:=bxo m t b lo hm e
  obtain⟨m',t',g1,g2,g3⟩:=get m t hm
  obtain⟨q',v',p1,p2,p3⟩:=get q v hq
  rcases g3 with ⟨e1,_⟩|⟨_,rfl,_⟩
  ·exact absurd e1 m1
  ·exact fun hb=>h.bxF m' q' t' v' b lo g1 p1 m2 (p2 b hb)
 ·obtain⟨m1,m2⟩:=bxo m t b lo hm e
  obtain⟨q1,q2⟩:=bxo q v b lo' hq e'
  obtain⟨m',t',g1,g2,g3⟩:=get m t hm
  obtain⟨q',v',p1,p2,p3⟩:=get q v hq
  rcases g3 with ⟨e1,_⟩|⟨_,rfl,g4⟩
  ·exact absurd e1 m1
  ·rcases p3 with ⟨e1,_⟩|⟨_,rfl,p4⟩
   ·exact absurd e1 q1
   ·rw [g4,p4];exact h.bxd m' q' t' v' b lo lo' g1 p1 hmq m2 q2
 ·obtain⟨m',t',g1,g2,_⟩:=get m t hm;exact h.stF m' t' b g1 (g2 b hb)
 ·obtain⟨m1,m2⟩:=bxo m t b lo hm e
  obtain⟨m',t',g1,g2,g3⟩:=get m t hm
  rcases g3 with ⟨e1,_⟩|⟨_,rfl,g4⟩
  ·exact absurd e1 m1
  ·exact h.stB m' t' b lo g1 m2
 ·obtain⟨m',t',g1,g2,_⟩:=get m t hm;exact h.own m' t' b g1 (g2 b hb)
 ·have hmid:m≠id:=by have:=h.gnN.1;omega
  rw [bh _ _ hmid]
  refine⟨(h.par m hm).1,fun t ht q hq=>?_⟩
  obtain⟨m',t',g1,g2,g3⟩:=get m t ht
  rcases g3 with ⟨e1,_⟩|⟨_,rfl,g4⟩
  ·exact absurd e1 hmid
  ·exact (h.par m' hm).2 t' g1 q (by rw [←g4];exact hq)
 ·obtain⟨m1,m2⟩:=bxo m t b lo hm e
  obtain⟨m',t',g1,g2,g3⟩:=get m t hm
  rcases g3 with ⟨e1,_⟩|⟨_,rfl,g4⟩
  ·exact absurd e1 m1
  ·exact h.new m' t' b lo g1 m2 hN
end
mutual
def rnC (ρ:Nat→Option Nat):AC→Option AC
 | .v x=>some (.v x)
 | .ro n k l=>if bf l=true then some (.ro n k l) else none
 | .ow T n k l=>if bf l=true then some (.ow T n k l) else none
 | .sl i n=>(ρ i).map fun j=>.sl j n
 | .pt i o=>(ρ i).map fun j=>.pt j o
 | .rp l o=>if bf l=true then some (.rp l o) else (rnL ρ l).map fun l'=>.rp l' o
 | .fn f c=>(rnL ρ c).map fun c'=>.fn f c'
 | .bx T l=>if bf l=true then some (.bx T l) else none
 | .un=>some .un
 | .nn=>some .nn
 | .mp l=>some (.mp l)
def rnL (ρ:Nat→Option Nat):List AC→Option (List AC)
 | []=>some []
 | c :: r=>match rnC ρ c,rnL ρ r with
  | some c',some r'=>some (c' :: r')
  | _,_=>none
end
mutual
def rnV (ρ:Nat→Option Nat):AV→Option AV
 | .c x=>(rnC ρ x).map .c
 | .ag l=>(rnL ρ l).map .ag
 | .tu l=>(rnVL ρ l).map .tu
def rnVL (ρ:Nat→Option Nat):List AV→Option (List AV)
 | []=>some []
 | c :: r=>match rnV ρ c,rnVL ρ r with
  | some c',some r'=>some (c' :: r')
  | _,_=>none
end
abbrev RL:=List (Nat×Nat×Row)
def oldN (rows:RL)(i:Nat):Option Nat:=(rows.find? fun p=>p.2.1==i).map (·.1)
def ρN (gn:Nat)(rows:RL)(i:Nat):Option Nat:=if i<gn then some i else oldN rows i
def dA:List (Nat×AV)→Nat→AV
 | []=>fun _=>.c .un
 | (t,x) :: l=>upd (dA l) t x
def dq:RL→Nat→Option Row
 | []=>fun _=>none
 | (j,_,s) :: l=>upd (dq l) j (some s)
def nJ:List Nat→Bool
 | []=>true
 | x :: r=>!r.contains x&&nJ r
def wV (gn:Nat)(rows:RL):Bool:=(rows.all fun p=>if p.2.1<gn then p.1==p.2.1 else decide (gn≤p.1))&&nJ (rows.map (·.1))&&nJ (rows.map (·.2.1))
def TmOk (ρ:Nat→Option Nat)(tm:Nat→AV):List (Nat×AV)→Prop
 | []=>True
 | (t,x) :: l=>rnV ρ (tm t)=some x∧TmOk ρ tm l
def RwOk (ρ:Nat→Option Nat)(hp:Nat→Option Row):RL→Prop
 | []=>True
 | (_,i,s) :: l=>(∃r,hp i=some r∧((bf r.cs=true∧s=r)∨∃cs,rnL ρ r.cs=some cs∧s={ r with cs:=cs }))∧RwOk ρ hp l
theorem kl:∀{l:List Nat},nJ l=true→l.Nodup
 | [],_=>List.nodup_nil
 | x :: r,h=>by
  simp only [nJ,Bool.and_eq_true,Bool.not_eq_true'] at h
  exact List.nodup_cons.2 ⟨fun hm=>by have:=h.1;simp at this;exact this hm,kl h.2⟩
theorem tP {ρ:Nat→Option Nat}{tm:Nat→AV}:∀{l:List (Nat×AV)},TmOk ρ tm l→∀t,dA l t=.c .un∨rnV ρ (tm t)=some (dA l t)
 | [],_,t=>.inl rfl
 | (t',x) :: l,h,t=>by
  simp only [dA]
  by_cases e:t=t'
  ·subst e;rw [aX];exact .inr h.1
  ·rw [bh _ _ e];exact tP h.2 t
theorem tQ:∀{rows:RL} {j:Nat} {s:Row},dq rows j=some s→∃i,(j,i,s)∈rows
 | [],j,s,h=>by simp [dq] at h
 | (j',i,s') :: l,j,s,h=>by
  simp only [dq] at h
  by_cases e:j=j'
  ·subst e;rw [aX] at h;injection h with h;subst h;exact⟨i,List.mem_cons_self⟩
  ·rw [bh _ _ e] at h
   obtain⟨i',h⟩:=tQ h
   exact⟨i',List.mem_cons_of_mem _ h⟩
theorem RwOk.at_ {ρ:Nat→Option Nat}{hp:Nat→Option Row}:∀{rows:RL},RwOk ρ hp rows→∀p∈rows,∃r,hp p.2.1=some r∧((bf r.cs=true∧p.2.2=r)∨∃cs,rnL ρ r.cs=some cs∧p.2.2={ r with cs:=cs })
 | [],_,p,hp=>by cases hp
 | (j,i,s) :: l,h,p,hp=>by
  rcases List.mem_cons.1 hp with rfl|hp
  ·exact h.1
  ·exact RwOk.at_ h.2 p hp
theorem mr {α:Type}{f:α→Nat}:∀{l:List α} {x y:α},(l.map f).Nodup→x∈l→y∈l→f x=f y→x=y
 | [],_,_,_,h,_,_=>by cases h
 | z :: r,x,y,hn,hx,hy,e=>by
  have hn':=List.nodup_cons.1 hn
  rcases List.mem_cons.1 hx with e1|hx'<;>rcases List.mem_cons.1 hy with e2|hy'
  ·rw [e1,e2]
  ·subst e1;exact absurd (e▸List.mem_map_of_mem hy') hn'.1
  ·subst e2;exact absurd (e.symm▸List.mem_map_of_mem hx') hn'.1
  ·exact mr hn'.2 hx' hy' e
section
variable {C:Ctx}{φ φ':Nat→Lc}{F:Nat→List Nat}{St:Nat→Prop}{σ:AS}{a:Act}{w:World}{K K':Nat→Prop}{ρ:Nat→Option Nat}
theorem y6 (hρ:∀i j,K i→ρ i=some j→K' j∧φ' j=φ i):∀(c:AC) (c':AC) (u:Value) (fp:List Nat),rnC ρ c=some c'→CR w St φ K c u fp→CR w St φ' K' c' u fp:=by
 intro c
 induction c using AC.ind with
 | h1 x=>intro c' u fp he h;simp only [rnC,Option.some.injEq] at he;subst he;simp only [CR] at h ⊢;exact h
 | h2 n k l _ =>
  intro c' u fp he h
  simp only [rnC] at he
  split at he
  ·rename_i hc;injection he with he;subst he;exact CR.clo_ _ _ _ (by simpa [clo] using hc) h
  ·cases he
 | h3 T n k l _ =>
  intro c' u fp he h
  simp only [rnC] at he
  split at he
  ·rename_i hc;injection he with he;subst he;exact CR.clo_ _ _ _ (by simpa [clo] using hc) h
  ·cases he
 | h4 i n =>
  intro c' u fp he h
  simp only [rnC,Option.map_eq_some_iff] at he
  obtain⟨j,hj,rfl⟩:=he
  simp only [CR] at h ⊢
  obtain⟨h0,h1,h2,h3⟩:=h
  have:=hρ i j h1 hj
  exact⟨h0,this.1,this.2.trans h2,h3⟩
 | h5 i o =>
  intro c' u fp he h
  simp only [rnC,Option.map_eq_some_iff] at he
  obtain⟨j,hj,rfl⟩:=he
  simp only [CR] at h ⊢
  obtain⟨h0,h1,h2⟩:=h
  have:=hρ i j h1 hj
  rw [this.2]
  exact⟨h0,this.1,h2⟩
 | h6 l o ih =>
  intro c' u fp he h
  simp only [rnC] at he
  split at he
  ·rename_i hc;injection he with he;subst he;exact CR.clo_ _ _ _ (by simpa [clo] using hc) h
  ·rename_i hnc
   rw [Option.map_eq_some_iff] at he
   obtain⟨l',hl,rfl⟩:=he
   simp only [CR] at h ⊢
   obtain⟨h0,b,p,us,e,g1,g2,g3,h1⟩:=h
   refine⟨h0,b,p,us,e,g1,g2,g3,?_⟩
   clear e h0 g1 g2 g3 hnc
   induction l generalizing us l' with
   | nil=>simp only [rnL,Option.some.injEq] at hl;subst hl;simp only [CRL] at h1;rw [h1.1];exact CRL.nil
   | cons x r ihr =>
    simp only [rnL] at hl
    split at hl
    ·rename_i c1 r1 e1 e2
     injection hl with hl
     subst hl
     simp only [CRL] at h1
     obtain⟨v,vs,f1,f2,rfl,e,g1,g2⟩:=h1
     have e':=List.append_eq_nil_iff.1 e.symm
     rw [e'.1] at g1
     rw [e'.2] at g2
     exact CRL.cons (f:=[]) (f':=[]) (ih x List.mem_cons_self c1 v [] e1 g1) (ihr (fun e he=>ih e (List.mem_cons_of_mem _ he)) r1 e2 vs g2)
    ·cases hl
 | h7 f c ih =>
  intro c' u fp he h
  simp only [rnC,Option.map_eq_some_iff] at he
  obtain⟨l',hl,rfl⟩:=he
  simp only [CR] at h ⊢
  obtain⟨h0,us,e,h1⟩:=h
  refine⟨h0,us,e,?_⟩
  clear e h0
  induction c generalizing us l' with
  | nil=>simp only [rnL,Option.some.injEq] at hl;subst hl;simp only [CRL] at h1;rw [h1.1];exact CRL.nil
  | cons x r ihr =>
   simp only [rnL] at hl
   split at hl
   ·rename_i c1 r1 e1 e2
    injection hl with hl
    subst hl
    simp only [CRL] at h1
    obtain⟨v,vs,f1,f2,rfl,e,g1,g2⟩:=h1
    have e':=List.append_eq_nil_iff.1 e.symm
    rw [e'.1] at g1
    rw [e'.2] at g2
    exact CRL.cons (f:=[]) (f':=[]) (ih x List.mem_cons_self c1 v [] e1 g1) (ihr (fun e he=>ih e (List.mem_cons_of_mem _ he)) r1 e2 vs g2)
   ·cases hl
 | h9 T l _ =>
  intro c' u fp he h
  simp only [rnC] at he
  split at he
  ·rename_i hc;injection he with he;subst he;exact CR.clo_ _ _ _ (by simpa [clo] using hc) h
  ·cases he
 | h8=>intro c' u fp he h;simp only [rnC,Option.some.injEq] at he;subst he;simp only [CR] at h ⊢;exact h
 | hn=>intro c' u fp he h;simp only [rnC,Option.some.injEq] at he;subst he;simp only [CR] at h ⊢;exact h
 | hm l=>intro c' u fp he h;simp only [rnC,Option.some.injEq] at he;subst he;simp only [CR] at h ⊢;exact h
theorem qv (hρ:∀i j,K i→ρ i=some j→K' j∧φ' j=φ i):∀{l l':List AC} {us:List Value} {fp:List Nat},rnL ρ l=some l'→CRL w St φ K l us fp→CRL w St φ' K' l' us fp
 | [],l',us,fp,he,h=>by simp only [rnL,Option.some.injEq] at he;subst he;simp only [CRL] at h ⊢;exact h
 | c :: r,l',us,fp,he,h=>by
  simp only [rnL] at he
  split at he
  ·rename_i c1 r1 e1 e2
   injection he with he
   subst he
   simp only [CRL] at h
   obtain⟨v,vs,f1,f2,rfl,rfl,g1,g2⟩:=h
   exact CRL.cons (y6 hρ c c1 v f1 e1 g1) (qv hρ e2 g2)
  ·cases he
mutual
theorem y7 (hρ:∀i j,K i→ρ i=some j→K' j∧φ' j=φ i):∀{x x':AV} {u:Value},rnV ρ x=some x'→VR w St φ K x u→VR w St φ' K' x' u
 | .c x,x',u,he,h=>by
  simp only [rnV,Option.map_eq_some_iff] at he
  obtain⟨c',h1,rfl⟩:=he
  simp only [VR] at h ⊢
  exact y6 hρ x c' u [] h1 h
 | .ag l,x',u,he,h=>by
  simp only [rnV,Option.map_eq_some_iff] at he
  obtain⟨c',h1,rfl⟩:=he
  simp only [VR] at h ⊢
  obtain⟨us,e,h⟩:=h
  exact⟨us,e,qv hρ h1 h⟩
 | .tu l,x',u,he,h=>by
  simp only [rnV,Option.map_eq_some_iff] at he
  obtain⟨c',h1,rfl⟩:=he
  simp only [VR] at h ⊢
  obtain⟨us,e,h⟩:=h
  exact⟨us,e,tR hρ h1 h⟩
theorem tR (hρ:∀i j,K i→ρ i=some j→K' j∧φ' j=φ i):∀{l l':List AV} {us:List Value},rnVL ρ l=some l'→VRL w St φ K l us→VRL w St φ' K' l' us
 | [],l',us,he,h=>by simp only [rnVL,Option.some.injEq] at he;subst he;simp only [VRL] at h ⊢;exact h
 | c :: r,l',us,he,h=>by
  simp only [rnVL] at he
  split at he
  ·rename_i c1 r1 e1 e2
   injection he with he
   subst he
   simp only [VRL] at h ⊢
   obtain⟨v,vs,rfl,g1,g2⟩:=h
   exact⟨v,vs,rfl,y7 hρ e1 g1,tR hρ e2 g2⟩
  ·cases he
end
end
section
variable {C:Ctx}{σ:AS}{a:Act}{w:World}
theorem wW (h:Sim C σ a w)(tms:List (Nat×AV))(rows:RL)(hb:wV σ.gn rows=true)(ht:TmOk (ρN σ.gn rows) σ.tm tms)(hr:RwOk (ρN σ.gn rows) σ.hp rows):Sim C ⟨dA tms,dq rows,σ.gn,rows.map (·.1),σ.L⟩ a w:=by
 obtain⟨φ,F,St,h⟩:=h
 simp only [wV,Bool.and_eq_true] at hb
 obtain⟨⟨hb1,hb2⟩,hb3⟩:=hb
 have n1:=kl hb2
 have n2:=kl hb3
 have hb0:∀p∈rows,(p.2.1<σ.gn→p.1=p.2.1)∧(σ.gn≤p.2.1→σ.gn≤p.1):=fun p hp=>by
  have:=List.all_eq_true.1 hb1 p hp
  split at this
  ·rename_i hl;exact⟨fun _=>by simpa using this,fun h2=>by omega⟩
  ·rename_i hl;exact⟨fun h2=>absurd h2 hl,fun _=>by simpa using this⟩
 have old:∀p∈rows,oldN rows p.2.1=some p.1:=fun p hp=>by
  unfold oldN
  cases e:rows.find? (fun q=>q.2.1==p.2.1) with
  | none=>have:=List.find?_eq_none.1 e p hp;simp at this
  | some q =>
   have h1:=List.find?_some e
   have h2:=List.mem_of_find?_eq_some e
   rw [mr (f:=fun q:Nat×Nat×Row=>q.2.1) n2 h2 hp (by simpa using h1)];rfl
 let nw:Nat→Option (Nat×Nat×Row):=fun j=>rows.find? fun p=>p.1==j
 have nwp:∀p∈rows,nw p.1=some p:=fun p hp=>by
  show rows.find? _=_
  cases e:rows.find? (fun q=>q.1==p.1) with
  | none=>have:=List.find?_eq_none.1 e p hp;simp at this
  | some q =>
   have h1:=List.find?_some e
   have h2:=List.mem_of_find?_eq_some e
   rw [mr (f:=fun q:Nat×Nat×Row=>q.1) n1 h2 hp (by simpa using h1)]
 let φ':Nat→Lc:=fun j=>if j<σ.gn then φ j else match nw j with|some p=>φ p.2.1|none=>.box 0 0
 let F':Nat→List Nat:=fun j=>match nw j with|some p=>F p.2.1|none=>[]
 have eF:∀p∈rows,F' p.1=F p.2.1:=fun p hp=>by simp only [F',nwp p hp]
 have eφ:∀p∈rows,φ' p.1=φ p.2.1:=fun p hp=>by
  simp only [φ']
  by_cases hl:p.2.1<σ.gn
  ·have:=(hb0 p hp).1 hl
   rw [if_pos omq,this]
  ·have:=(hb0 p hp).2 omq
   rw [if_neg omq,nwp p hp]
 have hρ:∀i j,σ.Kn i→ρN σ.gn rows i=some j→(j<σ.gn∨j∈rows.map (·.1))∧φ' j=φ i:=fun i j _ he=>by
  unfold ρN at he
  split at he
  ·rename_i hl;injection he with he;subst he;exact⟨.inl hl,if_pos hl⟩
  ·unfold oldN at he
   simp only [Option.map_eq_some_iff] at he
   obtain⟨p,h1,rfl⟩:=he
   have h2:=List.mem_of_find?_eq_some h1
   have h3:p.2.1=i:=by simpa using List.find?_some h1
   exact⟨.inr (List.mem_map_of_mem h2),by rw [eφ p h2,h3]⟩
 have get:∀j s,dq rows j=some s→∃i r,(j,i,s)∈rows∧σ.hp i=some r∧((bf r.cs=true∧s=r)∨∃cs,rnL (ρN σ.gn rows) r.cs=some cs∧s={ r with cs:=cs }):=fun j s hj=>by
  obtain⟨i,hi⟩:=tQ hj
  obtain⟨r,h1,h2⟩:=hr.at_ _ hi
  exact⟨i,r,hi,h1,h2⟩
 have rl:∀{l l':List AC},rnL (ρN σ.gn rows) l=some l'→l'.length=l.length:=by
  intro l
  induction l with
  | nil=>intro l' he;simp only [rnL,Option.some.injEq] at he;subst he;rfl
  | cons c r ih =>
   intro l' he
   simp only [rnL] at he
   split at he
   ·rename_i c1 r1 e1 e2;injection he with he;subst he;simp [ih e2]
   ·cases he
 have len:∀{r s:Row},((bf r.cs=true∧s=r)∨∃cs,rnL (ρN σ.gn rows) r.cs=some cs∧s={ r with cs:=cs })→s.cs.length=r.cs.length:=fun {r s} hh=>by
  rcases hh with ⟨_,rfl⟩|⟨cs,e,rfl⟩
  ·rfl
  ·exact rl e
 have ne:∀{j k i m:Nat} {s t:Row},(j,i,s)∈rows→(k,m,t)∈rows→j≠k→i≠m:=fun h1 h2 hne e=>hne (by have:=mr (f:=fun q:Nat×Nat×Row=>q.2.1) n2 h1 h2 e;injection this)
 refine⟨φ',F',St,h.dfr,h.len,fun t=>?_,fun j s hj=>?_,fun j s hj=>?_,fun j k s t hj hk hjk b hb=>?_,fun j k s t b lo hj hk e=>?_,fun j k s t b lo lo' hj hk hjk e e'=>?_,fun j s b hj hb=>?_,fun j s b lo hj e=>?_,h.frm,fun j s b hj hb=>?_,fun j hj=>?_,fun j s b lo hj e hN=>?_,h.gnN,h.stS⟩
 ·rcases tP ht t with e|e
  ·show VR w St φ' _ (dA tms t) _
   rw [e];exact jI _
  ·exact y7 (K:=σ.Kn) hρ e (h.tms t)
 ·obtain⟨i,r,h1,h2,h3⟩:=get j s hj
  refine⟨.inr (List.mem_map_of_mem (f:=fun q:Nat×Nat×Row=>q.1) h1),?_⟩
  have hrow:=(h.row i r h2).2
  rw [eF _ h1,eφ _ h1]
  show RowOk w St φ' _ s (F i) (φ i)
  cases e:φ i with
  | box b lo =>
   rw [e] at hrow
   obtain⟨g0,us,g1,g2⟩:=hrow
   rcases h3 with ⟨hc,rfl⟩|⟨cs,hc,rfl⟩
   ·exact⟨g0,us,g1.clo_ hc,g2⟩
   ·exact⟨g0,us,qv (K:=σ.Kn) hρ hc g1,g2⟩
  | slc u =>
   rw [e] at hrow
   obtain⟨g0,us,fs,g1,g2,g3⟩:=hrow
   rcases h3 with ⟨hc,rfl⟩|⟨cs,hc,rfl⟩
   ·exact⟨g0,us,fs,g1.clo_ hc,g2,g3⟩
   ·exact⟨g0,us,fs,qv (K:=σ.Kn) hρ hc g1,g2,g3⟩
 ·obtain⟨i,r,h1,h2,_⟩:=get j s hj;rw [eF _ h1];exact h.nod i r h2
 ·obtain⟨i,r,h1,h2,_⟩:=get j s hj
  obtain⟨m,q,k1,k2,_⟩:=get k t hk
  rw [eF _ h1] at hb;rw [eF _ k1]
  exact h.dis i m r q h2 k2 (ne h1 k1 hjk) b hb
 ·obtain⟨i,r,h1,h2,_⟩:=get j s hj
  obtain⟨m,q,k1,k2,_⟩:=get k t hk
  rw [eφ _ h1] at e;rw [eF _ k1]
  exact h.bxF i m r q b lo h2 k2 e
 ·obtain⟨i,r,h1,h2,h3⟩:=get j s hj
  obtain⟨m,q,k1,k2,k3⟩:=get k t hk
  rw [eφ _ h1] at e;rw [eφ _ k1] at e'
  rw [len h3,len k3]
  exact h.bxd i m r q b lo lo' h2 k2 (ne h1 k1 hjk) e e'
 ·obtain⟨i,r,h1,h2,_⟩:=get j s hj;rw [eF _ h1] at hb;exact h.stF i r b h2 hb
 ·obtain⟨i,r,h1,h2,_⟩:=get j s hj;rw [eφ _ h1] at e;exact h.stB i r b lo h2 e
 ·obtain⟨i,r,h1,h2,_⟩:=get j s hj;rw [eF _ h1] at hb;exact h.own i r b h2 hb
 ·have hlt:j<σ.gn:=Nat.lt_of_lt_of_le hj h.gnN.1
  refine⟨by show φ' j=_;simp only [φ',if_pos hlt];exact (h.par j hj).1,fun s hs q hq=>?_⟩
  obtain⟨i,r,h1,h2,h3⟩:=get j s hs
  have hij:i=j:=by
   by_cases hl:i<σ.gn
   ·exact ((hb0 _ h1).1 hl).symm
   ·have:=(hb0 _ h1).2 (by show σ.gn≤i;omega)
    have:σ.gn≤j:=this
    omega
  subst hij
  exact (h.par i hj).2 r h2 q (by rw [←len h3];exact hq)
 ·obtain⟨i,r,h1,h2,_⟩:=get j s hj
  rw [eφ _ h1] at e
  have:C.N≤i:=by
   by_cases hl:i<σ.gn
   ·have:=(hb0 _ h1).1 hl;have:j=i:=this;omega
   ·have:=h.gnN.1;omega
  exact h.new i r b lo h2 e this
variable {P:Program}{Q:Exit→AS→Prop}{c:Code}
theorem rG (h:Sim C σ a w){i j n:Nat}{r s:Row}(hij:i≠j)(hr:σ.hp i=some r)(hs:σ.hp j=some s)(hsb:s.box=false)(hsn:s.n=n){pre post:List AC}(hcs:r.cs=pre++.sl j n :: post) :
 Sim C { σ with hp:=upd (upd σ.hp j none) i (some { r with cs:=pre++.ow s.T n s.k s.cs :: post }) } a w:=by
 obtain⟨φ,F,St,h⟩:=h
 obtain⟨F',h'⟩:=h.absorb hij hr hs hsb hsn hcs
 exact⟨φ,F',St,h'⟩
theorem rH (h:Sim C σ a w){i id n k:Nat}{T:TypeId}{l:List AC}{r:Row}(hr:σ.hp i=some r)(hg:σ.gn≤id)(hu:id∉σ.us){pre post:List AC}(hcs:r.cs=pre++.ow T n k l :: post) :
 Sim C { σ with hp:=upd (upd σ.hp id (some ⟨T,k,n,false,l⟩)) i (some { r with cs:=pre++.sl id n :: post }),us:=id :: σ.us } a w:=by
 obtain⟨φ,F,St,h⟩:=h
 obtain⟨φ',F',h'⟩:=h.reveal hr hg hu hcs
 exact⟨φ',F',St,h'⟩
end
section
variable {P:Program}{ops:Array Oper}{Q:Exit→Act→World→Prop}{C:Ctx}{H H':List (Nat×Oper×Inf)}{i:Nat}{r:List Nat}{o:Oper}{dr:Bool}
variable {tm:Nat→AV}{hp:Nat→Option Row}{gn L:Nat}{us:List Nat}{x:AV}
theorem tS:∀{r:List Nat} {H H':List (Nat×Oper×Inf)} {σ:AS},Walk P ops Q C false H r σ→Walk P ops Q C false H' r σ
 | [],_,_,_,h=>h
 | _ :: _,_,_,_,⟨o,I,h0,h1,h2,h3,h4⟩=>⟨o,I,h0,h1,h2,(fun h=>by cases h),tS h4⟩
theorem em {a b:Nat}(h:Nat.blt a b=true):a<b:=by simpa [Nat.blt_eq] using h
theorem eN {σ:AS}{t:Nat}(ht:t<σ.L):σ.put (some t) x={ σ with tm:=upd σ.tm t x }:=by unfold AS.put;exact if_pos ht
def wtd (ops:Array Oper)(i j:Nat):Bool:=match ops[i]? with
 | some o=>o.after.any fun e=>Region.binds .any e&&e.on==j
 | none=>false
theorem zz2 {ops:Array Oper}{i j:Nat}(h:wtd ops i j=true):wt .any ops ops.size i j=true:=by
 unfold wtd at h
 split at h
 ·rename_i o ho
  have hs:0<ops.size:=by
   have:=(Array.getElem?_eq_some_iff.1 ho).1
   omega
  obtain⟨n,hn⟩:∃n,ops.size=n+1:=⟨ops.size-1,omq⟩
  rw [hn]
  simp only [wt,ho]
  obtain⟨e,he,h2⟩:=Array.any_eq_true'.1 h
  simp only [Bool.and_eq_true] at h2
  exact Array.any_eq_true'.2 ⟨e,he,by simp [h2.1,h2.2]⟩
 ·cases h
def chk (dr:Bool)(ops:Array Oper)(i:Nat)(o:Oper)(I:Inf)(H:List (Nat×Oper×Inf)):Bool:=!dr||H.all fun h=>inp ops o I h.2.1 h.2.2||(wtd ops i h.1||wt .any ops ops.size i h.1)
theorem eB {I:Inf}(h:chk dr ops i o I H=true):dr=true→(H.all fun h=>wt .any ops ops.size i h.1||inp ops o I h.2.1 h.2.2)=true:=by
 rintro rfl
 simp only [chk,Bool.not_true,Bool.false_or,List.all_eq_true,Bool.or_eq_true] at h ⊢
 intro x hx
 rcases h x hx with h1|h1|h1
 ·exact .inr h1
 ·exact .inl (zz2 h1)
 ·exact .inl h1
def bP (dr:Bool)(e:Nat×Oper×Inf)(H:List (Nat×Oper×Inf)):List (Nat×Oper×Inf):=if dr then e :: H else []
theorem cY {e:Nat×Oper×Inf}{σ:AS}(h:Walk P ops Q C dr (bP dr e H) r σ):Walk P ops Q C dr (e :: H) r σ:=by
 cases dr with
 | true=>exact h
 | false=>exact tS h
theorem tT {t:Nat}(id:Nat)(hop:ops[i]? = some o)(hd:o.dst=some t)(ht:Nat.blt t L=true)(hg:gw ops tm o=some true)(he:EffD P o (AS.ev ⟨tm,hp,gn,us,L⟩) hp id=some (x,.nop))
 (hc:chk dr ops i o ⟨fpO (AS.ev ⟨tm,hp,gn,us,L⟩) o,[],[],x⟩ H=true) (h:Walk P ops Q C dr (bP dr (i,o,⟨fpO (AS.ev ⟨tm,hp,gn,us,L⟩) o,[],[],x⟩) H) r ⟨upd tm t x,hp,gn,us,L⟩):Walk P ops Q C dr H (i :: r) ⟨tm,hp,gn,us,L⟩ :=
 jK id hop hg he (fun n hn=>absurd hn List.not_mem_nil) (eB hc) (cY (by rw [hd,eN (by simpa [Dl.ap] using em ht)];exact h))
theorem w_gr {t:Nat}(id:Nat){rw:Row}(hop:ops[i]? = some o)(hd:o.dst=some t)(ht:Nat.blt t L=true)(hg:gw ops tm o=some true)(hf:(Nat.ble gn id&&!us.contains id)=true)(he:EffD P o (AS.ev ⟨tm,hp,gn,us,L⟩) hp id=some (x,.gr id rw))
 (hc:chk dr ops i o ⟨fpO (AS.ev ⟨tm,hp,gn,us,L⟩) o,[(id,some rw)],[id],x⟩ H=true) (h:Walk P ops Q C dr (bP dr (i,o,⟨fpO (AS.ev ⟨tm,hp,gn,us,L⟩) o,[(id,some rw)],[id],x⟩) H) r ⟨upd tm t x,upd hp id (some rw),gn,id :: us,L⟩):Walk P ops Q C dr H (i :: r) ⟨tm,hp,gn,us,L⟩:=by
 simp only [Bool.and_eq_true,Nat.ble_eq,Bool.not_eq_true'] at hf
 refine jK id hop hg he (fun n hn=>?_) (eB hc) (cY (by rw [hd,eN (by simpa [Dl.ap,AS.grow] using em ht)];exact h))
 obtain rfl:n=id:=by simpa [Dl.N] using hn
 exact⟨hf.1,fun hm=>by have:=hf.2;simp at this;exact this hm⟩
theorem w_mv {t:Nat}(id:Nat){j:Nat}{rw:Row}(hop:ops[i]? = some o)(hd:o.dst=some t)(ht:Nat.blt t L=true)(hg:gw ops tm o=some true)(hf:(Nat.ble gn id&&!us.contains id)=true)(he:EffD P o (AS.ev ⟨tm,hp,gn,us,L⟩) hp id=some (x,.mv j id rw))
 (hc:chk dr ops i o ⟨fpO (AS.ev ⟨tm,hp,gn,us,L⟩) o,[(j,none),(id,some rw)],[id],x⟩ H=true) (h:Walk P ops Q C dr (bP dr (i,o,⟨fpO (AS.ev ⟨tm,hp,gn,us,L⟩) o,[(j,none),(id,some rw)],[id],x⟩) H) r ⟨upd tm t x,upd (upd hp j none) id (some rw),gn,id :: us,L⟩):Walk P ops Q C dr H (i :: r) ⟨tm,hp,gn,us,L⟩:=by
 simp only [Bool.and_eq_true,Nat.ble_eq,Bool.not_eq_true'] at hf
 refine jK id hop hg he (fun n hn=>?_) (eB hc) (cY (by rw [hd,eN (by simpa [Dl.ap,AS.grow,AS.set] using em ht)];exact h))
 obtain rfl:n=id:=by simpa [Dl.N] using hn
 exact⟨hf.1,fun hm=>by have:=hf.2;simp at this;exact this hm⟩
theorem w_st {j:Nat}{rw:Row}(hop:ops[i]? = some o)(hd:o.dst=none)(hg:gw ops tm o=some true)(he:EffD P o (AS.ev ⟨tm,hp,gn,us,L⟩) hp 0=some (x,.st j rw))
 (hc:chk dr ops i o ⟨fpO (AS.ev ⟨tm,hp,gn,us,L⟩) o,[(j,some rw)],[],x⟩ H=true) (h:Walk P ops Q C dr (bP dr (i,o,⟨fpO (AS.ev ⟨tm,hp,gn,us,L⟩) o,[(j,some rw)],[],x⟩) H) r ⟨tm,upd hp j (some rw),gn,us,L⟩):Walk P ops Q C dr H (i :: r) ⟨tm,hp,gn,us,L⟩ :=
 jK 0 hop hg he (fun n hn=>absurd hn List.not_mem_nil) (eB hc) (cY (by rw [hd];exact h))
theorem za3 {t:Nat}(hop:ops[i]? = some o)(hd:o.dst=some t)(ht:Nat.blt t L=true)(hg:gw ops tm o=some false)(hc:chk dr ops i o fN H=true)(h:Walk P ops Q C dr (bP dr (i,o,fN) H) r ⟨upd tm t (.tu []),hp,gn,us,L⟩):Walk P ops Q C dr H (i :: r) ⟨tm,hp,gn,us,L⟩ :=
 tH hop hg (eB hc) (cY (by rw [hd,eN (by simpa using em ht)];exact h))
end
theorem aZ {l m:List AC}(h:bf l=true)(k:bf m=true):bf (l++m)=true:=by
 rw [eE] at h k ⊢
 intro c hc
 rcases List.mem_append.1 hc with hc|hc
 ·exact h c hc
 ·exact k c hc
theorem df {l m:List AC}(h:dm l=true)(k:dm m=true):dm (l++m)=true:=by
 rw [fq] at h k ⊢
 intro c hc
 rcases List.mem_append.1 hc with hc|hc
 ·exact h c hc
 ·exact k c hc
theorem tU (l m:List AC):fJ (l++m)=fJ l++fJ m:=by simp [mh]
mutual
def acE:E→List AC
 | .int k n=>[.v (.int k n)]
 | .bool b=>[.v (.bool b)]
 | .str s=>[.v (.string s)]
 | .agg fs=>acL fs
 | .lst k _ _ _ l=>[.ro l.length k (acL l)]
def acL:List E→List AC
 | []=>[]
 | e :: r=>acE e++acL r
end
mutual
def owE:E→List AC
 | .int k n=>[.v (.int k n)]
 | .bool b=>[.v (.bool b)]
 | .str s=>[.v (.string s)]
 | .agg fs=>owL fs
 | .lst k T _ _ l=>[.ow T l.length k (owL l)]
def owL:List E→List AC
 | []=>[]
 | e :: r=>owE e++owL r
end
mutual
theorem mt:∀e:E,(acE e).length=e.enc.length
 | .int _ _=>rfl
 | .bool _=>rfl
 | .str _=>rfl
 | .agg fs=>by simp only [acE,E.enc];exact mu fs
 | .lst ..=>rfl
theorem mu:∀l:List E,(acL l).length=(E.encL l).length
 | []=>rfl
 | e :: r=>by simp only [acL,E.encL,List.length_append];rw [mt e,mu r]
end
mutual
theorem tV:∀e:E,(owE e).length=e.enc.length
 | .int _ _=>rfl
 | .bool _=>rfl
 | .str _=>rfl
 | .agg fs=>by simp only [owE,E.enc];exact tW fs
 | .lst ..=>rfl
theorem tW:∀l:List E,(owL l).length=(E.encL l).length
 | []=>rfl
 | e :: r=>by simp only [owL,E.encL,List.length_append];rw [tV e,tW r]
end
mutual
theorem bp:∀e:E,bf (acE e)=true
 | .int _ _=>rfl
 | .bool _=>rfl
 | .str _=>rfl
 | .agg fs=>by simp only [acE];exact aH fs
 | .lst k T A c l=>by simp only [acE,bf,clo,aH l];rfl
theorem aH:∀l:List E,bf (acL l)=true
 | []=>rfl
 | e :: r=>by simp only [acL];exact aZ (bp e) (aH r)
end
mutual
theorem bq:∀e:E,bf (owE e)=true
 | .int _ _=>rfl
 | .bool _=>rfl
 | .str _=>rfl
 | .agg fs=>by simp only [owE];exact ba fs
 | .lst k T A c l=>by simp only [owE,bf,clo,ba l];rfl
theorem ba:∀l:List E,bf (owL l)=true
 | []=>rfl
 | e :: r=>by simp only [owL];exact aZ (bq e) (ba r)
end
mutual
theorem cg:∀e:E,dm (owE e)=true
 | .int _ _=>rfl
 | .bool _=>rfl
 | .str _=>rfl
 | .agg fs=>by simp only [owE];exact de fs
 | .lst k T A c l=>by simp only [owE,dm,j6,de l];rfl
theorem de:∀l:List E,dm (owL l)=true
 | []=>rfl
 | e :: r=>by simp only [owL];exact df (cg e) (de r)
end
mutual
theorem wX:∀e:E,fJ (owE e)=acE e
 | .int _ _=>rfl
 | .bool _=>rfl
 | .str _=>rfl
 | .agg fs=>by simp only [owE,acE];exact ik fs
 | .lst k T A c l=>by simp only [owE,acE,fJ,o4,ik l]
theorem ik:∀l:List E,fJ (owL l)=acL l
 | []=>rfl
 | e :: r=>by simp only [owL,acL];rw [tU,wX e,ik r]
end
theorem tX:∀(l m:List E),acL (l++m)=acL l++acL m
 | [],m=>rfl
 | e :: l,m=>by simp only [List.cons_append,acL,tX l m,List.append_assoc]
theorem ff:∀(l m:List E),owL (l++m)=owL l++owL m
 | [],m=>rfl
 | e :: l,m=>by simp only [List.cons_append,owL,ff l m,List.append_assoc]
theorem tY {f:E→List AC}{g:List E→List AC}(g0:g []=[])(g1:∀e r,g (e :: r)=f e++g r){k:Nat}:∀{l:List E} {i j m:Nat} {x:E},(∀e∈l,(f e).length=k)→l[i]? = some x→j+m≤k→gQ (g l) (i*k+j) m=gQ (f x) j m
 | [],i,j,m,x,_,hx,_=>by simp at hx
 | e :: r,0,j,m,x,hk,hx,hj=>by
  simp only [List.getElem?_cons_zero,Option.some.injEq] at hx
  subst hx
  have he:=hk e List.mem_cons_self
  rw [g1]
  unfold gQ
  rw [Nat.zero_mul,Nat.zero_add,List.drop_append_of_le_length omq,List.take_append_of_le_length (by rw [List.length_drop];omega)]
 | e :: r,i+1,j,m,x,hk,hx,hj=>by
  have he:=hk e List.mem_cons_self
  have:=tY g0 g1 (i:=i) (fun y hy=>hk y (List.mem_cons_of_mem _ hy)) (by simpa using hx) hj
  rw [g1,←this]
  unfold gQ
  have e1:(i+1)*k+j=(f e).length+(i*k+j):=by rw [he,Nat.add_mul];omega
  rw [e1,List.drop_append,List.drop_eq_nil_of_le omq,List.nil_append,Nat.add_sub_cancel_left]
theorem zb3 {k:Nat}{l:List E}{i j m:Nat}{x:E}(h:∀e∈l,e.enc.length=k)(hx:l[i]? = some x)(hj:j+m≤k):gQ (acL l) (i*k+j) m=gQ (acE x) j m :=
 tY (f:=acE) (g:=acL) rfl (fun _ _=>rfl) (fun e he=>by rw [mt];exact h e he) hx hj
def AV.le (x y:AV):Prop:=∀(w:World) (St:Nat→Prop) (φ:Nat→Lc) (K:Nat→Prop) (u:Value),VR w St φ K x u→VR w St φ K y u
theorem AV.le_refl (x:AV):x.le x:=fun _ _ _ _ _ h=>h
theorem Sim.weak {C:Ctx}{σ τ:AS}{a:Act}{w:World}(h:Sim C σ a w)(ht:∀t,(σ.tm t).le (τ.tm t))(hh:σ.hp=τ.hp)(hg:σ.gn=τ.gn)(hu:σ.us=τ.us)(hL:σ.L=τ.L):Sim C τ a w:=by
 obtain⟨tm,hp,gn,us,L⟩:=σ
 obtain⟨tm',hp',gn',us',L'⟩:=τ
 obtain⟨φ,F,St,h⟩:=h
 simp only at hh hg hu hL
 subst hh hg hu hL
 exact⟨φ,F,St,h.dfr,h.len,fun t=>ht t _ _ _ _ _ (h.tms t),h.row,h.nod,h.dis,h.bxF,h.bxd,h.stF,h.stB,h.frm,h.own,h.par,h.new,h.gnN,h.stS⟩
theorem wY {P:Program}{ops:Array Oper}{Q:Exit→Act→World→Prop}{C:Ctx}{i:Nat}{o:Oper}{σ:AS}{I:Inf}{y:AV}(h:Snd P ops Q C i o σ I)(hy:I.x.le y):Snd P ops Q C i o σ { I with x:=y }:=by
 intro τ a w ha hs K hK
 refine h τ a w ⟨ha.tm,ha.hp,ha.gn,ha.L,ha.us⟩ hs K fun a' w' hs'=>hK a' w' (hs'.weak (fun t=>?_) ?_ ?_ ?_ ?_)
 ·rw [gj,gj]
  by_cases e:o.dst=some t∧t<τ.L
  ·simp only [e,and_self,if_true];exact hy
  ·simp only [if_neg e];exact AV.le_refl _
 ·rw [gi,gi]
 ·rw [jg,jg]
 ·rw [jh,jh]
 ·rw [lg,lg]
theorem zV {l:List AC}{a n:Nat}(h:a+n≤l.length):AV.le (.c (.rp l a)) (.c (.rp (gQ l a n) 0)):=by
 intro w St φ K u hu
 simp only [VR,CR] at hu ⊢
 obtain⟨h0,b,p,us,e,h1,h2,h3,h4⟩:=hu
 have hle:=h4.len
 refine⟨h0,b,p+a,(us.drop a).take n,by rw [Nat.add_zero];exact e,h1,h2,jJ h3,?_⟩
 have e2:l=l.take a++(gQ l a n++(l.drop a).drop n):=by unfold gQ;rw [List.take_append_drop,List.take_append_drop]
 rw [e2] at h4
 obtain⟨u1,u2,f1,f2,rfl,e3,g1,g2⟩:=h4.split
 obtain⟨u3,u4,f3,f4,rfl,e4,g5,g6⟩:=g2.split
 have l1:=g1.len
 have l3:=g5.len
 rw [List.length_take,Nat.min_eq_left omq] at l1
 have ln:(gQ l a n).length=n:=by unfold gQ;rw [List.length_take,List.length_drop];omega
 rw [ln] at l3
 have d1:(u1++(u3++u4)).drop a=u3++u4:=by rw [←l1,List.drop_left]
 have d2:(u3++u4).take n=u3:=by rw [←l3,List.take_left]
 rw [d1,d2]
 have h5:=List.append_eq_nil_iff.1 e3.symm
 have h6:=List.append_eq_nil_iff.1 (e4▸h5.2)
 rw [h6.1] at g5
 exact g5
def wC (P:Program)(T:TypeId)(k:Nat):Bool:=match P.underlying T with|some (.slice e)=>(P.info? e).map (·.size)==some k|_=>false
def y8 (P:Program)(T T2:TypeId):Option (TypeId×Nat) :=
 match P.underlying T,P.underlying T2 with
 | some (.slice e),some d2 =>
  match P.info? e with
  | some i =>
   match i.zero with
   | some z=>if (tk d2&&z.cells.size==i.size&&Nat.blt 0 i.size&&Nat.ble i.bytes 4096)=true then some (e,i.size) else none
   | none=>none
  | none=>none
 | _,_=>none
section
variable {P:Program}{ops:Array Oper}{Q:Exit→Act→World→Prop}{C:Ctx}{H:List (Nat×Oper×Inf)}{i:Nat}{r:List Nat}{o:Oper}{dr:Bool}
variable {tm:Nat→AV}{hp:Nat→Option Row}{gn L:Nat}{us:List Nat}{x:AV}
theorem zc3 {t:Nat}(id:Nat){y:AV}(hop:ops[i]? = some o)(hd:o.dst=some t)(ht:Nat.blt t L=true)(hg:gw ops tm o=some true)(he:EffD P o (AS.ev ⟨tm,hp,gn,us,L⟩) hp id=some (x,.nop))(hy:x.le y)
 (hc:chk dr ops i o ⟨fpO (AS.ev ⟨tm,hp,gn,us,L⟩) o,[],[],y⟩ H=true) (h:Walk P ops Q C dr (bP dr (i,o,⟨fpO (AS.ev ⟨tm,hp,gn,us,L⟩) o,[],[],y⟩) H) r ⟨upd tm t y,hp,gn,us,L⟩):Walk P ops Q C dr H (i :: r) ⟨tm,hp,gn,us,L⟩ :=
 ⟨o,_,hop,wY (tG hop hg he fun n hn=>absurd hn List.not_mem_nil) hy,fun n hn=>absurd hn List.not_mem_nil,eB hc,cY (by
  show Walk P ops Q C dr _ r (AS.put _ o.dst y)
  rw [hd,eN (by exact em ht)];exact h)⟩
theorem tZ {T:TypeId}{k:Nat}(h:wC P T k=true):∃e,P.underlying T=some (.slice e)∧(P.info? e).map (·.size)=some k:=by
 unfold wC at h
 split at h
 ·rename_i e he;exact⟨e,he,by simpa using h⟩
 ·cases h
theorem w_idx {t n k j:Nat}{l:List E}{e:E}{kd:IntKind}{z:Int}{T:TypeId}{xo io:Operand}(hop:ops[i]? = some o)(ho:o.op=.indexAddr T xo io)(hd:o.dst=some t)(ht:Nat.blt t L=true)(hg:gw ops tm o=some true)
 (hx:AS.ev ⟨tm,hp,gn,us,L⟩ xo=.c (.ro n k (acL l))) (hi:AS.ev ⟨tm,hp,gn,us,L⟩ io=.c (.v (.int kd z))) (hT:wC P T k=true) (hz:z=(j:Int)) (hn:n=l.length) (hk:∀e∈l,e.enc.length=k) (he:l[j]? = some e)
 (hc:chk dr ops i o ⟨fpO (AS.ev ⟨tm,hp,gn,us,L⟩) o,[],[],.c (.rp (acE e) 0)⟩ H=true) (h:Walk P ops Q C dr (bP dr (i,o,⟨fpO (AS.ev ⟨tm,hp,gn,us,L⟩) o,[],[],.c (.rp (acE e) 0)⟩) H) r ⟨upd tm t (.c (.rp (acE e) 0)),hp,gn,us,L⟩):Walk P ops Q C dr H (i :: r) ⟨tm,hp,gn,us,L⟩:=by
 obtain⟨hj,hje⟩:=List.getElem?_eq_some_iff.1 he
 obtain⟨T',h1,h2⟩:=tZ hT
 have hle:j*k+k≤(acL l).length:=by
  rw [mu,E.encL_len hk]
  have:=Nat.mul_le_mul_right k (show j+1≤l.length from hj)
  rw [Nat.add_mul] at this;omega
 have hek:(acE e).length=k:=by rw [mt];exact hk e (List.mem_of_getElem? he)
 have hs:gQ (acL l) (j*k) k=acE e:=by
  have:=zb3 (j:=0) (m:=k) hk he omq
  rw [Nat.add_zero] at this
  rw [this]
  unfold gQ
  rw [List.drop_zero,List.take_of_length_le omq]
 refine zc3 0 (x:=.c (.rp (acL l) (j*k))) hop hd ht hg ?_ (by have:=zV hle;rw [hs] at this;exact this) hc h
 unfold EffD
 rw [ho]
 simp only [hx,hi]
 unfold nop? dy
 simp only [h1,h2]
 subst hz hn
 rw [if_pos ⟨trivial,omq,omq⟩]
 simp
theorem zd3 {t n k j s:Nat}{rw:Row}{kd:IntKind}{z:Int}{T:TypeId}{xo io:Operand}(hop:ops[i]? = some o)(ho:o.op=.indexAddr T xo io)(hd:o.dst=some t)(ht:Nat.blt t L=true)(hg:gw ops tm o=some true)
 (hx:AS.ev ⟨tm,hp,gn,us,L⟩ xo=.c (.sl s n)) (hi:AS.ev ⟨tm,hp,gn,us,L⟩ io=.c (.v (.int kd z))) (hr:hp s=some rw) (hb:rw.box=false) (hn:rw.n=n) (hk:rw.k=k) (hT:wC P T k=true) (hz:z=(j:Int)) (hj:j<n)
 (hc:chk dr ops i o ⟨fpO (AS.ev ⟨tm,hp,gn,us,L⟩) o,[],[],.c (.pt s (j*k))⟩ H=true) (h:Walk P ops Q C dr (bP dr (i,o,⟨fpO (AS.ev ⟨tm,hp,gn,us,L⟩) o,[],[],.c (.pt s (j*k))⟩) H) r ⟨upd tm t (.c (.pt s (j*k))),hp,gn,us,L⟩):Walk P ops Q C dr H (i :: r) ⟨tm,hp,gn,us,L⟩:=by
 obtain⟨T',h1,h2⟩:=tZ hT
 refine tT 0 hop hd ht hg ?_ hc h
 unfold EffD
 rw [ho]
 simp only [hx,hi]
 unfold nop? dy
 simp only [h1,h2,hr]
 subst hz
 rw [if_pos ⟨hb,hn,omq,omq⟩]
 simp
theorem zW {T T2 e:TypeId}{k:Nat}(h:y8 P T T2=some (e,k)):∃d2 i z,P.underlying T=some (.slice e)∧P.underlying T2=some d2∧P.info? e=some i∧i.zero=some z∧tk d2=true∧z.cells.size=i.size∧0<i.size∧i.bytes≤4096∧i.size=k:=by
 unfold y8 at h
 split at h
 ·rename_i e' d2 h1 h2
  split at h
  ·rename_i inf h3
   split at h
   ·rename_i z h4
    split at h
    ·rename_i hc
     simp only [Bool.and_eq_true,Nat.ble_eq,beq_iff_eq] at hc
     injection h with h
     injection h with h5 h6
     subst h5
     exact⟨d2,inf,z,h1,h2,h3,h4,hc.1.1.1,hc.1.1.2,em hc.1.2,hc.2,h6⟩
    ·cases h
   ·cases h
  ·cases h
 ·cases h
theorem w_app {t j n m k:Nat}(id:Nat){rw:Row}{e T T2:TypeId}{xo yo:Operand}{ys:List AC}(hop:ops[i]? = some o)(ho:o.op=.call ⟨.builtin .append,#[xo,yo],#[T,T2]⟩)(hd:o.dst=some t)(ht:Nat.blt t L=true)(hg:gw ops tm o=some true)(hf:(Nat.ble gn id&&!us.contains id)=true)
 (hx:AS.ev ⟨tm,hp,gn,us,L⟩ xo=.c (.sl j n)) (hr:hp j=some rw) (hT:y8 P T T2=some (e,k)) (hy:ig hp k (AS.ev ⟨tm,hp,gn,us,L⟩ yo)=some (m,ys)) (hnu:ys.all td=true) (hr1:rw.T=e) (hr2:rw.k=k) (hr3:rw.n=n) (hr4:rw.box=false) (hsz:n+m≤4294967296)
 (hc:chk dr ops i o ⟨fpO (AS.ev ⟨tm,hp,gn,us,L⟩) o,[(j,none),(id,some ⟨e,k,n+m,false,rw.cs++ys⟩)],[id],.c (.sl id (n+m))⟩ H=true)
 (h:Walk P ops Q C dr (bP dr (i,o,⟨fpO (AS.ev ⟨tm,hp,gn,us,L⟩) o,[(j,none),(id,some ⟨e,k,n+m,false,rw.cs++ys⟩)],[id],.c (.sl id (n+m))⟩) H) r ⟨upd tm t (.c (.sl id (n+m))),upd (upd hp j none) id (some ⟨e,k,n+m,false,rw.cs++ys⟩),gn,id :: us,L⟩):Walk P ops Q C dr H (i :: r) ⟨tm,hp,gn,us,L⟩:=by
 obtain⟨d2,inf,z,h1,h2,h3,h4,h5,h6,h7,h8,rfl⟩:=zW hT
 refine w_mv id hop hd ht hg hf ?_ hc h
 unfold EffD
 rw [ho]
 simp only [EffCallD,hx]
 unfold gV
 simp only [h1,h2,h3,h4,hr]
 rw [if_pos ⟨h5,h6,h7⟩,hy]
 simp only []
 rw [if_pos hnu,if_pos ⟨hr1,hr2,hr3,hr4,Nat.le_trans (Nat.mul_le_mul hsz h8) (by decide),omq⟩]
theorem ua {t:Nat}(id:Nat)(D Z:List Nat){c:Call}{fv:Operand}{f:FuncId}{caps:List AC}{args:List AV}{pars:List (List AC)}{res:AV}{rows:List (List AC)}(hop:ops[i]? = some o)(hoc:o.op=.call c)(hcal:c.callee=.value fv)(hd:o.dst=some t)(ht:Nat.blt t L=true)(hg:gw ops tm o=some true)
 (hfv:AS.ev ⟨tm,hp,gn,us,L⟩ fv=.c (.fn f caps)) (hargs:cD ⟨tm,hp,gn,us,L⟩ c caps=args) (hl:ij hp D=some pars) (hctr:Ctr P f (args.map (cvV hp D)) pars res rows)
 (hRD:((args.flatMap snV).all fun z=>!D.contains z)=true) (hZD:(Z.all fun z=>!D.contains z)=true) (hm:(dS res=true∧∀c∈rows,dm c=true)∨((args.flatMap snV).all fun z=>Z.contains z)=true)
 {nv:AV} {nr:List (Nat×Row)} (hopn:opV id res=(nv,nr)) (hf:(nr.all fun p=>Nat.ble gn p.1&&!us.contains p.1)=true)
 (hc:chk dr ops i o (cZ ⟨tm,hp,gn,us,L⟩ (args.flatMap snV) D Z id res rows) H=true)
 (h:Walk P ops Q C dr (bP dr (i,o,cZ ⟨tm,hp,gn,us,L⟩ (args.flatMap snV) D Z id res rows) H) r ⟨upd tm t nv,fG hp (eG hp D rows++(Z.map fun z=>(z,none))++nr.map (fun p=>(p.1,some p.2))),gn,nr.map (·.1)++us,L⟩):Walk P ops Q C dr H (i :: r) ⟨tm,hp,gn,us,L⟩:=by
 refine tN id D Z hop hg hoc hcal hfv hargs hl hctr hRD hZD hm ?_ (eB hc) (cY ?_)
 ·rw [hopn]
  refine List.all_eq_true.2 fun p hp=>?_
  have:=List.all_eq_true.1 hf p hp
  simpa [Nat.ble_eq] using this
 ·have e:AS.app ⟨tm,hp,gn,us,L⟩ (cZ ⟨tm,hp,gn,us,L⟩ (args.flatMap snV) D Z id res rows) o=⟨upd tm t nv,fG hp (eG hp D rows++(Z.map fun z=>(z,none))++nr.map (fun p=>(p.1,some p.2))),gn,nr.map (·.1)++us,L⟩:=by
   unfold AS.app cZ
   rw [hopn,hd,eN (em ht)]
  rw [e]
  exact h
end
section
variable {P:Program}{hp hp':Nat→Option Row}
theorem bj:clL hp []=some ([],hp):=rfl
theorem bC {c:AC}{r r':List AC}(h:clo c=true)(k:clL hp r=some (r',hp')):clL hp (c :: r)=some (c :: r',hp'):=by
 have:clC hp c=some (c,hp):=by
  unfold clC
  split
  ·simp [clo] at h
  ·exact if_pos h
 simp only [clL,this,Option.bind_some,k,Option.map_some]
theorem bZ {i n:Nat}{rw:Row}{r r':List AC}(hr:hp i=some rw)(hb:rw.box=false)(hn:rw.n=n)(hc:bf rw.cs=true)(k:clL (upd hp i none) r=some (r',hp')):clL hp (.sl i n :: r)=some (.ow rw.T n rw.k rw.cs :: r',hp'):=by
 have:clC hp (.sl i n)=some (.ow rw.T n rw.k rw.cs,upd hp i none):=by
  unfold clC
  simp only [hr]
  exact if_pos ⟨hb,hn,hc⟩
 simp only [clL,this,Option.bind_some,k,Option.map_some]
theorem cq {l l':List AC}(h:clL hp l=some (l',hp')):clV hp (.ag l)=some (.ag l',hp'):=by simp only [clV,h,Option.map_some]
theorem nK {c c':AC}(h:clL hp [c]=some ([c'],hp')):clV hp (.c c)=some (.c c',hp'):=by
 simp only [clL,Option.bind_eq_some_iff,Option.map_eq_some_iff] at h
 obtain⟨⟨q,hp1⟩,h1,⟨r,hp2⟩,h2,h3⟩:=h
 simp only [Option.some.injEq,Prod.mk.injEq] at h2
 obtain⟨rfl,rfl⟩:=h2
 simp only [Prod.mk.injEq,List.cons.injEq,and_true] at h3
 obtain⟨rfl,rfl⟩:=h3
 simp only [clV,h1,Option.map_some]
theorem ei:wB hp []=some ([],hp):=rfl
theorem ca {x x':AV}{r r':List AV}{hp1:Nat→Option Row}(h:clV hp x=some (x',hp1))(k:wB hp1 r=some (r',hp')):wB hp (x :: r)=some (x' :: r',hp'):=by simp only [wB,h,Option.bind_some,k,Option.map_some]
theorem gR {l l':List AV}(h:wB hp l=some (l',hp')):clV hp (.tu l)=some (.tu l',hp'):=by simp only [clV,h,Option.map_some]
theorem bi {fn:Func}{Post:AV→List (List AC)→Prop}{σ:AS}{l:List AV}{x:AV}(h1:wy P σ.hp σ.tm fn.results.toList=some l)(h2:clV σ.hp (j8 l)=some (x,hp'))(h3:Post x []):retQ P fn [] Post σ :=
 ⟨l,x,hp',[],h1,h2,rfl,fun i cs h=>by simp at h,h3⟩
theorem eo {fn:Func}{Post:AV→List (List AC)→Prop}{σ:AS}{l:List AV}{x:AV}{p:List AC}{rw:Row}(h1:wy P σ.hp σ.tm fn.results.toList=some l)(h2:clV σ.hp (j8 l)=some (x,hp'))(hr:hp' 0=some rw)(hc:bf rw.cs=true)(hl:rw.cs.length=p.length)(h3:Post x [rw.cs]):retQ P fn [p] Post σ :=
 ⟨l,x,hp',[rw.cs],h1,h2,rfl,fun i cs h=>by
  rcases i with _|i
  ·simp only [List.getElem?_cons_zero,Option.some.injEq] at h
   subst h
   exact⟨hc,⟨rw,hr,rfl⟩,p,rfl,hl⟩
  ·simp at h,h3⟩
theorem av {f:FuncId} {fn:Func} {c:Code} {ins:List AV} {pars:List (List AC)} {res:AV} {rows:List (List AC)} (hf:P.funcs[f]? = some fn) (hb:fn.body=some c) (hn:(fn.name=="runtime.NumGoroutine")=false)
 (h:AWp P c (bodyQ P fn pars fun r c=>r=res∧c=rows) (σ0 ins pars fn.ntmps)):Ctr P f ins pars res rows :=
 ⟨by unfold zT;rw [hf];simp [hn,hb],o6 hf hb h⟩
end
section
variable {P:Program}{ops:Array Oper}{Q:Exit→Act→World→Prop}{C:Ctx}{H:List (Nat×Oper×Inf)}{i:Nat}{r:List Nat}{o:Oper}{dr:Bool}
variable {tm:Nat→AV}{hp:Nat→Option Row}{gn L:Nat}{us:List Nat}{x:AV}
theorem v_gr {t:Nat}{rw:Row}(hop:ops[i]? = some o)(hd:o.dst=some t)(ht:Nat.blt t L=true)(hg:gw ops tm o=some true)(hf:(Nat.ble gn t&&!us.contains t)=true)(he:EffD P o (AS.ev ⟨tm,hp,gn,us,L⟩) hp t=some (x,.gr t rw))
 (hc:chk dr ops i o ⟨fpO (AS.ev ⟨tm,hp,gn,us,L⟩) o,[(t,some rw)],[t],x⟩ H=true) (h:Walk P ops Q C dr (bP dr (i,o,⟨fpO (AS.ev ⟨tm,hp,gn,us,L⟩) o,[(t,some rw)],[t],x⟩) H) r ⟨upd tm t x,upd hp t (some rw),gn,t :: us,L⟩):Walk P ops Q C dr H (i :: r) ⟨tm,hp,gn,us,L⟩:=w_gr t hop hd ht hg hf he hc h
theorem v_app {t j n m k nm:Nat}{rw:Row}{e T T2:TypeId}{xo yo:Operand}{ys zs:List AC}(hop:ops[i]? = some o)(ho:o.op=.call ⟨.builtin .append,#[xo,yo],#[T,T2]⟩)(hd:o.dst=some t)(ht:Nat.blt t L=true)(hg:gw ops tm o=some true)(hf:(Nat.ble gn t&&!us.contains t)=true)
 (hx:AS.ev ⟨tm,hp,gn,us,L⟩ xo=.c (.sl j n)) (hr:hp j=some rw) (hT:y8 P T T2=some (e,k)) (hy:ig hp k (AS.ev ⟨tm,hp,gn,us,L⟩ yo)=some (m,ys)) (hnu:ys.all td=true) (hr1:rw.T=e) (hr2:rw.k=k) (hr3:rw.n=n) (hr4:rw.box=false) (hsz:n+m≤4294967296) (hnm:n+m=nm) (hz:rw.cs++ys=zs)
 (hc:chk dr ops i o ⟨fpO (AS.ev ⟨tm,hp,gn,us,L⟩) o,[(j,none),(t,some ⟨e,k,nm,false,zs⟩)],[t],.c (.sl t nm)⟩ H=true)
 (h:Walk P ops Q C dr (bP dr (i,o,⟨fpO (AS.ev ⟨tm,hp,gn,us,L⟩) o,[(j,none),(t,some ⟨e,k,nm,false,zs⟩)],[t],.c (.sl t nm)⟩) H) r ⟨upd tm t (.c (.sl t nm)),upd (upd hp j none) t (some ⟨e,k,nm,false,zs⟩),gn,t :: us,L⟩):Walk P ops Q C dr H (i :: r) ⟨tm,hp,gn,us,L⟩:=by
 subst hnm hz
 exact w_app t hop ho hd ht hg hf hx hr hT hy hnu hr1 hr2 hr3 hr4 hsz hc h
end
theorem aa {Q:Exit→AS→Prop}{P:Program}{id:Nat}{ops:Array Oper}{σ:AS}(h:∀C,Walk P ops (fun e a w=>∃σ',Q e σ'∧Sim C σ' a w) C false [] (List.range ops.size) σ):AWp P (.region id ops false) Q σ:=lJ (fun h=>by cases h) h
theorem ar {Q:Exit→AS→Prop}{P:Program}{id:Nat}{ops:Array Oper}{σ:AS}(h1:P.follows .mixedOrders=true)(h2:wO .any ops=true)(h:∀C,Walk P ops (fun e a w=>∃σ',Q e σ'∧Sim C σ' a w) C true [] (List.range ops.size) σ):AWp P (.region id ops true) Q σ:=lJ (fun _=>⟨h1,h2⟩) h
def y9 (k:Nat):Nat→List (Nat×AV)→Option (List AC)
 | _,[]=>some []
 | i,(j,x) :: r=>match x.cells,y9 k (i+1) r with
  | some xs,some ys=>if (Nat.beq i j&&Nat.beq xs.length k)=true then some (xs++ys) else none
  | _,_=>none
theorem qw {k:Nat}:∀{parts:List (Nat×AV)} {i:Nat} {pre rest ys:List AC},y9 k i parts=some ys→pre.length=i*k→rest.length=parts.length*k→mf (fun j=>some (j*k,k)) (pre++rest) parts=some (pre++ys)
 | [],i,pre,rest,ys,h,hp,hr=>by
  simp only [y9,Option.some.injEq] at h
  subst h
  have:rest=[]:=List.eq_nil_of_length_eq_zero (by simpa using hr)
  subst this
  rfl
 | (j,x) :: r,i,pre,rest,ys,h,hp,hr=>by
  simp only [y9] at h
  split at h
  ·rename_i xs zs hx hz
   split at h
   ·rename_i hc
    simp only [Bool.and_eq_true,Nat.beq_eq] at hc
    obtain⟨rfl,hl⟩:=hc
    injection h with h
    subst h
    simp only [mf,hx]
    have hrl:rest.length=k+r.length*k:=by rw [hr,List.length_cons,Nat.add_mul];omega
    rw [if_pos ⟨hl,by rw [List.length_append,hp];omega⟩]
    have e:spl (pre++rest) (i*k) xs=(pre++xs)++rest.drop k:=by
     unfold spl
     rw [←hp,List.take_left,hl,List.drop_append,List.drop_eq_nil_of_le omq,List.nil_append,Nat.add_sub_cancel_left]
    rw [e,qw hz (by rw [List.length_append,hp,hl,Nat.add_mul];omega) (by rw [List.length_drop,hrl];omega),List.append_assoc]
   ·cases h
  ·cases h
def zY (P:Program)(T:TypeId):Option (TypeId×Nat) :=
 match P.underlying T with
 | some (.slice e)=>match P.info? e with|some i=>if i.zero.isSome=true then some (e,i.size) else none|none=>none
 | _=>none
section
variable {P:Program}{ops:Array Oper}{Q:Exit→Act→World→Prop}{C:Ctx}{H:List (Nat×Oper×Inf)}{i:Nat}{r:List Nat}{o:Oper}{dr:Bool}
variable {tm:Nat→AV}{hp:Nat→Option Row}{gn L:Nat}{us:List Nat}{x:AV}
theorem v_bs {t n k:Nat}{T e:TypeId}{parts:Array (Nat×Operand)}{zs:List AC}(hop:ops[i]? = some o)(ho:o.op=.buildSlice T n parts)(hd:o.dst=some t)(ht:Nat.blt t L=true)(hg:gw ops tm o=some true)(hf:(Nat.ble gn t&&!us.contains t)=true)
 (hT:zY P T=some (e,k)) (hz:y9 k 0 (parts.toList.map fun p=>(p.1,AS.ev ⟨tm,hp,gn,us,L⟩ p.2))=some zs) (hn:n=parts.toList.length) (hb:(Nat.ble (n*k) 16777216&&Nat.ble n 16777216)=true)
 (hc:chk dr ops i o ⟨fpO (AS.ev ⟨tm,hp,gn,us,L⟩) o,[(t,some ⟨e,k,n,false,zs⟩)],[t],.c (.sl t n)⟩ H=true)
 (h:Walk P ops Q C dr (bP dr (i,o,⟨fpO (AS.ev ⟨tm,hp,gn,us,L⟩) o,[(t,some ⟨e,k,n,false,zs⟩)],[t],.c (.sl t n)⟩) H) r ⟨upd tm t (.c (.sl t n)),upd hp t (some ⟨e,k,n,false,zs⟩),gn,t :: us,L⟩):Walk P ops Q C dr H (i :: r) ⟨tm,hp,gn,us,L⟩:=by
 refine w_gr t hop hd ht hg hf ?_ hc h
 unfold zY at hT
 split at hT
 ·rename_i e' h1
  split at hT
  ·rename_i inf h2
   split at hT
   ·rename_i h3
    obtain⟨z,hz'⟩:=Option.isSome_iff_exists.1 h3
    injection hT with hT
    injection hT with e1 e2
    subst e1 e2
    unfold EffD
    rw [ho]
    simp only []
    unfold fM
    simp only [h1,h2,hz']
    simp only [Bool.and_eq_true,Nat.ble_eq] at hb
    have:=qw (pre:=[]) (rest:=(madeCells z.cells (n*inf.size)).toList.map ofC) hz (by simp) (by rw [List.length_map,Array.length_toList,size_madeCells,hn,List.length_map])
    rw [List.nil_append,List.nil_append] at this
    rw [this]
    exact if_pos hb
   ·cases hT
  ·cases hT
 ·cases hT
end
def gf (p:E→Bool)(l:List E):Int:=match l.findIdx? p with|some i=>i|none => -1
theorem fg {p:E→Bool}{l:List E}{k:Nat}{x:E}(h:∀j y,j<k→l[j]? = some y→p y=false)(hx:l[k]? = some x)(hp:p x=true):gf p l=k:=by
 have:l.findIdx? p=some k:=by
  rw [List.findIdx?_eq_some_iff_getElem]
  obtain⟨hk,hx⟩:=List.getElem?_eq_some_iff.1 hx
  exact⟨hk,by rw [hx];exact hp,fun j hj=>by simp [h j l[j] hj (List.getElem?_eq_getElem omq)]⟩
 unfold gf;rw [this]
theorem dt {p:E→Bool}{l:List E}(h:∀j y,j<l.length→l[j]? = some y→p y=false):gf p l = -1:=by
 have:l.findIdx? p=none:=by
  rw [List.findIdx?_eq_none_iff]
  intro x hx
  obtain⟨j,hj,rfl⟩:=List.mem_iff_getElem.1 hx
  exact h j _ hj (List.getElem?_eq_getElem hj)
 unfold gf;rw [this]
theorem rI (p:E→Bool)(l:List E):gf p l = -1∨∃k:Nat,gf p l=k∧k<l.length:=by
 unfold gf
 split
 ·rename_i i hi
  rw [List.findIdx?_eq_some_iff_getElem] at hi
  exact .inr ⟨i,rfl,hi.1⟩
 ·exact .inl rfl
theorem wZ {p:E→Bool}{l:List E}(h:gf p l = -1):l.findIdx? p=none:=by
 unfold gf at h
 split at h
 ·omega
 ·assumption
theorem aW {z:Int}(h0:0≤z)(h:z≤9223372036854775807):IntKind.i64.wrap z=z:=by
 rw [IntKind.wrap_i64];omega
def Gh (σ τ:AS):Prop:=∀C a w,Sim C σ a w→Sim C τ a w
theorem Gh.refl (σ:AS):Gh σ σ:=fun _ _ _ h=>h
theorem Gh.trans {σ τ υ:AS}(h:Gh σ τ)(k:Gh τ υ):Gh σ υ:=fun C a w hs=>k C a w (h C a w hs)
section
variable {P:Program}{Q:Exit→AS→Prop}{σ:AS}
theorem bH {c:Code}{τ:AS}(hg:Gh σ τ)(h:AWp P c Q τ):AWp P c Q σ:=tO hg h
theorem aP {c:Code}{α:Type}(st:α→AS)(I:Nat→α→Prop)(n:Nat)(d:α)(h0:I n d)(hg:Gh σ (st d))
 (round:∀n d,I n d→AWp P c (wU (fun σ'=>∃m d',m<n∧I m d'∧Gh σ' (st d')) Q) (st d)):AWp P (.loop c) Q σ:=by
 refine bH hg ?_
 intro C a w hs b k cs
 have key:∀(n:Nat) (d:α) (a:Act) (w:World),I n d→Sim C (st d) a w →
  ∃e a' w',(∃σ',Q e σ'∧Sim C σ' a' w')∧Arrives P (lone (b.at a (.code c :: .inLoop c :: k)) cs w) b k cs e a' w':=by
  intro n
  induction n using Nat.strongRecOn with
  | _ n ih =>
   intro d a w hI hs
   obtain⟨e,a₁,w₁,⟨σ',h1,h2⟩,harr⟩:=round n d hI C a w hs b (.inLoop c :: k) cs
   cases e with
   | normal =>
    obtain⟨m,d',hlt,hI',hg'⟩:=h1
    obtain⟨e₂,a₂,w₂,hq₂,harr₂⟩:=ih m hlt d' a₁ w₁ hI' (hg' C _ _ h2)
    exact⟨e₂,a₂,w₂,hq₂,.of_steps (Steps.trans harr (.one step_inLoop)) harr₂⟩
   | exit id=>exact⟨_,a₁,w₁,⟨σ',h1,h2⟩,.pass (x:=.inLoop c) rfl (fun _ _=>.inl (by simp)) harr⟩
   | goto l=>exact⟨_,a₁,w₁,⟨σ',h1,h2⟩,.pass (x:=.inLoop c) rfl (fun _ _=>.inl (by simp)) harr⟩
   | ret=>exact⟨_,a₁,w₁,⟨σ',h1,h2⟩,.pass (x:=.inLoop c) rfl (fun _ _=>.inl (by simp)) harr⟩
   | panic ch=>exact⟨_,a₁,w₁,⟨σ',h1,h2⟩,.pass (x:=.inLoop c) rfl (fun _ _=>.inl (by simp)) harr⟩
   | outgrown=>exact⟨_,a₁,w₁,⟨σ',h1,h2⟩,.pass (x:=.inLoop c) rfl (fun _ _=>.inl (by simp)) harr⟩
 obtain⟨e,a',w',hq,harr⟩:=key n d a w h0 hs
 exact⟨e,a',w',hq,.of_steps (.one step_loop) harr⟩
theorem aC {tm:Nat→AV}{hp:Nat→Option Row}{gn L:Nat}{us us':List Nat}(tms:List (Nat×AV))(rows:RL)(hu:rows.map (·.1)=us')(hb:wV gn rows=true)(ht:TmOk (ρN gn rows) tm tms)(hr:RwOk (ρN gn rows) hp rows):Gh ⟨tm,hp,gn,us,L⟩ ⟨dA tms,dq rows,gn,us',L⟩:=by
 subst hu
 exact fun _ _ _ hs=>wW hs tms rows hb ht hr
theorem qx (ren:Nat→Nat):∀rows:RL,dq (rows.map fun p=>(p.1,ren p.1,p.2.2))=dq rows
 | []=>rfl
 | (j,i,s) :: l=>by simp only [List.map_cons,dq];rw [qx ren l]
theorem fW (ren:Nat→Nat){tm:Nat→AV}{hp:Nat→Option Row}{gn L:Nat}{us us':List Nat}(tms:List (Nat×AV))(rows:RL)(hu:rows.map (·.1)=us')(hb:wV gn (rows.map fun p=>(p.1,ren p.1,p.2.2))=true)(ht:TmOk (ρN gn (rows.map fun p=>(p.1,ren p.1,p.2.2))) tm tms)(hr:RwOk (ρN gn (rows.map fun p=>(p.1,ren p.1,p.2.2))) hp (rows.map fun p=>(p.1,ren p.1,p.2.2))):Gh ⟨tm,hp,gn,us,L⟩ ⟨dA tms,dq rows,gn,us',L⟩:=by
 have:=aC (L:=L) (us:=us) tms _ rfl hb ht hr
 rw [qx] at this
 have e:(rows.map fun p=>(p.1,ren p.1,p.2.2)).map (·.1)=us':=by rw [List.map_map];exact hu
 rw [e] at this
 exact this
theorem ub {i j n:Nat}{r s:Row}(hij:i≠j)(hr:σ.hp i=some r)(hs:σ.hp j=some s)(hsb:s.box=false)(hsn:s.n=n){pre post:List AC}(hcs:r.cs=pre++.sl j n :: post) :
 Gh σ { σ with hp:=upd (upd σ.hp j none) i (some { r with cs:=pre++.ow s.T n s.k s.cs :: post }) }:=fun _ _ _ h0=>rG h0 hij hr hs hsb hsn hcs
theorem uc {i id n k:Nat}{T:TypeId}{l:List AC}{r:Row}(hr:σ.hp i=some r)(hg:σ.gn≤id)(hu:id∉σ.us){pre post:List AC}(hcs:r.cs=pre++.ow T n k l :: post) :
 Gh σ { σ with hp:=upd (upd σ.hp id (some ⟨T,k,n,false,l⟩)) i (some { r with cs:=pre++.sl id n :: post }),us:=id :: σ.us }:=fun _ _ _ h0=>rH h0 hr hg hu hcs
end
theorem TmOk.cons {ρ:Nat→Option Nat}{tm:Nat→AV}{t:Nat}{x:AV}{l:List (Nat×AV)}(h:rnV ρ (tm t)=some x)(k:TmOk ρ tm l):TmOk ρ tm ((t,x) :: l):=⟨h,k⟩
theorem TmOk.nil {ρ:Nat→Option Nat}{tm:Nat→AV}:TmOk ρ tm []:=trivial
theorem RwOk.cons {ρ:Nat→Option Nat}{hp:Nat→Option Row}{j i:Nat}{s:Row}{l:RL}(h:∃r,hp i=some r∧((bf r.cs=true∧s=r)∨∃cs,rnL ρ r.cs=some cs∧s={ r with cs:=cs }))(k:RwOk ρ hp l):RwOk ρ hp ((j,i,s) :: l):=⟨h,k⟩
theorem RwOk.nil {ρ:Nat→Option Nat}{hp:Nat→Option Row}:RwOk ρ hp []:=trivial
def rJ:AV→Bool
 | .c x=>clo x
 | .ag l=>bf l
 | .tu _=>false
mutual
theorem za {ρ:Nat→Option Nat}:∀c:AC,clo c=true→rnC ρ c=some c
 | .v x,_=>rfl
 | .ro n k l,h=>by simp only [clo] at h;simp [rnC,h]
 | .ow T n k l,h=>by simp only [clo] at h;simp [rnC,h]
 | .sl i n,h=>by simp [clo] at h
 | .pt i o,h=>by simp [clo] at h
 | .rp l o,h=>by simp only [clo] at h;simp [rnC,h]
 | .fn f c,h=>by simp only [clo] at h;simp [rnC,ud c h]
 | .bx T l,h=>by simp only [clo] at h;simp [rnC,h]
 | .un,_=>rfl
 | .nn,_=>rfl
 | .mp _,_=>rfl
theorem ud {ρ:Nat→Option Nat}:∀l:List AC,bf l=true→rnL ρ l=some l
 | [],_=>rfl
 | c :: r,h=>by simp only [bf,Bool.and_eq_true] at h;simp only [rnL,za c h.1,ud r h.2]
end
theorem ze3 {ρ:Nat→Option Nat}{x:AV}(h:rJ x=true):rnV ρ x=some x:=by
 cases x with
 | c x=>simp only [rnV,za x h,Option.map_some]
 | ag l=>simp only [rnV,ud l h,Option.map_some]
 | tu l=>cases h
theorem rnV_id' {ρ:Nat→Option Nat}{x y:AV}(h:x=y)(k:rJ y=true):rnV ρ x=some y:=by subst h;exact ze3 k
theorem bv {ρ:Nat→Option Nat}{kd:IntKind}{z z':Int}(h:z=z'):rnV ρ (.c (.v (.int kd z)))=some (.c (.v (.int kd z'))):=by subst h;rfl
theorem aK {ρ:Nat→Option Nat}{y:Option Row}{s:Row}(h:y=some s)(hc:bf s.cs=true):∃r,y=some r∧((bf r.cs=true∧s=r)∨∃cs,rnL ρ r.cs=some cs∧s={ r with cs:=cs }):=⟨s,h,.inl ⟨hc,rfl⟩⟩
theorem lj {ρ:Nat→Option Nat}{y:Option Row}{r s:Row}(h:y=some r)(e:r=s)(hc:bf s.cs=true):∃r,y=some r∧((bf r.cs=true∧s=r)∨∃cs,rnL ρ r.cs=some cs∧s={ r with cs:=cs }):=⟨r,h,.inl ⟨by rw [e];exact hc,e.symm⟩⟩
theorem cb {ρ:Nat→Option Nat}{y:Option Row}{r:Row}{cs:List AC}(h:y=some r)(hc:rnL ρ r.cs=some cs):∃r',y=some r'∧((bf r'.cs=true∧({ r with cs:=cs }:Row)=r')∨∃cs',rnL ρ r'.cs=some cs'∧({ r with cs:=cs }:Row)={ r' with cs:=cs' }):=⟨r,h,.inr ⟨cs,hc,rfl⟩⟩
section
variable {P:Program}{w:World}{φ:Nat→Lc}{K:Nat→Prop}
theorem zf3 {lo hi:Nat}(hh:hi≤w.heap.size):∀(e:E) (t:TypeId),e.Ty P t→e.Re w lo hi→CRL w (fun b=>b<w.heap.size) φ K (acE e) e.enc []:=by
 intro e
 induction e using E.ind with
 | h1 k n=>intro t _ _;exact CRL.cons (f:=[]) (f':=[]) (by simp only [CR];exact⟨trivial,rfl,trivial⟩) CRL.nil
 | h2 b=>intro t _ _;exact CRL.cons (f:=[]) (f':=[]) (by simp only [CR];exact⟨trivial,rfl,trivial⟩) CRL.nil
 | h3 s=>intro t _ _;exact CRL.cons (f:=[]) (f':=[]) (by simp only [CR];exact⟨trivial,rfl,trivial⟩) CRL.nil
 | h4 fs ih =>
  intro t ht hr
  simp only [E.Ty] at ht
  obtain⟨F,hU,ht⟩:=ht
  simp only [E.Re,E.ReL_iff] at hr
  simp only [acE,E.enc]
  generalize F.toList.map (·.type)=ts at ht
  clear hU F
  induction fs generalizing ts with
  | nil=>exact CRL.nil
  | cons x r ihr =>
   simp only [E.TyF] at ht
   obtain⟨t',tr,_,h1,h2⟩:=ht
   simp only [acL,E.encL]
   have:=(ih x List.mem_cons_self t' h1 (hr x List.mem_cons_self)).app (ihr (fun e he=>ih e (List.mem_cons_of_mem _ he)) (fun e he=>hr e (List.mem_cons_of_mem _ he)) tr h2)
   simpa using this
 | h5 k T A c l ih =>
  intro t ht hr
  simp only [E.Ty] at ht
  obtain⟨_,_,hk,hl⟩:=ht
  rw [E.TyL_iff] at hl
  simp only [E.Re,E.ReL_iff] at hr
  obtain⟨hsl,hre⟩:=hr
  simp only [acE,E.enc]
  refine CRL.cons (f:=[]) (f':=[]) ?_ CRL.nil
  simp only [CR]
  obtain⟨A',c',e,h1,h2,h3⟩:=hsl
  injection e with e1 _ e3
  subst e1 e3
  refine⟨trivial,A,c,rfl,⟨h1,h2.1,h2.2⟩,by rw [mu,E.encL_len hk],fun hn=>?_⟩
  obtain⟨b,o,hA,_,hb2,hcell⟩:=h3 hn
  refine⟨b,o,E.encL l,hA,omq,omq,fun m x hm=>?_,?_⟩
  ·have hlen:=E.encL_len hk
   have hml:m<l.length*k:=by rw [←hlen];exact (List.getElem?_eq_some_iff.1 hm).1
   have hk0:0<k:=by
    rcases Nat.eq_zero_or_pos k with h0|h0
    ·subst h0;simp at hml
    ·exact h0
   have hq:m / k<l.length:=(Nat.div_lt_iff_lt_mul hk0).2 hml
   have hr:m % k<k:=Nat.mod_lt _ hk0
   have hm':m=m / k*k+m % k:=by rw [Nat.mul_comm];exact (Nat.div_add_mod m k).symm
   have h5:=hcell (m / k) hq (m % k) x (by rw [←E.encL_at hk (m / k) hq (m % k) hr,←hm'];exact hm)
   rw [Nat.add_assoc,←hm'] at h5
   exact h5
  ·clear h1 hn hcell h3 hk
   induction l with
   | nil=>exact CRL.nil
   | cons x r ihr =>
    simp only [acL,E.encL]
    have:=(ih x List.mem_cons_self T (hl x List.mem_cons_self) (hre x List.mem_cons_self)).app (ihr (fun e he=>ih e (List.mem_cons_of_mem _ he)) (fun e he=>hl e (List.mem_cons_of_mem _ he)) (fun e he=>hre e (List.mem_cons_of_mem _ he)) rfl)
    simpa using this
theorem ow_E {St:Nat→Prop}{lo:Nat}:∀(D:E) (t:TypeId) (us:List Value) (fp:List Nat),D.Ty P t→CRL w St φ0 K0 (owE D) us fp→(∀b∈fp,lo≤b) →
 ∃x:E,x.enc=us∧x.fp=fp∧x.d=D.d∧x.Ho w lo w.heap.size∧x.Ty P t∧(∀fs,D=.agg fs→∃gs,x=.agg gs):=by
 intro D
 induction D using E.ind with
 | h1 k n =>
  intro t us fp ht h _
  simp only [owE,CRL,CR] at h
  obtain⟨u,us',f,f',rfl,rfl,⟨rfl,_,rfl⟩,rfl,rfl⟩:=h
  exact⟨.int k n,rfl,rfl,rfl,by simp [E.Ho],ht,fun _ e=>by cases e⟩
 | h2 b =>
  intro t us fp ht h _
  simp only [owE,CRL,CR] at h
  obtain⟨u,us',f,f',rfl,rfl,⟨rfl,_,rfl⟩,rfl,rfl⟩:=h
  exact⟨.bool b,rfl,rfl,rfl,by simp [E.Ho],ht,fun _ e=>by cases e⟩
 | h3 s =>
  intro t us fp ht h _
  simp only [owE,CRL,CR] at h
  obtain⟨u,us',f,f',rfl,rfl,⟨rfl,_,rfl⟩,rfl,rfl⟩:=h
  exact⟨.str s,rfl,rfl,rfl,by simp [E.Ho],ht,fun _ e=>by cases e⟩
 | h4 fs ih =>
  intro t us fp ht h hlo
  simp only [E.Ty] at ht
  obtain⟨F,hU,ht⟩:=ht
  simp only [owE] at h
  have key:∀(fs:List E) (ts:List TypeId) (us:List Value) (fp:List Nat),(∀e∈fs,∀(t:TypeId) (us:List Value) (fp:List Nat),e.Ty P t→CRL w St φ0 K0 (owE e) us fp→(∀b∈fp,lo≤b)→∃x:E,x.enc=us∧x.fp=fp∧x.d=e.d∧x.Ho w lo w.heap.size∧x.Ty P t∧(∀gs,e=.agg gs→∃gs,x=.agg gs))→E.TyF P fs ts→CRL w St φ0 K0 (owL fs) us fp→(∀b∈fp,lo≤b) →
   ∃xs:List E,E.encL xs=us∧E.fpL xs=fp∧E.dL xs=E.dL fs∧E.HoL w lo w.heap.size xs∧E.TyF P xs ts:=by
   intro fs
   induction fs with
   | nil =>
    intro ts us fp _ ht h _
    simp only [owL,CRL] at h
    obtain⟨rfl,rfl⟩:=h
    exact⟨[],rfl,rfl,rfl,by simp [E.HoL],ht⟩
   | cons e r ihr =>
    intro ts us fp ih ht h hlo
    simp only [E.TyF] at ht
    obtain⟨t',tr,rfl,h1,h2⟩:=ht
    simp only [owL] at h
    obtain⟨u1,u2,f1,f2,rfl,rfl,g1,g2⟩:=h.split
    obtain⟨x,a1,a2,a3,a4,a5,_⟩:=ih e List.mem_cons_self t' u1 f1 h1 g1 (fun b hb=>hlo b (List.mem_append_left _ hb))
    obtain⟨xs,b1,b2,b3,b4,b5⟩:=ihr tr u2 f2 (fun e he=>ih e (List.mem_cons_of_mem _ he)) h2 g2 (fun b hb=>hlo b (List.mem_append_right _ hb))
    exact⟨x :: xs,by simp only [E.encL,a1,b1],by simp only [E.fpL,a2,b2],by simp only [E.dL,a3,b3],by simp only [E.HoL];exact⟨a4,b4⟩,by simp only [E.TyF];exact⟨t',tr,rfl,a5,b5⟩⟩
  obtain⟨xs,b1,b2,b3,b4,b5⟩:=key fs _ us fp ih ht h hlo
  exact⟨.agg xs,b1,b2,by simp only [E.d,b3],E.Ho.mk_agg b4,E.Ty.mk_agg hU b5,fun _ _=>⟨xs,rfl⟩⟩
 | h5 k T A c l ih =>
  intro t us fp ht h hlo
  simp only [E.Ty] at ht
  obtain⟨hU,hk64,hk,hl⟩:=ht
  rw [E.TyL_iff] at hl
  simp only [owE,CRL,CR] at h
  obtain⟨u,us',f,f',rfl,rfl,⟨vs,fs,h1,h2,rfl⟩,rfl,rfl⟩:=h
  rw [List.append_nil] at hlo ⊢
  have key:∀(l:List E) (us:List Value) (fp:List Nat),(∀e∈l,∀(t:TypeId) (us:List Value) (fp:List Nat),e.Ty P t→CRL w St φ0 K0 (owE e) us fp→(∀b∈fp,lo≤b)→∃x:E,x.enc=us∧x.fp=fp∧x.d=e.d∧x.Ho w lo w.heap.size∧x.Ty P t∧(∀gs,e=.agg gs→∃gs,x=.agg gs))→(∀e∈l,e.Ty P T)→(∀e∈l,e.enc.length=k)→CRL w St φ0 K0 (owL l) us fp→(∀b∈fp,lo≤b) →
   ∃xs:List E,E.encL xs=us∧E.fpL xs=fp∧E.dL xs=E.dL l∧(∀x∈xs,x.Ho w lo w.heap.size)∧(∀x∈xs,x.Ty P T)∧(∀x∈xs,x.enc.length=k)∧xs.length=l.length:=by
   intro l
   induction l with
   | nil =>
    intro us fp _ _ _ h _
    simp only [owL,CRL] at h
    obtain⟨rfl,rfl⟩:=h
    exact⟨[],rfl,rfl,rfl,fun _ h=>absurd h List.not_mem_nil,fun _ h=>absurd h List.not_mem_nil,fun _ h=>absurd h List.not_mem_nil,rfl⟩
   | cons e r ihr =>
    intro us fp ih ht hk h hlo
    simp only [owL] at h
    obtain⟨u1,u2,f1,f2,rfl,rfl,g1,g2⟩:=h.split
    obtain⟨x,a1,a2,a3,a4,a5,_⟩:=ih e List.mem_cons_self T u1 f1 (ht e List.mem_cons_self) g1 (fun b hb=>hlo b (List.mem_append_left _ hb))
    obtain⟨xs,b1,b2,b3,b4,b5,b6,b7⟩:=ihr u2 f2 (fun e he=>ih e (List.mem_cons_of_mem _ he)) (fun e he=>ht e (List.mem_cons_of_mem _ he)) (fun e he=>hk e (List.mem_cons_of_mem _ he)) g2 (fun b hb=>hlo b (List.mem_append_right _ hb))
    have hx:x.enc.length=k:=by
     rw [a1,g1.len,tV];exact hk e List.mem_cons_self
    refine⟨x :: xs,by simp only [E.encL,a1,b1],by simp only [E.fpL,a2,b2],by simp only [E.dL,a3,b3],fun y hy=>?_,fun y hy=>?_,fun y hy=>?_,by simp [b7]⟩
    ·rcases List.mem_cons.1 hy with rfl|hy
     ·exact a4
     ·exact b4 y hy
    ·rcases List.mem_cons.1 hy with rfl|hy
     ·exact a5
     ·exact b5 y hy
    ·rcases List.mem_cons.1 hy with rfl|hy
     ·exact hx
     ·exact b6 y hy
  obtain⟨xs,b1,b2,b3,b4,b5,b6,b7⟩:=key l vs fs ih hl hk h1 (fun b hb=>hlo b (List.mem_append_right _ hb))
  obtain⟨A',c',hv⟩:∃A' c',u=.slice A' l.length c':=by
   obtain⟨_,⟨rfl,h0⟩|⟨g,cap,cur,rfl,_⟩⟩:=h2
   ·exact⟨none,0,by rw [h0]⟩
   ·exact⟨_,cap,rfl⟩
  subst hv
  refine⟨.lst k T A' c' xs,by simp only [E.enc,b7],?_,by simp only [E.d,b3],E.Ho.mk ?_ b6 b4,E.Ty.mk_lst hU hk64.1.symm b5 b6 hk64.2,fun _ e=>by cases e⟩
  ·simp only [E.fp,b2]
   congr 1
   obtain⟨_,⟨hv,_⟩|⟨g,cap,cur,hv,_⟩⟩:=h2
   ·injection hv with hv;subst hv;rfl
   ·injection hv with hv;subst hv;rfl
  ·rw [b7,b1]
   obtain⟨hl1,hor⟩:=h2
   refine⟨⟨hl1,?_⟩,fun b hb=>?_⟩
   ·rcases hor with h0|⟨g,cap,cur,hv,hz,hh,rest⟩
    ·exact .inl h0
    ·refine .inr ⟨g,cap,cur,hv,hlo g (List.mem_append_left _ ?_),hh,rest⟩
     rw [hv];simp [obl,Value.ownBlock]
   ·rcases hor with ⟨hv,_⟩|⟨g,cap,cur,hv,hz,hh,rest⟩
    ·rw [hv] at hb;simp [Value.ownBlock] at hb
    ·rw [hv] at hb
     simp only [Value.ownBlock] at hb
     have:g=b:=by simpa using hb
     subst this
     exact (Array.getElem?_eq_some_iff.1 hh).1
theorem xa:∀(e e':E) (t:TypeId),e.Ty P t→e'.Ty P t→e.d=e'.d→acE e=acE e':=by
 intro e
 induction e using E.ind with
 | h1 k n=>intro e' t _ _ h;cases e'<;>simp [E.d] at h;simp [acE,h]
 | h2 b=>intro e' t _ _ h;cases e'<;>simp [E.d] at h;simp [acE,h]
 | h3 s=>intro e' t _ _ h;cases e'<;>simp [E.d] at h;simp [acE,h]
 | h4 fs ih =>
  intro e' t ht ht' h
  cases e' with
  | agg gs =>
   simp only [E.d,E.agg.injEq] at h
   simp only [E.Ty] at ht ht'
   obtain⟨F,hU,ht⟩:=ht
   obtain⟨F',hU',ht'⟩:=ht'
   rw [hU] at hU';injection hU' with hU';injection hU' with hU';subst hU'
   simp only [acE]
   generalize F.toList.map (·.type)=ts at ht ht'
   clear hU F
   induction fs generalizing gs ts with
   | nil =>
    cases gs with
    | nil=>rfl
    | cons _ _=>simp [E.dL] at h
   | cons x r ihr =>
    cases gs with
    | nil=>simp [E.dL] at h
    | cons y r' =>
     simp only [E.dL,List.cons.injEq] at h
     simp only [E.TyF] at ht ht'
     obtain⟨t1,tr,rfl,h1,h2⟩:=ht
     obtain⟨t1',tr',e1,h1',h2'⟩:=ht'
     injection e1 with e1 e2
     subst e1 e2
     simp only [acL]
     rw [ih x List.mem_cons_self y t1 h1 h1' h.1,ihr (fun e he=>ih e (List.mem_cons_of_mem _ he)) r' h.2 tr h2 h2']
  | _=>simp [E.d] at h
 | h5 k T A c l ih =>
  intro e' t ht ht' h
  cases e' with
  | lst k' T' A' c' m =>
   simp only [E.d,E.lst.injEq,true_and] at h
   simp only [E.Ty] at ht ht'
   obtain⟨hU,hk64,hk,hl⟩:=ht
   obtain⟨hU',hk64',hk',hl'⟩:=ht'
   rw [hU] at hU';injection hU' with hU';injection hU' with hU';subst hU'
   rw [E.TyL_iff] at hl hl'
   have e1:l.length=m.length:=by rw [←E.dL_len l,←E.dL_len m,h]
   have e2:acL l=acL m:=by
    clear hk hk' e1
    induction l generalizing m with
    | nil =>
     cases m with
     | nil=>rfl
     | cons _ _=>simp [E.dL] at h
    | cons x r ihr =>
     cases m with
     | nil=>simp [E.dL] at h
     | cons y r' =>
      simp only [E.dL,List.cons.injEq] at h
      simp only [acL]
      rw [ih x List.mem_cons_self y T (hl x List.mem_cons_self) (hl' y List.mem_cons_self) h.1,ihr (fun e he=>ih e (List.mem_cons_of_mem _ he)) r' h.2 (fun e he=>hl e (List.mem_cons_of_mem _ he)) (fun e he=>hl' e (List.mem_cons_of_mem _ he))]
   simp only [acE,e1,e2,hk64.1,hk64'.1]
  | _=>simp [E.d] at h
end
section
variable {P:Program}{w:World}
theorem ue {f:FuncId}{ins:List AV}{res:AV}(h:Ctr P f ins [] res []){us:List Value}(hin:VRL w (fun b=>b<w.heap.size) φ0 K0 ins us)(gw:Gl w:=by (first|assumption|exact yN _|exact Gl.below_ gl0 (by exact by0))) :
 Calls P f us.toArray w fun r w'=>∃u St G,r=.returned u∧VRF w' St φ0 K0 res u G∧G.Nodup∧(∀b∈G,w.heap.size≤b)∧Below w.heap.size w w':=by
 have hent:Ent w (fun b=>b<w.heap.size) φ0 (fun _=>[]) ins us []:=by
  refine⟨?_,fun i cs hi=>by simp at hi,fun i hi=>by simp at hi,fun i j hi=>by simp at hi,fun i j b lo hi=>by simp at hi,fun i j b lo lo' ci cj hi=>by simp at hi,fun i b hi=>by simp at hi,fun i b lo hi=>by simp at hi,gw,fun b _=>⟨fun ⟨i,hi,_⟩=>by simp at hi,fun o ⟨i,lo,cs,hi,_⟩=>by simp at hi⟩⟩
  have:K0=fun i=>i<([]:List (List AC)).length:=by funext i;simp [K0]
  rw [←this];exact hin
 refine (h.2 w _ _ _ _ hent).mono ?_
 rintro e w' ⟨res',rows,u,St',F',G,⟨rfl,rfl⟩,rfl,hx⟩
 have nl:∀b,¬jA (fun _=>[]) ([]:List (List AC)).length b:=fun b ⟨i,hi,_⟩=>by simp at hi
 have nr:∀b o,¬o5 φ0 [] b o:=fun b o ⟨i,lo,cs,hi,_⟩=>by simp at hi
 refine⟨u,St',G,rfl,hx.res,hx.nodG,fun b hb=>(hx.own b (.inl hb)).resolve_left (nl b),hx.frm.os,hx.frm.tape,hx.frm.output,hx.frm.size,fun k hk=>(hx.frm.blk k hk (nl k)).same (nr k)⟩
end
def avI (e:E):AV:=match e with
 | .agg fs=>.ag (acL fs)
 | .int k n=>.c (.v (.int k n))
 | .bool b=>.c (.v (.bool b))
 | .str s=>.c (.v (.string s))
 | .lst k _ _ _ l=>.c (.ro l.length k (acL l))
def avO (e:E):AV:=match e with
 | .agg fs=>.ag (owL fs)
 | .int k n=>.c (.v (.int k n))
 | .bool b=>.c (.v (.bool b))
 | .str s=>.c (.v (.string s))
 | .lst k T _ _ l=>.c (.ow T l.length k (owL l))
section
variable {P:Program}{w:World}{φ:Nat→Lc}{K:Nat→Prop}
theorem zg3 {e:E}{t:TypeId}(ht:e.Ty P t)(hi:e.In w):VR w (fun b=>b<w.heap.size) φ K (avI e) e.val:=by
 have h:=zf3 (φ:=φ) (K:=K) (Nat.le_refl _) e t ht hi
 cases e with
 | agg fs=>simp only [avI,VR,E.val];exact⟨_,rfl,h⟩
 | int|bool|str =>
  simp only [acE,E.enc,CRL] at h
  obtain⟨u,us',f,f',e1,e2,h1,h2,h3⟩:=h
  injection e1 with e1;subst e1
  have e':=List.append_eq_nil_iff.1 e2.symm
  rw [e'.1] at h1
  simp only [avI,VR,E.val];exact h1
 | lst =>
  simp only [acE,E.enc,CRL] at h
  obtain⟨u,us',f,f',e1,e2,h1,h2,h3⟩:=h
  injection e1 with e1;subst e1
  have e':=List.append_eq_nil_iff.1 e2.symm
  rw [e'.1] at h1
  simp only [avI,VR,E.val];exact h1
theorem avO_E {St:Nat→Prop}{lo:Nat}{D:E}{t:TypeId}{u:Value}{G:List Nat}(ht:D.Ty P t)(h:VRF w St φ0 K0 (avO D) u G)(hlo:∀b∈G,lo≤b):∃x:E,u=x.val∧x.fp=G∧x.d=D.d∧x.Ho w lo w.heap.size∧x.Ty P t:=by
 cases D with
 | agg fs =>
  simp only [avO,VRF] at h
  obtain⟨us,rfl,h⟩:=h
  obtain⟨x,a1,a2,a3,a4,a5,a6⟩:=ow_E (.agg fs) t us G ht h hlo
  obtain⟨gs,rfl⟩:=a6 fs rfl
  exact⟨.agg gs,by simp only [E.val];rw [←a1];rfl,a2,a3,a4,a5⟩
 | int k n =>
  simp only [avO,VRF,CR] at h
  obtain⟨rfl,_,rfl⟩:=h
  exact⟨.int k n,rfl,rfl,rfl,by simp [E.Ho],ht⟩
 | bool b =>
  simp only [avO,VRF,CR] at h
  obtain⟨rfl,_,rfl⟩:=h
  exact⟨.bool b,rfl,rfl,rfl,by simp [E.Ho],ht⟩
 | str s =>
  simp only [avO,VRF,CR] at h
  obtain⟨rfl,_,rfl⟩:=h
  exact⟨.str s,rfl,rfl,rfl,by simp [E.Ho],ht⟩
 | lst k T A c l =>
  simp only [avO,VRF] at h
  obtain⟨x,a1,a2,a3,a4,a5,_⟩:=ow_E (.lst k T A c l) t [u] G ht (by have:=CRL.cons h (CRL.nil (w:=w) (St:=St) (φ:=φ0) (K:=K0));rw [List.append_nil] at this;exact this) hlo
  cases x with
  | lst k' T' A' c' l'=>simp only [E.enc,List.cons.injEq,and_true] at a1;exact⟨_,by simp only [E.val];exact a1.symm,a2,a3,a4,a5⟩
  | _=>simp [E.d] at a3
end
def CLe (l m:List AC):Prop:=m.length=l.length∧∀(w:World) (St:Nat→Prop) (φ:Nat→Lc) (K:Nat→Prop) (us:List Value) (fp:List Nat),CRL w St φ K l us fp→CRL w St φ K m us fp
theorem CLe.refl (l:List AC):CLe l l:=⟨rfl,fun _ _ _ _ _ _ h=>h⟩
theorem CLe.cons (c:AC){l m:List AC}(h:CLe l m):CLe (c :: l) (c :: m):=⟨by simp [h.1],fun w St φ K us fp hc=>by
 simp only [CRL] at hc
 obtain⟨u,us',f,f',rfl,rfl,h1,h2⟩:=hc
 exact CRL.cons h1 (h.2 w St φ K us' f' h2)⟩
theorem CLe.nil (T:TypeId)(k:Nat){l m:List AC}(h:CLe l m):CLe (.v (.slice none 0 0) :: l) (.ow T 0 k [] :: m):=⟨by simp [h.1],fun w St φ K us fp hc=>by
 simp only [CRL,CR] at hc
 obtain⟨u,us',f,f',rfl,rfl,⟨rfl,_,rfl⟩,h2⟩:=hc
 refine CRL.cons (f:=[]) ?_ (h.2 w St φ K us' f' h2)
 simp only [CR]
 exact⟨[],[],CRL.nil,World.ownsRow_nil w 0 T k,by simp [obl,Value.ownBlock]⟩⟩
theorem CLe.app {l m l' m':List AC}(h:CLe l m)(k:CLe l' m'):CLe (l++l') (m++m'):=⟨by simp [h.1,k.1],fun w St φ K us fp hc=>by
 obtain⟨u1,u2,f1,f2,rfl,rfl,g1,g2⟩:=hc.split
 exact (h.2 _ _ _ _ _ _ g1).app (k.2 _ _ _ _ _ _ g2)⟩
section
variable {C:Ctx}{φ:Nat→Lc}{F:Nat→List Nat}{St:Nat→Prop}{σ:AS}{a:Act}{w:World}
theorem SimF.cells (h:SimF C φ F St σ a w){i:Nat}{r:Row}(hr:σ.hp i=some r){cs:List AC}(hc:CLe r.cs cs):SimF C φ F St { σ with hp:=upd σ.hp i (some { r with cs:=cs }) } a w:=by
 have get:∀j s,upd σ.hp i (some { r with cs:=cs }) j=some s→∃s',σ.hp j=some s'∧s.cs.length=s'.cs.length∧(s=s'∨(j=i∧s'=r∧s={ r with cs:=cs })):=fun j s hj=>by
  by_cases e:j=i
  ·subst e;rw [aX] at hj;injection hj with hj;subst hj;exact⟨r,hr,hc.1,.inr ⟨rfl,rfl,rfl⟩⟩
  ·rw [bh _ _ e] at hj;exact⟨s,hj,rfl,.inl rfl⟩
 refine⟨h.dfr,h.len,h.tms,fun j s hj=>?_,fun j s hj=>?_,fun j k s t hj hk=>?_,fun j k s t b lo hj hk=>?_,fun j k s t b lo lo' hj hk hjk e e'=>?_,fun j s b hj=>?_,fun j s b lo hj=>?_,h.frm,fun j s b hj=>?_,fun j hj=>⟨(h.par j hj).1,fun s hs q hq=>?_⟩,fun j s b lo hj=>?_,h.gnN,h.stS⟩
 ·obtain⟨s',h1,_,rfl|⟨rfl,rfl,rfl⟩⟩:=get j s hj
  ·exact h.row j s h1
  ·refine⟨(h.row j s' h1).1,?_⟩
   have hrow:=(h.row j s' h1).2
   show RowOk w St φ σ.Kn _ (F j) (φ j)
   cases e:φ j with
   | box b lo=>rw [e] at hrow;obtain⟨g0,us,g1,g2⟩:=hrow;exact⟨g0,us,hc.2 _ _ _ _ _ _ g1,g2⟩
   | slc u=>rw [e] at hrow;obtain⟨g0,us,fs,g1,g2,g3⟩:=hrow;exact⟨g0,us,fs,hc.2 _ _ _ _ _ _ g1,g2,g3⟩
 ·obtain⟨s',h1,_⟩:=get j s hj;exact h.nod j s' h1
 ·obtain⟨s',h1,_⟩:=get j s hj;obtain⟨t',h2,_⟩:=get k t hk;exact h.dis j k s' t' h1 h2
 ·obtain⟨s',h1,_⟩:=get j s hj;obtain⟨t',h2,_⟩:=get k t hk;exact h.bxF j k s' t' b lo h1 h2
 ·obtain⟨s',h1,e1,_⟩:=get j s hj;obtain⟨t',h2,e2,_⟩:=get k t hk;rw [e1,e2];exact h.bxd j k s' t' b lo lo' h1 h2 hjk e e'
 ·obtain⟨s',h1,_⟩:=get j s hj;exact h.stF j s' b h1
 ·obtain⟨s',h1,_⟩:=get j s hj;exact h.stB j s' b lo h1
 ·obtain⟨s',h1,_⟩:=get j s hj;exact h.own j s' b h1
 ·obtain⟨s',h1,e1,_⟩:=get j s hs;exact (h.par j hj).2 s' h1 q (by rw [←e1];exact hq)
 ·obtain⟨s',h1,_⟩:=get j s hj;exact h.new j s' b lo h1
end
section
variable {tm:Nat→AV}{hp:Nat→Option Row}{gn L:Nat}{us:List Nat}
theorem xb {i:Nat}{r:Row}(hr:hp i=some r){cs:List AC}(hc:CLe r.cs cs):Gh ⟨tm,hp,gn,us,L⟩ ⟨tm,upd hp i (some { r with cs:=cs }),gn,us,L⟩:=fun _ _ _ ⟨φ,F,St,h⟩=>⟨φ,F,St,h.cells hr hc⟩
theorem xd {i j n:Nat}{r s:Row}(hij:Nat.beq i j=false)(hr:hp i=some r)(hs:hp j=some s)(hsb:s.box=false)(hsn:s.n=n){pre post:List AC}(hcs:r.cs=pre++.sl j n :: post) :
 Gh ⟨tm,hp,gn,us,L⟩ ⟨tm,upd (upd hp j none) i (some { r with cs:=pre++.ow s.T n s.k s.cs :: post }),gn,us,L⟩:=ub (σ:=⟨tm,hp,gn,us,L⟩) (by rintro rfl;simp at hij) hr hs hsb hsn hcs
theorem qy (id:Nat){i n k:Nat}{T:TypeId}{l:List AC}{r:Row}(hr:hp i=some r)(hf:(Nat.ble gn id&&!us.contains id)=true){pre post:List AC}(hcs:r.cs=pre++.ow T n k l :: post) :
 Gh ⟨tm,hp,gn,us,L⟩ ⟨tm,upd (upd hp id (some ⟨T,k,n,false,l⟩)) i (some { r with cs:=pre++.sl id n :: post }),gn,id :: us,L⟩:=by
 simp only [Bool.and_eq_true,Nat.ble_eq,Bool.not_eq_true'] at hf
 exact uc (σ:=⟨tm,hp,gn,us,L⟩) hr hf.1 (fun hm=>by have:=hf.2;simp at this;exact this hm) hcs
theorem dZ (id:Nat){i:Nat}(T:TypeId)(k:Nat){r:Row}(hr:hp i=some r)(hf:(Nat.ble gn id&&!us.contains id)=true){pre post:List AC}(hcs:r.cs=pre++.v (.slice none 0 0) :: post) :
 Gh ⟨tm,hp,gn,us,L⟩ ⟨tm,upd (upd (upd hp i (some { r with cs:=pre++.ow T 0 k [] :: post })) id (some ⟨T,k,0,false,[]⟩)) i (some { r with cs:=pre++.sl id 0 :: post }),gn,id :: us,L⟩:=by
 have h1:=xb (tm:=tm) (gn:=gn) (L:=L) (us:=us) hr (cs:=pre++.ow T 0 k [] :: post) (by rw [hcs];exact (CLe.refl pre).app (CLe.nil T k (CLe.refl post)))
 refine h1.trans ?_
 exact qy id (r:={ r with cs:=pre++.ow T 0 k [] :: post }) (aX _ _ _) hf rfl
end
section
variable {hp:Nat→Option Row}{D:List Nat}
theorem qz {x y:AV}{r r':List AV}(h:cvV hp D x=y)(k:List.map (cvV hp D) r=r'):List.map (cvV hp D) (x :: r)=y :: r':=by rw [List.map_cons,h,k]
theorem cv_c {c c':AC}(h:cvC hp D c=c'):cvV hp D (.c c)=.c c':=by rw [cvV,h]
theorem zZ {l l':List AC}(h:cvL hp D l=l'):cvV hp D (.ag l)=.ag l':=by rw [cvV,h]
theorem qA {c c':AC}{r r':List AC}(h:cvC hp D c=c')(k:cvL hp D r=r'):cvL hp D (c :: r)=c' :: r':=by rw [cvL,h,k]
theorem zb {n k:Nat}{l:List AC}(h:bf l=true):cvC hp D (.ro n k l)=.ro n k l:=by rw [cvC,if_pos h]
theorem zh3 {i n:Nat}{rw:Row}{l:List AC}(hr:hp i=some rw)(hb:rw.box=false)(hn:rw.n=n)(hc:bf rw.cs=true)(hl:fJ rw.cs=l):cvC hp D (.sl i n)=.ro n rw.k l:=by
 simp only [cvC,hr]
 rw [if_pos ⟨hb,hn,hc⟩,hl]
end
section
variable {P:Program}{ops:Array Oper}{Q:Exit→Act→World→Prop}{C:Ctx}{H:List (Nat×Oper×Inf)}{i:Nat}{r:List Nat}{o:Oper}{dr:Bool}
variable {tm:Nat→AV}{hp:Nat→Option Row}{gn L:Nat}{us:List Nat}{x:AV}
theorem uf (id:Nat){t:Nat}{c:Call}{fv:Operand}{f:FuncId}{caps:List AC}{args ins:List AV}{res:AV}(hctr:Ctr P f ins [] res [])(hop:ops[i]? = some o)(hoc:o.op=.call c)(hcal:c.callee=.value fv)(hd:o.dst=some t)(ht:Nat.blt t L=true)(hg:gw ops tm o=some true)
 (hfv:AS.ev ⟨tm,hp,gn,us,L⟩ fv=.c (.fn f caps)) (hargs:cD ⟨tm,hp,gn,us,L⟩ c caps=args) (hcv:args.map (cvV hp [])=ins) (hm:dS res=true)
 {nv:AV} {nr:List (Nat×Row)} (hopn:opV id res=(nv,nr)) (hf:(nr.all fun p=>Nat.ble gn p.1&&!us.contains p.1)=true)
 (hc:chk dr ops i o ⟨args.flatMap snV++[],nr.map (fun p=>(p.1,some p.2)),nr.map (·.1),nv⟩ H=true)
 (h:Walk P ops Q C dr (bP dr (i,o,⟨args.flatMap snV++[],nr.map (fun p=>(p.1,some p.2)),nr.map (·.1),nv⟩) H) r ⟨upd tm t nv,fG hp (nr.map (fun p=>(p.1,some p.2))),gn,nr.map (·.1)++us,L⟩):Walk P ops Q C dr H (i :: r) ⟨tm,hp,gn,us,L⟩:=by
 have e:cZ ⟨tm,hp,gn,us,L⟩ (args.flatMap snV) [] [] id res []=⟨args.flatMap snV++[],nr.map (fun p=>(p.1,some p.2)),nr.map (·.1),nv⟩:=by
  unfold cZ;rw [hopn];simp [eG]
 refine ua id [] [] hop hoc hcal hd ht hg hfv hargs (pars:=[]) rfl (by rw [hcv];exact hctr) (by simp) rfl (.inl ⟨hm,fun c hc=>absurd hc List.not_mem_nil⟩) hopn hf (by rw [e];exact hc) ?_
 rw [e]
 simpa [eG] using h
end
theorem VRL_nil {w:World}{St:Nat→Prop}{φ:Nat→Lc}{K:Nat→Prop}:VRL w St φ K [] []:=by simp [VRL]
theorem VRL_cons {w:World}{St:Nat→Prop}{φ:Nat→Lc}{K:Nat→Prop}{x:AV}{u:Value}{r:List AV}{us:List Value}(h:VR w St φ K x u)(k:VRL w St φ K r us):VRL w St φ K (x :: r) (u :: us):=by simp only [VRL];exact⟨u,us,rfl,h,k⟩
section
variable {P:Program}{w:World}
theorem z6 {f:FuncId}{ins:List AV}{D:E}{t:TypeId}(h:Ctr P f ins [] (avO D) [])(ht:D.Ty P t){us:List Value}(hin:VRL w (fun b=>b<w.heap.size) φ0 K0 ins us)(gw:Gl w:=by (first|assumption|exact yN _|exact Gl.below_ gl0 (by exact by0))) :
 Calls P f us.toArray w fun r w'=>∃x:E,r=.returned x.val∧x.d=D.d∧x.Ty P t∧x.Ho w' w.heap.size w'.heap.size∧x.fp.Nodup∧Below w.heap.size w w':=by
 refine (ue h hin gw).mono ?_
 rintro e w' ⟨u,St,G,rfl,hr,hn,hlo,hb⟩
 obtain⟨x,rfl,rfl,h3,h4,h5⟩:=avO_E ht hr hlo
 exact⟨x,rfl,h3,h5,h4,hn,hb⟩
end
end Go.Proofs.YtmnneflenebgmaaGreat
