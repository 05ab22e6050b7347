/- Terms and statements that are right: how parts are counted (plain; no program in sight). -/
import Derived.Test.YtnjfnhoipnbpeaaGreatDoorTxtPJ
namespace Go.Proofs.YtnjfnhoipnbpeaaGreatDoor
open Go.RowKit
set_option maxRecDepth 100000
def gpI (b:Nat)(c:E→Nat):List E→Nat→Nat
 | [],n=>n
 | x :: r,n=>if b<n+c x then b+1 else gpI b c r (n+c x)
def cntI (b:Nat)(hd:E→Bool)(kd:E→List E):Nat→E→Nat
 | 0,_=>b+1
 | f+1,e=>if hd e=true then gpI b (cntI b hd kd f) (kd e) 1 else b+1
def gpS (b:Nat)(c:E→Nat):List E→Nat→Nat
 | [],n=>n
 | x :: r,n=>if n≤b then gpS b c r (n+c x) else n
def cntS (b:Nat)(kd:E→List E):Nat→E→Nat
 | 0,_=>b+1
 | f+1,e=>gpS b (cntS b kd f) (kd e) 1
def okF (hd:E→Bool)(kd:E→List E):Nat→E→Bool
 | 0,_=>false
 | f+1,e=>(kd e).all (okF hd kd f)&&hd e
def okE (hd:E→Bool)(kd:E→List E)(e:E):Bool:=okF hd kd (e.sz+1) e
section
variable {b:Nat}{hd:E→Bool}{kd:E→List E}
theorem okF_eq (hk:∀e x,x∈kd e→x.sz<e.sz):∀(n f:Nat) (e:E),e.sz<n→e.sz<f→okF hd kd f e=okE hd kd e
 | 0,_,_,h,_=>absurd h (Nat.not_lt_zero _)
 | n+1,0,_,_,h=>absurd h (Nat.not_lt_zero _)
 | n+1,f+1,e,h1,h2=>by
  have key:∀x∈kd e,okF hd kd f x=okF hd kd e.sz x:=fun x hx=>by
   have hs:=hk e x hx
   rw [okF_eq hk n f x (by omega) (by omega),okF_eq hk n e.sz x (by omega) hs]
  show ((kd e).all (okF hd kd f)&&hd e)=((kd e).all (okF hd kd e.sz)&&hd e)
  congr 1
  apply Bool.eq_iff_iff.2
  simp only [List.all_eq_true]
  exact⟨fun h x hx=>by rw [←key x hx];exact h x hx,fun h x hx=>by rw [key x hx];exact h x hx⟩
theorem zz5 (hk:∀e x,x∈kd e→x.sz<e.sz)(e:E):okE hd kd e=((kd e).all (okE hd kd)&&hd e):=by
 show ((kd e).all (okF hd kd e.sz)&&hd e)=_
 congr 1
 apply Bool.eq_iff_iff.2
 simp only [List.all_eq_true]
 have key:∀x∈kd e,okF hd kd e.sz x=okE hd kd x:=fun x hx=>okF_eq hk (x.sz+1) e.sz x (by omega) (hk e x hx)
 exact⟨fun h x hx=>by rw [←key x hx];exact h x hx,fun h x hx=>by rw [key x hx];exact h x hx⟩
theorem zp19 {c:E→Nat}:∀(l:List E) (n:Nat),n≤gpS b c l n
 | [],n=>Nat.le_refl _
 | x :: r,n=>by
  unfold gpS
  split
  ·exact Nat.le_trans (Nat.le_add_right _ _) (zp19 r _)
  ·exact Nat.le_refl _
theorem gpI_law {ci cs:E→Nat}{ok:E→Bool}(h:∀x,(ci x≤b↔cs x≤b∧ok x=true)∧(ci x≤b→ci x=cs x)):∀(l:List E) (n:Nat),n≤b →
 (gpI b ci l n≤b↔gpS b cs l n≤b∧l.all ok=true)∧(gpI b ci l n≤b→gpI b ci l n=gpS b cs l n)
 | [],n,hn=>⟨⟨fun h=>⟨h,rfl⟩,fun h=>h.1⟩,fun _=>rfl⟩
 | x :: r,n,hn=>by
  obtain⟨h1,h2⟩:=h x
  have e1:gpS b cs (x :: r) n=gpS b cs r (n+cs x):=if_pos hn
  rw [e1,List.all_cons]
  by_cases hx:ci x≤b
  ·obtain⟨g1,g2⟩:=h1.1 hx
   rw [←h2 hx,g2,Bool.true_and]
   by_cases hm:b<n+ci x
   ·have e2:gpI b ci (x :: r) n=b+1:=if_pos hm
    rw [e2]
    have:=zp19 (b:=b) (c:=cs) r (n+ci x)
    exact⟨⟨fun h=>by omega,fun h=>by omega⟩,fun h=>by omega⟩
   ·have e2:gpI b ci (x :: r) n=gpI b ci r (n+ci x):=if_neg hm
    rw [e2]
    exact gpI_law h r (n+ci x) (by omega)
  ·have e2:gpI b ci (x :: r) n=b+1:=if_pos (by omega)
   rw [e2]
   refine⟨⟨fun h=>by omega,fun hh=>?_⟩,fun h=>by omega⟩
   obtain⟨g1,g2⟩:=hh
   rw [Bool.and_eq_true] at g2
   have:=zp19 (b:=b) (c:=cs) r (n+cs x)
   exact absurd (h1.2 ⟨by omega,g2.1⟩) hx
theorem cnt_law (hb:1≤b)(hk:∀e x,x∈kd e→x.sz<e.sz):∀(f:Nat) (e:E),(cntI b hd kd f e≤b↔cntS b kd f e≤b∧okE hd kd e=true)∧(cntI b hd kd f e≤b→cntI b hd kd f e=cntS b kd f e)
 | 0,e=>⟨⟨fun h=>absurd h (by show ¬b+1≤b;omega),fun h=>absurd h.1 (by show ¬b+1≤b;omega)⟩,fun h=>absurd h (by show ¬b+1≤b;omega)⟩
 | f+1,e=>by
  rw [zz5 hk e]
  by_cases hh:hd e=true
  ·have e1:cntI b hd kd (f+1) e=gpI b (cntI b hd kd f) (kd e) 1:=if_pos hh
   rw [e1,hh,Bool.and_true]
   exact gpI_law (cnt_law hb hk f) (kd e) 1 hb
  ·have e1:cntI b hd kd (f+1) e=b+1:=if_neg hh
   have e2:hd e=false:=by cases h:hd e with
    | false=>rfl
    | true=>exact absurd h hh
   rw [e1,e2,Bool.and_false]
   exact⟨⟨fun h=>by omega,fun h=>by cases h.2⟩,fun h=>by omega⟩
theorem cnt_ok (hb:1≤b)(hk:∀e x,x∈kd e→x.sz<e.sz)(f:Nat)(e:E):decide (cntI b hd kd f e≤b)=(decide (cntS b kd f e≤b)&&okE hd kd e):=by
 obtain⟨h1,-⟩:=cnt_law (hd:=hd) hb hk f e
 apply Bool.eq_iff_iff.2
 simp only [Bool.and_eq_true,decide_eq_true_iff]
 exact h1
theorem gpI_le {c:E→Nat}:∀(l:List E) (n:Nat),n≤b→gpI b c l n≤b+1
 | [],n,h=>by show n≤b+1;omega
 | x :: r,n,h=>by
  unfold gpI
  split
  ·exact Nat.le_refl _
  ·exact gpI_le r _ (by omega)
theorem cntI_le:∀(f:Nat) (e:E),1≤b→cntI b hd kd f e≤b+1
 | 0,_,_=>Nat.le_refl _
 | f+1,e,h=>by
  unfold cntI
  split
  ·exact gpI_le _ _ h
  ·exact Nat.le_refl _
theorem gpS_le {c:E→Nat}{m:Nat}(hc:∀x,c x≤m):∀(l:List E) (n:Nat),n≤b+m→gpS b c l n≤b+m
 | [],n,h=>h
 | x :: r,n,h=>by
  unfold gpS
  split
  ·exact gpS_le hc r _ (by have:=hc x;omega)
  ·exact h
theorem zm17:∀(f:Nat) (e:E),1≤b→cntS b kd f e≤b+1+b*f
 | 0,_,_=>by show b+1≤b+1+b*0;omega
 | f+1,e,h=>by
  show gpS b (cntS b kd f) (kd e) 1≤_
  have:=gpS_le (b:=b) (m:=b+1+b*f) (fun x=>zm17 f x h) (kd e) 1 (by omega)
  rw [Nat.mul_succ]
  omega
end
def litB (c:Nat):Bool:=(decide (97≤c)&&decide (c≤122))||(decide (65≤c)&&decide (c≤90))||(decide (48≤c)&&decide (c≤57))||c==32||c==95||c==45||c==44||c==58
def setAtB (s:ByteArray)(i:Nat):Bool:=litB (bAt s i)&&(i==0||decide (bAt s (i-1)<bAt s i))
def setOkB (s:ByteArray):Bool:=(List.range s.size).all (setAtB s)&&(decide (1≤s.size)&&decide (s.size≤10))
def loopK (k:Int):Bool:=k==6||k==7||k==8
def rexE (k:Int)(s:ByteArray)(l:List E):E:=.agg [.int .i64 k,.str s,.lst 3 140 none 0 l]
def zeroR:E:=rexE 0 ByteArray.empty []
def E.rk:E→Int
 | .agg (.int _ k :: _)=>k
 | _=>0
def E.rs:E→ByteArray
 | .agg (_ :: .str s :: _)=>s
 | _=>ByteArray.empty
def E.rl:E→List E
 | .agg (_ :: _ :: .lst _ _ _ _ l :: _)=>l
 | _=>[]
def headR (k:Int)(s:ByteArray)(l:List E):Bool :=
 if k=1 then s.size==1&&litB (bAt s 0)&&l.length==0
 else if k=3 then setOkB s&&l.length==0
 else if k=2∨k=9∨k=10∨k=11 then s.size==0&&l.length==0
 else if k=4∨k=5 then s.size==0&&(decide (2≤l.length)&&decide (l.length≤8))
 else if k=6∨k=7∨k=8 then s.size==0&&l.length==1&&!(l.any fun x=>loopK x.rk)
 else false
def headI (e:E):Bool:=headR e.rk e.rs e.rl&&!((e.rk==4||e.rk==5)&&e.rl.any fun x=>x.rk==e.rk)
def sumI (g:E→Nat):List E→Nat→Nat
 | [],n=>n
 | x :: r,n=>if 61≤n+g x then 61 else sumI g r (n+g x)
def partsI:Nat→E→Nat
 | 0,_=>61
 | f+1,e=>if headI e then sumI (partsI f) e.rl 1 else 61
def sumS (g:E→Nat):List E→Nat→Nat
 | [],n=>n
 | x :: r,n=>if n≤60 then sumS g r (n+g x) else n
def partsS:Nat→E→Nat
 | 0,_=>61
 | f+1,e=>sumS (partsS f) e.rl 1
def okS:Nat→E→Bool
 | 0,_=>false
 | f+1,e=>(e.rl.all fun x=>okS f x&&!(x.rk==e.rk&&!loopK e.rk))&&headR e.rk e.rs e.rl
def rexOkI (e:E):Bool:=decide (partsI 6 e≤60)
def rexOkS (e:E):Bool:=decide (partsS 6 e≤60)&&okS 6 e
theorem sumI_le (g:E→Nat):∀(l:List E) (n:Nat),n≤61→sumI g l n≤61
 | [],n,h=>h
 | x :: r,n,h=>by
  unfold sumI
  split
  ·omega
  ·exact sumI_le g r _ (by omega)
theorem partsI_le (f:Nat)(e:E):partsI f e≤61:=by
 cases f with
 | zero=>exact Nat.le_refl _
 | succ f=>unfold partsI;split<;>first|exact sumI_le _ _ _ (by omega)|omega
theorem zn8 {g:E→Nat}:∀{l:List E} {n:Nat},sumI g l n≤60→n≤60∧(∀x∈l,g x≤60)
 | [],n,h=>⟨h,fun x hx=>absurd hx List.not_mem_nil⟩
 | x :: r,n,h=>by
  unfold sumI at h
  split at h
  ·omega
  ·rename_i hn
   obtain⟨h1,h2⟩:=zn8 h
   exact⟨by omega,fun y hy=>by rcases List.mem_cons.1 hy with rfl|hy;·omega
                               ·exact h2 y hy⟩
theorem zn17 {g:E→Nat}:∀(l:List E) (n:Nat),n≤sumS g l n
 | [],n=>Nat.le_refl _
 | x :: r,n=>by
  unfold sumS
  split
  ·exact Nat.le_trans (Nat.le_add_right _ _) (zn17 r _)
  ·exact Nat.le_refl _
theorem zt10 {g:E→Nat}:∀{l:List E} {n:Nat},sumS g l n≤60→n≤60∧(∀x∈l,g x≤60)
 | [],n,h=>⟨h,fun x hx=>absurd hx List.not_mem_nil⟩
 | x :: r,n,h=>by
  unfold sumS at h
  split at h
  ·rename_i hn
   have h0:=zn17 r (n+g x) (g:=g)
   obtain⟨h1,h2⟩:=zt10 h
   exact⟨hn,fun y hy=>by rcases List.mem_cons.1 hy with rfl|hy;·omega
                         ·exact h2 y hy⟩
  ·omega
theorem zq19 {g h:E→Nat}:∀{l:List E} (n:Nat),(∀x∈l,g x≤60→h x=g x)→sumI g l n≤60→sumS h l n=sumI g l n
 | [],n,_,_=>rfl
 | x :: r,n,hx,hs=>by
  have h0:=(zn8 hs).1
  have h1:=(zn8 hs).2 x List.mem_cons_self
  unfold sumI at hs ⊢
  unfold sumS
  rw [if_pos h0,hx x List.mem_cons_self h1]
  split at hs
  ·omega
  ·rename_i hn;rw [if_neg hn];exact zq19 _ (fun y hy=>hx y (List.mem_cons_of_mem _ hy)) hs
theorem sum_same' {g h:E→Nat}:∀{l:List E} (n:Nat),(∀x∈l,h x≤60→g x=h x)→sumS h l n≤60→sumI g l n=sumS h l n
 | [],n,_,_=>rfl
 | x :: r,n,hx,hs=>by
  have h0:=(zt10 hs).1
  have h1:=(zt10 hs).2 x List.mem_cons_self
  unfold sumS at hs ⊢
  unfold sumI
  rw [if_pos h0] at hs ⊢
  have h2:=zn17 r (n+h x) (g:=h)
  rw [hx x List.mem_cons_self h1,if_neg (by omega)]
  exact sum_same' _ (fun y hy=>hx y (List.mem_cons_of_mem _ hy)) hs
theorem headI_of {e:E}(h1:headR e.rk e.rs e.rl=true)(h2:(e.rl.all fun x=>!(x.rk==e.rk&&!loopK e.rk))=true):headI e=true:=by
 unfold headI
 rw [h1,Bool.true_and,Bool.not_eq_true',Bool.and_eq_false_iff]
 by_cases hk:(e.rk==4||e.rk==5)=true
 ·right
  rw [Bool.eq_false_iff]
  intro h
  obtain⟨x,hx,hxk⟩:=List.any_eq_true.1 h
  have:=List.all_eq_true.1 h2 x hx
  rw [hxk] at this
  have h3:loopK e.rk=false:=by
   unfold loopK
   rcases Bool.or_eq_true_iff.1 hk with hk|hk<;>rw [eq_of_beq hk]<;>rfl
  rw [h3] at this
  cases this
 ·left;simpa using hk
theorem head_of {e:E}(h:headI e=true):headR e.rk e.rs e.rl=true∧(e.rl.all fun x=>!(x.rk==e.rk&&!loopK e.rk))=true:=by
 unfold headI at h
 rw [Bool.and_eq_true] at h
 refine⟨h.1,List.all_eq_true.2 fun x hx=>?_⟩
 rw [Bool.not_eq_true',Bool.eq_false_iff]
 intro hc
 rw [Bool.and_eq_true,Bool.not_eq_true'] at hc
 have h2:=h.2
 rw [Bool.not_eq_true',Bool.and_eq_false_iff] at h2
 have hk:(e.rl.any fun y=>y.rk==e.rk)=true:=List.any_eq_true.2 ⟨x,hx,hc.1⟩
 rcases h2 with h2|h2
 ·have h1:=h.1
  unfold headR at h1
  by_cases k4:e.rk=4
  ·rw [k4] at h2;cases h2
  by_cases k5:e.rk=5
  ·rw [k5] at h2;cases h2
  have hl:¬e.rl.length=0:=fun h0=>by rw [List.length_eq_zero_iff.1 h0] at hx;exact absurd hx List.not_mem_nil
  have hlk:¬(e.rk=6∨e.rk=7∨e.rk=8):=fun h0=>by
   have:=hc.2
   unfold loopK at this
   rcases h0 with h0|h0|h0<;>rw [h0] at this<;>cases this
  have hl':(e.rl.length==0)=false:=by simpa using hl
  simp only [hl',Bool.and_false,hlk,if_false,k4,k5,or_self] at h1
  split at h1<;>(try cases h1)
  split at h1<;>(try cases h1)
  split at h1<;>cases h1
 ·rw [hk] at h2;cases h2
theorem zr19 (f:Nat):∀e:E,(partsI f e≤60↔partsS f e≤60∧okS f e=true)∧(partsI f e≤60→partsS f e=partsI f e):=by
 induction f with
 | zero=>intro e;simp [partsI,partsS,okS]
 | succ f ih =>
  intro e
  have key:partsI (f+1) e≤60→partsS (f+1) e=partsI (f+1) e∧okS (f+1) e=true:=by
   intro h
   unfold partsI at h ⊢
   split at h
   ·rename_i hh
    rw [if_pos hh]
    have h1:=(zn8 h).2
    refine⟨?_,?_⟩
    ·unfold partsS
     exact zq19 _ (fun x hx hp=>(ih x).2 hp) h
    ·unfold okS
     obtain⟨h3,h4⟩:=head_of hh
     rw [h3,Bool.and_true]
     refine List.all_eq_true.2 fun x hx=>?_
     rw [((ih x).1.1 (h1 x hx)).2,Bool.true_and]
     exact List.all_eq_true.1 h4 x hx
   ·omega
  refine⟨⟨fun h=>⟨by rw [(key h).1];exact h,(key h).2⟩,fun ⟨h1,h2⟩=>?_⟩,fun h=>(key h).1⟩
  unfold okS at h2
  rw [Bool.and_eq_true] at h2
  have hall:=List.all_eq_true.1 h2.1
  have hh:headI e=true:=headI_of h2.2 (List.all_eq_true.2 fun x hx=>(Bool.and_eq_true_iff.1 (hall x hx)).2)
  unfold partsI
  rw [if_pos hh]
  unfold partsS at h1
  have h3:=(zt10 h1).2
  rw [sum_same' (h:=partsS f) _ (fun x hx hp=>?_) h1]
  ·exact h1
  ·exact ((ih x).2 ((ih x).1.2 ⟨hp,(Bool.and_eq_true_iff.1 (hall x hx)).1⟩)).symm
theorem zi21 (e:E):rexOkI e=rexOkS e:=by
 unfold rexOkI rexOkS
 have h:=(zr19 6 e).1
 by_cases h1:partsI 6 e≤60
 ·have:=h.1 h1
  simp [h1,this]
 ·have h2:¬(partsS 6 e≤60∧okS 6 e=true):=fun q=>h1 (h.2 q)
  simp only [h1,decide_false]
  by_cases h3:partsS 6 e≤60
  ·have:okS 6 e=false:=by simpa using fun q=>h2 ⟨h3,q⟩
   simp [this]
  ·simp [h3]
structure PS where
 a:Nat
 d:Nat
 b:Bool
def untB (s:ByteArray)(c:Nat):Nat→Nat→Nat
 | 0,a=>a
 | f+1,a=>if a<s.size∧bAt s a≠c then untB s c f (a+1) else a
def oneOr (k:Int):List E→E
 | [x]=>x
 | l=>rexE k ByteArray.empty l
def oneB (c:Nat):ByteArray:=⟨#[UInt8.ofNat c]⟩
def PS.bad (p:PS):PS:=⟨p.a,p.d,true⟩
def PS.go (p:PS)(n:Nat):PS:=⟨p.a+n,p.d,p.b⟩
section
variable (s:ByteArray)
def atomIc (alt:PS→E×PS)(c:Nat)(q:PS):E×PS :=
 if litB c then (rexE 1 (oneB c) [],q)
 else if c=46 then (rexE 2 ByteArray.empty [],q)
 else if c=94 then (rexE 10 ByteArray.empty [],q)
 else if c=36 then (rexE 11 ByteArray.empty [],q)
 else if c=91 then
  let e:=untB s 93 s.size q.a
  if e<s.size then (rexE 3 (cutB s q.a e) [],⟨e+1,q.d,q.b⟩) else (zeroR,q.bad)
 else if c=40 then
  if bAt s q.a=41 then (rexE 9 ByteArray.empty [],q.go 1)
  else
   let r:=alt q
   if bAt s r.2.a=41 then (r.1,r.2.go 1) else (zeroR,r.2.bad)
 else (zeroR,q.bad)
def atomI (alt:PS→E×PS)(p:PS):E×PS:=atomIc s alt (bAt s p.a) (p.go 1)
def itemI (atom:PS→E×PS)(p:PS):E×PS :=
 let r:=atom p
 if bAt s r.2.a=42 then (rexE 6 ByteArray.empty [r.1],r.2.go 1)
 else if bAt s r.2.a=43 then (rexE 7 ByteArray.empty [r.1],r.2.go 1)
 else if bAt s r.2.a=63 then (rexE 8 ByteArray.empty [r.1],r.2.go 1)
 else r
def goI (p:PS):Bool:=!p.b&&!(bAt s p.a==0)&&!(bAt s p.a==124)&&!(bAt s p.a==41)
def catLoopI (item:PS→E×PS):Nat→List E→PS→List E×PS
 | 0,l,p=>(l,p)
 | n+1,l,p=>if goI s p then catLoopI item n (l++[(item p).1]) (item p).2 else (l,p)
def catI (item:PS→E×PS)(p:PS):E×PS :=
 let r:=catLoopI s item (s.size+2) [] p
 if r.1.length=0 then (zeroR,r.2.bad) else (oneOr 4 r.1,r.2)
def barI (p:PS):Bool:=!p.b&&bAt s p.a==124
def altLoopI (cat:PS→E×PS):Nat→List E→PS→List E×PS
 | 0,l,p=>(l,p)
 | n+1,l,p=>if barI s p then altLoopI cat n (l++[(cat (p.go 1)).1]) (cat (p.go 1)).2 else (l,p)
def altB (cat:PS→E×PS)(p:PS):E×PS :=
 let r:=cat ⟨p.a,p.d+1,p.b||decide (40<p.d+1)⟩
 let q:=altLoopI s cat (s.size+1) [r.1] r.2
 (oneOr 5 q.1,⟨q.2.a,q.2.d-1,q.2.b⟩)
def altI:Nat→PS→E×PS
 | 0,p=>(zeroR,p.bad)
 | f+1,p=>altB s (catI s (itemI s (atomI s (altI f)))) p
def isB (c:Nat)(p:PS):Bool:=!p.b&&decide (p.a<s.size)&&bAt s p.a==c
def groupS (alt:PS→E×PS)(p:PS):E×PS :=
 if isB s 41 p then (rexE 9 ByteArray.empty [],p.go 1)
 else if 8<p.d+1 then (zeroR,⟨p.a,p.d+1,true⟩)
 else
  let r:=alt ⟨p.a,p.d+1,p.b⟩
  let q:PS:=⟨r.2.a,r.2.d-1,r.2.b⟩
  if isB s 41 q then (r.1,q.go 1) else (zeroR,q.bad)
def atomSc (alt:PS→E×PS)(c:Nat)(q:PS):E×PS :=
 if c=46 then (rexE 2 ByteArray.empty [],q)
 else if c=94 then (rexE 10 ByteArray.empty [],q)
 else if c=36 then (rexE 11 ByteArray.empty [],q)
 else if c=40 then groupS s alt q
 else if litB c then (rexE 1 (oneB c) [],q)
 else if c≠91 then (zeroR,q.bad)
 else
  let e:=untB s 93 s.size q.a
  let t:PS:=⟨e,q.d,q.b⟩
  if isB s 93 t then (rexE 3 (cutB s q.a e) [],t.go 1) else (zeroR,t.bad)
def atomS (alt:PS→E×PS)(p:PS):E×PS:=if p.b=true∨s.size≤p.a then (zeroR,p.bad) else atomSc s alt (bAt s p.a) (p.go 1)
def itemS (atom:PS→E×PS)(p:PS):E×PS :=
 let r:=atom p
 if isB s 42 r.2 then (rexE 6 ByteArray.empty [r.1],r.2.go 1)
 else if isB s 43 r.2 then (rexE 7 ByteArray.empty [r.1],r.2.go 1)
 else if isB s 63 r.2 then (rexE 8 ByteArray.empty [r.1],r.2.go 1)
 else r
def goS (p:PS):Bool:=!p.b&&decide (p.a<s.size)&&!(bAt s p.a==124)&&!(bAt s p.a==41)
def catLoopS (item:PS→E×PS):Nat→List E→PS→List E×PS
 | 0,l,p=>(l,p)
 | n+1,l,p=>if goS s p then catLoopS item n (l++[(item p).1]) (item p).2 else (l,p)
def catS (item:PS→E×PS)(p:PS):E×PS :=
 let q:=catLoopS s item (s.size+1) [(item p).1] (item p).2
 (oneOr 4 q.1,q.2)
def altLoopS (cat:PS→E×PS):Nat→List E→PS→List E×PS
 | 0,l,p=>(l,p)
 | n+1,l,p=>if isB s 124 p then altLoopS cat n (l++[(cat (p.go 1)).1]) (cat (p.go 1)).2 else (l,p)
def altC (cat:PS→E×PS)(p:PS):E×PS :=
 let q:=altLoopS s cat (s.size+1) [(cat p).1] (cat p).2
 (oneOr 5 q.1,q.2)
def altS:Nat→PS→E×PS
 | 0,p=>(zeroR,p.bad)
 | f+1,p=>altC s (catS s (itemS s (atomS s (altS f)))) p
end
def PS.up (p:PS):PS:=⟨p.a,p.d+1,p.b⟩
theorem zo8 {s:ByteArray}{j:Nat}(h:s.size≤j):bAt s j=0:=by
 unfold bAt
 have:s.data.size≤j:=h
 rw [Array.getElem?_eq_none this]
 rfl
theorem zq3 {s:ByteArray}{j:Nat}(h:bAt s j≠0):j<s.size:=by
 rcases Nat.lt_or_ge j s.size with h1|h1
 ·exact h1
 ·exact absurd (zo8 h1) h
def Same (f g:PS→E×PS)(p:PS):Prop:=p.b=false→(f p).2.b=false→g p.up=((f p).1,(f p).2.up)∧(f p).2.d=p.d
theorem zu10 {s:ByteArray}{c:Nat}{p:PS}(hc:c≠0)(hp:p.b=false):isB s c p=(bAt s p.a==c):=by
 unfold isB
 rw [hp]
 by_cases h:p.a<s.size
 ·simp [h]
 ·rw [zo8 (by omega)]
  simp [h]
  exact fun e=>hc e.symm
theorem lit_ne {c:Nat}(h:litB c=true):c≠46∧c≠94∧c≠36∧c≠40∧c≠91:=by
 refine⟨?_,?_,?_,?_,?_⟩<;>(rintro rfl;cases h)
section
variable {s:ByteArray}{alt:PS→E×PS}{c:Nat}{q:PS}
theorem zp8 (h:litB c=true):atomSc s alt c q=(rexE 1 (oneB c) [],q):=by
 obtain⟨h1,h2,h3,h4,h5⟩:=lit_ne h
 unfold atomSc
 rw [if_neg h1,if_neg h2,if_neg h3,if_neg h4,if_pos h]
theorem zj21 (h:litB c=true):atomIc s alt c q=(rexE 1 (oneB c) [],q):=by
 unfold atomIc
 rw [if_pos h]
theorem zo12:atomSc s alt 91 q=if isB s 93 ⟨untB s 93 s.size q.a,q.d,q.b⟩ then (rexE 3 (cutB s q.a (untB s 93 s.size q.a)) [],⟨untB s 93 s.size q.a+1,q.d,q.b⟩) else (zeroR,⟨untB s 93 s.size q.a,q.d,true⟩):=rfl
theorem zk21:atomIc s alt 91 q=if untB s 93 s.size q.a<s.size then (rexE 3 (cutB s q.a (untB s 93 s.size q.a)) [],⟨untB s 93 s.size q.a+1,q.d,q.b⟩) else (zeroR,q.bad):=rfl
theorem zq8:atomIc s alt 40 q=if bAt s q.a=41 then (rexE 9 ByteArray.empty [],q.go 1) else if bAt s (alt q).2.a=41 then ((alt q).1,(alt q).2.go 1) else (zeroR,(alt q).2.bad):=rfl
theorem zl15 (h:litB c=false)(h1:c≠46)(h2:c≠94)(h3:c≠36)(h4:c≠40)(h5:c≠91):atomSc s alt c q=(zeroR,q.bad):=by
 unfold atomSc
 rw [if_neg h1,if_neg h2,if_neg h3,if_neg h4,if_neg (by rw [h];decide),if_pos h5]
end
theorem zl21 {s:ByteArray}{alt alt':PS→E×PS}(ha:∀p,p.b=false→p.d≤8→(alt p).2.b=false→alt' p=alt p∧(alt p).2.d=p.d)(p:PS)(_hd:p.d≤8):Same (atomS s alt) (atomI s alt') p:=by
 intro hp h
 obtain⟨a,d,b⟩:=p
 simp only at hp
 subst hp
 have e0:atomI s alt' (PS.up ⟨a,d,false⟩)=atomIc s alt' (bAt s a) ⟨a+1,d+1,false⟩:=rfl
 rw [e0]
 clear e0
 have e1:atomS s alt ⟨a,d,false⟩=if s.size≤a then (zeroR,⟨a,d,true⟩) else atomSc s alt (bAt s a) ⟨a+1,d,false⟩:=by
  unfold atomS
  simp only [Bool.false_eq_true,false_or]
  rfl
 rw [e1] at h ⊢
 clear e1
 by_cases h1:s.size≤a
 ·rw [if_pos h1] at h;cases h
 rw [if_neg h1] at h ⊢
 generalize hc:bAt s a=c at h ⊢
 by_cases c1:c=46
 ·subst c1;exact⟨rfl,rfl⟩
 by_cases c2:c=94
 ·subst c2;exact⟨rfl,rfl⟩
 by_cases c3:c=36
 ·subst c3;exact⟨rfl,rfl⟩
 by_cases c4:c=40
 ·subst c4
  have e2:atomSc s alt 40 ⟨a+1,d,false⟩=groupS s alt ⟨a+1,d,false⟩:=rfl
  rw [e2] at h ⊢
  rw [zq8]
  clear e2
  have e3:groupS s alt ⟨a+1,d,false⟩=if (bAt s (a+1)==41)=true then (rexE 9 ByteArray.empty [],⟨a+1+1,d,false⟩) else if 8<d+1 then (zeroR,⟨a+1,d+1,true⟩) else if isB s 41 ⟨(alt ⟨a+1,d+1,false⟩).2.a,(alt ⟨a+1,d+1,false⟩).2.d-1,(alt ⟨a+1,d+1,false⟩).2.b⟩ then ((alt ⟨a+1,d+1,false⟩).1,⟨(alt ⟨a+1,d+1,false⟩).2.a+1,(alt ⟨a+1,d+1,false⟩).2.d-1,(alt ⟨a+1,d+1,false⟩).2.b⟩) else (zeroR,⟨(alt ⟨a+1,d+1,false⟩).2.a,(alt ⟨a+1,d+1,false⟩).2.d-1,true⟩):=by
   rw [←zu10 (p:=⟨a+1,d,false⟩) (by decide) rfl]
   rfl
  rw [e3] at h ⊢
  clear e3
  by_cases c5:bAt s (a+1)=41
  ·rw [if_pos c5,if_pos (by simpa using c5)]
   exact⟨rfl,rfl⟩
  have c5b:¬(bAt s (a+1)==41)=true:=by simpa using c5
  rw [if_neg c5b] at h ⊢
  rw [if_neg c5]
  by_cases c6:8<d+1
  ·rw [if_pos c6] at h;cases h
  rw [if_neg c6] at h ⊢
  by_cases c7:(alt ⟨a+1,d+1,false⟩).2.b=true
  ·have:isB s 41 ⟨(alt ⟨a+1,d+1,false⟩).2.a,(alt ⟨a+1,d+1,false⟩).2.d-1,(alt ⟨a+1,d+1,false⟩).2.b⟩=false:=by unfold isB;rw [c7];rfl
   rw [this] at h
   cases h
  have c7':(alt ⟨a+1,d+1,false⟩).2.b=false:=by simpa using c7
  obtain⟨e1,e2⟩:=ha ⟨a+1,d+1,false⟩ rfl (by show d+1≤8;omega) c7'
  rw [e1]
  generalize alt ⟨a+1,d+1,false⟩=R at *
  obtain⟨r1,ra,rd,rb⟩:=R
  simp only at c7' e2
  subst c7' e2
  have e4:isB s 41 ⟨ra,d+1-1,false⟩=(bAt s ra==41):=zu10 (by decide) rfl
  show (if bAt s ra=41 then _ else _)=_∧_
  change (if isB s 41 ⟨ra,d+1-1,false⟩=true then (r1,(⟨ra+1,d+1-1,false⟩:PS)) else (zeroR,⟨ra,d+1-1,true⟩)).2.b=false at h
  rw [e4] at h
  by_cases c8:bAt s ra=41
  ·rw [if_pos c8]
   have:(if isB s 41 ⟨ra,d+1-1,false⟩=true then (r1,(⟨ra+1,d+1-1,false⟩:PS)) else (zeroR,⟨ra,d+1-1,true⟩))=(r1,⟨ra+1,d+1-1,false⟩):=by rw [e4,if_pos (by simpa using c8)]
   simp only [this]
   exact⟨rfl,rfl⟩
  ·rw [if_neg (by simpa using c8)] at h
   cases h
 by_cases c5:litB c=true
 ·rw [zp8 c5] at h ⊢
  rw [zj21 c5]
  exact⟨rfl,rfl⟩
 by_cases c6:c=91
 ·subst c6
  rw [zo12] at h ⊢
  rw [zk21]
  by_cases c7:untB s 93 s.size (a+1)<s.size∧bAt s (untB s 93 s.size (a+1))=93
  ·have:isB s 93 ⟨untB s 93 s.size (a+1),d,false⟩=true:=by unfold isB;simp [c7.1,c7.2]
   rw [if_pos c7.1]
   simp only [this,if_true]
   exact⟨rfl,trivial⟩
  ·have:isB s 93 ⟨untB s 93 s.size (a+1),d,false⟩=false:=by unfold isB;simpa using c7
   simp only [this] at h
   cases h
 ·rw [zl15 (by simpa using c5) c1 c2 c3 c4 c6] at h
  cases h
theorem item_same {s:ByteArray}{f g:PS→E×PS}{p:PS}(h:Same f g p):Same (itemS s f) (itemI s g) p:=by
 intro hp hb
 unfold itemS at hb ⊢
 unfold itemI
 by_cases c7:(f p).2.b=true
 ·have hn:∀c,isB s c (f p).2=false:=fun c=>by unfold isB;rw [c7];rfl
  simp only [hn,Bool.false_eq_true,if_false] at hb
  rw [c7] at hb;cases hb
 have c7':(f p).2.b=false:=by simpa using c7
 obtain⟨e1,e2⟩:=h hp c7'
 rw [e1]
 simp only [PS.up,PS.go]
 rw [zu10 (by decide) c7',zu10 (by decide) c7',zu10 (by decide) c7']
 by_cases k1:bAt s (f p).2.a=42
 ·simp [k1,e2]
 by_cases k2:bAt s (f p).2.a=43
 ·simp [k2,e2]
 by_cases k3:bAt s (f p).2.a=63
 ·simp [k3,e2]
 simp [k1,k2,k3,e2]
theorem ze9 {s:ByteArray}{f:PS→E×PS}{p:PS}(h:p.b=true):∀(n:Nat) (l:List E),catLoopS s f n l p=(l,p)
 | 0,l=>rfl
 | n+1,l=>by
  unfold catLoopS
  have:goS s p=false:=by unfold goS;rw [h];rfl
  rw [this];rfl
theorem zf9 {s:ByteArray}{f:PS→E×PS}{p:PS}(h:p.b=true):∀(n:Nat) (l:List E),altLoopS s f n l p=(l,p)
 | 0,l=>rfl
 | n+1,l=>by
  unfold altLoopS
  have:isB s 124 p=false:=by unfold isB;rw [h];rfl
  rw [this];rfl
def Picky (s:ByteArray)(f:PS→E×PS):Prop:=∀p,p.b=false→(bAt s p.a=0∨bAt s p.a=124∨bAt s p.a=41)→(f p).2.b=true
theorem zm21 {s:ByteArray}(alt:PS→E×PS):Picky s (atomS s alt):=by
 intro p hp hc
 unfold atomS
 split
 ·rfl
 unfold atomSc
 have hl:∀c,c=0∨c=124∨c=41→litB c=false∧c≠46∧c≠94∧c≠36∧c≠40∧c≠91:=by
  rintro c (rfl|rfl|rfl)<;>decide
 obtain⟨h0,h1,h2,h3,h4,h5⟩:=hl _ hc
 simp only [h0,h1,h2,h3,h4,h5,if_false,Bool.false_eq_true,ne_eq,not_false_eq_true,if_true,PS.bad]
theorem zn21 {s:ByteArray}{f:PS→E×PS}(h:Picky s f):Picky s (itemS s f):=by
 intro p hp hc
 have hb:=h p hp hc
 have hn:∀c,isB s c (f p).2=false:=fun c=>by unfold isB;rw [hb];rfl
 unfold itemS
 simp only [hn,Bool.false_eq_true,if_false]
 exact hb
theorem zg9 {s:ByteArray}{f g:PS→E×PS}(D:Nat)(h:∀p,p.d=D→Same f g p)(hk:Picky s f):∀(n:Nat) (l:List E) (p:PS),p.d=D→p.b=false→(catLoopS s f n l p).2.b=false →
 catLoopI s g n l p.up=((catLoopS s f n l p).1,(catLoopS s f n l p).2.up)∧(catLoopS s f n l p).2.d=D
 | 0,l,p,hd,hp,hb=>⟨rfl,hd⟩
 | n+1,l,p,hd,hp,hb=>by
  unfold catLoopS at hb ⊢
  unfold catLoopI
  by_cases hg:goS s p=true
  ·rw [if_pos hg] at hb ⊢
   have hfb:(f p).2.b=false:=by
    rw [Bool.eq_false_iff]
    intro hc
    rw [ze9 hc] at hb
    rw [hc] at hb;cases hb
   have hne:bAt s p.a≠0:=fun h0=>by rw [hk p hp (.inl h0)] at hfb;cases hfb
   obtain⟨e1,e2⟩:=h p hd hp hfb
   have hg':goI s p.up=true:=by
    unfold goS at hg
    unfold goI
    simp only [PS.up]
    rw [Bool.and_eq_true,Bool.and_eq_true,Bool.and_eq_true] at hg
    rw [hg.1.1.1,hg.1.2,hg.2]
    simpa using hne
   rw [if_pos hg',e1]
   exact zg9 D h hk n _ _ (e2.trans hd) hfb hb
  ·rw [if_neg hg] at hb ⊢
   have hg':goI s p.up=false:=by
    rw [Bool.eq_false_iff]
    intro hc
    refine hg ?_
    unfold goI at hc
    simp only [PS.up] at hc
    unfold goS
    rw [Bool.and_eq_true,Bool.and_eq_true,Bool.and_eq_true] at hc
    have hlt:p.a<s.size:=zq3 (by simpa using hc.1.1.2)
    rw [hc.1.1.1,hc.1.2,hc.2]
    simp [hlt]
   rw [hg']
   exact⟨rfl,hd⟩
theorem zv10 {s:ByteArray}{f:PS→E×PS}:∀(n:Nat) (l:List E) (p:PS),l.length≤(catLoopI s f n l p).1.length
 | 0,l,p=>Nat.le_refl _
 | n+1,l,p=>by
  unfold catLoopI
  split
  ·exact Nat.le_trans (by simp) (zv10 n _ _)
  ·exact Nat.le_refl _
theorem cat_same {s:ByteArray}{f g:PS→E×PS}(D:Nat)(h:∀p,p.d=D→Same f g p)(hk:Picky s f)(p:PS)(hd:p.d=D):Same (catS s f) (catI s g) p:=by
 intro hp hb
 unfold catS at hb ⊢
 unfold catI
 have hfb:(f p).2.b=false:=by
  rw [Bool.eq_false_iff]
  intro hc
  simp only [ze9 hc] at hb
  rw [hc] at hb;cases hb
 have hne:¬(bAt s p.a=0∨bAt s p.a=124∨bAt s p.a=41):=fun h0=>by rw [hk p hp h0] at hfb;cases hfb
 obtain⟨e1,e2⟩:=h p hd hp hfb
 have hg':goI s p.up=true:=by
  unfold goI
  simp only [PS.up,hp]
  simp only [not_or] at hne
  simp [hne]
 have e3:catLoopI s g (s.size+2) [] p.up=catLoopI s g (s.size+1) [(f p).1] (f p).2.up:=by
  conv=>lhs;unfold catLoopI
  rw [if_pos hg',e1]
  rfl
 obtain⟨e5,e6⟩:=zg9 D h hk (s.size+1) [(f p).1] (f p).2 (e2.trans hd) hfb hb
 simp only
 rw [e3,e5]
 have hl:¬(catLoopS s f (s.size+1) [(f p).1] (f p).2).1.length=0:=by
  have:=zv10 (s:=s) (f:=g) (s.size+1) [(f p).1] (f p).2.up
  rw [e5] at this
  simp only [List.length_cons,List.length_nil] at this
  omega
 rw [if_neg hl]
 exact⟨rfl,e6.trans hd.symm⟩
theorem zh9 {s:ByteArray}{f g:PS→E×PS}(D:Nat)(h:∀p,p.d=D→Same f g p):∀(n:Nat) (l:List E) (p:PS),p.d=D→p.b=false→(altLoopS s f n l p).2.b=false →
 altLoopI s g n l p.up=((altLoopS s f n l p).1,(altLoopS s f n l p).2.up)∧(altLoopS s f n l p).2.d=D
 | 0,l,p,hd,hp,hb=>⟨rfl,hd⟩
 | n+1,l,p,hd,hp,hb=>by
  unfold altLoopS at hb ⊢
  unfold altLoopI
  have hi:barI s p.up=isB s 124 p:=by
   rw [zu10 (by decide) hp]
   unfold barI
   simp only [PS.up,hp,Bool.not_false,Bool.true_and]
  rw [hi]
  by_cases hg:isB s 124 p=true
  ·rw [if_pos hg] at hb ⊢
   rw [if_pos hg]
   have hfb:(f (p.go 1)).2.b=false:=by
    rw [Bool.eq_false_iff]
    intro hc
    rw [zf9 hc] at hb
    rw [hc] at hb;cases hb
   obtain⟨e1,e2⟩:=h (p.go 1) hd hp hfb
   have e3:p.up.go 1=(p.go 1).up:=rfl
   rw [e3,e1]
   exact zh9 D h n _ _ (e2.trans hd) hfb hb
  ·rw [if_neg hg] at hb ⊢
   rw [if_neg hg]
   exact⟨rfl,hd⟩
theorem zs19 {s:ByteArray}(f:Nat):∀p:PS,p.b=false→p.d≤8→(altS s f p).2.b=false→altI s f p=altS s f p∧(altS s f p).2.d=p.d:=by
 induction f with
 | zero=>intro p hp hd h;cases h
 | succ f ih =>
  intro p hp hd h
  have hA:∀q:PS,q.d=p.d→Same (catS s (itemS s (atomS s (altS s f)))) (catI s (itemI s (atomI s (altI s f)))) q:=fun q hq =>
   cat_same q.d (fun r hr=>item_same (zl21 (fun t ht htd hb=>ih t ht htd hb) r (by omega))) (zn21 (zm21 _)) q rfl
  unfold altS altC at h ⊢
  unfold altI altB
  have hfb:(catS s (itemS s (atomS s (altS s f))) p).2.b=false:=by
   rw [Bool.eq_false_iff]
   intro hc
   simp only [zf9 hc] at h
   rw [hc] at h;cases h
  obtain⟨e1,e2⟩:=hA p rfl hp hfb
  have e3:(⟨p.a,p.d+1,p.b||decide (40<p.d+1)⟩:PS)=p.up:=by
   unfold PS.up
   rw [decide_eq_false (by omega),Bool.or_false]
  simp only [e3,e1]
  obtain⟨e5,e6⟩:=zh9 p.d hA (s.size+1) [(catS s (itemS s (atomS s (altS s f))) p).1] _ e2 hfb h
  rw [e5]
  refine⟨?_,e6⟩
  simp only [PS.up,Nat.add_sub_cancel]
end Go.Proofs.YtnjfnhoipnbpeaaGreatDoor
