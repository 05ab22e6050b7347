/- T -/
import Derived.MapKept
import Derived.Test.YtomolhbkdhjofaaGreatDoorExRZ
set_option maxHeartbeats 0
set_option maxRecDepth 100000
namespace Go.Proofs.YtomolhbkdhjofaaGreatDoor
open Go.RowKit Go.Proofs.Tryz
inductive FnX:E→Prop
 | mk (k n:Int) (s:ByteArray) (l:List E) (hk:0≤k∧k≤18) (hn:0≤n∧n≤2147483647) (hs:s.size≤200) (hl:∀y∈l,FnX y):FnX (xE k n s l)
theorem fB (k n:Int)(s:ByteArray)(l:List E):(xE k n s l).sz=s.size+(l.length+E.szL l):=by
 unfold xE
 simp only [E.sz,E.szL]
 omega
theorem oK (x:E):E.szL [x]=x.sz:=by simp only [E.szL];omega
theorem szL_2 (x y:E):E.szL [x,y]=x.sz+y.sz:=by simp only [E.szL];omega
theorem FnX.zero:FnX zE:=.mk 0 0 ByteArray.empty [] omq omq (by decide) (fun _ h=>absurd h List.not_mem_nil)
theorem FnX.one {k:Int}{s:ByteArray}{x:E}(hk:0≤k∧k≤18)(hs:s.size≤200)(hx:FnX x):FnX (xE k 0 s [x]):=.mk k 0 s [x] hk omq hs fun y hy=>by obtain rfl:=List.mem_singleton.1 hy;exact hx
theorem FnX.two {k:Int}{s:ByteArray}{x y:E}(hk:0≤k∧k≤18)(hs:s.size≤200)(hx:FnX x)(hy:FnX y):FnX (xE k 0 s [x,y]):=.mk k 0 s [x,y] hk omq hs fun z hz=>by
 rcases List.mem_cons.1 hz with rfl|hz
 ·exact hx
 ·obtain rfl:=List.mem_singleton.1 hz;exact hy
theorem FnX.none_ {k n:Int}{s:ByteArray}(hk:0≤k∧k≤18)(hn:0≤n∧n≤2147483647)(hs:s.size≤200):FnX (xE k n s []):=.mk k n s [] hk hn hs (fun _ h=>absurd h List.not_mem_nil)
theorem FnX.ty {e:E}(h:FnX e):e.Ty prog 26∧e.enc.length=4:=by
 induction h with
 | mk k n s l hk hn hs hl ih =>
  refine⟨?_,rfl⟩
  unfold xE
  refine E.Ty.mk_agg underlying26 (E.TyF.mk_cons ?_ (E.TyF.mk_cons ?_ (E.TyF.mk_cons (by simp only [E.Ty];exact⟨underlying9,by unfold maxLen;omega⟩) (E.TyF.mk_cons (E.Ty.mk_lst underlying24 krq (fun y hy=>(ih y hy).1) (fun y hy=>(ih y hy).2)) E.TyF.mk_nil))))
  ·simp only [E.Ty];exact⟨underlying3,nM omq omq⟩
  ·simp only [E.Ty];exact⟨underlying3,nM omq omq⟩
section
variable {L:List T3}
theorem tc (hL:okL L)(a:Nat):(tAt L a).2.2.size≤200∧0≤(tAt L a).2.1∧(tAt L a).2.1≤2147483647∧0≤(tAt L a).1∧(tAt L a).1≤5:=by
 by_cases h:a<L.length
 ·have:=ta (sX hL h)
  omega
 ·have e:tAt L a=(0,0,ByteArray.empty):=by
   unfold tAt
   rw [List.getD_eq_getElem?_getD,List.getElem?_eq_none omq];rfl
  rw [e]
  refine⟨?_,?_,?_,?_,?_⟩<;>decide
theorem rq {a:Nat}(h:(tAt L a).1≠0):a<L.length:=Classical.byContradiction fun q=>h (by
 unfold tAt
 rw [List.getD_eq_getElem?_getD,List.getElem?_eq_none omq];rfl)
theorem ed (b:Bool):b.toNat≤1:=by cases b<;>decide
theorem mK {r:RI}{j:Nat}{s:ByteArray}(h:isI L r j s=true):r.a+j<L.length:=rq (L:=L) (a:=r.a+j) fun h0=>by
 unfold isI at h
 rw [h0] at h
 revert h
 simp
theorem oV (L:List T3)(r:RI)(s:ByteArray):(waI L r s).a=r.a+1∧((waI L r s).b.toNat=0→r.b.toNat=0∧r.a<L.length):=by
 refine⟨rfl,fun h=>?_⟩
 unfold waI at h
 cases hb:r.b with
 | true=>rw [hb] at h;simp at h
 | false =>
  rw [hb] at h
  cases hi:isI L r 0 s with
  | true=>exact⟨rfl,mK hi⟩
  | false=>rw [hi] at h;simp at h
theorem ta_f (hL:okL L)(r:RI){k:Int}(hk:k≠0):(taI L r k).2.a=r.a+1∧((taI L r k).2.b.toNat=0→r.b.toNat=0∧r.a<L.length)∧(taI L r k).1.2.2.size≤200:=by
 refine⟨rfl,fun h=>?_,(tc hL r.a).1⟩
 unfold taI at h
 cases hb:r.b with
 | true=>rw [hb] at h;simp at h
 | false =>
  rw [hb] at h
  by_cases h1:(tAt L r.a).1=k
  ·exact⟨rfl,rq (by rw [h1];exact hk)⟩
  ·simp [h1] at h
structure PI (L:List T3)(f:Nat)(r:RI)(e:E)(r':RI):Prop where
 fine:FnX e
 n:r.a≤r'.a∧r'.a≤max r.a L.length+6*f∧(r'.b.toNat=0→r'.a≤L.length∧r.b.toNat=0∧e.sz+1≤250*(r'.a-r.a))∧(r.b.toNat=1→r'.a=r.a∧r'.b.toNat=1)
def TI (L:List T3)(r:RI):Prop:=r.b.toNat=0→r.a≤L.length
def GI (L:List T3)(f:Nat)(g:RI→E×RI):Prop:=∀r,TI L r→PI L f r (g r).1 (g r).2
variable {g:RI→E×RI}{f:Nat}
structure PL (L:List T3)(f:Nat)(r:RI)(l l':List E)(r':RI):Prop where
 fine:∀y∈l',FnX y
 n:r.a≤r'.a∧r'.a≤max r.a L.length+6*f+1∧(r'.b.toNat=0→r'.a≤L.length∧r.b.toNat=0∧E.szL l'+l'.length≤E.szL l+l.length+250*(r'.a-r.a))∧(r.b.toNat=1→r'.a=r.a∧r'.b.toNat=1)
theorem ls_PL (hg:GI L f g)(en:ByteArray):∀(n:Nat) (l:List E) (r:RI),TI L r→(∀y∈l,FnX y)→PL L f r l (lsI L g en n l r).1 (lsI L g en n l r).2
 | 0,l,r,ht,hl=>⟨hl,by unfold TI at ht;have:=ed r.b;show r.a≤r.a∧_;unfold lsI;dsimp only;omega⟩
 | n+1,l,r,ht,hl=>by
  unfold lsI
  by_cases hc:r.b=true∨isI L r 0 en=true
  ·rw [if_pos hc]
   exact⟨hl,by unfold TI at ht;have:=ed r.b;dsimp only;omega⟩
  ·rw [if_neg hc]
   have hb:r.b.toNat=0:=by
    have:r.b=false:=by cases h:r.b with
     | false=>rfl
     | true=>exact absurd (.inl h) hc
    rw [this];rfl
   obtain⟨q,hq⟩:∃q,q=(if l=[] then r else waI L r ⟨#[44]⟩):=⟨_,rfl⟩
   rw [←hq]
   have hra:=ht hb
   have hqf:(q.a=r.a∧q.b.toNat=0)∨(q.a=r.a+1∧(q.b.toNat=0→r.a<L.length)):=by
    by_cases h0:l=[]
    ·rw [if_pos h0] at hq;subst hq;exact .inl ⟨rfl,hb⟩
    ·rw [if_neg h0] at hq;subst hq
     have:=oV L r ⟨#[44]⟩
     exact .inr ⟨this.1,fun h=>(this.2 h).2⟩
   have hG:=hg q (fun h=>by omega)
   have hT2:TI L (g q).2:=fun h=>(hG.n.2.2.1 h).1
   have ih:=ls_PL hg en n (l++[(g q).1]) (g q).2 hT2 (fun y hy=>by
    rcases List.mem_append.1 hy with hy|hy
    ·exact hl y hy
    ·obtain rfl:=List.mem_singleton.1 hy;exact hG.fine)
   refine⟨ih.fine,?_⟩
   have h1:=ih.n
   have h2:=hG.n
   rw [gx,lla,List.length_singleton] at h1
   have:=ed q.b;have:=ed (g q).2.b;have:=ed (lsI L g en n (l++[(g q).1]) (g q).2).2.b
   omega
theorem zp8 (hg:GI L f g)(en:ByteArray)(r:RI)(ht:TI L r):(∀y∈(oU L g en r).1,FnX y)∧(r.a+1≤(oU L g en r).2.a∧(oU L g en r).2.a≤max r.a L.length+6*f+2∧((oU L g en r).2.b.toNat=0→(oU L g en r).2.a≤L.length∧r.b.toNat=0∧E.szL (oU L g en r).1+(oU L g en r).1.length≤250*((oU L g en r).2.a-r.a-1))):=by
 have h:=ls_PL hg en (L.length+2) [] r ht (fun _ h=>absurd h List.not_mem_nil)
 have h1:=h.n
 have hw:=oV L (lsI L g en (L.length+2) [] r).2 en
 unfold oU
 dsimp only
 refine⟨h.fine,?_⟩
 simp only [E.szL,List.length_nil] at h1
 omega
theorem pW (hg:GI L f g){k:Int}(hk:0≤k∧k≤18){s:ByteArray}(hs:s.size≤200){r:RI}(hb:r.b.toNat=0)(hr:r.a<L.length):PI L (f+1) r (lD L g k s r).1 (lD L g k s r).2:=by
 have hw:=oV L r.up ⟨#[40]⟩
 have hu:r.up.a=r.a+1∧r.up.b.toNat=r.b.toNat:=⟨rfl,rfl⟩
 have h:=zp8 hg ⟨#[41]⟩ (waI L r.up ⟨#[40]⟩) (fun h=>by have:=hw.2 h;omega)
 unfold lD
 refine⟨.mk _ _ _ _ hk omq hs h.1,?_⟩
 dsimp only
 rw [fB]
 have h2:=h.2
 omega
theorem zo6 (hL:okL L)(hg:GI L f g){r0:RI}(hb:r0.b.toNat=0)(hr:r0.a<L.length):PI L (f+1) r0 (pS L g r0.up).1 (pS L g r0.up).2:=by
 have hu:r0.up.a=r0.a+1∧r0.up.b.toNat=r0.b.toNat:=⟨rfl,rfl⟩
 unfold pS
 dsimp only
 have w1:=oV L r0.up ⟨#[40]⟩
 generalize waI L r0.up ⟨#[40]⟩=r1 at *
 have g1:=hg r1 (fun h=>by have:=w1.2 h;omega)
 have n1:=g1.n
 generalize g r1=x1 at *
 have w2:=oV L x1.2 ⟨#[126]⟩
 generalize waI L x1.2 ⟨#[126]⟩=r2 at *
 have t3:=ta_f hL r2 (k:=4) (by decide)
 generalize taI L r2 4=x3 at *
 have w4:=oV L x3.2 ⟨#[44]⟩
 generalize waI L x3.2 ⟨#[44]⟩=r4 at *
 have g5:=hg r4 (fun h=>by have:=w4.2 h;omega)
 have n5:=g5.n
 generalize g r4=x5 at *
 have w6:=oV L x5.2 ⟨#[41]⟩
 generalize waI L x5.2 ⟨#[41]⟩=r6 at *
 refine⟨.two omq t3.2.2 g1.fine g5.fine,?_⟩
 rw [fB,szL_2]
 simp only [List.length_cons,List.length_nil]
 have:=ed r1.b;have:=ed r2.b;have:=ed r4.b;have:=ed r6.b;have:=ed x1.2.b;have:=ed x3.2.b;have:=ed x5.2.b
 omega
theorem en_PI (hL:okL L)(hg:GI L f g){r0:RI}(hb:r0.b.toNat=0)(hr:r0.a<L.length):PI L (f+1) r0 (enI L g r0).1 (enI L g r0).2:=by
 unfold enI
 have w1:=oV L r0 ⟨#[40]⟩
 generalize waI L r0 ⟨#[40]⟩=r1 at *
 have g1:=hg r1 (fun h=>by have:=w1.2 h;omega)
 have n1:=g1.n
 generalize g r1=x1 at *
 have hu:x1.2.up.a=x1.2.a+1∧x1.2.up.b.toNat=x1.2.b.toNat:=⟨rfl,rfl⟩
 by_cases c1:isI L x1.2 0 ⟨#[105,110]⟩=true
 ·have i1:=mK c1
  rw [if_pos c1]
  dsimp only
  have t3:=ta_f hL x1.2.up (k:=2) (by decide)
  generalize taI L x1.2.up 2=x3 at *
  have w6:=oV L x3.2 ⟨#[41]⟩
  generalize waI L x3.2 ⟨#[41]⟩=r6 at *
  refine⟨.one omq t3.2.2 g1.fine,?_⟩
  rw [fB,oK]
  simp only [List.length_cons,List.length_nil]
  have:=ed r1.b;have:=ed r6.b;have:=ed x1.2.b;have:=ed x3.2.b
  omega
 ·rw [if_neg c1]
  by_cases c2:isI L x1.2 0 ⟨#[126]⟩=true
  ·have i1:=mK c2
   rw [if_pos c2]
   dsimp only
   have t3:=ta_f hL x1.2.up (k:=4) (by decide)
   generalize taI L x1.2.up 4=x3 at *
   have w6:=oV L x3.2 ⟨#[41]⟩
   generalize waI L x3.2 ⟨#[41]⟩=r6 at *
   refine⟨.one omq t3.2.2 g1.fine,?_⟩
   rw [fB,oK]
   simp only [List.length_cons,List.length_nil]
   have:=ed r1.b;have:=ed r6.b;have:=ed x1.2.b;have:=ed x3.2.b
   omega
  ·rw [if_neg c2]
   dsimp only
   have t3:=ta_f hL x1.2 (k:=5) (by decide)
   generalize taI L x1.2 5=x3 at *
   have g5:=hg x3.2 (fun h=>by have:=t3.2.1 h;omega)
   have n5:=g5.n
   generalize g x3.2=x5 at *
   have w6:=oV L x5.2 ⟨#[41]⟩
   generalize waI L x5.2 ⟨#[41]⟩=r6 at *
   refine⟨.two omq t3.2.2 g1.fine g5.fine,?_⟩
   rw [fB,szL_2]
   simp only [List.length_cons,List.length_nil]
   have:=ed r1.b;have:=ed r6.b;have:=ed x1.2.b;have:=ed x3.2.b;have:=ed x5.2.b
   omega
theorem at_PI (hg:GI L f g){s:ByteArray}(hs:s.size≤200){r:RI}(hb:r.b.toNat=0)(hr:r.a+1<L.length):PI L (f+1) r (xE 4 0 s [(g r.up.up).1]) (waI L (g r.up.up).2 ⟨#[93]⟩):=by
 have hu:r.up.up.a=r.a+2∧r.up.up.b.toNat=r.b.toNat:=⟨rfl,rfl⟩
 have g1:=hg r.up.up (fun h=>by omega)
 have n1:=g1.n
 generalize g r.up.up=x1 at *
 have w6:=oV L x1.2 ⟨#[93]⟩
 generalize waI L x1.2 ⟨#[93]⟩=r6 at *
 refine⟨.one omq hs g1.fine,?_⟩
 rw [fB,oK]
 simp only [List.length_cons,List.length_nil]
 have:=ed r6.b;have:=ed x1.2.b
 omega
theorem mL {k n:Int}(hk:0≤k∧k≤18)(hn:0≤n∧n≤2147483647){s:ByteArray}(hs:s.size≤200){r:RI}(hb:r.b.toNat=0)(hr:r.a<L.length):PI L (f+1) r (xE k n s []) r.up:=by
 have hu:r.up.a=r.a+1∧r.up.b.toNat=r.b.toNat:=⟨rfl,rfl⟩
 refine⟨.none_ hk hn hs,?_⟩
 rw [fB]
 simp only [List.length_nil,E.szL]
 omega
theorem x8 (hL:okL L)(hg:GI L f g){s:ByteArray}(hs:s.size≤200){r:RI}(hb:r.b.toNat=0)(hr:r.a<L.length):PI L (f+1) r (cU L g s r).1 (cU L g s r).2:=by
 unfold cU
 have he:ByteArray.empty.size≤200:=by decide
 split
 ·exact pW hg omq he hb hr
 split
 ·exact pW hg omq he hb hr
 split
 ·exact pW hg omq he hb hr
 split
 ·exact pW hg omq he hb hr
 split
 ·exact mL omq omq he hb hr
 split
 ·exact mL omq omq he hb hr
 split
 ·exact zo6 hL hg hb hr
 split
 ·exact pW hg omq hs hb hr
 split
 ·rename_i h
  exact at_PI hg hs hb (mK h)
 ·exact mL omq omq hs hb hr
theorem zrQ (s:ByteArray):0≤gS s∧gS s≤8:=by
 unfold gS
 split
 ·omega
 split
 ·omega
 split<;>omega
theorem pa_PI (hL:okL L)(hg:GI L f g){r:RI}(hb:r.b.toNat=0)(ht:TI L r):PI L (f+1) r (paI L g r).1 (paI L g r).2:=by
 have hz:=tc hL r.a
 have he:ByteArray.empty.size≤200:=by decide
 unfold paI
 split
 ·rename_i h
  exact mL omq ⟨hz.2.1,hz.2.2.1⟩ he hb (rq (by rw [h];decide))
 split
 ·rename_i h
  exact mL omq omq hz.1 hb (rq (by rw [h];decide))
 split
 ·rename_i h
  exact x8 hL hg hz.1 hb (rq (by rw [h];decide))
 split
 ·rename_i h
  exact en_PI hL hg hb (mK h)
 split
 ·rename_i h
  have hr:r.a<L.length:=rq (by rw [h.1];decide)
  have hu:r.up.a=r.a+1∧r.up.b.toNat=r.b.toNat:=⟨rfl,rfl⟩
  have g1:=hg r.up (fun h=>by omega)
  have n1:=g1.n
  have hk:=zrQ (tAt L r.a).2.2
  refine⟨.one omq he g1.fine,?_⟩
  dsimp only
  rw [fB,oK]
  simp only [List.length_cons,List.length_nil]
  have e0:ByteArray.empty.size=0:=rfl
  have:=ed (g r.up).2.b
  omega
 ·refine⟨.zero,?_⟩
  have h1:(⟨r.a,true⟩:RI).b.toNat=1:=rfl
  have h2:(⟨r.a,true⟩:RI).a=r.a:=rfl
  dsimp only at h1 h2 ⊢
  omega
theorem x9 (hL:okL L):∀f:Nat,GI L f (exI L f)
 | 0,r,ht=>by
  refine⟨.zero,?_⟩
  have h1:(exI L 0 r).2.b.toNat=1:=rfl
  have h2:(exI L 0 r).2.a=r.a:=rfl
  omega
 | f+1,r,ht=>by
  have ih:=x9 hL f
  unfold exI
  cases hb:r.b with
  | true =>
   rw [if_pos rfl]
   refine⟨.zero,?_⟩
   dsimp only
   rw [hb]
   have:(true).toNat=1:=rfl
   omega
  | false =>
   rw [if_neg (by simp)]
   exact pa_PI hL ih (by rw [hb];rfl) ht
end
def mpK:List (Value×Value):=[(.string ⟨#[36]⟩,.int .i64 5),(.string ⟨#[33]⟩,.int .i64 7),(.string ⟨#[45]⟩,.int .i64 8)]
section
variable {P:Program}{w:World}
theorem rr {mty kt et:TypeId}{r clock:Nat}{s:ByteArray}{val:Value}{es:Array MapEntry}(hm:P.underlying mty=some (.map kt et))(hk:P.underlying kt=some .string)(hb:w.heap[r]? = some (.map es clock))(hf:Instr.findNow .string (.string s) es.toList 0=some none) :
 (Instr.mapUpdate mty (.map (some r)) (.string s) val).run P w=.ok () { w with heap:=w.heap.setIfInBounds r (.map (es.push { key:=.string s,val:=val,born:=clock }) (clock+1)) }:=by
 have hc:(Instr.checkKey false 10000 kt (.string s)).run P w=.ok () w:=MapKept.run_checkKey (k:=.string s) hk (by simp [MapKept.IsKey]) false 9999
 simp [Instr.mapUpdate,run_underlying hm,MapKept.run_getObj_map hb,hc,MapKept.run_findKey hk hf,MapKept.run_setObj_map _ hb,Result.andThen]
theorem ztQ (s:ByteArray){es:List MapEntry}(h:es.map (fun e=>(e.key,e.val))=mpK):(∃j,Instr.findNow .string (.string s) es 0=some (some (j,.int .i64 (gS s)))∧0<gS s)∨(Instr.findNow .string (.string s) es 0=some none∧gS s=0):=by
 unfold mpK at h
 obtain⟨e1,r1,rfl,h1,h⟩:∃e r,es=e :: r∧(e.key,e.val)=((.string ⟨#[36]⟩,.int .i64 5):Value×Value)∧r.map (fun e=>(e.key,e.val))=[(.string ⟨#[33]⟩,.int .i64 7),(.string ⟨#[45]⟩,.int .i64 8)]:=by
  cases es with
  | nil=>cases h
  | cons e r=>rw [List.map_cons,List.cons.injEq] at h;exact⟨e,r,rfl,h.1,h.2⟩
 obtain⟨e2,r2,rfl,h2,h⟩:∃e r,r1=e :: r∧(e.key,e.val)=((.string ⟨#[33]⟩,.int .i64 7):Value×Value)∧r.map (fun e=>(e.key,e.val))=[(.string ⟨#[45]⟩,.int .i64 8)]:=by
  cases r1 with
  | nil=>cases h
  | cons e r=>rw [List.map_cons,List.cons.injEq] at h;exact⟨e,r,rfl,h.1,h.2⟩
 obtain⟨e3,r3,rfl,h3,h⟩:∃e r,r2=e :: r∧(e.key,e.val)=((.string ⟨#[45]⟩,.int .i64 8):Value×Value)∧r.map (fun e=>(e.key,e.val))=[]:=by
  cases r2 with
  | nil=>cases h
  | cons e r=>rw [List.map_cons,List.cons.injEq] at h;exact⟨e,r,rfl,h.1,h.2⟩
 obtain rfl:r3=[]:=List.map_eq_nil_iff.1 h
 obtain⟨k1,v1⟩:=Prod.mk.inj h1
 obtain⟨k2,v2⟩:=Prod.mk.inj h2
 obtain⟨k3,v3⟩:=Prod.mk.inj h3
 unfold gS
 have hb:∀t:ByteArray,(s==t)=decide (s=t):=fun t=>by
  rw [Bool.eq_iff_iff,MapKept.bytes_beq,dqt]
 simp only [Instr.findNow,Instr.sameNow,k1,k2,k3,v1,v2,v3,hb]
 by_cases h1:s=⟨#[36]⟩
 ·left;refine⟨0,?_,?_⟩
  ·rw [decide_eq_true h1,if_pos h1]
  ·rw [if_pos h1];decide
 by_cases h2:s=⟨#[33]⟩
 ·left;refine⟨1,?_,?_⟩
  ·rw [decide_eq_false h1,decide_eq_true h2,if_neg h1,if_pos h2]
  ·rw [if_neg h1,if_pos h2];decide
 by_cases h3:s=⟨#[45]⟩
 ·left;refine⟨2,?_,?_⟩
  ·rw [decide_eq_false h1,decide_eq_false h2,decide_eq_true h3,if_neg h1,if_neg h2,if_pos h3]
  ·rw [if_neg h1,if_neg h2,if_pos h3];decide
 right
 rw [decide_eq_false h1,decide_eq_false h2,decide_eq_false h3,if_neg h1,if_neg h2,if_neg h3]
 exact⟨rfl,rfl⟩
theorem ya {mty kt et:TypeId}{r ck:Nat}{s:ByteArray}{es:Array MapEntry}(hm:P.underlying mty=some (.map kt et))(hk:P.underlying kt=some .string)(hz:(zeroValue et).run P w=.ok (.int .i64 0) w)(hb:w.heap[r]? = some (.map es ck))(he:es.toList.map (fun e=>(e.key,e.val))=mpK) :
 (Instr.lookup mty (.map (some r)) (.string s) false).run P w=.ok (.int .i64 (gS s)) w:=by
 have hc:(Instr.checkKey es.isEmpty 10000 kt (.string s)).run P w=.ok () w:=MapKept.run_checkKey (k:=.string s) hk (by simp [MapKept.IsKey]) _ 9999
 rcases ztQ s he with ⟨j,hf,-⟩|⟨hf,h0⟩
 ·simp [Instr.lookup,run_underlying hm,MapKept.run_getObj_map hb,hc,MapKept.run_findKey hk hf,Result.andThen]
 ·simp [Instr.lookup,run_underlying hm,MapKept.run_getObj_map hb,hc,MapKept.run_findKey hk hf,hz,h0,Result.andThen]
end
section
variable {C:Ctx}{φ:Nat→Lc}{F:Nat→List Nat}{St:Nat→Prop}{σ:AS}{a:Act}{w w':World}
theorem SimF.keepNew (h:SimF C φ F St σ a w)(hs:Stp none w w'):SimF C φ F (fun b=>St b∨b=w.heap.size) σ a w':=by
 have h':=h.keep hs
 have hS:∀b,St b→b<w'.heap.size→(St b∨b=w.heap.size)∧w'.heap[b]? = w'.heap[b]? := fun b hb _=>⟨.inl hb,rfl⟩
 have hK:∀i,σ.Kn i→σ.Kn i∧φ i=φ i:=fun i hi=>⟨hi,rfl⟩
 refine⟨h'.dfr,h'.len,fun t=>VR.mono hS (nlr _) hK _ _ (h'.tms t),fun i r hi=>⟨(h'.row i r hi).1,(h'.row i r hi).2.mono hS (nlr _) hK (fun _ _=>rfl) (fun _ _ _ _ _ hB=>hB)⟩,h'.nod,h'.dis,h'.bxF,h'.bxd,fun i r b hi hb hst=>?_,fun i r b lo hi e hst=>?_,h'.frm,h'.own,h'.par,h'.new,h'.gnN,fun b hst hl=>?_⟩
 ·rcases hst with hst|rfl
  ·exact h.stF i r b hi hb hst
  ·exact absurd ((h.row i r hi).2.lt _ hb) (Nat.lt_irrefl _)
 ·rcases hst with hst|rfl
  ·exact h.stB i r b lo hi e hst
  ·have h1:=(h.row i r hi).2
   rw [e] at h1
   obtain⟨_,us,_,hB⟩:=h1
   exact absurd hB.lt (Nat.lt_irrefl _)
 ·rcases hst with hst|rfl
  ·exact h.stS b hst hl
  ·exact absurd h.frm.size omq
end
theorem mM {P:Program}{ops:Array Oper}{Q:Exit→Act→World→Prop}{i:Nat}{rest:List Nat}{a:Act}{w w':World}{o:Oper}{v:Value}(hop:ops[i]? = some o)(hg:o.guard=none)(hr:(execOp a.eval o).run P w=.ok (.value v) w')(h:wpOps P ops Q rest (a.put o.dst v) w'):wpOps P ops Q (i :: rest) a w:=by
 rw [wpOps_cons]
 unfold wpOp
 rw [hop]
 have:Region.wanted o (yielded ops a.tmps)=true:=by unfold Region.wanted;rw [hg]
 simp only [this,if_true]
 refine .inl ?_
 unfold Oper.wp
 rw [hr]
 exact h
theorem mN {P:Program}{ops:Array Oper}{Q:Exit→Act→World→Prop}{i:Nat}{rest:List Nat}{a:Act}{w w':World}{o:Oper}(hop:ops[i]? = some o)(hg:o.guard=none)(hd:o.dst=none)(hr:(execOp a.eval o).run P w=.ok .skip w')(h:wpOps P ops Q rest a w'):wpOps P ops Q (i :: rest) a w:=by
 rw [wpOps_cons]
 unfold wpOp
 rw [hop]
 have:Region.wanted o (yielded ops a.tmps)=true:=by unfold Region.wanted;rw [hg]
 simp only [this,if_true]
 refine .inl ?_
 unfold Oper.wp
 rw [hr]
 show wpOps P ops Q rest (a.put o.dst undef) w'
 rw [hd]
 exact h
theorem mO {P:Program}{o:Oper}{a:Act}{w:World}{x:Operand}(ho:o.op=.move x∨o.op=.assign x):(execOp a.eval o).run P w=.ok (.value (a.eval x)) w:=by
 unfold execOp
 rcases ho with ho|ho<;>rw [ho]<;>simp
theorem zq8 {P:Program}{o:Oper}{a:Act}{w:World}{T:TypeId}(ho:o.op=.makeMap T none):(execOp a.eval o).run P w=.ok (.value (.map (some w.heap.size))) (w.alloc (.map #[] 0)):=by
 unfold execOp
 rw [ho]
 simp [Instr.makeMap]
theorem rt {P:Program}{o:Oper}{a:Act}{w:World}{T kt et:TypeId}{r ck:Nat}{m:Operand}{s:ByteArray}{val:Value}{es:Array MapEntry}(ho:o.op=.insert T m (.const (.string s)) (.const val))(hm:P.underlying T=some (.map kt et))(hk:P.underlying kt=some .string)(hv:a.eval m=.map (some r))(hb:w.heap[r]? = some (.map es ck))(hf:Instr.findNow .string (.string s) es.toList 0=some none) :
 (execOp a.eval o).run P w=.ok .skip { w with heap:=w.heap.setIfInBounds r (.map (es.push { key:=.string s,val:=val,born:=ck }) (ck+1)) }:=by
 have h1:=rr (val:=val) hm hk hb hf
 unfold execOp
 rw [ho]
 dsimp only
 rw [hv]
 show ((do Instr.mapUpdate T (.map (some r)) (.string s) val;pure Next.skip:Sem Next)).run P w=_
 simp [Sem.run_bind,h1,Result.andThen]
section
variable {Q:Exit→AS→Prop}{id:Nat}{tm:Nat→AV}{hp:Nat→Option Row}{gn L:Nat}{us:List Nat}
theorem gU {t d1 d2:Nat}{y0 y1 y2 y3 y4 y5:TypeId}{p0 p1 p2 p3 p4 p5:String}{e0 e1 e2 e3 e4 e5:Array Edge}(ht:t<L)(hd1:d1<L)(hd2:d2<L)(h:Q .normal ⟨upd (upd (upd tm t (.c (.mp mpK))) d1 (.c (.mp mpK))) d2 (.c (.mp mpK)),hp,gn,us,L⟩) :
 AWp prog (.region id #[⟨some t,.makeMap 75 none,y0,p0,e0,none⟩,⟨none,.insert 75 (.tmp t) (.const (.string ⟨#[36]⟩)) (.const (.int .i64 5)),y1,p1,e1,none⟩,⟨none,.insert 75 (.tmp t) (.const (.string ⟨#[33]⟩)) (.const (.int .i64 7)),y2,p2,e2,none⟩,⟨none,.insert 75 (.tmp t) (.const (.string ⟨#[45]⟩)) (.const (.int .i64 8)),y3,p3,e3,none⟩,⟨some d1,.move (.tmp t),y4,p4,e4,none⟩,⟨some d2,.assign (.tmp d1),y5,p5,e5,none⟩] false) Q ⟨tm,hp,gn,us,L⟩:=fun C a w hs=>by
 obtain⟨φ,F,St,hs⟩:=hs
 obtain⟨n,hn⟩:∃n,n=w.heap.size:=⟨_,rfl⟩
 have hlen:a.tmps.size=L:=hs.len
 obtain⟨a1,ha1⟩:∃a1,a1=a.put (some t) (.map (some n)):=⟨_,rfl⟩
 have hev1:a1.eval (.tmp t)=.map (some n):=by
  subst ha1
  show (a.tmps.setIfInBounds t (.map (some n))).getD t undef=_
  simp [Array.getD,hlen,ht]
 have hm:prog.underlying 75=some (.map 9 3):=underlying75
 have hk:prog.underlying 9=some .string:=underlying9
 let m1:Array MapEntry:=#[{ key:=.string ⟨#[36]⟩,val:=.int .i64 5,born:=0 }]
 let m2:Array MapEntry:=m1.push { key:=.string ⟨#[33]⟩,val:=.int .i64 7,born:=1 }
 let m3:Array MapEntry:=m2.push { key:=.string ⟨#[45]⟩,val:=.int .i64 8,born:=2 }
 let w1:World:=w.alloc (.map #[] 0)
 let w2:World:={ w1 with heap:=w1.heap.setIfInBounds n (.map m1 1) }
 let w3:World:={ w2 with heap:=w2.heap.setIfInBounds n (.map m2 2) }
 let w4:World:={ w3 with heap:=w3.heap.setIfInBounds n (.map m3 3) }
 have z1:w1.heap.size=n+1:=by show (w.heap.push _).size=_;rw [Array.size_push,hn]
 have b1:w1.heap[n]? = some (.map #[] 0):=by show (w.heap.push _)[n]? = _;rw [hn];simp
 have b2:w2.heap[n]? = some (.map m1 1):=by show (w1.heap.setIfInBounds n _)[n]? = _;simp [z1]
 have z2:w2.heap.size=n+1:=by show (w1.heap.setIfInBounds n _).size=_;rw [Array.size_setIfInBounds,z1]
 have b3:w3.heap[n]? = some (.map m2 2):=by show (w2.heap.setIfInBounds n _)[n]? = _;simp [z2]
 have z3:w3.heap.size=n+1:=by show (w2.heap.setIfInBounds n _).size=_;rw [Array.size_setIfInBounds,z2]
 have b4:w4.heap[n]? = some (.map m3 3):=by show (w3.heap.setIfInBounds n _)[n]? = _;simp [z3]
 have z4:w4.heap.size=n+1:=by show (w3.heap.setIfInBounds n _).size=_;rw [Array.size_setIfInBounds,z3]
 have hst:Stp none w w4:=⟨rfl,rfl,rfl,omq,fun i hi _=>by
  have hne:n≠i:=by omega
  show (w3.heap.setIfInBounds n _)[i]? = _
  rw [Array.getElem?_setIfInBounds_ne hne]
  show (w2.heap.setIfInBounds n _)[i]? = _
  rw [Array.getElem?_setIfInBounds_ne hne]
  show (w1.heap.setIfInBounds n _)[i]? = _
  rw [Array.getElem?_setIfInBounds_ne hne]
  show (w.heap.push _)[i]? = _
  rw [Array.getElem?_push_lt hi,Array.getElem?_eq_getElem hi]⟩
 have hk4:=hs.keepNew hst
 have hvr:VR w4 (fun b=>St b∨b=w.heap.size) φ (AS.Kn ⟨tm,hp,gn,us,L⟩) (.c (.mp mpK)) (.map (some n)):=by
  simp only [VR,CR]
  exact⟨trivial,n,m3,3,rfl,.inr hn,omq,b4,rfl⟩
 have f1:=hk4.put (some t) hvr
 rw [d5 ht] at f1
 have f2:=f1.put (some d1) hvr
 rw [d5 hd1] at f2
 have hfin:=f2.put (some d2) hvr
 rw [d5 hd2] at hfin
 refine wp_region ?_
 show wpOps _ _ _ [0,1,2,3,4,5] a w
 refine mM rfl rfl (zq8 rfl) ?_
 rw [←hn]
 show wpOps _ _ _ _ (a.put (some t) (.map (some n))) w1
 rw [←ha1]
 refine mN rfl rfl rfl (rt rfl hm hk hev1 b1 rfl) ?_
 refine mN rfl rfl rfl (w':=w3) (rt rfl hm hk hev1 b2 krq) ?_
 refine mN rfl rfl rfl (w':=w4) (rt rfl hm hk hev1 b3 krq) ?_
 refine mM rfl rfl (mO (.inl rfl)) ?_
 rw [hev1]
 refine mM rfl rfl (mO (.inr rfl)) ?_
 have hev2:(a1.put (some d1) (.map (some n))).eval (.tmp d1)=.map (some n):=by
  have:a1.tmps.size=L:=by subst ha1;show (a.tmps.setIfInBounds t _).size=_;rw [Array.size_setIfInBounds,hlen]
  show (a1.tmps.setIfInBounds d1 (.map (some n))).getD d1 undef=_
  simp [Array.getD,this,hd1]
 show wpOps _ _ _ [] ((a1.put (some d1) (.map (some n))).put (some d2) ((a1.put (some d1) (.map (some n))).eval (.tmp d1))) w4
 rw [hev2,ha1]
 exact⟨_,h,φ,F,_,hfin⟩
end
section
variable {ops:Array Oper}{Q:Exit→Act→World→Prop}{C:Ctx}{H:List (Nat×Oper×Inf)}{i:Nat}{r:List Nat}{dr:Bool}
variable {tm:Nat→AV}{hp:Nat→Option Row}{gn L:Nat}{us:List Nat}
theorem zr8 {P:Program}{o:Oper}{T kt et:TypeId}{xo yo:Operand}{s:ByteArray}{r ck:Nat}{es:Array MapEntry}(ho:o.op=.lookup T xo yo false)(hm:P.underlying T=some (.map kt et))(hk:P.underlying kt=some .string)(ev:Operand→Value)(w:World)(hz:(zeroValue et).run P w=.ok (.int .i64 0) w)(hx:ev xo=.map (some r))(hy:ev yo=.string s)(hb:w.heap[r]? = some (.map es ck))(he:es.toList.map (fun e=>(e.key,e.val))=mpK):(execOp ev o).run P w=.ok (.value (.int .i64 (gS s))) w:=by
 unfold execOp
 rw [ho]
 simp only [hx,hy]
 simp [Sem.run_bind,ya hm hk hz hb he,Result.andThen]
theorem o_lk {t:Nat}{gd:Option (Nat×Bool)}{ps:String}{af:Array Edge}{ty:TypeId}{xo yo:Operand}{s:ByteArray}(h:Walk prog ops Q C dr (bK dr (i,(⟨some t,.lookup 75 xo yo false,ty,ps,af,gd⟩:Oper),⟨fpO (AS.ev ⟨tm,hp,gn,us,L⟩) (⟨some t,.lookup 75 xo yo false,ty,ps,af,gd⟩:Oper),[],[],.c (.v (.int .i64 (gS s)))⟩) H) r ⟨upd tm t (.c (.v (.int .i64 (gS s)))),hp,gn,us,L⟩)
 (ht:Nat.blt t L=true:=by exact rfl) (hg:gw ops tm (⟨some t,.lookup 75 xo yo false,ty,ps,af,gd⟩:Oper)=some true:=by exact rfl) (hx:AS.ev ⟨tm,hp,gn,us,L⟩ xo=.c (.mp mpK):=by exact rfl) (hy:AS.ev ⟨tm,hp,gn,us,L⟩ yo=.c (.v (.string s)):=by exact rfl)
 (hc:chk dr ops i (⟨some t,.lookup 75 xo yo false,ty,ps,af,gd⟩:Oper) ⟨fpO (AS.ev ⟨tm,hp,gn,us,L⟩) (⟨some t,.lookup 75 xo yo false,ty,ps,af,gd⟩:Oper),[],[],.c (.v (.int .i64 (gS s)))⟩ H=true:=by first|(with_reducible exact bv)|kernel_rfl):WalkO prog ops Q C dr H i (⟨some t,.lookup 75 xo yo false,ty,ps,af,gd⟩:Oper) r ⟨tm,hp,gn,us,L⟩:=⟨fun hop=>by
 refine⟨_,_,hop,oe (y:=.int .i64 (gS s)) hop hg rfl fun ev w he=>?_,fun n hn=>absurd hn List.not_mem_nil,ep hc,cQ ?_⟩
 ·obtain⟨St,φ,K,h1⟩:=he xo (by show xo∈#[xo,yo];simp)
  rw [hx] at h1
  simp only [VR,CR] at h1
  obtain⟨-,b,es,ck,h1,-,-,h4,h5⟩:=h1
  obtain⟨St,φ,K,h2⟩:=he yo (by show yo∈#[xo,yo];simp)
  rw [hy] at h2
  simp only [VR,CR] at h2
  exact zr8 (T:=75) rfl underlying75 underlying9 ev w krq h1 h2.1 h4 h5
 ·show Walk prog ops Q C dr _ r (AS.put _ (some t) _)
  rw [d5 (by exact d4 ht)];exact h⟩
theorem n_lk {t:Nat}{gd:Option (Nat×Bool)}{ps:String}{af:Array Edge}{ty:TypeId}{xo yo:Operand}{s:ByteArray}(h:Walk prog ops Q C false [] r ⟨upd tm t (.c (.v (.int .i64 (gS s)))),hp,gn,us,L⟩)(ht:Nat.blt t L=true:=by exact rfl)(hg:gw ops tm (⟨some t,.lookup 75 xo yo false,ty,ps,af,gd⟩:Oper)=some true:=by exact rfl)(hx:AS.ev ⟨tm,hp,gn,us,L⟩ xo=.c (.mp mpK):=by exact rfl)(hy:AS.ev ⟨tm,hp,gn,us,L⟩ yo=.c (.v (.string s)):=by exact rfl):WalkO prog ops Q C false [] i (⟨some t,.lookup 75 xo yo false,ty,ps,af,gd⟩:Oper) r ⟨tm,hp,gn,us,L⟩:=o_lk (dr:=false) (H:=[]) (h:=h) (ht:=ht) (hg:=hg) (hx:=hx) (hy:=hy)
end
section
variable {ops:Array Oper}{Q:Exit→Act→World→Prop}{C:Ctx}{H:List (Nat×Oper×Inf)}{i:Nat}{r:List Nat}{dr:Bool}
variable {tm:Nat→AV}{hp:Nat→Option Row}{gn L:Nat}{us:List Nat}
theorem o_cdz {ty:TypeId}{gd:Option (Nat×Bool)}{cas:Array Operand}{cts:Array TypeId}{ps:String}{af:Array Edge}{t:Nat}{fv:Operand}{f:FuncId}{caps:List AC}{args ins:List AV}{par:List AC}{rows:List (List AC)}{res:AV}{nv:AV}{nr:List (Nat×Row)}(lr:Nat)(Z:List Nat)(hctr:Ctr prog f ins [par] res rows)
 (h:Walk prog ops Q C dr (bK dr (i,(⟨some t,.call ⟨.value fv,cas,cts⟩,ty,ps,af,gd⟩:Oper),dk ⟨tm,hp,gn,us,L⟩ (args.flatMap snV) [lr] Z (100*(t+1)) res rows) H) r ⟨upd tm t nv,fZ hp (fq hp [lr] rows++(Z.map fun z=>(z,none))++nr.map (fun p=>(p.1,some p.2))),gn,nr.map (·.1)++us,L⟩)
 (ht:Nat.blt t L=true:=by exact rfl) (hg:gw ops tm (⟨some t,.call ⟨.value fv,cas,cts⟩,ty,ps,af,gd⟩:Oper)=some true:=by exact rfl) (hfv:AS.ev ⟨tm,hp,gn,us,L⟩ fv=.c (.fn f caps):=by exact rfl) (hargs:bG ⟨tm,hp,gn,us,L⟩ ⟨.value fv,cas,cts⟩ caps=args:=by exact rfl) (hcv:args.map (cvV hp [lr])=ins:=by exact yx) (hl:je hp [lr]=some [par]:=by exact bF rqf (by first|rfl|(simp [oS,bu,clo,bk,aM,bl,a8,aZ];done)))
 (hRD:((args.flatMap snV).all fun z=>![lr].contains z)=true:=by exact rfl) (hZD:(Z.all fun z=>![lr].contains z)=true:=by exact rfl) (hmm:((args.flatMap snV).all fun z=>Z.contains z)=true:=by exact rfl) (hopn:opV (100*(t+1)) res=(nv,nr):=by exact rfl) (hf:(nr.all fun p=>Nat.ble gn p.1&&!us.contains p.1)=true:=by exact rfl)
 (hc:chk dr ops i (⟨some t,.call ⟨.value fv,cas,cts⟩,ty,ps,af,gd⟩:Oper) (dk ⟨tm,hp,gn,us,L⟩ (args.flatMap snV) [lr] Z (100*(t+1)) res rows) H=true:=by first|(with_reducible exact bv)|kernel_rfl):WalkO prog ops Q C dr H i (⟨some t,.call ⟨.value fv,cas,cts⟩,ty,ps,af,gd⟩:Oper) r ⟨tm,hp,gn,us,L⟩ :=
 ⟨fun hop=>rX (100*(t+1)) [lr] Z hop rfl rfl rfl ht hg hfv hargs hl (by rw [hcv];exact hctr) hRD hZD (.inr hmm) hopn hf hc h⟩
theorem fD {ty:TypeId}{gd:Option (Nat×Bool)}{cas:Array Operand}{cts:Array TypeId}{ps:String}{af:Array Edge}{t:Nat}{fv:Operand}{f:FuncId}{caps:List AC}{args ins:List AV}{par:List AC}{rows:List (List AC)}{res:AV}{nv:AV}{nr:List (Nat×Row)}(lr:Nat)(Z:List Nat)(hctr:Ctr prog f ins [par] res rows)
 (h:Walk prog ops Q C false [] r ⟨upd tm t nv,fZ hp (fq hp [lr] rows++(Z.map fun z=>(z,none))++nr.map (fun p=>(p.1,some p.2))),gn,nr.map (·.1)++us,L⟩)
 (ht:Nat.blt t L=true:=by exact rfl) (hg:gw ops tm (⟨some t,.call ⟨.value fv,cas,cts⟩,ty,ps,af,gd⟩:Oper)=some true:=by exact rfl) (hfv:AS.ev ⟨tm,hp,gn,us,L⟩ fv=.c (.fn f caps):=by exact rfl) (hargs:bG ⟨tm,hp,gn,us,L⟩ ⟨.value fv,cas,cts⟩ caps=args:=by exact rfl) (hcv:args.map (cvV hp [lr])=ins:=by exact yx) (hl:je hp [lr]=some [par]:=by exact bF rqf (by first|rfl|(simp [oS,bu,clo,bk,aM,bl,a8,aZ];done)))
 (hRD:((args.flatMap snV).all fun z=>![lr].contains z)=true:=by exact rfl) (hZD:(Z.all fun z=>![lr].contains z)=true:=by exact rfl) (hmm:((args.flatMap snV).all fun z=>Z.contains z)=true:=by exact rfl) (hopn:opV (100*(t+1)) res=(nv,nr):=by exact rfl) (hf:(nr.all fun p=>Nat.ble gn p.1&&!us.contains p.1)=true:=by exact rfl):WalkO prog ops Q C false [] i (⟨some t,.call ⟨.value fv,cas,cts⟩,ty,ps,af,gd⟩:Oper) r ⟨tm,hp,gn,us,L⟩ :=
 o_cdz (dr:=false) (H:=[]) (lr:=lr) (Z:=Z) (hctr:=hctr) (h:=h) (ht:=ht) (hg:=hg) (hfv:=hfv) (hargs:=hargs) (hcv:=hcv) (hl:=hl) (hRD:=hRD) (hZD:=hZD) (hmm:=hmm) (hopn:=hopn) (hf:=hf)
end
def Byt (l:List E):Prop:=∀e∈l,∃x:Nat,x<256∧e=.int .u8 (x:Int)
theorem Byt.enc {l:List E}(h:Byt l):∀e∈l,e.enc.length=1:=fun e he=>by obtain⟨x,-,rfl⟩:=h e he;rfl
def Curs (cs:List AC):Prop:=∃(l:List E) (i:Nat) (h:Int),Byt l∧i≤l.length∧l.length≤1048576∧cs=[.ro l.length 1 (acL l),.v (.int .i64 (i:Int)),.v (.int .i64 h)]
theorem zp6 (n:Int):bits .and .i64 n 255=n % 256:=by
 have h1:(BitVec.ofInt 64 n).toNat=(n % 18446744073709551616).toNat:=by rw [BitVec.toNat_ofInt];rfl
 have h2:(BitVec.ofInt 64 255).toNat=2 ^ 8-1:=by rfl
 show IntKind.i64.wrap ((BitVec.ofInt 64 n &&& BitVec.ofInt 64 255).toNat:Int)=_
 rw [BitVec.toNat_and,h1,h2,Nat.and_two_pow_sub_one_eq_mod,IntKind.wrap_i64]
 omega
theorem td (n:Int):0≤bits .and .i64 n 255∧bits .and .i64 n 255<256:=by rw [zp6];omega
theorem oL {cs:List AC}(hc:Curs cs):∃(x:Int) (cs':List AC),Curs cs'∧(0≤x∧x<256)∧Ctr prog 70 [.c (.pt 0 0)] [cs] (.c (.v (.int .i64 x))) [cs']:=by
 obtain⟨l,i,h,hl,hi,hlen,rfl⟩:=hc
 by_cases hlt:i<l.length
 ·obtain⟨e,he⟩:∃e,l[i]? = some e:=⟨_,List.getElem?_eq_getElem hlt⟩
  obtain⟨b,hb,rfl⟩:=hl e (mge he)
  have hk:=hl.enc
  refine⟨?x,?c,?hC,?hx,az func70 rfl rfl ?hw⟩
  case hw =>
   repeat' (first|(apply ay;first|refine ak ?_|refine ai ?_|refine bf ?_|refine aI ?_|refine bh ?_|(apply ji;refine au ?_)|(apply qj;refine au ?_)|refine au ?_)|refine aj ?_|refine ab ?_|(apply da;first|(apply dC;refine aD ?_)|(apply iu;refine aD ?_)|refine dZ ?_|refine bW ?_|refine dt ?_|(apply fF;refine aD ?_)|refine aD ?_)|refine aj ?_|refine ab ?_|refine aa fun C=>?_|refine av krq krq fun C=>?_|refine ac ?_)
   refine ae rqf (fun hC=>?_) fun hC=>absurd (of_decide_eq_false hC) omq
   repeat' (first|(apply ay;first|refine ak ?_|refine ai ?_|refine bf ?_|refine aI ?_|refine bh ?_|refine aw ?_|refine au ?_)|refine aj ?_|refine ab ?_|(apply da;first|(apply dC;refine aD ?_)|(apply iu;refine aD ?_)|refine dZ ?_|refine bW ?_|refine d7 ?_|refine iY ?_|(apply fF;refine aD ?_)|refine dK ?_|refine aD ?_)|refine aj ?_|refine ab ?_|refine aa fun C=>?_|refine av krq krq fun C=>?_|refine ac ?_)
   refine am ?_;refine dO rfl aJ rfl (by show bu [AC.ro _ 1 (acL _),AC.v _,AC.v _]=true;simp [bu,clo,aM]) rfl ⟨?_,?_⟩
   ·rfl
   ·rfl
  case hC=>exact (show Curs [.ro l.length 1 (acL l),.v (.int .i64 ((i+1:Nat):Int)),.v (.int .i64 _)] from ⟨l,i+1,_,hl,hlt,hlen,rfl⟩)
  case hx=>exact td _
 ·refine⟨?x2,?c2,?hC2,?hx2,az func70 rfl rfl ?hw2⟩
  case hw2 =>
   repeat' (first|(apply ay;first|refine ak ?_|refine ai ?_|refine bf ?_|refine aI ?_|refine bh ?_|(apply ji;refine au ?_)|(apply qj;refine au ?_)|refine au ?_)|refine aj ?_|refine ab ?_|(apply da;first|(apply dC;refine aD ?_)|(apply iu;refine aD ?_)|refine dZ ?_|refine bW ?_|refine dt ?_|(apply fF;refine aD ?_)|refine aD ?_)|refine aj ?_|refine ab ?_|refine aa fun C=>?_|refine av krq krq fun C=>?_|refine ac ?_)
   refine ae rqf (fun hC=>absurd (of_decide_eq_true hC) omq) fun hC=>?_
   repeat' (first|(apply ay;first|refine ak ?_|refine ai ?_)|refine aj ?_|refine ab ?_|refine aa fun C=>?_|refine ac ?_|refine al ?_)
   refine am ?_;refine dO rfl aJ rfl (by show bu [AC.ro _ 1 (acL _),AC.v _,AC.v _]=true;simp [bu,clo,aM]) rfl ⟨?_,?_⟩
   ·rfl
   ·rfl
  case hC2=>exact (show Curs [.ro l.length 1 (acL l),.v (.int .i64 (i:Int)),.v (.int .i64 _)] from ⟨l,i,_,hl,hi,hlen,rfl⟩)
  case hx2=>exact td _
theorem clsR {p:Prop}(h:p:=by first|exact cA|exact tf _ _|exact eC|exact pX _ _):p:=h
theorem rtq5 {p:Prop}(h:p:=by refine am ?_;refine dO rfl (bi (aO rfl (aO rfl (aO rfl aQ)))) rfl clsR rfl ⟨?_,?_⟩<;>rfl):p:=h
def dX (L:List T3)(r:RI):List AC:=[.ro (L.map T3.E).length 3 (acL (L.map T3.E)),.v (.int .i64 (r.a:Int)),.v (.bool r.b)]
theorem cA {L:List T3}{x y:Value}:bu [.ro (L.map T3.E).length 3 (acL (L.map T3.E)),.v x,.v y]=true:=by simp [bu,clo,aM]
theorem tf (L:List T3)(r:RI):bu (dX L r)=true:=cA
def df (L:List T3)(r:RS):List AC:=[.ro (L.map T3.E).length 3 (acL (L.map T3.E)),.v (.int .i64 (r.a:Int)),.v (.bool r.b),.v (.int .i64 (r.d:Int))]
theorem eC {L:List T3}{x y z:Value}:bu [.ro (L.map T3.E).length 3 (acL (L.map T3.E)),.v x,.v y,.v z]=true:=by simp [bu,clo,aM]
theorem pX (L:List T3)(r:RS):bu (df L r)=true:=eC
theorem t3_at {L:List T3}{a:Nat}(h:a<L.length):(L.map T3.E)[a]? = some (.agg [.int .i64 (tAt L a).1,.int .i64 (tAt L a).2.1,.str (tAt L a).2.2]):=by
 rw [List.getElem?_map,List.getElem?_eq_getElem h]
 unfold tAt
 rw [List.getD_eq_getElem?_getD,List.getElem?_eq_getElem h,Option.getD_some]
 rfl
theorem t3_no {L:List T3}{a:Nat}(h:¬a<L.length):tAt L a=(0,0,ByteArray.empty):=by
 unfold tAt
 rw [List.getD_eq_getElem?_getD,List.getElem?_eq_none omq];rfl
theorem tks_enc' {l:List T3}:∀e∈l.map T3.E,e.enc.length=3:=fun e he=>by obtain⟨t,-,rfl⟩:=List.mem_map.1 he;rfl
theorem iF {L:List T3}(hL:L.length≤2000){r:RI}(ha:r.a≤100000){j:Nat}(hj:j≤1){z:Int}(hz:z=(j:Int)):Ctr prog 48 [.c (.pt 0 0),.c (.v (.int .i64 z))] [dX L r] (.ag [.v (.int .i64 (tAt L (r.a+j)).1),.v (.int .i64 (tAt L (r.a+j)).2.1),.v (.string (tAt L (r.a+j)).2.2)]) [dX L r]:=by
 obtain⟨a,b⟩:=r
 dsimp only at ha ⊢
 have hk:=tks_enc' (l:=L)
 have hlen:L.length=(L.map T3.E).length:=(List.length_map ..).symm
 refine az func48 rfl rfl ?_
 unfold dX
 dsimp only
 by_cases h:a+j<L.length
 ·have hx:=t3_at h
  have hi:(a:Int)+z=((a+j:Nat):Int):=by omega
  repeat' (first|(apply ay;refine bJ ?_)|refine aj ?_|refine ab ?_|(apply da;first|(apply dC;refine aD ?_)|refine dZ ?_|refine bW ?_|refine dt ?_|(apply fF;first|refine cP ?_|refine aD ?_)|refine aD ?_)|refine aj ?_|refine ab ?_|refine aa fun C=>?_|refine av krq krq fun C=>?_|refine ac ?_)
  refine ae rqf (fun hC=>by exfalso;simp only [dqt] at hC;omega) fun hC=>?_
  repeat' (first|(apply da;first|(apply dC;refine aD ?_)|refine dZ ?_|refine bW ?_|refine dQ ?_|refine li ?_|refine iY ?_|refine cP ?_|refine aD ?_)|refine aj ?_|refine ab ?_|refine av krq krq fun C=>?_|refine ac ?_|refine al ?_)
  exact rtq5
 ·rw [t3_no h]
  repeat' (first|(apply ay;refine bJ ?_)|refine aj ?_|refine ab ?_|(apply da;first|(apply dC;refine aD ?_)|refine dZ ?_|refine bW ?_|refine dt ?_|(apply fF;first|refine cP ?_|refine aD ?_)|refine aD ?_)|refine aj ?_|refine ab ?_|refine aa fun C=>?_|refine av krq krq fun C=>?_|refine ac ?_)
  refine ae rqf (fun hC=>?_) fun hC=>by exfalso;simp only [dqn] at hC;omega
  repeat' (first|(apply ay;first|refine bh ?_|refine au ?_)|refine aj ?_|refine ab ?_|refine aa fun C=>?_|refine ac ?_)
  exact rtq5
theorem nd (s t:ByteArray):(s.toList==t.toList)=decide (s=t):=by
 rw [Bool.eq_iff_iff]
 simp only [beq_iff_eq,dqt]
 exact⟨fun h=>by cases s;cases t;simpa [ByteArray.toList_eq] using h,fun h=>by rw [h]⟩
theorem pY {L:List T3}(hL:L.length≤2000){r:RI}(ha:r.a≤100000){j:Nat}(hj:j≤1){z:Int}(hz:z=(j:Int))(s:ByteArray):Ctr prog 50 [.c (.pt 0 0),.c (.v (.int .i64 z)),.c (.v (.string s))] [dX L r] (.c (.v (.bool (isI L r j s)))) [dX L r]:=by
 have c1:=iF hL ha hj hz
 refine az func50 rfl rfl ?_
 unfold isI
 generalize tAt L (r.a+j)=t at *
 obtain⟨k,n,u⟩:=t
 unfold dX at *
 dsimp only at c1 ⊢
 by_cases h5:k=5
 ·subst h5
  repeat' (first|(apply ay;first|refine bH ?_|(refine aK ?_ ?_<;>intro hG<;>(try cases hG))|refine ak ?_|refine ai ?_|refine bf ?_|refine aI ?_|refine aF 0 (c1) ?_|refine bh ?_|refine ao ?_|refine aC ?_|refine aB ?_|refine bJ ?_)|refine aj ?_|refine ab ?_|refine aa fun C=>?_|refine ac ?_)
  all_goals
   refine am ?_;refine dO rfl aJ rfl clsR rfl ⟨?_,?_⟩
   ·first|(simp [nd];done)|(simp_all [nd];done)
   ·rfl
 ·by_cases h2:k=2
  ·subst h2
   repeat' (first|(apply ay;first|(refine aK ?_ ?_<;>intro hG<;>(try cases hG))|refine ak ?_|refine ai ?_|refine bf ?_|refine aI ?_|refine aF 0 (c1) ?_|refine bh ?_|refine ao ?_|refine aC ?_|refine aB ?_|refine bJ ?_)|refine aj ?_|refine ab ?_|refine aa fun C=>?_|refine ac ?_)
   all_goals
    refine am ?_;refine dO rfl aJ rfl clsR rfl ⟨?_,?_⟩
    ·first|(simp [nd];done)|(simp_all [nd];done)
    ·rfl
  ·repeat' (first|(apply ay;first|refine bH ?_|(refine aK ?_ ?_<;>intro hG<;>(try cases hG))|refine ak ?_|refine ai ?_|refine bf ?_|refine aI ?_|refine aF 0 (c1) ?_|refine bh ?_|refine ao ?_|refine aC ?_|refine aB ?_|refine bJ ?_)|refine aj ?_|refine ab ?_|refine aa fun C=>?_|refine ac ?_)
   all_goals first
    | (exfalso;simp_all;done)
    | (refine am ?_;refine dO rfl aJ rfl clsR rfl ⟨?_,?_⟩
       ·first|(simp [nd];done)|(simp_all [nd];done)
       ·rfl)
end Go.Proofs.YtomolhbkdhjofaaGreatDoor
