/- GetModule: the reader, in plain words; the reference's caps change nothing. -/
import Derived.Test.YtghljnfbbaklnaaGreatGetModuleAF
namespace Go.Proofs.YtghljnfbbaklnaaGreat
open Go.RowKit
set_option maxRecDepth 100000
abbrev RS:=Int×Bool
def numR (bs:List UInt8)(s:RS):Int×RS:=if s.2=false∧(getU bs s.1).2.2=true then (((getU bs s.1).1:Nat),(((getU bs s.1).2.1:Nat),false)) else (0,(s.1,true))
def rdL (f:Int→E×RS):Nat→RS→List E×RS
 | 0,s=>([],s)
 | n+1,s=>if s.2 then ([],s) else ((f s.1).1 :: (rdL f n (f s.1).2).1,(rdL f n (f s.1).2).2)
def capS (cp:Bool)(lim:Int)(r:Int×RS):Int×RS:=(r.1,(r.2.1,r.2.2||(cp&&decide (lim<r.1))))
def rdN (cp:Bool)(lim:Int)(f:Int→E×RS)(bs:List UInt8)(s:RS):List E×RS:=rdL f (capS cp lim (numR bs s)).1.toNat (capS cp lim (numR bs s)).2
def fV (bs:List UInt8)(a:Int):E×RS:=(.agg [.int .i64 (getV bs a).k,.int .i64 (getV bs a).n,.str (getV bs a).s],((getV bs a).p,!(getV bs a).ok))
def fT (bs:List UInt8)(a:Int):E×RS:=(.str (getT bs a).1,(((getT bs a).2.1:Nat),!(getT bs a).2.2))
def fIn (bs:List UInt8)(a:Int):E×RS:=(.agg [.int .i64 (getIns bs a).o,.int .i64 (getIns bs a).n],((getIns bs a).p,!(getIns bs a).ok))
def rdF (cp:Bool)(bs:List UInt8)(s:RS):E×RS:=(.agg [.int .i64 (numR bs s).1,.lst 2 82 none 0 (rdN cp 3000 (fIn bs) bs (numR bs s).2).1],(rdN cp 3000 (fIn bs) bs (numR bs s).2).2)
def fF (cp:Bool)(bs:List UInt8)(a:Int):E×RS:=rdF cp bs (a,false)
def gm1 (bs:List UInt8):RS:=((numR bs (0,false)).2.1,(numR bs (0,false)).1 != 97)
def gmA (cp:Bool)(bs:List UInt8):List E×RS:=rdN cp 400 (fV bs) bs (gm1 bs)
def gmB (cp:Bool)(bs:List UInt8):List E×RS:=rdN cp 100 (fT bs) bs (gmA cp bs).2
def gmX (cp:Bool)(bs:List UInt8):Int×RS:=numR bs (gmB cp bs).2
def gmY (cp:Bool)(bs:List UInt8):Int×RS:=numR bs (gmX cp bs).2
def gmC (cp:Bool)(bs:List UInt8):List E×RS:=rdN cp 9 (fF cp bs) bs (gmY cp bs).2
def mE (l0 l1:List E)(x2 x3:Int)(l4:List E):E:=.agg [.lst 3 75 none 0 l0,.lst 1 9 none 0 l1,.int .i64 x2,.int .i64 x3,.lst 2 79 none 0 l4]
def gmE (cp:Bool)(bs:List UInt8):E:=mE (gmA cp bs).1 (gmB cp bs).1 (gmX cp bs).1 (gmY cp bs).1 (gmC cp bs).1
def zeroM:E:=mE [] [] 0 0 []
def gmOk (cp:Bool)(bs:List UInt8):Bool:=!(gmC cp bs).2.2&&((gmC cp bs).2.1==(bs.length:Int)&&modOkE (gmE cp bs))
def getM (cp:Bool)(bs:List UInt8):E×Bool:=if gmOk cp bs then (gmE cp bs,true) else (zeroM,false)
theorem zd10 {bs:List UInt8}{a:Int}:numR bs (a,true)=(0,(a,true)):=by unfold numR;rw [if_neg (by simp)]
theorem zc18 {f:Int→E×RS}{a:Int}:∀n,rdL f n (a,true)=([],(a,true))
 | 0=>rfl
 | n+1=>by unfold rdL;rw [if_pos rfl]
theorem rdN_bad {cp:Bool}{lim:Int}{f:Int→E×RS}{bs:List UInt8}{a:Int}:(rdN cp lim f bs (a,true)).2.2=true:=by
 unfold rdN;rw [zd10];unfold capS;dsimp only;rw [Bool.true_or,zc18]
theorem zz8 {bs:List UInt8}{s:RS}(h:(numR bs s).2.2=false):s.2=false:=by
 obtain⟨a,b⟩:=s
 cases b with
 | false=>rfl
 | true=>rw [zd10] at h;cases h
theorem zc13 {f:Int→E×RS}{n:Nat}{s:RS}(h:(rdL f n s).2.2=false):s.2=false:=by
 obtain⟨a,b⟩:=s
 cases b with
 | false=>rfl
 | true=>rw [zc18] at h;cases h
theorem zo11 {cp:Bool}{lim:Int}{f:Int→E×RS}{bs:List UInt8}{s:RS}(h:(rdN cp lim f bs s).2.2=false):s.2=false:=by
 obtain⟨a,b⟩:=s
 cases b with
 | false=>rfl
 | true=>rw [rdN_bad] at h;cases h
theorem rdL_len {f:Int→E×RS}:∀{n:Nat} {s:RS},(rdL f n s).2.2=false→(rdL f n s).1.length=n
 | 0,s,h=>rfl
 | n+1,s,h=>by
  have hs:=zc13 h
  unfold rdL at h ⊢
  rw [if_neg (by rw [hs];decide)] at h ⊢
  dsimp only at h ⊢
  rw [List.length_cons,rdL_len h]
theorem rdN_t {lim:Int}{f:Int→E×RS}{bs:List UInt8}{s:RS}(h:(rdN true lim f bs s).2.2=false):rdN true lim f bs s=rdN false lim f bs s:=by
 have h0:(capS true lim (numR bs s)).2.2=false:=zc13 h
 unfold rdN
 have:capS true lim (numR bs s)=capS false lim (numR bs s):=by
  unfold capS at h0 ⊢
  dsimp only at h0 ⊢
  rw [h0]
  simp only [Bool.or_eq_false_iff] at h0
  rw [h0.1];rfl
 rw [this]
theorem rdN_f {lim:Int}{f:Int→E×RS}{bs:List UInt8}{s:RS}(h:(rdN false lim f bs s).2.2=false)(hl:((rdN false lim f bs s).1.length:Int)≤lim):rdN true lim f bs s=rdN false lim f bs s:=by
 have h1:=rdL_len h
 unfold rdN at hl
 rw [h1] at hl
 unfold rdN
 have:capS true lim (numR bs s)=capS false lim (numR bs s):=by
  unfold capS at hl ⊢
  dsimp only at hl ⊢
  have:decide (lim<(numR bs s).1)=false:=by rw [decide_eq_false_iff_not];omega
  rw [this];rfl
 rw [this]
theorem zm14 {f g:Int→E×RS}:∀{n:Nat} {s:RS},(rdL f n s).2.2=false→(∀a,(f a).2.2=false→(f a).1∈(rdL f n s).1→g a=f a)→rdL g n s=rdL f n s
 | 0,s,h,hg=>rfl
 | n+1,s,h,hg=>by
  have hs:=zc13 h
  unfold rdL at h ⊢
  rw [if_neg (by rw [hs];decide)] at h ⊢
  rw [if_neg (by rw [hs];decide)]
  have h2:=zc13 h
  have hgs:g s.1=f s.1:=hg s.1 h2 (by unfold rdL;rw [if_neg (by rw [hs];decide)];exact List.mem_cons_self ..)
  rw [hgs]
  have:=zm14 (f:=f) (g:=g) (n:=n) (s:=(f s.1).2) h fun a ha hm=>hg a ha (by unfold rdL;rw [if_neg (by rw [hs];decide)];exact List.mem_cons_of_mem _ hm)
  rw [this]
theorem fF_t {bs:List UInt8}{a:Int}(h:(fF true bs a).2.2=false):fF false bs a=fF true bs a:=by
 unfold fF rdF at h ⊢
 rw [rdN_t h]
theorem fF_f {bs:List UInt8}{a:Int}(h:(fF false bs a).2.2=false)(hl:∀p l,(fF false bs a).1=.agg [.int .i64 p,.lst 2 82 none 0 l]→l.length≤3000):fF true bs a=fF false bs a:=by
 have:=hl _ _ rfl
 unfold fF rdF at h ⊢
 rw [rdN_f h (by omega)]
theorem gm_t {bs:List UInt8}(h:(gmC true bs).2.2=false):gmA true bs=gmA false bs∧gmB true bs=gmB false bs∧gmC true bs=gmC false bs:=by
 have hY:(gmY true bs).2.2=false:=zo11 h
 have hX:=zz8 hY
 have hB:=zz8 hX
 have hA:=zo11 hB
 have eA:gmA true bs=gmA false bs:=rdN_t hA
 have eB:gmB true bs=gmB false bs:=by unfold gmB at hB ⊢;rw [rdN_t hB,eA]
 refine⟨eA,eB,?_⟩
 have eY:gmY true bs=gmY false bs:=by unfold gmY gmX;rw [eB]
 have h0:(rdN true 9 (fF true bs) bs (gmY true bs).2).2.2=false:=h
 have e1:=rdN_t h0
 have h':(rdN false 9 (fF true bs) bs (gmY true bs).2).2.2=false:=by rw [←e1];exact h0
 have e2:rdN false 9 (fF false bs) bs (gmY true bs).2=rdN false 9 (fF true bs) bs (gmY true bs).2:=zm14 h' fun a ha _=>fF_t ha
 show rdN true 9 (fF true bs) bs (gmY true bs).2=rdN false 9 (fF false bs) bs (gmY false bs).2
 rw [e1,←e2,eY]
theorem modOkE_mE {l0 l1 l4:List E}{x2 x3:Int}:modOkE (mE l0 l1 x2 x3 l4)=modOkL l0 l1 x2 x3 l4:=rfl
theorem gm_f {bs:List UInt8}(h:(gmC false bs).2.2=false)(hok:modOkE (gmE false bs)=true):gmA true bs=gmA false bs∧gmB true bs=gmB false bs∧gmC true bs=gmC false bs:=by
 unfold gmE at hok
 rw [modOkE_mE] at hok
 obtain⟨n0,n1,-,-,n4,-,-,v4⟩:=zp21 hok
 have hY:(gmY false bs).2.2=false:=zo11 h
 have hX:=zz8 hY
 have hB:=zz8 hX
 have hA:=zo11 hB
 have eA:gmA true bs=gmA false bs:=rdN_f hA (by unfold gmA at n0;omega)
 have eB:gmB true bs=gmB false bs:=by unfold gmB at hB n1 ⊢;rw [eA];exact rdN_f hB (by omega)
 refine⟨eA,eB,?_⟩
 have eY:gmY true bs=gmY false bs:=by unfold gmY gmX;rw [eB]
 have e1:rdN false 9 (fF true bs) bs (gmY false bs).2=rdN false 9 (fF false bs) bs (gmY false bs).2:=by
  refine zm14 h fun a ha hm=>fF_f ha fun p l he=>?_
  rw [he] at hm
  obtain⟨k,hk⟩:=List.mem_iff_getElem?.1 hm
  exact (fnOk_code (zx19 v4 hk)).1
 have h':(rdN false 9 (fF true bs) bs (gmY false bs).2).2.2=false:=by rw [e1];exact h
 unfold gmC
 rw [eY,rdN_f h' (by rw [e1];unfold gmC at n4;omega),e1]
theorem getM_same (bs:List UInt8):getM true bs=getM false bs:=by
 have key:gmA true bs=gmA false bs∧gmB true bs=gmB false bs∧gmC true bs=gmC false bs→getM true bs=getM false bs:=by
  rintro ⟨e1,e2,e3⟩
  unfold getM gmOk gmE gmY gmX
  rw [e1,e2,e3]
 cases hc:(gmC true bs).2.2 with
 | false=>exact key (gm_t hc)
 | true =>
  cases hf:gmOk false bs with
  | true =>
   have hf':=hf
   unfold gmOk at hf'
   simp only [Bool.and_eq_true,Bool.not_eq_true'] at hf'
   exact key (gm_f hf'.1 hf'.2.2)
  | false =>
   have ht:gmOk true bs=false:=by unfold gmOk;rw [hc];rfl
   unfold getM
   rw [hf,ht]
   rfl
theorem zq16 {bs:List UInt8}{p:Nat}:∀(f k n:Nat),(getGo bs p f k n).2.2=true→p+1≤(getGo bs p f k n).2.1
 | 0,k,n,h=>by cases h
 | f+1,k,n,h=>by
  unfold getGo at h ⊢
  split at h
  ·rw [if_pos (by assumption)]
   split at h
   ·rw [if_pos (by assumption)];exact zq16 f (k+1) _ h
   ·rw [if_neg (by assumption)]
    split at h
    ·cases h
    ·rw [if_neg (by assumption)];dsimp only;omega
  ·cases h
theorem zk8 {bs:List UInt8}{a:Int}(h:(getU bs a).2.2=true):a+1≤((getU bs a).2.1:Nat):=by
 unfold getU at h ⊢
 split at h
 ·rw [if_pos (by assumption)];have:=zq16 5 0 0 h;omega
 ·cases h
theorem zd13 {bs:List UInt8}{p:Nat}:∀(f k:Nat) (n:Int),(getSGo bs p f k n).2.2=true→(p:Int)+1≤(getSGo bs p f k n).2.1
 | 0,k,n,h=>by cases h
 | f+1,k,n,h=>by
  unfold getSGo at h ⊢
  cases hb:bs[p+k]? with
  | none=>rw [hb] at h;cases h
  | some b =>
   rw [hb] at h
   dsimp only at h ⊢
   by_cases h1:128≤b.toNat
   ·rw [if_pos h1] at h ⊢;exact zd13 f (k+1) _ h
   ·rw [if_neg h1] at h ⊢
    by_cases h2:okSg (n+((b.toNat % 128:Nat):Int)*128 ^ k-(if 64≤b.toNat then 128 ^ (k+1) else 0)) k=true
    ·rw [if_pos h2];dsimp only;omega
    ·rw [if_neg h2] at h;cases h
theorem getS_adv {bs:List UInt8}{a:Int}(h:(getS bs a).2.2=true):a+1≤(getS bs a).2.1:=by
 unfold getS at h ⊢
 split at h
 ·rw [if_pos (by assumption)];have:=zd13 5 0 0 h;omega
 ·cases h
theorem zy19 {bs:List UInt8}{a:Int}(h:(getT bs a).2.2=true):a+1+(getT bs a).1.size≤((getT bs a).2.1:Nat):=by
 unfold getT at h ⊢
 split at h
 ·rename_i hc
  rw [if_pos hc]
  have h1:=zk8 hc.1
  have:(txt8 bs (getU bs a).2.1 (getU bs a).1).size=(getU bs a).1:=by simp [txt8,ByteArray.size,cut8];omega
  dsimp only
  rw [this]
  omega
 ·cases h
theorem zl3 {bs:List UInt8}{s:RS}(h0:0≤s.1)(h1:s.1≤bs.length):(0≤(numR bs s).1∧(numR bs s).1≤2147483647)∧0≤(numR bs s).2.1∧(numR bs s).2.1≤bs.length∧((numR bs s).2.2=false→s.1+1≤(numR bs s).2.1):=by
 unfold numR
 split
 ·rename_i h
  rcases zm4 bs s.1 with hu|⟨m,q,hu,hq,hm⟩
  ·rw [hu] at h;cases h.2
  ·have:=zk8 h.2
   rw [hu] at this ⊢
   dsimp only at this ⊢
   refine⟨⟨by omega,by omega⟩,by omega,by omega,fun _=>by omega⟩
 ·exact⟨⟨by dsimp only;omega,by dsimp only;omega⟩,h0,h1,fun h=>by cases h⟩
def StepG (bs:List UInt8)(T:TypeId)(w:Nat)(f:Int→E×RS):Prop :=
 ∀a:Int,0≤a→a≤bs.length→(0≤(f a).2.1∧(f a).2.1≤bs.length)∧((f a).1.Ty Tryz.prog T∧(f a).1.enc.length=w)∧((f a).2.2=false→a+1+(f a).1.sz≤(f a).2.1)
theorem zz19 {bs:List UInt8}{T:TypeId}{w:Nat}{f:Int→E×RS}(hf:StepG bs T w f):∀{n:Nat} {s:RS},0≤s.1→s.1≤bs.length →
 (0≤(rdL f n s).2.1∧(rdL f n s).2.1≤bs.length)∧(∀e∈(rdL f n s).1,e.Ty Tryz.prog T∧e.enc.length=w)∧((rdL f n s).2.2=false→s.1+(rdL f n s).1.length+E.szL (rdL f n s).1≤(rdL f n s).2.1)
 | 0,s,h0,h1=>by
  refine⟨⟨h0,h1⟩,fun e he=>(List.not_mem_nil he).elim,fun _=>by show s.1+((0:Nat):Int)+((0:Nat):Int)≤s.1;omega⟩
 | n+1,s,h0,h1=>by
  obtain⟨⟨g0,g1⟩,g2,g3⟩:=hf s.1 h0 h1
  obtain⟨k1,k2,k3⟩:=zz19 hf (n:=n) g0 g1
  unfold rdL
  split
  ·rename_i hb
   exact⟨⟨h0,h1⟩,fun e he=>(List.not_mem_nil he).elim,fun h=>by rw [hb] at h;cases h⟩
  ·refine⟨k1,fun e he=>?_,fun h=>?_⟩
   ·rcases List.mem_cons.1 he with rfl|he
    ·exact g2
    ·exact k2 e he
   ·have a1:=k3 h
    have a2:=g3 (zc13 h)
    show s.1+(((rdL f n (f s.1).2).1.length+1:Nat):Int)+((E.sz (f s.1).1+E.szL (rdL f n (f s.1).2).1:Nat):Int)≤(rdL f n (f s.1).2).2.1
    push_cast
    omega
theorem ze10 {bs:List UInt8}{T:TypeId}{w:Nat}{cp:Bool}{lim:Int}{f:Int→E×RS}(hf:StepG bs T w f){s:RS}(h0:0≤s.1)(h1:s.1≤bs.length) :
 (0≤(rdN cp lim f bs s).2.1∧(rdN cp lim f bs s).2.1≤bs.length)∧(∀e∈(rdN cp lim f bs s).1,e.Ty Tryz.prog T∧e.enc.length=w)∧((rdN cp lim f bs s).2.2=false→s.1+1+(rdN cp lim f bs s).1.length+E.szL (rdN cp lim f bs s).1≤(rdN cp lim f bs s).2.1):=by
 obtain⟨-,g0,g1,g2⟩:=zl3 (bs:=bs) h0 h1
 obtain⟨k1,k2,k3⟩:=zz19 hf (n:=(capS cp lim (numR bs s)).1.toNat) (s:=(capS cp lim (numR bs s)).2) g0 g1
 refine⟨k1,k2,fun h=>?_⟩
 have a1:=k3 h
 have h4:(capS cp lim (numR bs s)).2.2=false:=zc13 h
 have h5:(numR bs s).2.2=false:=by unfold capS at h4;simp only [Bool.or_eq_false_iff] at h4;exact h4.1
 have a2:=g2 h5
 unfold rdN
 have:(capS cp lim (numR bs s)).2.1=(numR bs s).2.1:=rfl
 omega
theorem i64_wf {x:Int}(h0 : -9223372036854775808≤x)(h1:x≤9223372036854775807):(Lit.int .i64 x).wf=true:=by
 have e1:IntKind.i64.min = -9223372036854775808:=by decide
 have e2:IntKind.i64.max=9223372036854775807:=by decide
 simp only [Lit.wf,Bool.and_eq_true,decide_eq_true_iff]
 rw [e1,e2]
 omega
theorem zp11 {x:Int}(h0 : -9223372036854775808≤x)(h1:x≤9223372036854775807):(E.int .i64 x).Ty Tryz.prog 3:=by
 simp only [E.Ty];exact⟨Tryz.underlying3,i64_wf h0 h1⟩
theorem str_Ty {s:ByteArray}(h:s.size≤1073741824):(E.str s).Ty Tryz.prog 9:=by
 simp only [E.Ty];exact⟨Tryz.underlying9,by unfold maxLen;omega⟩
theorem val_Ty {k n:Int}{s:ByteArray}(hk:0≤k∧k≤2147483647)(hn : -34359738368≤n∧n≤34359738368)(hs:s.size≤1073741824):(E.agg [.int .i64 k,.int .i64 n,.str s]).Ty Tryz.prog 75 :=
 E.Ty.mk_agg Tryz.underlying75 (E.TyF.mk_cons (zp11 (by omega) (by omega)) (E.TyF.mk_cons (zp11 (by omega) (by omega)) (E.TyF.mk_cons (str_Ty hs) E.TyF.mk_nil)))
theorem getV_end (bs:List UInt8)(a:Int)(hl:bs.length≤1073741824):(0≤(getV bs a).p∧(getV bs a).p≤bs.length)∧((0≤(getV bs a).k∧(getV bs a).k≤2147483647)∧(-34359738368≤(getV bs a).n∧(getV bs a).n≤34359738368)∧(getV bs a).s.size≤1073741824)∧((getV bs a).ok=true→a+1+(getV bs a).s.size≤(getV bs a).p):=by
 have hbad:(0≤gvbad.p∧gvbad.p≤bs.length)∧((0≤gvbad.k∧gvbad.k≤2147483647)∧(-34359738368≤gvbad.n∧gvbad.n≤34359738368)∧gvbad.s.size≤1073741824)∧(gvbad.ok=true→a+1+gvbad.s.size≤gvbad.p) :=
  ⟨⟨Int.le_refl _,by show (0:Int)≤bs.length;omega⟩,⟨⟨by decide,by decide⟩,⟨by decide,by decide⟩,by decide⟩,fun h=>by cases h⟩
 have z:(ByteArray.mk #[]).size=0:=rfl
 unfold getV
 split
 ·rename_i hu
  have hadv:=zk8 hu
  rcases zm4 bs a with h|⟨m,q,h,hq,hm⟩
  ·rw [h] at hu;cases hu
  ·rw [h] at hadv ⊢
   dsimp only at hadv ⊢
   unfold getVk
   split
   ·unfold getV1
    split
    ·rename_i hc
     simp only [Bool.and_eq_true] at hc
     have hs:=getS_adv hc.1
     rcases zl14 bs q with h2|⟨m2,q2,h2,hq2,hm2⟩
     ·rw [h2] at hc;cases hc.1
     ·rw [h2] at hs ⊢
      dsimp only at hs ⊢
      exact⟨⟨by omega,by omega⟩,⟨⟨by decide,by decide⟩,hm2,by decide⟩,fun _=>by rw [z];omega⟩
    ·exact hbad
   ·split
    ·unfold getV2
     split
     ·rename_i hc
      simp only [Bool.and_eq_true] at hc
      have hs:=zy19 hc.1
      rcases zc10 bs q with h2|⟨m2,q2,h2,hq2,hm2⟩
      ·rw [h2] at hc;cases hc.1
      ·rw [h2] at hs ⊢
       dsimp only at hs ⊢
       exact⟨⟨by omega,by omega⟩,⟨⟨by decide,by decide⟩,⟨by decide,by decide⟩,by omega⟩,fun _=>by omega⟩
     ·exact hbad
    ·split
     ·exact⟨⟨by dsimp only;omega,by dsimp only;omega⟩,⟨⟨by dsimp only;omega,by dsimp only;omega⟩,⟨by dsimp only;omega,by dsimp only;omega⟩,by dsimp only;rw [z];omega⟩,fun _=>by dsimp only;rw [z];omega⟩
     ·exact hbad
 ·exact hbad
theorem zq21 (bs:List UInt8)(a:Int):(getIns bs a).p≤bs.length∧((getIns bs a).o≤2147483647∧(getIns bs a).n≤2147483647)∧((getIns bs a).ok=true→a+1≤(getIns bs a).p):=by
 have hbad:gbad.p≤bs.length∧(gbad.o≤2147483647∧gbad.n≤2147483647)∧(gbad.ok=true→a+1≤gbad.p):=⟨Nat.zero_le _,⟨by decide,by decide⟩,fun h=>by cases h⟩
 unfold getIns
 split
 ·rename_i hu
  have hadv:=zk8 hu
  rcases zm4 bs a with h|⟨m,q,h,hq,hm⟩
  ·rw [h] at hu;cases hu
  ·rw [h] at hadv ⊢
   dsimp only at hadv ⊢
   split
   ·split
    ·rename_i hu2
     have hadv2:=zk8 hu2
     rcases zm4 bs q with h2|⟨m2,q2,h2,hq2,hm2⟩
     ·rw [h2] at hu2;cases hu2
     ·rw [h2] at hadv2 ⊢
      dsimp only at hadv2 ⊢
      split
      ·exact⟨hq2,⟨hm,hm2⟩,fun _=>by dsimp only;omega⟩
      ·exact hbad
    ·exact hbad
   ·split
    ·exact⟨hq,⟨hm,Nat.zero_le _⟩,fun _=>by dsimp only;omega⟩
    ·exact hbad
 ·exact hbad
theorem zd18 {bs:List UInt8}(hl:bs.length≤1073741824):StepG bs 75 3 (fV bs):=fun a h0 h1=>by
 obtain⟨g1,⟨g2,g3,g4⟩,g5⟩:=getV_end bs a hl
 refine⟨g1,⟨val_Ty g2 g3 g4,rfl⟩,fun h=>?_⟩
 have:=g5 (by simpa [fV] using h)
 unfold fV
 simp only [E.sz,E.szL]
 push_cast
 omega
theorem ze18 {bs:List UInt8}(hl:bs.length≤1073741824):StepG bs 9 1 (fT bs):=fun a h0 h1=>by
 rcases zc10 bs a with h|⟨s,q,h,hq,hs⟩
 ·unfold fT
  rw [h]
  exact⟨⟨by dsimp only;omega,by dsimp only;omega⟩,⟨str_Ty (by decide),rfl⟩,fun h=>by cases h⟩
 ·have ha:=zy19 (bs:=bs) (a:=a) (by rw [h])
  unfold fT
  rw [h] at ha ⊢
  dsimp only at ha ⊢
  exact⟨⟨by omega,by omega⟩,⟨str_Ty (by omega),rfl⟩,fun _=>by simp only [E.sz];omega⟩
theorem zn14 {bs:List UInt8}:StepG bs 82 2 (fIn bs):=fun a h0 h1=>by
 obtain⟨g1,⟨g2,g3⟩,g4⟩:=zq21 bs a
 unfold fIn
 refine⟨⟨by dsimp only;omega,by dsimp only;omega⟩,⟨E.Ty.mk_agg Tryz.underlying82 (E.TyF.mk_cons (zp11 (by omega) (by omega)) (E.TyF.mk_cons (zp11 (by omega) (by omega)) E.TyF.mk_nil)),rfl⟩,fun h=>?_⟩
 have:=g4 (by simpa using h)
 simp only [E.sz,E.szL]
 omega
theorem rdF_good {bs:List UInt8}{cp:Bool}{s:RS}(h0:0≤s.1)(h1:s.1≤bs.length):(0≤(rdF cp bs s).2.1∧(rdF cp bs s).2.1≤bs.length)∧((rdF cp bs s).1.Ty Tryz.prog 79∧(rdF cp bs s).1.enc.length=2)∧((rdF cp bs s).2.2=false→s.1+1+(rdF cp bs s).1.sz≤(rdF cp bs s).2.1):=by
 obtain⟨g0,g1,g2,g3⟩:=zl3 (bs:=bs) h0 h1
 obtain⟨k1,k2,k3⟩:=ze10 (cp:=cp) (lim:=3000) (zn14 (bs:=bs)) g1 g2
 refine⟨k1,⟨?_,rfl⟩,fun h=>?_⟩
 ·refine E.Ty.mk_agg Tryz.underlying79 (E.TyF.mk_cons (zp11 (by omega) (by omega)) (E.TyF.mk_cons ?_ E.TyF.mk_nil))
  exact E.Ty.mk_lst Tryz.underlying77 (by kernel_rfl) (fun e he=>(k2 e he).1) (fun e he=>(k2 e he).2)
 ·have a1:=k3 h
  have a2:=g3 (zo11 h)
  show s.1+1+((0+((rdN cp 3000 (fIn bs) bs (numR bs s).2).1.length+E.szL (rdN cp 3000 (fIn bs) bs (numR bs s).2).1+0):Nat):Int)≤(rdN cp 3000 (fIn bs) bs (numR bs s).2).2.1
  push_cast
  omega
theorem zf18 {bs:List UInt8}{cp:Bool}:StepG bs 79 2 (fF cp bs):=fun a h0 h1=>rdF_good (s:=(a,false)) h0 h1
end Go.Proofs.YtghljnfbbaklnaaGreat
-- BIT
-- MVP
namespace Go.Proofs.YtghljnfbbaklnaaGreat
open Go.RowKit
set_option maxRecDepth 100000
def rdrM (bs:List UInt8)(s:RS):List AC:=[.ro bs.length 1 (acL (bI bs)),.v (.int .i64 s.1),.v (.bool s.2)]
theorem zj2 {bs:List UInt8}{x y:Value}:cloL [.ro bs.length 1 (acL (bI bs)),.v x,.v y]=true:=by simp [cloL,clo,ze]
theorem zo4 {bs:List UInt8}{s:RS}(h0:0≤s.1)(h1:s.1≤bs.length)(hn:bs.length≤1073741824):Ctr Tryz.prog 85 [.c (.pt 0 0)] [rdrM bs s] (.c (.v (.int .i64 (numR bs s).1))) [rdrM bs (numR bs s).2]:=by
 obtain⟨a,b⟩:=s
 dsimp only at h0 h1
 have c1:=zg7 (bs:=bs) a (by omega) hn
 refine zi1 Tryz.func85 rfl rfl ?_
 cases b with
 | true =>
  rw [zd10]
  unfold rdrM
  dsimp only
  repeat' (first|(apply f_wo;first|(apply f_gs;refine n_sk ?_)|(apply f_mv;first|(refine zs1 ?_ ?_<;>intro hG<;>(try cases hG))|refine zt (v:=.c _) ?_)|(apply f_as;refine zu (v:=.c _) ?_)|(apply f_fa;refine n_fa ?_)|(apply f_ld;refine zn1 ?_)|(apply f_st;refine n_st ?_)|(apply f_pk;refine zr1 (v:=.c _) ?_)|refine zh1 ?_)|(apply f_w;first|refine zo ?_|refine zc ?_)|(apply d_wo;first|(apply d_mv;first|refine zx3 (.c _) ?_|refine zx3 (.tu _) ?_)|(apply d_as;refine zp9 (.c (.v _)) ?_)|(apply d_fa;refine o_fa ?_)|(apply d_ld;refine zn3 ?_)|(apply d_ca;refine zu5 c1 ?_)|refine zf2 ?_)|(apply d_w;first|refine zo ?_|refine zc ?_)|refine za fun C=>?_|refine zp (by kernel_rfl) (by kernel_rfl) fun C=>?_|refine zd ?_|refine zq rfl ?_)
  refine zi ?_;refine ret1 rfl zy rfl (by show cloL [AC.ro _ 1 (acL _),AC.v _,AC.v _]=true;simp [cloL,clo,ze]) rfl ⟨?_,?_⟩
  ·rfl
  ·rfl
 | false =>
  unfold numR
  dsimp only
  rcases zm4 bs a with h|⟨n,q,h,hq,hm⟩
  ·rw [h] at c1 ⊢
   rw [if_neg (by simp)]
   unfold rdrM
   dsimp only
   repeat' (first|(apply f_wo;first|(apply f_mv;first|(refine zs1 ?_ ?_<;>intro hG<;>(try cases hG))|refine zt (v:=.c _) ?_)|(apply f_as;refine zu (v:=.c _) ?_)|(apply f_fa;refine n_fa ?_)|(apply f_ld;refine zn1 ?_)|(apply f_st;refine n_st ?_)|(apply f_no;refine za2 ?_)|(apply f_pk;refine zr1 (v:=.c _) ?_)|refine zh1 ?_)|(apply f_w;first|refine zo ?_|refine zc ?_)|(apply d_wo;first|(apply d_mv;first|refine zx3 (.c _) ?_|refine zx3 (.tu _) ?_)|(apply d_as;refine zp9 (.c (.v _)) ?_)|(apply d_fa;refine o_fa ?_)|(apply d_ld;refine zn3 ?_)|(apply d_ca;refine zu5 c1 ?_)|refine zf2 ?_)|(apply d_w;first|refine zo ?_|refine zc ?_)|refine za fun C=>?_|refine zp (by kernel_rfl) (by kernel_rfl) fun C=>?_|refine zd ?_|refine zq rfl ?_)
   refine zi ?_;refine ret1 rfl zy rfl (by show cloL [AC.ro _ 1 (acL _),AC.v _,AC.v _]=true;simp [cloL,clo,ze]) rfl ⟨?_,?_⟩
   ·rfl
   ·rfl
  ·rw [h] at c1 ⊢
   rw [if_pos ⟨rfl,rfl⟩]
   unfold rdrM
   dsimp only
   repeat' (first|(apply f_wo;first|(apply f_mv;first|(refine zs1 ?_ ?_<;>intro hG<;>(try cases hG))|refine zt (v:=.c _) ?_)|(apply f_as;refine zu (v:=.c _) ?_)|(apply f_fa;refine n_fa ?_)|(apply f_ld;refine zn1 ?_)|(apply f_st;refine n_st ?_)|(apply f_no;refine za2 ?_)|(apply f_pk;refine zr1 (v:=.c _) ?_)|refine zh1 ?_)|(apply f_w;first|refine zo ?_|refine zc ?_)|(apply d_wo;first|(apply d_mv;first|refine zx3 (.c _) ?_|refine zx3 (.tu _) ?_)|(apply d_as;refine zp9 (.c (.v _)) ?_)|(apply d_fa;refine o_fa ?_)|(apply d_ld;refine zn3 ?_)|(apply d_ca;refine zu5 c1 ?_)|refine zf2 ?_)|(apply d_w;first|refine zo ?_|refine zc ?_)|refine za fun C=>?_|refine zp (by kernel_rfl) (by kernel_rfl) fun C=>?_|refine zd ?_|refine zk ?_|refine zr rfl ?_)
   refine zi ?_;refine ret1 rfl zy rfl (by show cloL [AC.ro _ 1 (acL _),AC.v _,AC.v _]=true;simp [cloL,clo,ze]) rfl ⟨?_,?_⟩
   ·rfl
   ·rfl
theorem zp4 {bs:List UInt8}{s:RS}(h0:0≤s.1)(h1:s.1≤bs.length)(hn:bs.length≤1073741824):Ctr Tryz.prog 81 [.c (.pt 0 0)] [rdrM bs s] (.c (.v (.int .i64 (numR bs s).1))) [rdrM bs (numR bs s).2]:=by
 obtain⟨a,b⟩:=s
 dsimp only at h0 h1
 have c1:=zh7 (bs:=bs) a (by omega) hn
 refine zi1 Tryz.func81 rfl rfl ?_
 cases b with
 | true =>
  rw [zd10]
  unfold rdrM
  dsimp only
  repeat' (first|(apply f_wo;first|(apply f_gs;refine n_sk ?_)|(apply f_mv;first|(refine zs1 ?_ ?_<;>intro hG<;>(try cases hG))|refine zt (v:=.c _) ?_)|(apply f_as;refine zu (v:=.c _) ?_)|(apply f_fa;refine n_fa ?_)|(apply f_ld;refine zn1 ?_)|(apply f_st;refine n_st ?_)|(apply f_pk;refine zr1 (v:=.c _) ?_)|refine zh1 ?_)|(apply f_w;first|refine zo ?_|refine zc ?_)|(apply d_wo;first|(apply d_mv;first|refine zx3 (.c _) ?_|refine zx3 (.tu _) ?_)|(apply d_as;refine zp9 (.c (.v _)) ?_)|(apply d_fa;refine o_fa ?_)|(apply d_ld;refine zn3 ?_)|(apply d_ca;refine zu5 c1 ?_)|refine zf2 ?_)|(apply d_w;first|refine zo ?_|refine zc ?_)|refine za fun C=>?_|refine zp (by kernel_rfl) (by kernel_rfl) fun C=>?_|refine zd ?_|refine zq rfl ?_)
  refine zi ?_;refine ret1 rfl zy rfl (by show cloL [AC.ro _ 1 (acL _),AC.v _,AC.v _]=true;simp [cloL,clo,ze]) rfl ⟨?_,?_⟩
  ·rfl
  ·rfl
 | false =>
  unfold numR
  dsimp only
  rcases zm4 bs a with h|⟨n,q,h,hq,hm⟩
  ·rw [h] at c1 ⊢
   rw [if_neg (by simp)]
   unfold rdrM
   dsimp only
   repeat' (first|(apply f_wo;first|(apply f_mv;first|(refine zs1 ?_ ?_<;>intro hG<;>(try cases hG))|refine zt (v:=.c _) ?_)|(apply f_as;refine zu (v:=.c _) ?_)|(apply f_fa;refine n_fa ?_)|(apply f_ld;refine zn1 ?_)|(apply f_st;refine n_st ?_)|(apply f_no;refine za2 ?_)|(apply f_pk;refine zr1 (v:=.c _) ?_)|refine zh1 ?_)|(apply f_w;first|refine zo ?_|refine zc ?_)|(apply d_wo;first|(apply d_mv;first|refine zx3 (.c _) ?_|refine zx3 (.tu _) ?_)|(apply d_as;refine zp9 (.c (.v _)) ?_)|(apply d_fa;refine o_fa ?_)|(apply d_ld;refine zn3 ?_)|(apply d_ca;refine zu5 c1 ?_)|refine zf2 ?_)|(apply d_w;first|refine zo ?_|refine zc ?_)|refine za fun C=>?_|refine zp (by kernel_rfl) (by kernel_rfl) fun C=>?_|refine zd ?_|refine zq rfl ?_)
   refine zi ?_;refine ret1 rfl zy rfl (by show cloL [AC.ro _ 1 (acL _),AC.v _,AC.v _]=true;simp [cloL,clo,ze]) rfl ⟨?_,?_⟩
   ·rfl
   ·rfl
  ·rw [h] at c1 ⊢
   rw [if_pos ⟨rfl,rfl⟩]
   unfold rdrM
   dsimp only
   repeat' (first|(apply f_wo;first|(apply f_mv;first|(refine zs1 ?_ ?_<;>intro hG<;>(try cases hG))|refine zt (v:=.c _) ?_)|(apply f_as;refine zu (v:=.c _) ?_)|(apply f_fa;refine n_fa ?_)|(apply f_ld;refine zn1 ?_)|(apply f_st;refine n_st ?_)|(apply f_no;refine za2 ?_)|(apply f_pk;refine zr1 (v:=.c _) ?_)|refine zh1 ?_)|(apply f_w;first|refine zo ?_|refine zc ?_)|(apply d_wo;first|(apply d_mv;first|refine zx3 (.c _) ?_|refine zx3 (.tu _) ?_)|(apply d_as;refine zp9 (.c (.v _)) ?_)|(apply d_fa;refine o_fa ?_)|(apply d_ld;refine zn3 ?_)|(apply d_ca;refine zu5 c1 ?_)|refine zf2 ?_)|(apply d_w;first|refine zo ?_|refine zc ?_)|refine za fun C=>?_|refine zp (by kernel_rfl) (by kernel_rfl) fun C=>?_|refine zd ?_|refine zk ?_|refine zr rfl ?_)
   refine zi ?_;refine ret1 rfl zy rfl (by show cloL [AC.ro _ 1 (acL _),AC.v _,AC.v _]=true;simp [cloL,clo,ze]) rfl ⟨?_,?_⟩
   ·rfl
   ·rfl
end Go.Proofs.YtghljnfbbaklnaaGreat
