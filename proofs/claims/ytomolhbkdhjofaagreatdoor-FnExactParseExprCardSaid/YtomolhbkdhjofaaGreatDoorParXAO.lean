/- T -/
import Derived.Test.YtomolhbkdhjofaaGreatDoorParXAN
set_option maxHeartbeats 0
set_option maxRecDepth 100000
namespace Go.Proofs.YtomolhbkdhjofaaGreatDoor
open Go.RowKit Go.Proofs.Tryz
section
variable {C:Ctx}{φ:Nat→Lc}{F:Nat→List Nat}{St:Nat→Prop}{σ:AS}{a:Act}{w:World}
theorem SimF.freezeS (h:SimF C φ F St σ a w){j t n k:Nat}{T:TypeId}{cs:List AC}(hr:σ.hp j=some ⟨T,k,n,false,cs⟩)(ht:σ.tm t=.c (.sl j n)) :
 ∃St',SimF C φ F St' { σ with tm:=upd σ.tm t (.c (.ro n k (fzL cs))),hp:=upd σ.hp j none } a w:=by
 have hd:=h.drop j
 have hfree:∀b∈F j,Free C φ F St { σ with hp:=upd σ.hp j none } b:=fun b hb=>h.free hr hb
 have hv:=h.tms t
 rw [ht] at hv
 simp only [VR,CR] at hv
 obtain⟨-,-,hφ,-⟩:=hv
 have hrow:=(h.row j _ hr).2
 rw [hφ] at hrow
 obtain⟨_,vs,fs,g1,g2,g3⟩:=hrow
 have hS:∀b,St b→b<w.heap.size→(St b∨b∈F j)∧w.heap[b]? = w.heap[b]? := fun b hb _=>⟨.inl hb,rfl⟩
 have hK:∀i,σ.Kn i→σ.Kn i∧φ i=φ i:=fun i hi=>⟨hi,rfl⟩
 have hro:=CR.fz (St':=fun b=>St b∨b∈F j) (fun b hb=>.inl hb) (.ow T n k cs) (a.tmps.getD t undef) (F j) (fun b hb=>.inr hb) (show CR w St φ σ.Kn (.ow T n k cs) _ (F j) by simp only [CR];exact⟨vs,fs,g1,g2,g3⟩)
 refine⟨fun b=>St b∨b∈F j,hd.dfr,hd.len,fun t'=>?_,fun i r hi=>⟨(hd.row i r hi).1,(hd.row i r hi).2.mono hS (Nat.le_refl _) hK (fun _ _=>rfl) (fun _ _ _ _ _ hB=>hB)⟩,hd.nod,hd.dis,hd.bxF,hd.bxd,fun i r b hi hb hs=>?_,fun i r b lo hi e hs=>?_,hd.frm,hd.own,hd.par,hd.new,hd.gnN,fun b hs hl=>?_⟩
 ·show VR w _ φ σ.Kn (upd σ.tm t (.c (.ro n k (fzL cs))) t') _
  by_cases e:t'=t
  ·subst e;rw [aM];simp only [VR];exact hro
  ·rw [aY _ _ e];exact VR.mono hS (Nat.le_refl _) hK _ _ (h.tms t')
 ·rcases hs with hs|hs
  ·exact hd.stF i r b hi hb hs
  ·exact ((hfree b hs).1 i r hi).1 hb
 ·rcases hs with hs|hs
  ·exact hd.stB i r b lo hi e hs
  ·exact ((hfree b hs).1 i r hi).2 lo e
 ·rcases hs with hs|hs
  ·exact hd.stS b hs hl
  ·exact .inr ((hfree b hs).2.2.resolve_right omq)
end
theorem zx7 {tm:Nat→AV}{hp:Nat→Option Row}{gn L:Nat}{us:List Nat}{j t n k:Nat}{T:TypeId}{cs cs':List AC}(ht:tm t=.c (.sl j n))(hr:hp j=some ⟨T,k,n,false,cs⟩)(hc:fzL cs=cs'):Gh ⟨tm,hp,gn,us,L⟩ ⟨upd tm t (.c (.ro n k cs')),upd hp j none,gn,us,L⟩:=fun C a w hs=>by
 obtain⟨φ,F,St,h⟩:=hs
 obtain⟨St',h'⟩:=h.freezeS hr ht
 subst hc
 exact⟨φ,F,St',h'⟩
section
variable {ops:Array Oper}{Q:Exit→Act→World→Prop}{C:Ctx}{i:Nat}{r:List Nat}
variable {tm:Nat→AV}{hp:Nat→Option Row}{gn L:Nat}{us:List Nat}
end
structure NewB (w w':World)(T:TypeId)(cells:List AC)(b lo:Nat)(vs:List Value)(fs:List Nat):Prop where
 crl:∀(St:Nat→Prop) (φ:Nat→Lc) (K:Nat→Prop),CRL w' St φ K cells vs fs
 box:BoxAt w' b lo vs
 nod:fs.Nodup
 nin:b∉fs
 new:w.heap.size≤b
 fnw:∀x∈fs,w.heap.size≤x
 stp:Stp none w w'
theorem xQ {P:Program}{f:FuncId}{fn:Func}{c:Code}{ins:List AV}{us:List Value}{T:TypeId}{cells:List AC}{w:World}{d:Nat}(hf:P.funcs[f]? = some fn)(hb:fn.body=some c)(hres:fn.results=#[.tmp d])(hcl:bl cells=true)(hro:dn cells=true)
 (h:AWp P c (fun e σ=>(e=.normal∨e=.ret)∧∃i,σ.tm d=.c (.pt i 0)∧σ.hp i=some ⟨T,0,0,true,cells⟩) (σ0 ins [] fn.ntmps)) (hargs:∀(St:Nat→Prop) (φ:Nat→Lc) (K:Nat→Prop),VRL w St φ K ins us) (gl:GlobOk w) :
 Calls P f us.toArray w fun e w'=>∃b lo vs fs,e=.returned (.pointer (some ⟨b,lo,none⟩))∧NewB w w' T cells b lo vs fs:=by
 have hE:Ent w (fun _=>False) φ0 (fun _=>[]) ins us [] :=
  ⟨hargs _ _ _,fun i cs hi=>by simp at hi,fun i hi=>absurd hi (Nat.not_lt_zero i),fun i j hi=>absurd hi (Nat.not_lt_zero i),fun i j b lo hi=>absurd hi (Nat.not_lt_zero i),fun i j b lo lo' ci cj hi=>by simp at hi,fun i b hi=>absurd hi (Nat.not_lt_zero i),fun i b lo hi=>absurd hi (Nat.not_lt_zero i),gl,fun b _=>⟨fun ⟨i,hi,_⟩=>absurd hi (Nat.not_lt_zero i),fun o ⟨i,lo,cs,hi,_⟩=>by simp at hi⟩⟩
 have hs:=hE.sim fn.ntmps
 refine calls_of_wp hf hb (wp_mono (h _ _ _ ⟨_,_,_,hs⟩) ?_)
 rintro e a' w' ⟨σ',⟨he,i,h1,h2⟩,φ',F',St',hsim⟩
 have key:a'.defers=[]∧∃v,(results fn a'.tmps).run P w'=.ok v w'∧∃b lo vs fs,Ending.returned v=.returned (.pointer (some ⟨b,lo,none⟩))∧NewB w w' T cells b lo vs fs:=by
  obtain⟨hk,hrow⟩:=hsim.row i _ h2
  have hv:=hsim.tms d
  rw [h1] at hv
  simp only [VR,CR] at hv
  obtain⟨-,-,hv⟩:=hv
  rcases hv with ⟨b,lo,e1,e2⟩|⟨b,n,cp,e1,e2⟩
  ·rw [e1] at hrow
   obtain⟨-,vs,g1,g2⟩:=hrow
   have hl:xX P σ'.hp σ'.tm fn.results.toList=some [σ'.tm d]:=by rw [hres];rfl
   obtain⟨ws,r1,r2⟩:=kR (P:=P) hsim _ _ hl
   obtain⟨v,r3,r4⟩:=kS r2
   have hv2:v=.pointer (some ⟨b,lo,none⟩):=by
    have r5:VR w' St' φ' σ'.Kn (σ'.tm d) v:=r4
    rw [h1] at r5
    simp only [VR,CR] at r5
    obtain⟨-,-,⟨b',lo',q1,q2⟩|⟨b',n',c',q1,q2⟩⟩:=r5
    ·rw [e1] at q1
     injection q1 with q1 q3
     subst q1 q3
     exact q2
    ·rw [e1] at q1;cases q1
   refine⟨hsim.dfr,v,?_,b,lo,vs,F' i,by rw [hv2],⟨fun St φ K=>CRL.clo_ hcl (CRL.rofr_ hro g1),g2,hsim.nod i _ h2,hsim.bxF i i _ _ b lo h2 h2 e1,hsim.new i _ b lo h2 e1 (Nat.zero_le _),fun x hx=>(hsim.own i _ x h2 hx).resolve_left fun ⟨j,hj,_⟩=>absurd hj (Nat.not_lt_zero j),?_⟩⟩
   ·have:(fun|ResultVar.tmp t=>pure (a'.tmps.getD t undef)|ResultVar.cell a t=>(do loadVar t (←asAddr (a'.tmps.getD a undef)):Sem Value))=iS a'.tmps:=by funext z;cases z<;>rfl
    have hres2:results fn a'.tmps=(fn.results.mapM (iS a'.tmps) >>= fun vs=>pure (if h:vs.size=1 then vs[0] else .tuple vs)):=by rw [←this];rfl
    simp [hres2,Array.mapM_eq_mapM_toList,r1,←r3]
   ·have hfr:=hsim.frm
    refine⟨hfr.os,hfr.tape,hfr.output,hfr.size,fun j hj _=>?_⟩
    have hlk:=hfr.blk j hj (fun ⟨q,hq,_⟩=>absurd hq (Nat.not_lt_zero q))
    rcases hlk with hlk|⟨c1,c2,e3,x1,x2,x3,x4⟩
    ·exact hlk
    ·have hc:c2=c1:=Array.ext_getElem? fun o=>x4 o fun ⟨q,lo,cs,hq,_⟩=>by simp at hq
     rw [hc] at x2
     exact x2.trans x1.symm
  ·rw [e1] at hrow
   exact absurd hrow.1 (by simp)
 rcases he with rfl|rfl<;>exact key
section
variable {ops:Array Oper}{Q:Exit→Act→World→Prop}{C:Ctx}{i:Nat}{r:List Nat}
variable {tm:Nat→AV}{hp:Nat→Option Row}{gn L:Nat}{us:List Nat}
theorem zm2 {ty cT:TypeId}{gd:Option (Nat×Bool)}{ps:String}{af:Array Edge}{t:Nat}{xo fv:Operand}{s:ByteArray}{f:FuncId}{T:TypeId}{cells:List AC}
 (hent:xZ prog f=true) (hnew:∀w:World,GlobOk w→Calls prog f #[.string s] w fun e w'=>∃b lo vs fs,e=.returned (.pointer (some ⟨b,lo,none⟩))∧NewB w w' T cells b lo vs fs)
 (h:Walk prog ops Q C false [] r ⟨upd tm t (.c (.pt t 0)),upd hp t (some ⟨T,0,0,true,cells⟩),gn,t :: us,L⟩)
 (ht:Nat.blt t L=true:=by exact rfl) (hg:gw ops tm (⟨some t,.call ⟨.value fv,#[xo],#[cT]⟩,ty,ps,af,gd⟩:Oper)=some true:=by exact rfl) (hf:(Nat.ble gn t&&!us.contains t)=true:=by exact rfl)
 (hfv:AS.ev ⟨tm,hp,gn,us,L⟩ fv=.c (.fn f []):=by exact rfl) (hx:AS.ev ⟨tm,hp,gn,us,L⟩ xo=.c (.v (.string s)):=by exact rfl) :
 WalkO prog ops Q C false [] i (⟨some t,.call ⟨.value fv,#[xo],#[cT]⟩,ty,ps,af,gd⟩:Oper) r ⟨tm,hp,gn,us,L⟩:=⟨fun hop=>by
 simp only [Bool.and_eq_true,Nat.ble_eq,Bool.not_eq_true'] at hf
 have hnu:t∉us:=fun hm=>by have:=hf.2;simp at this;exact this hm
 refine⟨_,⟨[],[(t,some ⟨T,0,0,true,cells⟩)],[t],.c (.pt t 0)⟩,hop,?_,fun m hm=>?_,d4 (by exact bp),?_⟩
 ·intro τ a w ha hsim K hK
  obtain⟨φ,F,St,hsim⟩:=hsim
  have e1:τ.ev xo=.c (.v (.string s)):=by rw [ha.ev xo (by simp [Op.operands,Call.operands])];exact hx
  have e2:τ.ev fv=.c (.fn f []):=by rw [ha.ev fv (by simp [Op.operands,Call.operands])];exact hfv
  have v1:=hsim.ev xo
  have v2:=hsim.ev fv
  rw [e1] at v1
  rw [e2] at v2
  simp only [VR,CR] at v1 v2
  obtain⟨-,us2,hfu,hcaps⟩:=v2
  obtain⟨rfl,-⟩:us2=[]∧True:=by simp only [CRL] at hcaps;exact⟨hcaps.1,trivial⟩
  have hev:=v1.1
  unfold wpOp
  rw [hop]
  have hw:=oJ hsim (b:=true) (by rw [ha.gw];exact hg)
  simp only [hw,if_true]
  refine .inl ?_
  unfold Oper.wp
  have hrun:(execOp a.eval (⟨some t,.call ⟨.value fv,#[xo],#[cT]⟩,ty,ps,af,gd⟩:Oper)).run prog w=.ok (.enter f #[.string s]) w:=by
   have h1:(resolve a.eval ⟨.value fv,#[xo],#[cT]⟩ ty).run prog w=.ok { target:=.fn (.func f) #[],args:=#[.string s] } w:=by
    unfold resolve;simp only [hfu,Deferred.ofValue,Sem.run_pure]
    simp [hev]
   have h2:execOp a.eval (⟨some t,.call ⟨.value fv,#[xo],#[cT]⟩,ty,ps,af,gd⟩:Oper)=(do let d ←resolve a.eval ⟨.value fv,#[xo],#[cT]⟩ ty;invoke d.target d.args):=by unfold execOp;rfl
   rw [h2,Sem.run_bind,h1]
   simp only [Result.andThen_ok,invoke]
   exact gO hent _ _
  rw [hrun,Oper.upon_enter]
  refine (hnew w hsim.gl).mono ?_
  rintro e w' ⟨b,lo,vs,fs,rfl,hN⟩
  have s1:=hsim.newRow (i:=t) (by rw [ha.gn];exact hf.1) (ha.us t (by simp)) (b0:=none) hN.stp (fun b hb=>by cases hb) (r:=⟨T,0,0,true,cells⟩) (L:=.box b lo) (fp:=fs) (fun St' φ' _ _=>⟨rfl,vs,hN.crl _ _ _,hN.box⟩) hN.nod (fun x hx=>.inl (hN.fnw x hx)) (fun b' lo' e=>by injection e with e1 e2;subst e1;exact⟨hN.new,hN.nin⟩)
  exact hK _ _ ⟨_,_,_,s1.put (some t) (x:=.c (.pt t 0)) (u:=.pointer (some ⟨b,lo,none⟩)) (by simp only [VR,CR];exact⟨trivial,.inr List.mem_cons_self,.inl ⟨b,lo,by rw [aM],rfl⟩⟩)⟩
 ·have:m=t:=by simpa using hm
  subst this
  exact hnu
 ·refine cD ?_
  show Walk prog ops Q C false [] r (AS.put _ (some t) _)
  rw [dM (by exact dK ht)];exact h⟩
end
theorem ziQ {s:ByteArray}(hs:s.size≤1048576)(w:World)(gl:GlobOk w):Calls prog 29 #[.string s] w fun e w'=>∃b lo vs fs,e=.returned (.pointer (some ⟨b,lo,none⟩))∧NewB w w' 53 [.ow 63 ((gx s).map T3.E).length 3 (owL ((gx s).map T3.E)),.v (.int .i64 0),.v (.bool ((iq s).2 != -1)),.v (.int .i64 0)] b lo vs fs:=by
 have c1:=vN hs
 rw [(db s).2] at c1
 refine xQ (ins:=[.c (.v (.string s))]) (us:=[.string s]) func29 rfl rfl (by simp [bl,clo,a8]) (by simp [dn,kg];(first|rfl|exact bR _|(simp [dP,eJ,dn,kg,bR,df,cX];done))) ?_ (fun St φ K=>VRL_cons (VR_str s) VRL_nil) gl
 repeat' (first|(apply av;first|refine ak ?_|refine dI (v:=.tu _) ?_|refine ai ?_|refine dp c1 ?_|refine aQ ?_|refine cK ?_|refine cB ?_|refine az ?_)|refine aj ?_|refine ab ?_|refine aa fun C=>?_|refine ac ?_)
 refine a7 (dA (i:=14) (j:=800) rfl rfl rfl (pre:=[]) (post:=[_,_,_]) rfl) ?_
 refine am ?_
 exact⟨.inr rfl,14,rfl,rfl⟩
theorem rc {L:List T3}(hL:L.length≤2000)(hok:okL L){f:Nat}(hf:f≤3000){g:RI→E×RI}(hg:GI L f g)(hi:HI L f g){r:RI}(hb:r.b=false)(hr:L.length+1≤r.a+(f+1))(ha:r.a<L.length) :
 Ctr prog 51 [.c (.pt 0 0)] [dz L r] (.ag (owE (enI L g r).1)) [dz L (enI L g r).2]:=by
 obtain⟨a,b⟩:=r
 have hb:b=false:=hb
 subst hb
 dsimp only at hr ha
 unfold enI
 have w1:=ox L ⟨a,false⟩ ⟨#[40]⟩
 have k1:=eY hL (r:=⟨a,false⟩) (by dsimp only;omega) ⟨#[40]⟩
 generalize waI L ⟨a,false⟩ ⟨#[40]⟩=r1 at *
 dsimp only at w1
 have t1:TI L r1:=fun h=>by have:=w1.2 h;omega
 have g1:=hg r1 t1
 have k2:=hi r1 t1 (fun _=>by omega)
 have n1:=g1.n
 have f1:=g1.fine
 clear g1
 generalize g r1=x1 at *
 have hq1:x1.2.a≤60000:=by omega
 have c1:=pH hL (r:=x1.2) omq (j:=0) omq (z:=0) rfl ⟨#[105,110]⟩
 have c2:=pH hL (r:=x1.2) omq (j:=0) omq (z:=0) rfl ⟨#[126]⟩
 obtain⟨y1,⟨q1,b1⟩⟩:=x1
 dsimp only at *
 have hu:RI.up ⟨q1,b1⟩=⟨q1+1,b1⟩:=rfl
 cases hi1:isI L ⟨q1,b1⟩ 0 ⟨#[105,110]⟩ with
 | true =>
  rw [if_pos rfl,hu]
  rw [hi1] at c1
  clear c2 hg hi
  have k4:=ol hL (r:=⟨q1+1,b1⟩) (by dsimp only;omega) 2
  have t3:=ta_f hok ⟨q1+1,b1⟩ (k:=2) (by decide)
  generalize taI L ⟨q1+1,b1⟩ 2=x3 at *
  obtain⟨⟨u1,u2,u3⟩,q3⟩:=x3
  dsimp only at *
  have k7:=eY hL (r:=q3) omq ⟨#[41]⟩
  generalize waI L q3 ⟨#[41]⟩=r6 at *
  clear w1 t1 t3 hi1
  cases f1 with
  | mk m1 m2 m3 m4 _ _ _ _ =>
  refine ay func51 rfl rfl ?_
  unfold dz at *
  dsimp only at c1 k1 k2 k4 k7 ⊢
  repeat' (first|(apply av;first|refine ak ?_|refine ai ?_|refine ba ?_|refine aI ?_|refine bL ?_|refine iw 0 [6] (k1) ?_ (hl:=cH (by rfl) bX)|refine iw 0 [52] (k7) ?_ (hl:=cH (by rfl) bX)|refine aF 0 (c1) ?_|refine aF 0 (k2) ?_|refine bg ?_|refine aw ?_|refine bI ?_|refine ec ?_|refine az ?_)|refine aj ?_|refine ab ?_|(apply dc;first|(apply dx;refine aH ?_)|refine gP ?_|refine nz 0 (k4) ?_|refine mK ?_|refine vq ?_|refine aH ?_)|refine aj ?_|refine ab ?_|refine aa fun C=>?_|refine au (by kernel_rfl) (by kernel_rfl) fun C=>?_|refine ac ?_|refine ah ?_|refine aq rfl ?_)
  refine a7 (dA (i:=33) (j:=1000) rfl rfl rfl (pre:=[_,_,_]) (post:=[]) rfl) ?_
  exact fA
 | false =>
  rw [if_neg (by simp)]
  rw [hi1] at c1
  cases hi2:isI L ⟨q1,b1⟩ 0 ⟨#[126]⟩ with
  | true =>
   rw [if_pos rfl,hu]
   rw [hi2] at c2
   clear hg hi
   have k4:=ol hL (r:=⟨q1+1,b1⟩) (by dsimp only;omega) 4
   have t3:=ta_f hok ⟨q1+1,b1⟩ (k:=4) (by decide)
   generalize taI L ⟨q1+1,b1⟩ 4=x3 at *
   obtain⟨⟨u1,u2,u3⟩,q3⟩:=x3
   dsimp only at *
   have k7:=eY hL (r:=q3) omq ⟨#[41]⟩
   generalize waI L q3 ⟨#[41]⟩=r6 at *
   clear w1 t1 t3 hi1 hi2
   cases f1 with
   | mk m1 m2 m3 m4 _ _ _ _ =>
   refine ay func51 rfl rfl ?_
   unfold dz at *
   dsimp only at c1 c2 k1 k2 k4 k7 ⊢
   repeat' (first|(apply av;first|refine ak ?_|refine ai ?_|refine ba ?_|refine aI ?_|refine bL ?_|refine iw 0 [6] (k1) ?_ (hl:=cH (by rfl) bX)|refine iw 0 [52] (k7) ?_ (hl:=cH (by rfl) bX)|refine aF 0 (c1) ?_|refine aF 0 (c2) ?_|refine aF 0 (k2) ?_|refine bg ?_|refine aw ?_|refine bI ?_|refine ec ?_|refine az ?_)|refine aj ?_|refine ab ?_|(apply dc;first|(apply dx;refine aH ?_)|refine gP ?_|refine nz 0 (k4) ?_|refine mK ?_|refine vq ?_|refine aH ?_)|refine aj ?_|refine ab ?_|refine aa fun C=>?_|refine au (by kernel_rfl) (by kernel_rfl) fun C=>?_|refine ac ?_|refine ah ?_|refine aq rfl ?_|refine ar rfl ?_)
   refine a7 (dA (i:=49) (j:=1000) rfl rfl rfl (pre:=[_,_,_]) (post:=[]) rfl) ?_
   exact fA
  | false =>
   rw [if_neg (by simp)]
   rw [hi2] at c2
   have k4:=ol hL (r:=⟨q1,b1⟩) (by dsimp only;omega) 5
   have t3:=ta_f hok ⟨q1,b1⟩ (k:=5) (by decide)
   generalize taI L ⟨q1,b1⟩ 5=x3 at *
   obtain⟨⟨u1,u2,u3⟩,q3⟩:=x3
   dsimp only at *
   have bb1:=dJ r1.b;have bb2:=dJ b1;have bb3:=dJ q3.b
   have t4:TI L q3:=fun h=>by have:=t3.2.1 h;omega
   have g5:=hg q3 t4
   have k6:=hi q3 t4 (fun _=>by omega)
   have n5:=g5.n
   have f5:=g5.fine
   clear g5 hg hi
   generalize g q3=x5 at *
   have k7:=eY hL (r:=x5.2) omq ⟨#[41]⟩
   generalize waI L x5.2 ⟨#[41]⟩=r6 at *
   obtain⟨y5,q5⟩:=x5
   dsimp only at *
   clear w1 t1 t3 hi1 hi2 n1 n5 t4 bb1 bb2 bb3
   cases f1 with
   | mk m1 m2 m3 m4 _ _ _ _ =>
   cases f5 with
   | mk h1 h2 h3 h4 _ _ _ _ =>
   refine ay func51 rfl rfl ?_
   unfold dz at *
   dsimp only at c1 c2 k1 k2 k4 k6 k7 ⊢
   repeat' (first|(apply av;first|refine ak ?_|refine ai ?_|refine bL ?_|refine iw 0 [6] (k1) ?_ (hl:=cH (by rfl) bX)|refine iw 0 [52] (k7) ?_ (hl:=cH (by rfl) bX)|refine aF 0 (c1) ?_|refine aF 0 (c2) ?_|refine aF 0 (k4) ?_|refine aF 0 (k2) ?_|refine bg ?_|refine bI ?_|refine ec ?_|refine az ?_)|refine aj ?_|refine ab ?_|(apply dc;first|(apply dx;refine aH ?_)|refine d5 ?_|refine gP ?_|refine nz 0 (k6) ?_|refine mK ?_|refine vq ?_)|refine aj ?_|refine ab ?_|refine aa fun C=>?_|refine au (by kernel_rfl) (by kernel_rfl) fun C=>?_|refine ac ?_|refine ah ?_|refine ar rfl ?_)
   refine a7 (dA (i:=17) (j:=1000) rfl rfl rfl (pre:=[_,_,_]) (post:=[_,_,_,_]) rfl) ?_
   refine a7 (dA (i:=17) (j:=1700) rfl rfl rfl (pre:=[_,_,_,_,_,_,_]) (post:=[]) rfl) ?_
   exact fA
theorem pN {L:List T3}{r:RI}(hb:r.b=true):Ctr prog 26 [.c (.pt 0 0)] [dz L r] (.ag (owE (zE,r).1)) [dz L (zE,r).2]:=by
 obtain⟨a,b⟩:=r
 have hb:b=true:=hb
 subst hb
 refine ay func26 rfl rfl ?_
 unfold dz
 dsimp only
 repeat' (first|(apply av;first|refine ak ?_|refine ba ?_|refine aI ?_|refine bg ?_|refine bI ?_|refine az ?_)|refine aj ?_|refine ab ?_|refine aa fun C=>?_|refine ac ?_|refine aq rfl ?_)
 refine a7 (cR 90000 (i:=2) 26 4 rfl rfl (pre:=[_,_,_]) (post:=[]) rfl) ?_
 exact fA
theorem zd6 {L:List T3}(hL:L.length≤2000)(hok:okL L){f:Nat}(hf:f≤3000){g:RI→E×RI}(hg:GI L f g)(hi:HI L f g){r:RI}(hb:r.b=false)(hr:L.length+1≤r.a+(f+1))(ht:TI L r):Ctr prog 26 [.c (.pt 0 0)] [dz L r] (.ag (owE (paI L g r).1)) [dz L (paI L g r).2]:=by
 have ha0:r.a≤L.length:=ht (by rw [hb];rfl)
 have cw:r.a<L.length→Ctr prog 49 [.c (.pt 0 0)] [dz L r] (.ag (owE (cC L g (tAt L r.a).2.2 r).1)) [dz L (cC L g (tAt L r.a).2.2 r).2]:=fun h=>zz5 hL hok hf hg hi hb hr h
 have fw:r.a<L.length→FnX (cC L g (tAt L r.a).2.2 r).1:=fun h=>(xD hok hg (sF hok r.a).1 (by rw [hb];rfl) h).fine
 have ce:r.a<L.length→Ctr prog 51 [.c (.pt 0 0)] [dz L r] (.ag (owE (enI L g r).1)) [dz L (enI L g r).2]:=fun h=>rc hL hok hf hg hi hb hr h
 have fe:r.a<L.length→FnX (enI L g r).1:=fun h=>(en_PI hok hg (by rw [hb];rfl) h).fine
 have hlt0:(tAt L r.a).1≠0→r.a<L.length:=fun h=>qW h
 obtain⟨a,b⟩:=r
 have hb:b=false:=hb
 subst hb
 dsimp only at hr ha0 cw fw ce fe hlt0
 have c1:=gY hL (r:=⟨a,false⟩) (by dsimp only;omega) (j:=0) omq (z:=0) rfl
 have c2:=pH hL (r:=⟨a,false⟩) (by dsimp only;omega) (j:=0) omq (z:=0) rfl ⟨#[40]⟩
 rw [show (⟨a,false⟩:RI).a+0=a from rfl] at c1
 unfold paI
 dsimp only
 generalize htt:tAt L a=t at *
 obtain⟨k,n,s⟩:=t
 dsimp only at *
 have hu:RI.up ⟨a,false⟩=⟨a+1,false⟩:=rfl
 by_cases h1:k=1
 ·subst h1
  rw [if_pos rfl,hu]
  clear cw fw ce fe hg hi c2
  refine ay func26 rfl rfl ?_
  unfold dz at *
  dsimp only at c1 ⊢
  repeat' (first|((refine gg (by decide) (by decide) (by decide) ?_))|(apply av;first|refine ak ?_|refine ai ?_|refine ba ?_|refine aI ?_|refine aF 0 (c1) ?_|refine bg ?_|refine ao ?_|refine aw ?_|refine bI ?_|refine az ?_)|refine aj ?_|refine ab ?_|refine aa fun C=>?_|refine ac ?_|refine ah ?_|refine al ?_|refine aq rfl ?_|refine ar rfl ?_)
  refine a7 (cR 90000 (i:=2) 26 4 rfl rfl (pre:=[_,_,_]) (post:=[]) rfl) ?_
  exact fA
 rw [if_neg h1]
 by_cases h3:k=3
 ·subst h3
  rw [if_pos rfl,hu]
  clear cw fw ce fe hg hi c2
  refine ay func26 rfl rfl ?_
  unfold dz at *
  dsimp only at c1 ⊢
  repeat' (first|((refine gg (by decide) (by decide) (by decide) ?_))|(apply av;first|refine ak ?_|refine ai ?_|refine ba ?_|refine aI ?_|refine aF 0 (c1) ?_|refine bg ?_|refine ao ?_|refine aw ?_|refine bI ?_|refine az ?_)|refine aj ?_|refine ab ?_|refine aa fun C=>?_|refine ac ?_|refine ah ?_|refine al ?_|refine aq rfl ?_|refine ar rfl ?_)
  refine a7 (cR 90000 (i:=2) 26 4 rfl rfl (pre:=[_,_,_]) (post:=[]) rfl) ?_
  exact fA
 rw [if_neg h3]
 by_cases h2:k=2
 ·subst h2
  rw [if_pos rfl]
  have cw:=cw (hlt0 (by decide))
  have fw:=fw (hlt0 (by decide))
  clear ce fe hg hi c2
  generalize cC L g s ⟨a,false⟩=x1 at *
  obtain⟨y1,q1⟩:=x1
  dsimp only at *
  cases fw with
  | mk m1 m2 m3 m4 _ _ _ _ =>
  refine ay func26 rfl rfl ?_
  unfold dz at *
  dsimp only at c1 cw ⊢
  repeat' (first|((refine gg (by decide) (by decide) (by decide) ?_))|(apply av;first|refine ak ?_|refine ai ?_|refine ba ?_|refine aI ?_|refine aF 0 (c1) ?_|refine aF 0 (cw) ?_|refine bg ?_|refine ao ?_|refine bI ?_|refine az ?_)|refine aj ?_|refine ab ?_|refine aa fun C=>?_|refine ac ?_|refine ah ?_|refine al ?_|refine aq rfl ?_|refine ar rfl ?_)
  exact fA
 rw [if_neg h2]
 clear cw fw
 have e1:(k==1)=false:=by simpa using h1
 have e2:(k==2)=false:=by simpa using h2
 have e3:(k==3)=false:=by simpa using h3
 cases hi1:isI L ⟨a,false⟩ 0 ⟨#[40]⟩ with
 | true =>
  rw [if_pos rfl]
  rw [hi1] at c2
  have hlt:a<L.length:=lV hi1
  have ce:=ce hlt
  have fe:=fe hlt
  clear hg hi
  generalize enI L g ⟨a,false⟩=x1 at *
  obtain⟨y1,q1⟩:=x1
  dsimp only at *
  cases fe with
  | mk m1 m2 m3 m4 _ _ _ _ =>
  refine ay func26 rfl rfl ?_
  unfold dz at *
  dsimp only at c1 c2 ce ⊢
  repeat' (first|(apply av;first|refine ak ?_|refine ba ?_|refine aI ?_|refine bI ?_|refine az ?_)|refine aj ?_|refine ab ?_|refine aa fun C=>?_|refine ac ?_)
  refine ar rfl ?_
  repeat' (first|((refine gg (by decide) (by decide) (by decide) ?_))|(apply av;first|refine ak ?_|refine ai ?_|refine ba ?_|refine aI ?_|refine aF 0 (c1) ?_|refine bg ?_|refine ao ?_|refine bI ?_)|refine aj ?_|refine ab ?_|refine aa fun C=>?_|refine ac ?_|refine ah ?_|refine al ?_)
  refine ae (by rfl) (fun hC=>absurd (eq_of_beq hC) h1) fun hC=>?_
  repeat' (first|(apply av;first|refine ai ?_|refine ba ?_|refine aI ?_|refine ao ?_)|refine aj ?_|refine ab ?_|refine aa fun C=>?_|refine ac ?_)
  refine ae (by rfl) (fun hC=>absurd (eq_of_beq hC) h3) fun hC=>?_
  repeat' (first|(apply av;first|refine ai ?_|refine ba ?_|refine aI ?_|refine ao ?_)|refine aj ?_|refine ab ?_|refine aa fun C=>?_|refine ac ?_)
  refine ae (by rfl) (fun hC=>absurd (eq_of_beq hC) h2) fun hC=>?_
  repeat' (first|(apply av;first|refine ak ?_|refine ai ?_|refine aF 0 (c2) ?_|refine aF 0 (ce) ?_|refine bg ?_)|refine aj ?_|refine ab ?_|refine aa fun C=>?_|refine ac ?_|refine aq rfl ?_)
  exact fA
 | false =>
  rw [if_neg (by simp)]
  rw [hi1] at c2
  clear ce fe
  by_cases h5:k=5∧0<gf s
  ·rw [if_pos h5,hu]
   obtain⟨h5,hk⟩:=h5
   subst h5
   have hlt:=hlt0 (by decide)
   have t1:TI L ⟨a+1,false⟩:=fun h=>by dsimp only;omega
   have g1:=hg ⟨a+1,false⟩ t1
   have k2:=hi ⟨a+1,false⟩ t1 (fun _=>by dsimp only;omega)
   have f1:=g1.fine
   clear g1 hg hi
   generalize g ⟨a+1,false⟩=x1 at *
   obtain⟨y1,q1⟩:=x1
   dsimp only at *
   cases f1 with
   | mk m1 m2 m3 m4 _ _ _ _ =>
   have hk2:decide (0<gf s)=true:=decide_eq_true hk
   refine ay func26 rfl rfl ?_
   unfold dz at *
   dsimp only at c1 c2 k2 ⊢
   repeat' (first|((refine gg (by decide) (by decide) (by decide) ?_))|(apply av;refine n_lk ?_)|(apply av;first|(refine aK ?_ ?_<;>intro hG<;>(try cases hG))|refine ak ?_|refine ai ?_|refine ba ?_|refine aI ?_|refine aF 0 (c1) ?_|refine aF 0 (c2) ?_|refine bg ?_|refine ao ?_|refine bu ?_|refine aA ?_|refine bI ?_|refine az ?_)|refine aj ?_|refine ab ?_|refine aa fun C=>?_|refine ac ?_|refine ah ?_|refine al ?_|refine ar rfl ?_)
   refine ae (by rfl) (fun hC=>?_) fun hC=>by exfalso;simp only [decide_eq_false_iff_not] at hC;exact hC hk
   repeat' (first|(apply dc;refine o_lk ?_)|(apply av;first|refine ak ?_|refine ba ?_|refine aI ?_|refine bg ?_|refine aw ?_|refine az ?_)|refine aj ?_|refine ab ?_|(apply dc;first|(apply dx;refine aH ?_)|refine d5 ?_|refine cg ?_|refine nz 0 (k2) ?_|refine mK ?_|refine vq ?_|refine aH ?_)|refine aj ?_|refine ab ?_|refine aa fun C=>?_|refine au (by kernel_rfl) (by kernel_rfl) fun C=>?_|refine ac ?_)
   refine a7 (dA (i:=77) (j:=7700) rfl rfl rfl (pre:=[_,_,_]) (post:=[]) rfl) ?_
   exact fA
  ·rw [if_neg h5]
   clear hg hi
   refine ay func26 rfl rfl ?_
   unfold dz at *
   dsimp only at c1 c2 ⊢
   repeat' (first|(apply av;first|refine ak ?_|refine ba ?_|refine aI ?_|refine bI ?_|refine az ?_)|refine aj ?_|refine ab ?_|refine aa fun C=>?_|refine ac ?_)
   refine ar rfl ?_
   repeat' (first|((refine gg (by decide) (by decide) (by decide) ?_))|(apply av;first|refine ak ?_|refine ai ?_|refine ba ?_|refine aI ?_|refine aF 0 (c1) ?_|refine bg ?_|refine ao ?_|refine bI ?_)|refine aj ?_|refine ab ?_|refine aa fun C=>?_|refine ac ?_|refine ah ?_|refine al ?_)
   refine ae (by rfl) (fun hC=>absurd (eq_of_beq hC) h1) fun hC=>?_
   repeat' (first|(apply av;first|refine ai ?_|refine ba ?_|refine aI ?_|refine ao ?_)|refine aj ?_|refine ab ?_|refine aa fun C=>?_|refine ac ?_)
   refine ae (by rfl) (fun hC=>absurd (eq_of_beq hC) h3) fun hC=>?_
   repeat' (first|(apply av;first|refine ai ?_|refine ba ?_|refine aI ?_|refine ao ?_)|refine aj ?_|refine ab ?_|refine aa fun C=>?_|refine ac ?_)
   refine ae (by rfl) (fun hC=>absurd (eq_of_beq hC) h2) fun hC=>?_
   repeat' (first|(apply av;refine n_lk ?_)|(apply av;first|refine bC ?_|(refine aK ?_ ?_<;>intro hG<;>(try cases hG))|refine ak ?_|refine ai ?_|refine ba ?_|refine aI ?_|refine aF 0 (c2) ?_|refine bg ?_|refine ao ?_|refine bu ?_|refine aA ?_|refine az ?_)|refine aj ?_|refine ab ?_|refine aa fun C=>?_|refine ac ?_|refine al ?_|refine ar rfl ?_)
   ·refine ae (by rfl) (fun hC=>?_) fun hC=>?_
    ·exfalso
     simp only [decide_eq_true_iff] at hC
     exact h5 ⟨eq_of_beq hG,hC⟩
    ·repeat' (first|(apply av;first|refine ak ?_|refine ba ?_|refine bg ?_|refine az ?_)|refine aj ?_|refine ab ?_|refine aa fun C=>?_|refine ac ?_|refine al ?_)
     refine a7 (cR 90000 (i:=2) 26 4 rfl rfl (pre:=[_,_,_]) (post:=[]) rfl) ?_
     exact fA
   ·skip
    refine a7 (cR 90000 (i:=2) 26 4 rfl rfl (pre:=[_,_,_]) (post:=[]) rfl) ?_
    exact fA
theorem xR {L:List T3}(hL:L.length≤2000)(hok:okL L):∀f:Nat,f≤3000→HI L f (exI L f)
 | 0,_,q,ht,hq=>by
  cases hb:q.b with
  | true =>
   have e:exI L 0 q=(zE,q):=by obtain⟨a,b⟩:=q;have hb:b=true:=hb;subst hb;rfl
   rw [e]
   exact pN hb
  | false=>exact absurd (ht (by rw [hb];rfl)) (by have:=hq hb;omega)
 | f+1,hf,q,ht,hq=>by
  have ih:=xR hL hok f omq
  unfold exI
  cases hb:q.b with
  | true=>rw [if_pos rfl];exact pN hb
  | false=>rw [if_neg (by simp)];exact zd6 hL hok omq (xF hok f) ih hb (hq hb) ht
end Go.Proofs.YtomolhbkdhjofaaGreatDoor
