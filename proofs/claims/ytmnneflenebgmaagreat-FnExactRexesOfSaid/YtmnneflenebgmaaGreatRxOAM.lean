/- T -/
import Derived.Test.YtmnneflenebgmaaGreatRxOAL
set_option maxHeartbeats 0
set_option maxRecDepth 100000
namespace Go.Proofs.YtmnneflenebgmaaGreat
open Go.RowKit Go.Proofs.Tryz
structure NewA (w w':World)(T:TypeId)(cells:List AC)(b lo:Nat)(vs:List Value)(fs:List Nat):Prop where
 crl:∀(St:Nat→Prop) (φ:Nat→Lc) (K:Nat→Prop),CRL w' St φ K cells vs fs
 box:BoxAt w' b lo vs
 nod:fs.Nodup
 nin:b∉fs
 new:w.heap.size≤b
 fnw:∀x∈fs,w.heap.size≤x
 stp:Stp none w w'
theorem sE {P:Program}{f:FuncId}{fn:Func}{c:Code}{cs:List AC}{u0:Value}{St0:Nat→Prop}{φ1:Nat→Lc}{K1:Nat→Prop}{T:TypeId}{cells:List AC}{w:World}{d:Nat}(hf:P.funcs[f]? = some fn)(hb:fn.body=some c)(hres:fn.results=#[.tmp d])(hcl:ba cells=true)(hro:dk cells=true)
 (h:AWp P c (fun e σ=>(e=.normal∨e=.ret)∧∃i,σ.tm d=.c (.pt i 0)∧σ.hp i=some ⟨T,0,0,true,cells⟩) (σ0 [.ag cs] [] fn.ntmps)) (hargs:VR w St0 φ1 K1 (.ag cs) u0) (hcs:ba cs=true) (gl:GlobOk w) :
 Calls P f #[u0] w fun e w'=>∃b lo vs fs,e=.returned (.pointer (some ⟨b,lo,none⟩))∧NewA w w' T cells b lo vs fs:=by
 have hE:Ent w St0 φ0 (fun _=>[]) [.ag cs] [u0] [] :=
  ⟨by
   simp only [VR] at hargs
   obtain⟨us,e,h1⟩:=hargs
   exact VRL_cons (by simp only [VR];exact⟨us,e,CRL.clo_ hcs h1⟩) VRL_nil,fun i cs hi=>by simp at hi,fun i hi=>absurd hi (Nat.not_lt_zero i),fun i j hi=>absurd hi (Nat.not_lt_zero i),fun i j b lo hi=>absurd hi (Nat.not_lt_zero i),fun i j b lo lo' ci cj hi=>by simp at hi,fun i b hi=>absurd hi (Nat.not_lt_zero i),fun i b lo hi=>absurd hi (Nat.not_lt_zero i),gl,fun b _=>⟨fun ⟨i,hi,_⟩=>absurd hi (Nat.not_lt_zero i),fun o ⟨i,lo,cs,hi,_⟩=>by simp at hi⟩⟩
 have hs:=hE.sim fn.ntmps
 refine calls_of_wp hf hb (wp_mono (h _ _ _ ⟨_,_,_,hs⟩) ?_)
 rintro e a' w' ⟨σ',⟨he,i,h1,h2⟩,φ',F',St',hsim⟩
 have key:a'.defers=[]∧∃v,(results fn a'.tmps).run P w'=.ok v w'∧∃b lo vs fs,Ending.returned v=.returned (.pointer (some ⟨b,lo,none⟩))∧NewA w w' T cells b lo vs fs:=by
  obtain⟨hk,hrow⟩:=hsim.row i _ h2
  have hv:=hsim.tms d
  rw [h1] at hv
  simp only [VR,CR] at hv
  obtain⟨-,-,hv⟩:=hv
  rcases hv with ⟨b,lo,e1,e2⟩|⟨b,n,cp,e1,e2⟩
  ·rw [e1] at hrow
   obtain⟨-,vs,g1,g2⟩:=hrow
   have hl:wj P σ'.hp σ'.tm fn.results.toList=some [σ'.tm d]:=by rw [hres];rfl
   obtain⟨ws,r1,r2⟩:=ma (P:=P) hsim _ _ hl
   obtain⟨v,r3,r4⟩:=nu r2
   have hv2:v=.pointer (some ⟨b,lo,none⟩):=by
    have r5:VR w' St' φ' σ'.Kn (σ'.tm d) v:=r4
    rw [h1] at r5
    simp only [VR,CR] at r5
    obtain⟨-,-,⟨b',lo',q1,q2⟩|⟨b',n',c',q1,q2⟩⟩:=r5
    ·rw [e1] at q1
     injection q1 with q1 q3
     subst q1 q3
     exact q2
    ·rw [e1] at q1;cases q1
   refine⟨hsim.dfr,v,?_,b,lo,vs,F' i,by rw [hv2],⟨fun St φ K=>CRL.clo_ hcl (CRL.rofr_ hro g1),g2,hsim.nod i _ h2,hsim.bxF i i _ _ b lo h2 h2 e1,hsim.new i _ b lo h2 e1 (Nat.zero_le _),fun x hx=>(hsim.own i _ x h2 hx).resolve_left fun ⟨j,hj,_⟩=>absurd hj (Nat.not_lt_zero j),?_⟩⟩
   ·have:(fun|ResultVar.tmp t=>pure (a'.tmps.getD t undef)|ResultVar.cell a t=>(do loadVar t (←asAddr (a'.tmps.getD a undef)):Sem Value))=j6 a'.tmps:=by funext z;cases z<;>rfl
    have hres2:results fn a'.tmps=(fn.results.mapM (j6 a'.tmps) >>= fun vs=>pure (if h:vs.size=1 then vs[0] else .tuple vs)):=by rw [←this];rfl
    simp [hres2,Array.mapM_eq_mapM_toList,r1,←r3]
   ·have hfr:=hsim.frm
    refine⟨hfr.os,hfr.tape,hfr.output,hfr.size,fun j hj _=>?_⟩
    have hlk:=hfr.blk j hj (fun ⟨q,hq,_⟩=>absurd hq (Nat.not_lt_zero q))
    rcases hlk with hlk|⟨c1,c2,e3,x1,x2,x3,x4⟩
    ·exact hlk
    ·have hc:c2=c1:=Array.ext_getElem? fun o=>x4 o fun ⟨q,lo,cs,hq,_⟩=>by simp at hq
     rw [hc] at x2
     exact x2.trans x1.symm
  ·rw [e1] at hrow
   exact absurd hrow.1 (by simp)
 rcases he with rfl|rfl<;>exact key
section
variable {ops:Array Oper}{Q:Exit→Act→World→Prop}{C:Ctx}{i:Nat}{r:List Nat}
variable {tm:Nat→AV}{hp:Nat→Option Row}{gn L:Nat}{us:List Nat}
theorem zi4 {ty cT:TypeId}{gd:Option (Nat×Bool)}{ps:String}{af:Array Edge}{t:Nat}{xo fv:Operand}{cs:List AC}{f:FuncId}{T:TypeId}{cells:List AC}
 (hent:zL prog f=true) (hnew:∀(w:World) (St:Nat→Prop) (φ:Nat→Lc) (K:Nat→Prop) (u:Value),GlobOk w→VR w St φ K (.ag cs) u→Calls prog f #[u] w fun e w'=>∃b lo vs fs,e=.returned (.pointer (some ⟨b,lo,none⟩))∧NewA w w' T cells b lo vs fs)
 (h:Walk prog ops Q C false [] r ⟨upd tm t (.c (.pt t 0)),upd hp t (some ⟨T,0,0,true,cells⟩),gn,t :: us,L⟩)
 (ht:Nat.blt t L=true:=by exact rfl) (hg:gw ops tm (⟨some t,.call ⟨.value fv,#[xo],#[cT]⟩,ty,ps,af,gd⟩:Oper)=some true:=by exact rfl) (hf:(Nat.ble gn t&&!us.contains t)=true:=by exact rfl)
 (hfv:AS.ev ⟨tm,hp,gn,us,L⟩ fv=.c (.fn f []):=by exact rfl) (hx:AS.ev ⟨tm,hp,gn,us,L⟩ xo=.ag cs:=by exact rfl) :
 WalkO prog ops Q C false [] i (⟨some t,.call ⟨.value fv,#[xo],#[cT]⟩,ty,ps,af,gd⟩:Oper) r ⟨tm,hp,gn,us,L⟩:=⟨fun hop=>by
 simp only [Bool.and_eq_true,Nat.ble_eq,Bool.not_eq_true'] at hf
 have hnu:t∉us:=fun hm=>by have:=hf.2;simp at this;exact this hm
 refine⟨_,⟨[],[(t,some ⟨T,0,0,true,cells⟩)],[t],.c (.pt t 0)⟩,hop,?_,fun m hm=>?_,et (by exact bB),?_⟩
 ·intro τ a w ha hsim K hK
  obtain⟨φ,F,St,hsim⟩:=hsim
  have e1:τ.ev xo=.ag cs:=by rw [ha.ev xo (by simp [Op.operands,Call.operands])];exact hx
  have e2:τ.ev fv=.c (.fn f []):=by rw [ha.ev fv (by simp [Op.operands,Call.operands])];exact hfv
  have v1:=hsim.ev xo
  have v2:=hsim.ev fv
  rw [e1] at v1
  rw [e2] at v2
  simp only [VR,CR] at v2
  obtain⟨-,us2,hfu,hcaps⟩:=v2
  obtain⟨rfl,-⟩:us2=[]∧True:=by simp only [CRL] at hcaps;exact⟨hcaps.1,trivial⟩
  unfold wpOp
  rw [hop]
  have hw:=oZ hsim (b:=true) (by rw [ha.gw];exact hg)
  simp only [hw,if_true]
  refine .inl ?_
  unfold Oper.wp
  have hrun:(execOp a.eval (⟨some t,.call ⟨.value fv,#[xo],#[cT]⟩,ty,ps,af,gd⟩:Oper)).run prog w=.ok (.enter f #[a.eval xo]) w:=by
   have h1:(resolve a.eval ⟨.value fv,#[xo],#[cT]⟩ ty).run prog w=.ok { target:=.fn (.func f) #[],args:=#[a.eval xo] } w:=by
    unfold resolve;simp only [hfu,Deferred.ofValue,Sem.run_pure]
    simp
   have h2:execOp a.eval (⟨some t,.call ⟨.value fv,#[xo],#[cT]⟩,ty,ps,af,gd⟩:Oper)=(do let d ←resolve a.eval ⟨.value fv,#[xo],#[cT]⟩ ty;invoke d.target d.args):=by unfold execOp;rfl
   rw [h2,Sem.run_bind,h1]
   simp only [Result.andThen_ok,invoke]
   exact jk hent _ _
  rw [hrun,Oper.upon_enter]
  refine (hnew w _ _ _ _ hsim.gl v1).mono ?_
  rintro e w' ⟨b,lo,vs,fs,rfl,hN⟩
  have s1:=hsim.newRow (i:=t) (by rw [ha.gn];exact hf.1) (ha.us t (by simp)) (b0:=none) hN.stp (fun b hb=>by cases hb) (r:=⟨T,0,0,true,cells⟩) (L:=.box b lo) (fp:=fs) (fun St' φ' _ _=>⟨rfl,vs,hN.crl _ _ _,hN.box⟩) hN.nod (fun x hx=>.inl (hN.fnw x hx)) (fun b' lo' e=>by injection e with e1 e2;subst e1;exact⟨hN.new,hN.nin⟩)
  exact hK _ _ ⟨_,_,_,s1.put (some t) (x:=.c (.pt t 0)) (u:=.pointer (some ⟨b,lo,none⟩)) (by simp only [VR,CR];exact⟨trivial,.inr List.mem_cons_self,.inl ⟨b,lo,by rw [aX],rfl⟩⟩)⟩
 ·have:m=t:=by simpa using hm
  subst this
  exact hnu
 ·refine cX ?_
  show Walk prog ops Q C false [] r (AS.put _ (some t) _)
  rw [eM (by exact ei ht)];exact h⟩
end
abbrev KP:=List E×List E
def jU (p:KP):List AC:=[.ow 36 p.1.length 3 (owL p.1),.ow 9 p.2.length 1 (owL p.2)]
theorem bI (p:KP):ba (jU p)=true:=by simp [jU,ba,clo,bf]
def kS (p:KP)(e:E):KP:=(mV p.1 e,gQ p.2 e)
def KOk (n:Nat)(p:KP):Prop:=TyL 36 3 p.1∧TyL 9 1 p.2∧p.1.length+n≤1048580∧p.2.length+n≤1048580
theorem KOk.le {m n:Nat}{p:KP}(h:KOk m p)(hmn:n≤m):KOk n p:=⟨h.1,h.2.1,by have:=h.2.2.1;omega,by have:=h.2.2.2;omega⟩
theorem wfI {z:Int}(h:I64 z):(Lit.int .i64 z).wf=true:=by
 unfold I64 at h
 simp [Lit.wf,IntKind.min,IntKind.max,IntKind.bits,IntKind.signed]
 omega
theorem I64_wf {z:Int}(h:(Lit.int .i64 z).wf=true):I64 z:=by
 simp [Lit.wf,IntKind.min,IntKind.max,IntKind.bits,IntKind.signed] at h
 unfold I64
 omega
theorem zl2 (n:Int):(Lit.int .i64 (fY n)).wf=true:=wfI (vD n)
theorem yz {T T':TypeId}{n k n' k':Nat}{a b:List AC}(h1:ba a=true)(h2:ba b=true):ba [.ow T n k a,.ow T' n' k' b]=true:=by simp [ba,clo,h1,h2]
theorem yB {s:List E}{e:E}(he:e.Ty prog 70)(hs:TyL 36 3 s):TyL 36 3 (mV s e):=by
 unfold mV
 split
 ·exact v8 hs (p6 (by rfl) (zl2 _) (by decide))
 ·split
  ·exact v8 hs (p6 (by rfl) (by rfl) (vY he))
  ·exact hs
theorem KOk.step {n:Nat}{p:KP}{e:E}(h:KOk (n+1) p)(he:e.Ty prog 70):KOk n (kS p e):=by
 obtain⟨h1,h2,h3,h4⟩:=h
 have g1:=vH p.1 e
 have g2:=(m0 he h2).2
 exact⟨yB he h1,(m0 he h2).1,by show (mV p.1 e).length+n≤_;omega,by show (gQ p.2 e).length+n≤_;omega⟩
theorem KOk.fold:∀(l:List E) {n:Nat} {p:KP},(∀x∈l,x.Ty prog 70)→KOk (l.length+n) p→KOk n (l.foldl kS p)
 | [],n,p,_,h=>by rwa [List.length_nil,Nat.zero_add] at h
 | x :: r,n,p,hl,h=>by
  rw [List.foldl_cons]
  refine KOk.fold r (fun y hy=>hl y (List.mem_cons_of_mem _ hy)) (KOk.step ?_ (hl x List.mem_cons_self))
  rw [List.length_cons] at h
  exact h.le omq
theorem KOk.upto {f:E→List E}{l:List E}{k:Nat}{x:E}{p:KP}(hx:l[k]? = some x)(hl:∀y∈l.flatMap f,y.Ty prog 70)(h:KOk (l.flatMap f).length p):KOk (f x).length (upto kS f l p k):=by
 have h1:=sk (f:=f) hx
 unfold Go.Proofs.YtmnneflenebgmaaGreat.upto
 refine KOk.fold _ (fun y hy=>?_) (h.le h1)
 obtain⟨z,hz,hyz⟩:=List.mem_flatMap.1 hy
 exact hl y (List.mem_flatMap.2 ⟨z,List.mem_of_mem_take hz,hyz⟩)
theorem lZ {p:KP}(hs:TyL 36 3 p.1)(hl:p.1.length≤1048580)(k n:Int)(s:ByteArray):Ctr prog 157 [.c (.pt 0 0),.ag [.v (.int .i64 k),.v (.int .i64 n),.v (.string s)]] [jU p] (.tu []) [jU (sJ p.1 k n s,p.2)]:=by
 obtain⟨c,r⟩:=p
 dsimp only at hs hl ⊢
 have cA:=zd2 hs.1 hs.2 omq k n s
 have hI:=fM (isV k n s) c
 unfold jU sJ
 dsimp only
 cases hb:c.any (isV k n s) with
 | true =>
  rw [hb] at hI
  rw [if_pos rfl]
  refine av func157 rfl rfl ?_
  refine bK (jB 900 (i:=0) (pre:=[]) (post:=[_]) rfl rfl rfl) ?_
  repeat' (first|(apply ay;refine bN ?_)|refine al ?_|refine ab ?_|(apply fU;first|(apply gi;refine bh ?_)|refine gV ?_|refine dI ?_|refine ud ?_|refine fI cA ?_|(apply lE;refine bh ?_)|refine bh ?_)|refine al ?_|refine ab ?_|refine aa fun C=>?_|refine ar (by kernel_rfl) (by kernel_rfl) fun C=>?_|refine ae ?_)
  refine aj (by rfl) (fun hC=>by exfalso;simp only [decide_eq_true_iff] at hC hI;omega) fun hC=>?_
  refine bK (dY (i:=0) (j:=900) rfl rfl rfl (pre:=[]) (post:=[_]) rfl) ?_
  refine ai ?_
  exact em (x:=.tu []) rfl rfl rfl (bI (c,r)) rfl ⟨rfl,rfl⟩
 | false =>
  rw [hb] at hI
  rw [if_neg (by simp)]
  refine av func157 rfl rfl ?_
  refine bK (jB 900 (i:=0) (pre:=[]) (post:=[_]) rfl rfl rfl) ?_
  repeat' (first|(apply ay;refine bN ?_)|refine al ?_|refine ab ?_|(apply fU;first|(apply gi;refine bh ?_)|refine gV ?_|refine dI ?_|refine ud ?_|refine fI cA ?_|(apply lE;refine bh ?_)|refine bh ?_)|refine al ?_|refine ab ?_|refine aa fun C=>?_|refine ar (by kernel_rfl) (by kernel_rfl) fun C=>?_|refine ae ?_)
  refine aj (by rfl) (fun hC=>?_) fun hC=>by exfalso;simp only [decide_eq_false_iff_not] at hC hI;omega
  repeat' (first|((refine tY (dY (i:=0) (j:=18) rfl rfl rfl (pre:=[]) (post:=[_]) rfl) ?_))|(apply fU;first|(apply gi;refine bh ?_)|refine gV ?_|refine dI ?_|refine ud ?_|refine o_app ?_|refine o_st ?_|refine o_bs ?_|refine bh ?_)|refine al ?_|refine ab ?_|refine ar (by kernel_rfl) (by kernel_rfl) fun C=>?_)
  refine em (x:=.tu []) rfl rfl rfl ?_ rfl ⟨rfl,?_⟩
  ·exact yz (aZ (bf _) rfl) (bf _)
  ·rw [fG,List.length_append];rfl
theorem kR:∀(n:Nat) (e:E),e.Ty prog 70→e.sz<n→n≤1048577→∀p:KP,KOk (ew e).length p→Ctr prog 109 [.c (.pt 0 0),.ag (acE e)] [jU p] (.tu []) [jU ((ew e).foldl kS p)]
 | 0,_,_,hz,_,_,_=>absurd hz (Nat.not_lt_zero _)
 | n+1,e,he,hsz,hn,p,hp=>by
  have hpre:=ov e
  have hall:=pV (N:=1048576) ⟨he,omq⟩
  rw [hpre] at hp hall ⊢
  rw [List.length_cons] at hp
  rw [List.foldl_cons]
  have hp1:=hp.step he
  have hl1:∀y∈(iI e).flatMap ew,y.Ty prog 70:=fun y hy=>(hall y (List.mem_cons_of_mem _ hy)).1
  clear hall hpre
  obtain⟨k0,n0,s0,xA,xc,l,rfl,-,hnw,-,⟨hl,hk⟩,-⟩:=aB he
  simp only [E.sz,E.szL] at hsz
  replace hp1:KOk (l.flatMap ew).length (kS p (.agg [.int .i64 k0,.int .i64 n0,.str s0,.lst 4 70 xA xc l])):=hp1
  replace hl1:∀y∈l.flatMap ew,y.Ty prog 70:=hl1
  show Ctr _ _ _ _ _ [jU ((l.flatMap ew).foldl kS (kS p (.agg [.int .i64 k0,.int .i64 n0,.str s0,.lst 4 70 xA xc l])))]
  rw [←eh]
  obtain⟨q,hq⟩:∃q,kS p (.agg [.int .i64 k0,.int .i64 n0,.str s0,.lst 4 70 xA xc l])=q:=⟨_,rfl⟩
  have hq1:q=(if k0=1 then sJ p.1 1 (fY n0) ⟨#[]⟩ else if k0=2 then sJ p.1 2 0 s0 else p.1,if k0=10∨k0=18 then (if iO p.2 s0=true then p.2 else p.2++[.str s0]) else p.2):=hq.symm
  rw [hq] at hp1 ⊢
  refine av func109 rfl rfl ?_
  repeat' (first|(apply ay;refine bN ?_)|refine al ?_|refine ab ?_|refine aa fun C=>?_|refine jL ?_)
  refine qx ⟨dy [(0,.c (.pt 0 0)),(3,.c (.pt 3 0))],dn [(0,0,⟨0,0,0,true,jU q⟩),(3,3,⟨70,0,0,true,[.v (.int .i64 k0),.v (.int .i64 n0),.v (.string s0),.ro l.length 4 (acL l)]⟩)],1,[0,3],57⟩ ?_ ?_
  ·have cI:=pR (I64_wf hnw)
   have cT:=yj s0
   have cC1:=lZ hp.1 (by have:=hp.2.2.1;omega) 1 (fY n0) ⟨#[]⟩
   have cC2:=lZ hp.1 (by have:=hp.2.2.1;omega) 2 0 s0
   have cO:=ze2 hp.2.1.1 hp.2.1.2 (by have:=hp.2.2.2;omega) s0
   have hI:=fM (fun e=>s0.toList==(ju e).toList) p.2
   replace hI:decide (gF (fun e=>s0.toList==(ju e).toList) p.2 ≥ 0)=iO p.2 s0:=hI
   have hrl:p.2.length≤1048580:=by have:=hp.2.2.2;omega
   clear hp hp1 hq hl1
   by_cases k1:k0=1
   ·subst k1
    rw [if_pos rfl,if_neg (by decide)] at hq1
    subst hq1
    repeat' (first|(apply ay;refine bd 0 cC1 ?_ (hl:=cV (by rfl) (bI _)))|(apply ay;first|refine ao ?_|refine ak ?_|refine be ?_|refine aL ?_|refine nJ cI ?_|refine aq ?_)|refine al ?_|refine ab ?_|refine aa fun C=>?_|refine ae ?_|refine ah ?_|refine az rfl ?_)
    refine aD _ _ rfl rfl ?_ (RwOk.cons (aJ rfl (bI _)) ?_)
    ·(repeat' (first|exact TmOk.nil|exact RwOk.nil|refine TmOk.cons ?_ ?_|refine RwOk.cons ?_ ?_|rfl|(refine rnV_id' rfl ?_;exact byc)|(refine bu ?_;first|rfl|omega|(rw [aW omq omq];omega))|(refine aJ rfl ?_;exact byc)|exact cb rfl rfl|(refine rw_mid (by rfl) (by rfl) ?_ ?_<;>exact byc)|(refine rw_rn' rfl rfl ?_;simp;done)))
    ·(repeat' (first|exact TmOk.nil|exact RwOk.nil|refine TmOk.cons ?_ ?_|refine RwOk.cons ?_ ?_|rfl|(refine rnV_id' rfl ?_;exact byc)|(refine bu ?_;first|rfl|omega|(rw [aW omq omq];omega))|(refine aJ rfl ?_;exact byc)|exact cb rfl rfl|(refine rw_mid (by rfl) (by rfl) ?_ ?_<;>exact byc)|(refine rw_rn' rfl rfl ?_;simp;done)))
   by_cases k2:k0=2
   ·subst k2
    rw [if_neg (by decide),if_pos rfl,if_neg (by decide)] at hq1
    subst hq1
    repeat' (first|(apply ay;refine bd 0 cC2 ?_ (hl:=cV (by rfl) (bI _)))|(apply ay;first|refine ao ?_|refine ak ?_|refine be ?_|refine aL ?_|refine nJ cT ?_|refine aq ?_)|refine al ?_|refine ab ?_|refine aa fun C=>?_|refine ae ?_|refine ah ?_|refine az rfl ?_|refine aF rfl ?_)
    refine aD _ _ rfl rfl ?_ (RwOk.cons (aJ rfl (bI _)) ?_)
    ·(repeat' (first|exact TmOk.nil|exact RwOk.nil|refine TmOk.cons ?_ ?_|refine RwOk.cons ?_ ?_|rfl|(refine rnV_id' rfl ?_;exact byc)|(refine bu ?_;first|rfl|omega|(rw [aW omq omq];omega))|(refine aJ rfl ?_;exact byc)|exact cb rfl rfl|(refine rw_mid (by rfl) (by rfl) ?_ ?_<;>exact byc)|(refine rw_rn' rfl rfl ?_;simp;done)))
    ·(repeat' (first|exact TmOk.nil|exact RwOk.nil|refine TmOk.cons ?_ ?_|refine RwOk.cons ?_ ?_|rfl|(refine rnV_id' rfl ?_;exact byc)|(refine bu ?_;first|rfl|omega|(rw [aW omq omq];omega))|(refine aJ rfl ?_;exact byc)|exact cb rfl rfl|(refine rw_mid (by rfl) (by rfl) ?_ ?_<;>exact byc)|(refine rw_rn' rfl rfl ?_;simp;done)))
   rw [if_neg k1,if_neg k2] at hq1
   by_cases k3:k0=10∨k0=18
   ·rw [if_pos k3] at hq1
    obtain⟨c,r⟩:=p
    dsimp only at *
    cases hb:iO r s0 with
    | true =>
     rw [hb] at hI
     rw [if_pos hb] at hq1
     subst hq1
     unfold jU
     dsimp only
     rcases k3 with rfl|rfl
     all_goals
      refine bK (jB 900 (i:=0) (pre:=[_]) (post:=[]) rfl rfl rfl) ?_
      repeat' (first|(apply ay;first|refine ak ?_|refine be ?_|refine aL ?_|refine aq ?_)|refine al ?_|refine ab ?_|refine aa fun C=>?_|refine ae ?_|refine ah ?_)
      repeat' (first|refine aF rfl ?_|refine az rfl ?_|refine ai ?_)
      repeat' (first|(apply ay;first|refine ak ?_|refine aq ?_)|refine al ?_|refine ab ?_|(apply fU;first|(apply gi;refine bh ?_)|refine gV ?_|refine dI ?_|refine fI cO ?_|(apply lE;refine bh ?_)|refine bh ?_)|refine al ?_|refine ab ?_|refine aa fun C=>?_|refine ar (by kernel_rfl) (by kernel_rfl) fun C=>?_|refine ae ?_|refine ai ?_|refine az rfl ?_|refine aF rfl ?_)
      refine aj (by rfl) (fun hC=>by exfalso;simp only [decide_eq_true_iff] at hC hI;omega) fun hC=>?_
      repeat' (refine ai ?_)
      refine (dY (i:=0) (j:=900) rfl rfl rfl (pre:=[_]) (post:=[]) rfl).trans ?_
      refine aD _ _ rfl rfl ?_ (RwOk.cons (aJ rfl (bI (c,r))) ?_)
      ·(repeat' (first|exact TmOk.nil|exact RwOk.nil|refine TmOk.cons ?_ ?_|refine RwOk.cons ?_ ?_|rfl|(refine rnV_id' rfl ?_;exact byc)|(refine bu ?_;first|rfl|omega|(rw [aW omq omq];omega))|(refine aJ rfl ?_;exact byc)|exact cb rfl rfl|(refine rw_mid (by rfl) (by rfl) ?_ ?_<;>exact byc)|(refine rw_rn' rfl rfl ?_;simp;done)))
      ·(repeat' (first|exact TmOk.nil|exact RwOk.nil|refine TmOk.cons ?_ ?_|refine RwOk.cons ?_ ?_|rfl|(refine rnV_id' rfl ?_;exact byc)|(refine bu ?_;first|rfl|omega|(rw [aW omq omq];omega))|(refine aJ rfl ?_;exact byc)|exact cb rfl rfl|(refine rw_mid (by rfl) (by rfl) ?_ ?_<;>exact byc)|(refine rw_rn' rfl rfl ?_;simp;done)))
    | false =>
     rw [hb] at hI
     rw [if_neg (by rw [hb];simp)] at hq1
     subst hq1
     unfold jU
     dsimp only
     rcases k3 with rfl|rfl
     all_goals
      refine bK (jB 900 (i:=0) (pre:=[_]) (post:=[]) rfl rfl rfl) ?_
      repeat' (first|(apply ay;first|refine ak ?_|refine be ?_|refine aL ?_|refine aq ?_)|refine al ?_|refine ab ?_|(apply fU;first|(apply gi;refine bh ?_)|refine gV ?_|refine dI ?_|refine fI cO ?_|(apply lE;refine bh ?_)|refine bh ?_)|refine al ?_|refine ab ?_|refine aa fun C=>?_|refine ar (by kernel_rfl) (by kernel_rfl) fun C=>?_|refine ae ?_|refine ah ?_|refine ai ?_|refine az rfl ?_|refine aF rfl ?_)
      refine aj (by rfl) (fun hC=>?_) fun hC=>by exfalso;simp only [decide_eq_false_iff_not] at hC hI;omega
      repeat' (first|(apply fU;first|(apply gi;refine bh ?_)|refine gV ?_|refine dI ?_|refine o_app ?_|refine o_st ?_|refine o_bs ?_|refine bh ?_)|refine al ?_|refine ab ?_|refine ar (by kernel_rfl) (by kernel_rfl) fun C=>?_)
      refine (dY (i:=0) (j:=40) rfl rfl rfl (pre:=[_]) (post:=[]) rfl).trans ?_
      refine aD _ _ rfl rfl ?_ (RwOk.cons (k9 (r:=⟨0,0,0,true,[.ow 36 c.length 3 (owL c),.ow 9 (r.length+1) 1 (owL r++[.v (.string s0)])]⟩) rfl (by rw [fG,List.length_append];rfl) (bI (c,r++[E.str s0]))) ?_)
      ·(repeat' (first|exact TmOk.nil|exact RwOk.nil|refine TmOk.cons ?_ ?_|refine RwOk.cons ?_ ?_|rfl|(refine rnV_id' rfl ?_;exact byc)|(refine bu ?_;first|rfl|omega|(rw [aW omq omq];omega))|(refine aJ rfl ?_;exact byc)|exact cb rfl rfl|(refine rw_mid (by rfl) (by rfl) ?_ ?_<;>exact byc)|(refine rw_rn' rfl rfl ?_;simp;done)))
      ·(repeat' (first|exact TmOk.nil|exact RwOk.nil|refine TmOk.cons ?_ ?_|refine RwOk.cons ?_ ?_|rfl|(refine rnV_id' rfl ?_;exact byc)|(refine bu ?_;first|rfl|omega|(rw [aW omq omq];omega))|(refine aJ rfl ?_;exact byc)|exact cb rfl rfl|(refine rw_mid (by rfl) (by rfl) ?_ ?_<;>exact byc)|(refine rw_rn' rfl rfl ?_;simp;done)))
   ·rw [if_neg k3] at hq1
    subst hq1
    have g1:(k0==1)=false:=by simpa using k1
    have g2:(k0==2)=false:=by simpa using k2
    have g3:(k0==10)=false:=by simpa using fun h=>k3 (.inl h)
    have g4:(k0==18)=false:=by simpa using fun h=>k3 (.inr h)
    repeat' (first|(apply ay;first|refine ao ?_|refine ak ?_|refine be ?_|refine aL ?_|refine aq ?_)|refine al ?_|refine ab ?_|(apply fU;first|(apply gi;refine bh ?_)|refine gV ?_|(apply d_ld;first|refine dI ?_|refine bh ?_)|refine bh ?_)|(apply d_w;refine al ?_)|refine aa fun C=>?_|refine ar (by kernel_rfl) (by kernel_rfl) fun C=>?_|refine ae ?_|refine ah ?_|refine ai ?_|(refine aj (by rfl) ?_ ?_<;>intro hC<;>(try cases hC)))
    all_goals first
     | (exfalso;simp_all;done)
     | (refine aD _ _ rfl rfl ?_ (RwOk.cons (aJ rfl (bI _)) ?_)
        ·(repeat' (first|exact TmOk.nil|exact RwOk.nil|refine TmOk.cons ?_ ?_|refine RwOk.cons ?_ ?_|rfl|(refine rnV_id' rfl ?_;exact byc)|(refine bu ?_;first|rfl|omega|(rw [aW omq omq];omega))|(refine aJ rfl ?_;exact byc)|exact cb rfl rfl|(refine rw_mid (by rfl) (by rfl) ?_ ?_<;>exact byc)|(refine rw_rn' rfl rfl ?_;simp;done)))
        ·(repeat' (first|exact TmOk.nil|exact RwOk.nil|refine TmOk.cons ?_ ?_|refine RwOk.cons ?_ ?_|rfl|(refine rnV_id' rfl ?_;exact byc)|(refine bu ?_;first|rfl|omega|(rw [aW omq omq];omega))|(refine aJ rfl ?_;exact byc)|exact cb rfl rfl|(refine rw_mid (by rfl) (by rfl) ?_ ?_<;>exact byc)|(refine rw_rn' rfl rfl ?_;simp;done))))
  ·repeat' (first|(apply ay;refine ak ?_)|refine al ?_|refine ab ?_|refine aa fun C=>?_|refine ae ?_|refine ah ?_)
   refine aP (fun k:Nat=>⟨dy [(0,.c (.pt 0 0)),(3,.c (.pt 3 0)),(4,.c (.v (.int .i64 k)))],dn [(0,0,⟨0,0,0,true,jU (upto kS ew l q k)⟩),(3,3,⟨70,0,0,true,[.v (.int .i64 k0),.v (.int .i64 n0),.v (.string s0),.ro l.length 4 (acL l)]⟩)],1,[0,3],57⟩)
    (fun N k=>k+N=l.length) l.length 0 omq ?_ ?_
   ·refine aD _ _ rfl rfl ?_ (RwOk.cons (aJ rfl (bI _)) ?_)
    ·(repeat' (first|exact TmOk.nil|exact RwOk.nil|refine TmOk.cons ?_ ?_|refine RwOk.cons ?_ ?_|rfl|(refine rnV_id' rfl ?_;exact byc)|(refine bu ?_;first|rfl|omega|(rw [aW omq omq];omega))|(refine aJ rfl ?_;exact byc)|exact cb rfl rfl|(refine rw_mid (by rfl) (by rfl) ?_ ?_<;>exact byc)|(refine rw_rn' rfl rfl ?_;simp;done)))
    ·(repeat' (first|exact TmOk.nil|exact RwOk.nil|refine TmOk.cons ?_ ?_|refine RwOk.cons ?_ ?_|rfl|(refine rnV_id' rfl ?_;exact byc)|(refine bu ?_;first|rfl|omega|(rw [aW omq omq];omega))|(refine aJ rfl ?_;exact byc)|exact cb rfl rfl|(refine rw_mid (by rfl) (by rfl) ?_ ?_<;>exact byc)|(refine rw_rn' rfl rfl ?_;simp;done)))
   rintro N k hN
   try dsimp only
   repeat' (first|(apply ay;first|refine ao ?_|refine be ?_|refine aL ?_|refine aY ?_|refine aN ?_)|refine al ?_|refine ab ?_|refine aa fun C=>?_|refine ae ?_)
   refine aj (by rfl) (fun hk1=>?_) fun hk1=>?_
   ·have hk':k<l.length:=by simpa using hk1
    obtain⟨x,hx⟩:∃x,l[k]? = some x:=⟨_,List.getElem?_eq_getElem hk'⟩
    have hxm:=List.mem_of_getElem? hx
    have hxt:=hl x hxm
    have hxz:=E.szL_mem hxm
    have cx:=kR n x hxt omq omq (upto kS ew l q k) (hp1.upto hx hl1)
    rw [←dF hx] at cx
    obtain⟨y0,y1,y2,yA,yc,yl,rfl,-⟩:=aB hxt
    repeat' (first|(apply ay;refine bd 0 cx ?_ (hl:=cV (by rfl) (bI _)))|(apply ay;first|refine ao ?_|refine ak ?_|refine be ?_|refine aL ?_|refine bG ?_|refine dD ?_|refine aC ?_)|refine al ?_|refine ab ?_|refine aa fun C=>?_|refine ae ?_|refine ah ?_|refine ai ?_)
    refine⟨N-1,k+1,omq,omq,?_⟩
    refine aD _ _ rfl rfl ?_ (RwOk.cons (aJ rfl (bI _)) ?_)
    ·(repeat' (first|exact TmOk.nil|exact RwOk.nil|refine TmOk.cons ?_ ?_|refine RwOk.cons ?_ ?_|rfl|(refine rnV_id' rfl ?_;exact byc)|(refine bu ?_;first|rfl|omega|(rw [aW omq omq];omega))|(refine aJ rfl ?_;exact byc)|exact cb rfl rfl|(refine rw_mid (by rfl) (by rfl) ?_ ?_<;>exact byc)|(refine rw_rn' rfl rfl ?_;simp;done)))
    ·(repeat' (first|exact TmOk.nil|exact RwOk.nil|refine TmOk.cons ?_ ?_|refine RwOk.cons ?_ ?_|rfl|(refine rnV_id' rfl ?_;exact byc)|(refine bu ?_;first|rfl|omega|(rw [aW omq omq];omega))|(refine aJ rfl ?_;exact byc)|exact cb rfl rfl|(refine rw_mid (by rfl) (by rfl) ?_ ?_<;>exact byc)|(refine rw_rn' rfl rfl ?_;simp;done)))
   ·have hk':¬k<l.length:=by simpa using hk1
    obtain rfl:k=l.length:=by omega
    repeat' (refine au ?_)
    exact em (x:=.tu []) rfl rfl rfl (bI _) rfl ⟨rfl,rfl⟩
theorem zm2 {N:Nat}{y:E}(h:TyS N y):∀z∈oN y,TyX N z:=by
 intro z hz
 obtain⟨t,ht,hzt⟩:=List.mem_flatMap.1 (show z∈(mR y).flatMap oM from hz)
 exact vO (pU h t ht) z hzt
theorem fx:∀(n:Nat) (l:List E),(∀y∈l,y.Ty prog 106)→(∀y∈l,y.enc.length=6)→l.length+E.szL l<n→n≤1048578→∀p:KP,KOk (kU l).length p→Ctr prog 108 [.c (.pt 0 0),.c (.ro l.length 6 (acL l))] [jU p] (.tu []) [jU ((kU l).foldl kS p)]
 | 0,_,_,_,hz,_,_,_=>absurd hz (Nat.not_lt_zero _)
 | n+1,l,hl,hk,hsz,hn,p,hp=>by
  have hty:∀y∈l.flatMap oN,y.Ty prog 70:=fun y hy=>by
   obtain⟨t,ht,hyt⟩:=List.mem_flatMap.1 hy
   have:=E.szL_mem ht
   exact (zm2 (N:=1048578) ⟨hl t ht,omq⟩ y hyt).1
  unfold kU at hp ⊢
  rw [←eh]
  refine av func108 rfl rfl ?_
  repeat' (first|(apply ay;refine ak ?_)|refine al ?_|refine ab ?_|refine aa fun C=>?_|refine ae ?_|refine ah ?_)
  refine aP (fun k:Nat=>⟨dy [(0,.c (.pt 0 0)),(1,.c (.ro l.length 6 (acL l))),(4,.c (.v (.int .i64 k)))],dn [(0,0,⟨0,0,0,true,jU (upto kS oN l p k)⟩)],1,[0],46⟩)
   (fun N k=>k+N=l.length) l.length 0 omq ?_ ?_
  ·refine aD _ _ rfl rfl ?_ (RwOk.cons (aJ rfl (bI _)) RwOk.nil)
   (repeat' (first|exact TmOk.nil|exact RwOk.nil|refine TmOk.cons ?_ ?_|refine RwOk.cons ?_ ?_|rfl|(refine rnV_id' rfl ?_;exact byc)|(refine bu ?_;first|rfl|omega|(rw [aW omq omq];omega))|(refine aJ rfl ?_;exact byc)|exact cb rfl rfl|(refine rw_mid (by rfl) (by rfl) ?_ ?_<;>exact byc)|(refine rw_rn' rfl rfl ?_;simp;done)))
  rintro N k hN
  try dsimp only
  repeat' (first|(apply ay;first|refine ao ?_|refine aY ?_|refine aN ?_)|refine al ?_|refine ab ?_|refine aa fun C=>?_|refine ae ?_)
  refine aj (by rfl) (fun hk1=>?_) fun hk1=>?_
  ·have hk':k<l.length:=by simpa using hk1
   obtain⟨x,hx⟩:∃x,l[k]? = some x:=⟨_,List.getElem?_eq_getElem hk'⟩
   have hxm:=List.mem_of_getElem? hx
   have hxt:=hl x hxm
   have hxz:=E.szL_mem hxm
   have hxk:=hp.upto hx hty
   have hxty:∀y∈oN x,y.Ty prog 70:=fun y hy=>hty y (List.mem_flatMap.2 ⟨x,hxm,hy⟩)
   have hsu:upto kS oN l p (k+1)=(oN x).foldl kS (upto kS oN l p k):=dF hx
   obtain⟨p2,e2⟩:∃p2,upto kS oN l p k=p2:=⟨_,rfl⟩
   rw [e2] at hxk hsu ⊢
   have hter:=oy x
   rw [hter] at hxk hxty hsu
   obtain⟨z0,z1,z2,zA,zc,zx,yA,yc,ya,wA,wc,yb,rfl,-,-,-,⟨hzx,hzk⟩,⟨ha,hka⟩,⟨hb,hkb⟩,-⟩:=aQ hxt
   have hkd:(m9 (.agg [.int .i64 z0,.str z1,.str z2,.lst 4 70 zA zc zx,.lst 6 106 yA yc ya,.lst 6 106 wA wc yb])).flatMap oN=kU ya++kU yb:=List.flatMap_append
   have how:oM (.agg [.int .i64 z0,.str z1,.str z2,.lst 4 70 zA zc zx,.lst 6 106 yA yc ya,.lst 6 106 wA wc yb])=zx.flatMap ew:=rfl
   rw [hkd,how] at hxk hxty hsu
   simp only [E.sz,E.szL] at hxz
   rw [List.length_append,List.length_append] at hxk
   rw [List.foldl_append,List.foldl_append] at hsu
   have hk3:KOk ((kU ya).length+(kU yb).length) ((zx.flatMap ew).foldl kS p2):=KOk.fold _ (fun y hy=>hxty y (List.mem_append_left _ hy)) hxk
   obtain⟨p3,e3⟩:∃p3,(zx.flatMap ew).foldl kS p2=p3:=⟨_,rfl⟩
   rw [e3] at hk3 hsu
   have hk4:KOk (kU yb).length ((kU ya).foldl kS p3):=KOk.fold _ (fun y hy=>hxty y (List.mem_append_right _ (List.mem_append_left _ hy))) hk3
   have cA:=fx n ya ha hka omq omq p3 (hk3.le omq)
   obtain⟨p4,e4⟩:∃p4,(kU ya).foldl kS p3=p4:=⟨_,rfl⟩
   rw [e4] at hk4 hsu cA
   have cB:=fx n yb hb hkb omq omq p4 hk4
   rw [←hsu] at cB
   have hkx:KOk (zx.flatMap ew).length p2:=hxk.le omq
   have htx:∀y∈zx.flatMap ew,y.Ty prog 70:=fun y hy=>hxty y (List.mem_append_left _ hy)
   have e5:upto kS ew zx p2 zx.length=p3:=by rw [eh,e3]
   clear hter hkd how hxty hsu hxk hk3 hk4 e4 hty hp
   repeat' (first|(apply ay;refine ak ?_)|refine al ?_|refine ab ?_|refine aa fun C=>?_|refine ae ?_|refine ah ?_|refine ai ?_)
   refine aP (fun j:Nat=>⟨dy [(0,.c (.pt 0 0)),(1,.c (.ro l.length 6 (acL l))),(4,.c (.v (.int .i64 k))),(5,.c (.v (.int .i64 j)))],dn [(0,0,⟨0,0,0,true,jU (upto kS ew zx p2 j)⟩)],1,[0],46⟩)
    (fun M j=>j+M=zx.length) zx.length 0 omq ?_ ?_
   ·refine aD _ _ rfl rfl ?_ (RwOk.cons (aJ rfl (bI _)) RwOk.nil)
    (repeat' (first|exact TmOk.nil|exact RwOk.nil|refine TmOk.cons ?_ ?_|refine RwOk.cons ?_ ?_|rfl|(refine rnV_id' rfl ?_;exact byc)|(refine bu ?_;first|rfl|omega|(rw [aW omq omq];omega))|(refine aJ rfl ?_;exact byc)|exact cb rfl rfl|(refine rw_mid (by rfl) (by rfl) ?_ ?_<;>exact byc)|(refine rw_rn' rfl rfl ?_;simp;done)))
   rintro M j hM
   try dsimp only
   repeat' (first|(apply ay;first|refine ao ?_|refine gO ?_|refine aY ?_|refine dD ?_|refine aN ?_|refine aU ?_)|refine al ?_|refine ab ?_|refine aa fun C=>?_|refine ae ?_)
   refine aj (by rfl) (fun hj1=>?_) fun hj1=>?_
   ·have hj':j<zx.length:=by simpa using hj1
    obtain⟨x,hx2⟩:∃x,zx[j]? = some x:=⟨_,List.getElem?_eq_getElem hj'⟩
    have hxm2:=List.mem_of_getElem? hx2
    have hxt2:=hzx x hxm2
    have hxz2:=E.szL_mem hxm2
    have cx:=kR (x.sz+1) x hxt2 omq omq (upto kS ew zx p2 j) (hkx.upto hx2 htx)
    rw [←dF hx2] at cx
    obtain⟨y0,y1,y2,yA',yc',yl,rfl,-⟩:=aB hxt2
    repeat' (first|(apply ay;refine bd 0 cx ?_ (hl:=cV (by rfl) (bI _)))|(apply ay;first|refine ao ?_|refine ak ?_|refine gO ?_|refine bG ?_|refine dD ?_|refine aC ?_|refine aU ?_)|refine al ?_|refine ab ?_|refine aa fun C=>?_|refine ae ?_|refine ah ?_|refine ai ?_)
    refine⟨M-1,j+1,omq,omq,?_⟩
    refine aD _ _ rfl rfl ?_ (RwOk.cons (aJ rfl (bI _)) RwOk.nil)
    (repeat' (first|exact TmOk.nil|exact RwOk.nil|refine TmOk.cons ?_ ?_|refine RwOk.cons ?_ ?_|rfl|(refine rnV_id' rfl ?_;exact byc)|(refine bu ?_;first|rfl|omega|(rw [aW omq omq];omega))|(refine aJ rfl ?_;exact byc)|exact cb rfl rfl|(refine rw_mid (by rfl) (by rfl) ?_ ?_<;>exact byc)|(refine rw_rn' rfl rfl ?_;simp;done)))
   ·have hj':¬j<zx.length:=by simpa using hj1
    obtain rfl:j=zx.length:=by omega
    rw [e5]
    repeat' (first|(apply ay;refine bd 0 cA ?_ (hl:=cV (by rfl) (bI _)))|(apply ay;refine bd 0 cB ?_ (hl:=cV (by rfl) (bI _)))|(apply ay;first|refine ao ?_|refine ak ?_|refine gO ?_|refine dD ?_|refine aC ?_|refine aU ?_)|refine al ?_|refine ab ?_|refine aa fun C=>?_|refine ae ?_|refine au ?_)
    refine⟨N-1,k+1,omq,omq,?_⟩
    refine aD _ _ rfl rfl ?_ (RwOk.cons (aJ rfl (bI _)) RwOk.nil)
    (repeat' (first|exact TmOk.nil|exact RwOk.nil|refine TmOk.cons ?_ ?_|refine RwOk.cons ?_ ?_|rfl|(refine rnV_id' rfl ?_;exact byc)|(refine bu ?_;first|rfl|omega|(rw [aW omq omq];omega))|(refine aJ rfl ?_;exact byc)|exact cb rfl rfl|(refine rw_mid (by rfl) (by rfl) ?_ ?_<;>exact byc)|(refine rw_rn' rfl rfl ?_;simp;done)))
  ·have hk':¬k<l.length:=by simpa using hk1
   obtain rfl:k=l.length:=by omega
   repeat' (refine au ?_)
   exact em (x:=.tu []) rfl rfl rfl (bI _) rfl ⟨rfl,rfl⟩
def QnH (K:Act→World→Prop)(Q:Exit→Act→World→Prop):Exit→Act→World→Prop
 | .normal,a,w=>K a w
 | .exit l,a,w=>Q (.exit l) a w
 | .goto l,a,w=>Q (.goto l) a w
 | .ret,a,w=>Q .ret a w
 | .panic c,a,w=>Q (.panic c) a w
 | .outgrown,a,w=>Q .outgrown a w
section
variable {P:Program}{ops:Array Oper}{Q:Exit→Act→World→Prop}{C:Ctx}
theorem zj4 {o:Oper}{a:Act}{w:World}{K K':Act→World→Prop}(hh:o.wp P a w K (QnH K' Q)):o.wp P a w K Q:=by
 unfold Oper.wp at *
 generalize (execOp a.eval o).run P w=r at *
 cases r with
 | ok n w' =>
  cases n<;>simp only [Oper.upon] at hh ⊢ <;>
   first
    | exact hh
    | exact Calls.mono hh (fun e w'' he=>by cases e<;>exact he)
 | halt x w'=>cases x<;>simp only [Oper.upon] at hh ⊢<;>exact hh
theorem l0 {l2:List Nat}:∀(l1:List Nat) (a:Act) (w:World),wpOps P ops (QnH (wpOps P ops Q l2) Q) l1 a w→wpOps P ops Q (l1++l2) a w
 | [],_,_,h=>h
 | i :: r,a,w,h=>by
  rw [List.cons_append,wpOps_cons]
  rw [wpOps_cons] at h
  have h2:=wpOp_mono (fun a w h=>l0 r a w h) h
  unfold wpOp at h2 ⊢
  split
  ·rename_i ho
   simp only [ho] at h2
   exact h2
  ·rename_i o ho
   simp only [ho] at h2
   split
   ·rename_i hw
    simp only [hw,if_true] at h2
    exact h2.imp zj4 id
   ·rename_i hw
    simp only [hw] at h2
    exact h2
theorem oE {L:List Nat}{σ:AS}(hL:L.Pairwise (·< ·))(h:Walk P ops Q C false [] L σ){a:Act}{w:World}(hs:Sim C σ a w):wpOps P ops Q L a w:=by
 obtain⟨inf,_,h2,-⟩:=iR hL (fun h hh=>absurd hh List.not_mem_nil) (fun h hh=>absurd hh List.not_mem_nil) List.Pairwise.nil h
 exact kg h2 hs
end
theorem oF {Q:Exit→AS→Prop}{P:Program}{id:Nat}{ops:Array Oper}{σ:AS}(l1 l2:List Nat)(hl:List.range ops.size=l1++l2)(h:∀C,Walk P ops (QnH (wpOps P ops (fun e a w=>∃σ',Q e σ'∧Sim C σ' a w) l2) (fun e a w=>∃σ',Q e σ'∧Sim C σ' a w)) C false [] l1 σ):AWp P (.region id ops false) Q σ:=fun C a w hs=>by
 refine wp_region ?_
 rw [hl]
 have hp:=gh ops.size
 rw [hl] at hp
 exact l0 l1 a w (oE (List.pairwise_append.1 hp).1 (h C) hs)
theorem wb {Q:Exit→AS→Prop}{P:Program}{ops:Array Oper}{C:Ctx}{l2:List Nat}{σ σ':AS}(hg:Gh σ σ')(hL:l2.Pairwise (·< ·))(h:Walk P ops (fun e a w=>∃σ',Q e σ'∧Sim C σ' a w) C false [] l2 σ'):Walk P ops (QnH (wpOps P ops (fun e a w=>∃σ',Q e σ'∧Sim C σ' a w) l2) (fun e a w=>∃σ',Q e σ'∧Sim C σ' a w)) C false [] [] σ:=fun a w hs=>oE hL h (hg C a w hs)
end Go.Proofs.YtmnneflenebgmaaGreat
