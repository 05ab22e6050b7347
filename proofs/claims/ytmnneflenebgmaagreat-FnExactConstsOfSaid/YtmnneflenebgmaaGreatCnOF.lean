/- T -/
import Derived.Laws.StructEq
import Derived.Laws.Concat
import Derived.Test.YtmnneflenebgmaaGreatCnOE
set_option maxHeartbeats 0
set_option maxRecDepth 100000
namespace Go.Proofs.YtmnneflenebgmaaGreat
open Go.RowKit Go.Proofs.Tryz
noncomputable def ug {α β:Type}(R:α→Prop)(f:α→β)(z:β):β:=open Classical in if h:∃a,R a then f h.choose else z
theorem xe {α β:Type}{R:α→Prop}{f:α→β}{z:β}{a:α}(h:R a):∃a',R a'∧ug R f z=f a':=by
 have h':∃a,R a:=⟨a,h⟩
 refine⟨h'.choose,h'.choose_spec,?_⟩
 unfold ug
 rw [dif_pos h']
theorem rK {α β:Type}{R:α→Prop}{f:α→β}{z:β}(p:β→Prop)(h1:∀a,R a→p (f a))(h2:p z):p (ug R f z):=by
 unfold ug
 split
 ·rename_i h;exact h1 _ h.choose_spec
 ·exact h2
theorem xf {P:Program}{e e':E}{t:TypeId}(h:e.Ty P t)(h':e'.Ty P t)(hd:e.d=e'.d):avI e=avI e':=by
 have ha:=xa e e' t h h' hd
 cases e<;>cases e'<;>simp_all [avI,E.d,acE]
section
variable {P:Program}{tm:Nat→AV}{hp:Nat→Option Row}{gn L:Nat}{us:List Nat}
theorem qB (id:Nat){t:Nat}(T:TypeId)(k:Nat)(ht:tm t=.c (.v (.slice none 0 0)))(hf:(Nat.ble gn id&&!us.contains id)=true) :
 Gh ⟨tm,hp,gn,us,L⟩ ⟨upd tm t (.c (.sl id 0)),upd hp id (some ⟨T,k,0,false,[]⟩),gn,id :: us,L⟩:=by
 simp only [Bool.and_eq_true,Nat.ble_eq,Bool.not_eq_true'] at hf
 rintro C a w ⟨φ,F,St,h⟩
 obtain⟨φ',F',St',h',hv⟩:=h.newSlice (id:=id) hf.1 (fun hm=>by have:=hf.2;simp at this;exact this hm) (Stp.refl none w) (fun b hb=>by cases hb) (CRL.nil) (fun b hb=>absurd hb List.not_mem_nil) (World.ownsRow_nil w 0 T k) (by simp [obl,Value.ownBlock]) (fun b hb=>by simp [obl,Value.ownBlock] at hb)
 refine⟨φ',F',St',h'.dfr,h'.len,fun t'=>?_,h'.row,h'.nod,h'.dis,h'.bxF,h'.bxd,h'.stF,h'.stB,h'.frm,h'.own,h'.par,h'.new,h'.gnN,h'.stS⟩
 show VR w St' φ' _ (upd tm t _ t') _
 by_cases e:t'=t
 ·subst e
  rw [aX]
  have:=h.tms t'
  change VR w St φ _ (tm t') _ at this
  rw [ht] at this
  simp only [VR,CR] at this
  rw [this.1];exact hv
 ·rw [bh _ _ e];exact h'.tms t'
end
section
variable {P:Program}{ops:Array Oper}{Q:Exit→Act→World→Prop}{C:Ctx}{H H':List (Nat×Oper×Inf)}{i:Nat}{r:List Nat}{o:Oper}{dr:Bool}
variable {tm:Nat→AV}{hp:Nat→Option Row}{gn L:Nat}{us:List Nat}{x:AV}
theorem bB {I:Inf}:chk false ops i o I H=true:=rfl
theorem w_eq {t:Nat}{y:AV}(hop:ops[i]? = some o)(hd:o.dst=some t)(ht:Nat.blt t L=true)(hg:gw ops tm o=some true)(he:EffD P o (AS.ev ⟨tm,hp,gn,us,L⟩) hp 0=some (x,.nop))(hy:x=y)
 (hc:chk dr ops i o ⟨fpO (AS.ev ⟨tm,hp,gn,us,L⟩) o,[],[],y⟩ H=true) (h:Walk P ops Q C dr (bP dr (i,o,⟨fpO (AS.ev ⟨tm,hp,gn,us,L⟩) o,[],[],y⟩) H) r ⟨upd tm t y,hp,gn,us,L⟩):Walk P ops Q C dr H (i :: r) ⟨tm,hp,gn,us,L⟩:=by
 subst hy
 exact tT 0 hop hd ht hg he hc h
theorem zi3 {t:Nat}{b:Bool}(hop:ops[i]? = some o)(hd:o.dst=some t)(ht:Nat.blt t L=true)(hg:gw ops tm o=some true)(he:EffD P o (AS.ev ⟨tm,hp,gn,us,L⟩) hp 0=some (.c (.v (.bool b)),.nop))
 (hc1:chk dr ops i o ⟨fpO (AS.ev ⟨tm,hp,gn,us,L⟩) o,[],[],.c (.v (.bool true))⟩ H=true) (hc2:chk dr ops i o ⟨fpO (AS.ev ⟨tm,hp,gn,us,L⟩) o,[],[],.c (.v (.bool false))⟩ H=true)
 (h1:b=true→Walk P ops Q C dr (bP dr (i,o,⟨fpO (AS.ev ⟨tm,hp,gn,us,L⟩) o,[],[],.c (.v (.bool true))⟩) H) r ⟨upd tm t (.c (.v (.bool true))),hp,gn,us,L⟩)
 (h2:b=false→Walk P ops Q C dr (bP dr (i,o,⟨fpO (AS.ev ⟨tm,hp,gn,us,L⟩) o,[],[],.c (.v (.bool false))⟩) H) r ⟨upd tm t (.c (.v (.bool false))),hp,gn,us,L⟩):Walk P ops Q C dr H (i :: r) ⟨tm,hp,gn,us,L⟩:=by
 cases b with
 | true=>exact tT 0 hop hd ht hg he hc1 (h1 rfl)
 | false=>exact tT 0 hop hd ht hg he hc2 (h2 rfl)
end
theorem nL {P:Program}{f:FuncId}{ins:List AV}{us:List Value}{v:Value}(he:zT P f=true)(hv:oY v=true)(hin:∀(w:World) (St:Nat→Prop) (φ:Nat→Lc) (K:Nat→Prop) (us':List Value),VRL w St φ K ins us'→us'=us)
 (hc:∀w,Calls P f us.toArray w fun e w'=>e=.returned v∧Below w.heap.size w w'):Ctr P f ins [] (.c (.v v)) []:=by
 refine⟨he,fun w St φ F us' hent=>?_⟩
 obtain rfl:=hin _ _ _ _ _ hent.args
 refine (hc w).mono ?_
 rintro e w' ⟨rfl,hb⟩
 refine⟨_,_,v,fun _=>False,fun _=>[],[],⟨rfl,rfl⟩,rfl,⟨⟨hb.os,hb.tape,hb.output,hb.size,fun b hlt _=>.inl (hb.block b hlt)⟩,?_,by simp,rfl,fun i cs hi=>by simp at hi,fun i hi=>by simp at hi,fun i hi=>by simp at hi,fun i j hi=>by simp at hi,fun i b lo hi=>by simp at hi,fun b hb=>by simp at hb,fun b hb=>hb.elim⟩⟩
 simp only [VRF,CR]
 exact⟨trivial,hv,trivial⟩
theorem cvC_sl' {hp:Nat→Option Row}{D:List Nat}{i n k:Nat}{rw:Row}{l:List AC}(hr:hp i=some rw)(hb:rw.box=false)(hn:rw.n=n)(hk:rw.k=k)(hc:bf rw.cs=true)(hl:fJ rw.cs=l):cvC hp D (.sl i n)=.ro n k l:=by
 subst hk
 exact zh3 hr hb hn hc hl
theorem byc {p:Prop}(h:p:=by first|rfl|(simp [rJ,bf,clo,bp,aH,bq,ba,aZ];done)|fail):p:=h
section
variable {ops:Array Oper}{Q:Exit→Act→World→Prop}{C:Ctx}{H H':List (Nat×Oper×Inf)}{i:Nat}{r:List Nat}{o:Oper}{dr:Bool}
variable {tm:Nat→AV}{hp:Nat→Option Row}{gn L:Nat}{us:List Nat}{x:AV}
theorem bD {t:Nat}  (h:Walk prog ops Q C dr (bP dr (i,o,⟨fpO (AS.ev ⟨tm,hp,gn,us,L⟩) o,[],[],x⟩) H) r ⟨upd tm t x,hp,gn,us,L⟩)(hop:ops[i]? = some o:=by exact rfl)(hd:o.dst=some t:=by exact rfl)(ht:Nat.blt t L=true:=by exact rfl)(hg:gw ops tm o=some true:=by exact rfl)(he:EffD prog o (AS.ev ⟨tm,hp,gn,us,L⟩) hp 0=some (x,.nop):=by rfl)(hc:chk dr ops i o ⟨fpO (AS.ev ⟨tm,hp,gn,us,L⟩) o,[],[],x⟩ H=true:=by first|(with_reducible exact bB)|kernel_rfl):Walk prog ops Q C dr H (i :: r) ⟨tm,hp,gn,us,L⟩ :=
 tT 0 hop hd ht hg he hc h
theorem dP {t n k:Nat}{T e:TypeId}{parts:Array (Nat×Operand)}{zs:List AC}  (h:Walk prog ops Q C dr (bP dr (i,o,⟨fpO (AS.ev ⟨tm,hp,gn,us,L⟩) o,[(t,some ⟨e,k,n,false,zs⟩)],[t],.c (.sl t n)⟩) H) r ⟨upd tm t (.c (.sl t n)),upd hp t (some ⟨e,k,n,false,zs⟩),gn,t :: us,L⟩)(hop:ops[i]? = some o:=by exact rfl)(ho:o.op=.buildSlice T n parts:=by exact rfl)(hd:o.dst=some t:=by exact rfl)(ht:Nat.blt t L=true:=by exact rfl)(hg:gw ops tm o=some true:=by exact rfl)(hf:(Nat.ble gn t&&!us.contains t)=true:=by exact rfl)(hT:zY prog T=some (e,k):=by first|exact (rfl:_=some ((5:Nat),(1:Nat)))|exact (rfl:_=some ((87:Nat),(6:Nat)))|exact (rfl:_=some ((89:Nat),(3:Nat)))|exact (rfl:_=some ((36:Nat),(3:Nat)))|exact (rfl:_=some ((9:Nat),(1:Nat)))|exact (rfl:_=some ((39:Nat),(3:Nat)))|exact (rfl:_=some ((127:Nat),(4:Nat)))|exact (rfl:_=some ((130:Nat),(2:Nat)))|exact (rfl:_=some ((70:Nat),(4:Nat)))|exact (rfl:_=some ((106:Nat),(6:Nat)))|exact (rfl:_=some ((210:Nat),(4:Nat)))|exact (rfl:_=some ((3:Nat),(1:Nat))))(hz:y9 k 0 (parts.toList.map fun p=>(p.1,AS.ev ⟨tm,hp,gn,us,L⟩ p.2))=some zs:=by rfl)(hn:n=parts.toList.length:=by rfl)(hb:(Nat.ble (n*k) 16777216&&Nat.ble n 16777216)=true:=by rfl)(hc:chk dr ops i o ⟨fpO (AS.ev ⟨tm,hp,gn,us,L⟩) o,[(t,some ⟨e,k,n,false,zs⟩)],[t],.c (.sl t n)⟩ H=true:=by first|(with_reducible exact bB)|kernel_rfl):Walk prog ops Q C dr H (i :: r) ⟨tm,hp,gn,us,L⟩ :=
 v_bs hop ho hd ht hg hf hT hz hn hb hc h
theorem dM {t:Nat}{rw:Row}  (h:Walk prog ops Q C dr (bP dr (i,o,⟨fpO (AS.ev ⟨tm,hp,gn,us,L⟩) o,[(t,some rw)],[t],x⟩) H) r ⟨upd tm t x,upd hp t (some rw),gn,t :: us,L⟩)(hop:ops[i]? = some o:=by exact rfl)(hd:o.dst=some t:=by exact rfl)(ht:Nat.blt t L=true:=by exact rfl)(hg:gw ops tm o=some true:=by exact rfl)(hf:(Nat.ble gn t&&!us.contains t)=true:=by exact rfl)(he:EffD prog o (AS.ev ⟨tm,hp,gn,us,L⟩) hp t=some (x,.gr t rw):=by rfl)(hc:chk dr ops i o ⟨fpO (AS.ev ⟨tm,hp,gn,us,L⟩) o,[(t,some rw)],[t],x⟩ H=true:=by first|(with_reducible exact bB)|kernel_rfl):Walk prog ops Q C dr H (i :: r) ⟨tm,hp,gn,us,L⟩ :=
 v_gr hop hd ht hg hf he hc h
theorem dQ {j:Nat}{rw:Row}  (h:Walk prog ops Q C dr (bP dr (i,o,⟨fpO (AS.ev ⟨tm,hp,gn,us,L⟩) o,[(j,some rw)],[],x⟩) H) r ⟨tm,upd hp j (some rw),gn,us,L⟩)(hop:ops[i]? = some o:=by exact rfl)(hd:o.dst=none:=by exact rfl)(hg:gw ops tm o=some true:=by exact rfl)(he:EffD prog o (AS.ev ⟨tm,hp,gn,us,L⟩) hp 0=some (x,.st j rw):=by rfl)(hc:chk dr ops i o ⟨fpO (AS.ev ⟨tm,hp,gn,us,L⟩) o,[(j,some rw)],[],x⟩ H=true:=by first|(with_reducible exact bB)|kernel_rfl):Walk prog ops Q C dr H (i :: r) ⟨tm,hp,gn,us,L⟩ :=
 w_st hop hd hg he hc h
theorem dB {t:Nat}  (h:Walk prog ops Q C dr (bP dr (i,o,fN) H) r ⟨upd tm t (.tu []),hp,gn,us,L⟩)(hop:ops[i]? = some o:=by exact rfl)(hd:o.dst=some t:=by exact rfl)(ht:Nat.blt t L=true:=by exact rfl)(hg:gw ops tm o=some false:=by exact rfl)(hc:chk dr ops i o fN H=true:=by first|(with_reducible exact bB)|kernel_rfl):Walk prog ops Q C dr H (i :: r) ⟨tm,hp,gn,us,L⟩ :=
 za3 hop hd ht hg hc h
theorem dR {t n k j:Nat}{l:List E}{e:E}{kd:IntKind}{z:Int}{T:TypeId}{xo io:Operand}  (h:Walk prog ops Q C dr (bP dr (i,o,⟨fpO (AS.ev ⟨tm,hp,gn,us,L⟩) o,[],[],.c (.rp (acE e) 0)⟩) H) r ⟨upd tm t (.c (.rp (acE e) 0)),hp,gn,us,L⟩)(hop:ops[i]? = some o:=by exact rfl)(ho:o.op=.indexAddr T xo io:=by exact rfl)(hd:o.dst=some t:=by exact rfl)(ht:Nat.blt t L=true:=by exact rfl)(hg:gw ops tm o=some true:=by exact rfl)(hx:AS.ev ⟨tm,hp,gn,us,L⟩ xo=.c (.ro n k (acL l)):=by exact rfl)(hi:AS.ev ⟨tm,hp,gn,us,L⟩ io=.c (.v (.int kd z)):=by exact rfl)(hT:wC prog T k=true:=by exact rfl)(hz:z=(j:Int):=by first|rfl|omega|assumption)(hn:n=l.length:=by exact rfl)(hk:∀e∈l,e.enc.length=k:=by assumption)(he:l[j]? = some e:=by assumption)(hc:chk dr ops i o ⟨fpO (AS.ev ⟨tm,hp,gn,us,L⟩) o,[],[],.c (.rp (acE e) 0)⟩ H=true:=by first|(with_reducible exact bB)|kernel_rfl):Walk prog ops Q C dr H (i :: r) ⟨tm,hp,gn,us,L⟩ :=
 w_idx hop ho hd ht hg hx hi hT hz hn hk he hc h
theorem ce {t n k j s:Nat}{rw:Row}{kd:IntKind}{z:Int}{T:TypeId}{xo io:Operand}  (h:Walk prog ops Q C dr (bP dr (i,o,⟨fpO (AS.ev ⟨tm,hp,gn,us,L⟩) o,[],[],.c (.pt s (j*k))⟩) H) r ⟨upd tm t (.c (.pt s (j*k))),hp,gn,us,L⟩)(hop:ops[i]? = some o:=by exact rfl)(ho:o.op=.indexAddr T xo io:=by exact rfl)(hd:o.dst=some t:=by exact rfl)(ht:Nat.blt t L=true:=by exact rfl)(hg:gw ops tm o=some true:=by exact rfl)(hx:AS.ev ⟨tm,hp,gn,us,L⟩ xo=.c (.sl s n):=by exact rfl)(hi:AS.ev ⟨tm,hp,gn,us,L⟩ io=.c (.v (.int kd z)):=by exact rfl)(hr:hp s=some rw:=by exact rfl)(hb:rw.box=false:=by exact rfl)(hn:rw.n=n:=by exact rfl)(hk:rw.k=k:=by exact rfl)(hT:wC prog T k=true:=by rfl)(hz:z=(j:Int):=by first|rfl|omega|assumption)(hj:j<n:=by first|assumption|omega)(hc:chk dr ops i o ⟨fpO (AS.ev ⟨tm,hp,gn,us,L⟩) o,[],[],.c (.pt s (j*k))⟩ H=true:=by first|(with_reducible exact bB)|kernel_rfl):Walk prog ops Q C dr H (i :: r) ⟨tm,hp,gn,us,L⟩ :=
 zd3 hop ho hd ht hg hx hi hr hb hn hk hT hz hj hc h
theorem cf {t j n m k nm:Nat}{rw:Row}{e T T2:TypeId}{xo yo:Operand}{ys zs:List AC}  (h:Walk prog ops Q C dr (bP dr (i,o,⟨fpO (AS.ev ⟨tm,hp,gn,us,L⟩) o,[(j,none),(t,some ⟨e,k,nm,false,zs⟩)],[t],.c (.sl t nm)⟩) H) r ⟨upd tm t (.c (.sl t nm)),upd (upd hp j none) t (some ⟨e,k,nm,false,zs⟩),gn,t :: us,L⟩)(hop:ops[i]? = some o:=by exact rfl)(ho:o.op=.call ⟨.builtin .append,#[xo,yo],#[T,T2]⟩:=by exact rfl)(hd:o.dst=some t:=by exact rfl)(ht:Nat.blt t L=true:=by exact rfl)(hg:gw ops tm o=some true:=by exact rfl)(hf:(Nat.ble gn t&&!us.contains t)=true:=by exact rfl)(hx:AS.ev ⟨tm,hp,gn,us,L⟩ xo=.c (.sl j n):=by exact rfl)(hr:hp j=some rw:=by exact rfl)(hT:y8 prog T T2=some (e,k):=by first|exact (rfl:_=some ((5:Nat),(1:Nat)))|exact (rfl:_=some ((87:Nat),(6:Nat)))|exact (rfl:_=some ((89:Nat),(3:Nat)))|exact (rfl:_=some ((36:Nat),(3:Nat)))|exact (rfl:_=some ((9:Nat),(1:Nat)))|exact (rfl:_=some ((39:Nat),(3:Nat)))|exact (rfl:_=some ((127:Nat),(4:Nat)))|exact (rfl:_=some ((130:Nat),(2:Nat)))|exact (rfl:_=some ((70:Nat),(4:Nat)))|exact (rfl:_=some ((106:Nat),(6:Nat)))|exact (rfl:_=some ((210:Nat),(4:Nat)))|exact (rfl:_=some ((3:Nat),(1:Nat))))(hy:ig hp k (AS.ev ⟨tm,hp,gn,us,L⟩ yo)=some (m,ys):=by first|rfl|exact srcOf_sl rfl rfl rfl rfl)(hnu:ys.all td=true:=by first|rfl|exact acL_noUn _)(hr1:rw.T=e:=by exact rfl)(hr2:rw.k=k:=by exact rfl)(hr3:rw.n=n:=by exact rfl)(hr4:rw.box=false:=by exact rfl)(hsz:n+m≤4294967296:=by omega)(hnm:n+m=nm:=by first|exact Nat.zero_add _|rfl)(hz:rw.cs++ys=zs:=by first|exact List.nil_append _|rfl)(hc:chk dr ops i o ⟨fpO (AS.ev ⟨tm,hp,gn,us,L⟩) o,[(j,none),(t,some ⟨e,k,nm,false,zs⟩)],[t],.c (.sl t nm)⟩ H=true:=by first|(with_reducible exact bB)|kernel_rfl):Walk prog ops Q C dr H (i :: r) ⟨tm,hp,gn,us,L⟩ :=
 v_app hop ho hd ht hg hf hx hr hT hy hnu hr1 hr2 hr3 hr4 hsz hnm hz hc h
theorem zj3 {t:Nat}{c:Call}{fv:Operand}{f:FuncId}{caps:List AC}{args ins:List AV}{res:AV}{nv:AV}{nr:List (Nat×Row)}(id:Nat)(hctr:Ctr prog f ins [] res [])(h:Walk prog ops Q C dr (bP dr (i,o,⟨args.flatMap snV++[],nr.map (fun p=>(p.1,some p.2)),nr.map (·.1),nv⟩) H) r ⟨upd tm t nv,fG hp (nr.map (fun p=>(p.1,some p.2))),gn,nr.map (·.1)++us,L⟩)(hop:ops[i]? = some o:=by exact rfl)(hoc:o.op=.call c:=by exact rfl)(hcal:c.callee=.value fv:=by exact rfl)(hd:o.dst=some t:=by exact rfl)(ht:Nat.blt t L=true:=by exact rfl)(hg:gw ops tm o=some true:=by exact rfl)(hfv:AS.ev ⟨tm,hp,gn,us,L⟩ fv=.c (.fn f caps):=by exact rfl)(hargs:cD ⟨tm,hp,gn,us,L⟩ c caps=args:=by exact rfl)(hcv:args.map (cvV hp [])=ins:=by (repeat' (first|rfl|exact cvm_nil|refine qz ?_ ?_|refine zZ ?_|refine cv_c ?_|refine qA ?_ ?_|(refine zb ?_;exact byc)|(refine cvC_rp ?_;exact byc)|refine cvC_fn ?_|(refine cvC_sl' (by rfl) (by rfl) (by rfl) (by rfl) ?_ ?_;(focus exact byc);(first|rfl|exact ik _)))))(hm:dS res=true:=by (first|rfl|exact cg _|(simp [dS,eM,dm,j6,cg,de,df];done)))(hopn:opV id res=(nv,nr):=by exact rfl)(hf:(nr.all fun p=>Nat.ble gn p.1&&!us.contains p.1)=true:=by exact rfl)(hc:chk dr ops i o ⟨args.flatMap snV++[],nr.map (fun p=>(p.1,some p.2)),nr.map (·.1),nv⟩ H=true:=by first|(with_reducible exact bB)|kernel_rfl):Walk prog ops Q C dr H (i :: r) ⟨tm,hp,gn,us,L⟩ :=
 uf id hctr hop hoc hcal hd ht hg hfv hargs hcv hm hopn hf hc h
end
theorem aN {hp:Nat→Option Row}{v:Value}:clV hp (.c (.v v))=some (.c (.v v),hp):=rfl
section
variable {tm:Nat→AV}{hp:Nat→Option Row}{gn L:Nat}{us:List Nat}
theorem dN {i j n:Nat}{T T':TypeId}{k k' m:Nat}{b:Bool}{cs cs':List AC}{pre post:List AC}(hij:Nat.beq i j=false)(hr:hp i=some ⟨T,k,m,b,cs⟩)(hs:hp j=some ⟨T',k',n,false,cs'⟩)(hcs:cs=pre++.sl j n :: post) :
 Gh ⟨tm,hp,gn,us,L⟩ ⟨tm,upd (upd hp j none) i (some ⟨T,k,m,b,pre++.ow T' n k' cs' :: post⟩),gn,us,L⟩:=xd hij hr hs rfl rfl hcs
theorem gW (id:Nat){i n k:Nat}{T:TypeId}{l:List AC}{T':TypeId}{k' m:Nat}{b:Bool}{cs:List AC}{pre post:List AC}(hr:hp i=some ⟨T',k',m,b,cs⟩)(hf:(Nat.ble gn id&&!us.contains id)=true)(hcs:cs=pre++.ow T n k l :: post) :
 Gh ⟨tm,hp,gn,us,L⟩ ⟨tm,upd (upd hp id (some ⟨T,k,n,false,l⟩)) i (some ⟨T',k',m,b,pre++.sl id n :: post⟩),gn,id :: us,L⟩:=qy id hr hf hcs
end
section
variable {P:Program}{fn:Func}{Post:AV→List (List AC)→Prop}{σ:AS}{hp':Nat→Option Row}
end
theorem cW {hp:Nat→Option Row}{i k m:Nat}{T:TypeId}{cs:List AC}(hr:hp i=some ⟨T,k,m,true,cs⟩)(hc:bf cs=true):ij hp [i]=some [cs]:=by
 simp only [ij,hr]
 rw [if_pos ⟨.inl trivial,hc,List.not_mem_nil⟩]
section
variable {P:Program}{ops:Array Oper}{Q:Exit→Act→World→Prop}{C:Ctx}{H:List (Nat×Oper×Inf)}{i:Nat}{r:List Nat}{o:Oper}{dr:Bool}{σ:AS}
variable {tm:Nat→AV}{hp:Nat→Option Row}{gn L:Nat}{us:List Nat}{x:AV}
theorem iR {y:Value}(hop:ops[i]? = some o)(hg:gw ops σ.tm o=some true)(hs1:oY y=true)(hr:∀(ev:Operand→Value) (w:World),(∀z∈o.op.operands,∀v,(σ.ev z).val? = some v→ev z=v)→(execOp ev o).run P w=.ok (.value y) w):Snd P ops Q C i o σ ⟨fpO σ.ev o,[],[],.c (.v y)⟩:=by
 intro τ a w ha hs K hK
 obtain⟨φ,F,St,hs⟩:=hs
 have h3:=hr a.eval w fun z hz v hv=>yQ (by rw [ha.ev z hz];exact hv) (hs.ev z)
 unfold wpOp
 rw [hop]
 have hw:=o9 hs (b:=true) (by rw [ha.gw];exact hg)
 simp only [hw,if_true]
 refine .inl ?_
 unfold Oper.wp
 rw [h3]
 have h7:=hs.put o.dst (x:=.c (.v y)) (u:=y) (by simp only [VR,CR];exact⟨trivial,hs1,trivial⟩)
 exact hK _ _ ⟨φ,F,St,h7⟩
theorem z7 {o:Oper}{op:BinOp}{T ty:TypeId}{xo yo:Operand}{xs ys:Array Value}{b q:Bool}(ho:o.op=.binOp op T xo yo ty)(hm:P.eqGuardType P.depth T=false)(hq:∀w,(Op.equalIn 10000 T (.agg xs) (.agg ys)).run P w=.ok b w)(ev:Operand→Value)(w:World)(hx:ev xo=.agg xs)(hy:ev yo=.agg ys)(hb:op=.eql∧q=b∨op=.neq∧q=!b):(execOp ev o).run P w=.ok (.value (.bool q)) w:=by
 unfold execOp
 rw [ho]
 simp only [hx,hy]
 rcases hb with ⟨rfl,rfl⟩|⟨rfl,rfl⟩
 ·simp [Sem.run_bind,run_eqGuard_agg w _ _ _ _ _ _ hm,run_eql_struct,hq]
 ·simp [Sem.run_bind,run_eqGuard_agg w _ _ _ _ _ _ hm,run_neq_struct,hq]
theorem w_eqS {t:Nat}{op:BinOp}{T ty:TypeId}{xo yo:Operand}{xs ys:List Value}{b q:Bool}(hop:ops[i]? = some o)(ho:o.op=.binOp op T xo yo ty)(hd:o.dst=some t)(ht:Nat.blt t L=true)(hg:gw ops tm o=some true)
 (hm:P.eqGuardType P.depth T=false) (hx:(AS.ev ⟨tm,hp,gn,us,L⟩ xo).val? = some (.agg xs.toArray)) (hy:(AS.ev ⟨tm,hp,gn,us,L⟩ yo).val? = some (.agg ys.toArray)) (hq:∀w,(Op.equalIn 10000 T (.agg xs.toArray) (.agg ys.toArray)).run P w=.ok b w) (hb:op=.eql∧q=b∨op=.neq∧q=!b)
 (hc:chk dr ops i o ⟨fpO (AS.ev ⟨tm,hp,gn,us,L⟩) o,[],[],.c (.v (.bool q))⟩ H=true) (h:Walk P ops Q C dr (bP dr (i,o,⟨fpO (AS.ev ⟨tm,hp,gn,us,L⟩) o,[],[],.c (.v (.bool q))⟩) H) r ⟨upd tm t (.c (.v (.bool q))),hp,gn,us,L⟩):Walk P ops Q C dr H (i :: r) ⟨tm,hp,gn,us,L⟩:=by
 refine⟨o,_,hop,iR (y:=.bool q) hop hg rfl fun ev w he=>?_,fun n hn=>absurd hn List.not_mem_nil,eB hc,cY ?_⟩
 ·have e:o.op.operands=#[xo,yo]:=by rw [ho];rfl
  exact z7 ho hm hq ev w (he xo (by rw [e];simp) _ hx) (he yo (by rw [e];simp) _ hy) hb
 ·show Walk P ops Q C dr _ r (AS.put _ o.dst _)
  rw [hd,eN (by exact em ht)];exact h
end
theorem uh (a0 b0:Int)(a1 b1:Int)(a2 b2:ByteArray)(w:World):(Op.equalIn 10000 36 (.agg #[.int .i64 a0,.int .i64 a1,.string a2]) (.agg #[.int .i64 b0,.int .i64 b1,.string b2])).run prog w=.ok ((a0==b0)&&((a1==b1)&&(a2.toList==b2.toList))) w:=by
 rw [run_equalIn_agg w 9999 _ _ _ (by kernel_rfl) (by kernel_rfl)]
 simp only [Program.fieldsOf,underlying36,Op.eqFields]
 simp [go_sem]
 by_cases h0:a0=b0<;>by_cases h1:a1=b1<;>by_cases h2:a2.toList=b2.toList<;>simp [*]
structure EntT (w:World)(St:Nat→Prop)(ins:List AV)(us:List Value)(p:Nat)(T:TypeId)(k n:Nat)(cs:List AC)(A:List Nat):Prop where
 args:VRL w St φ0 K0 ins us
 row:∃u vs fs,us[p]? = some u∧CRL w St φ0 K0 cs vs fs∧w.ownsRow 0 T k u n vs∧A=obl u++fs
 nod:A.Nodup
 st:∀b∈A,¬St b
 gl:GlobOk w∧∀b,isG b→b∉A
structure ExtT (w w':World)(us:List Value)(p:Nat)(T:TypeId)(k n:Nat)(A:List Nat)(res:AV)(back:Option (List AC))(u:Value)(St':Nat→Prop)(G B:List Nat):Prop where
 frm:Fc (·∈ A) (fun _ _=>False) w w'
 res:VRF w' St' φ0 K0 res u G
 bak:∀cs',back=some cs'→∃v vs fs,us[p]? = some v∧CRL w' St' φ0 K0 cs' vs fs∧w'.ownsRow 0 T k v n vs∧B=obl v++fs
 nod:(G++B).Nodup
 own:∀b∈G++B,b∈A∨w.heap.size≤b
section
variable {C:Ctx}{φ:Nat→Lc}{F:Nat→List Nat}{St:Nat→Prop}{σ:AS}{a:Act}{w w':World}
end
section
variable {P:Program}{ops:Array Oper}{Q:Exit→Act→World→Prop}{C:Ctx}{σ:AS}{o:Oper}{i:Nat}
end
section
variable {P:Program}{ops:Array Oper}{Q:Exit→Act→World→Prop}{C:Ctx}{H:List (Nat×Oper×Inf)}{i:Nat}{r:List Nat}{o:Oper}{dr:Bool}
variable {tm:Nat→AV}{hp:Nat→Option Row}{gn L:Nat}{us:List Nat}
end
theorem yK {p:Prop}(h:p:=by first|((repeat' (first|rfl|exact cvm_nil|refine qz ?_ ?_|refine zZ ?_|refine cv_c ?_|refine qA ?_ ?_|(refine zb ?_;exact byc)|(refine cvC_rp ?_;exact byc)|refine cvC_fn ?_|(refine cvC_sl' (by rfl) (by rfl) (by rfl) (by rfl) ?_ ?_;(focus exact byc);(first|rfl|exact ik _))))<;>exact rfl)|fail):p:=h
section
variable {P:Program}{ops:Array Oper}{Q:Exit→Act→World→Prop}{C:Ctx}{H:List (Nat×Oper×Inf)}{i:Nat}{r:List Nat}{o:Oper}{dr:Bool}
variable {tm:Nat→AV}{hp:Nat→Option Row}{gn L:Nat}{us:List Nat}
theorem pe {σ σ':AS}(hg:Gh σ σ')(h:Walk P ops Q C dr H [] σ'):Walk P ops Q C dr H [] σ:=fun a w hs=>h a w (hg C a w hs)
def gdL (i:Nat):List Oper→Bool
 | []=>false
 | o :: r=>match o.guard with|some (g,_)=>Nat.beq g i||gdL i r|none=>gdL i r
end
section
variable {ops:Array Oper}{Q:Exit→Act→World→Prop}{C:Ctx}{H H':List (Nat×Oper×Inf)}{i:Nat}{r:List Nat}{o:Oper}{dr:Bool}
variable {tm:Nat→AV}{hp:Nat→Option Row}{gn L:Nat}{us:List Nat}{x:AV}
theorem xg {t:Nat}{b:Bool}(h1:b=true→Walk prog ops Q C dr (bP dr (i,o,⟨fpO (AS.ev ⟨tm,hp,gn,us,L⟩) o,[],[],.c (.v (.bool true))⟩) H) r ⟨upd tm t (.c (.v (.bool true))),hp,gn,us,L⟩)
 (h2:b=false→Walk prog ops Q C dr (bP dr (i,o,⟨fpO (AS.ev ⟨tm,hp,gn,us,L⟩) o,[],[],.c (.v (.bool false))⟩) H) r ⟨upd tm t (.c (.v (.bool false))),hp,gn,us,L⟩)
 (hop:ops[i]? = some o:=by exact rfl) (hgd:gdL i ops.toList=true:=by exact rfl) (hd:o.dst=some t:=by exact rfl) (ht:Nat.blt t L=true:=by exact rfl) (hg:gw ops tm o=some true:=by exact rfl) (he:EffD prog o (AS.ev ⟨tm,hp,gn,us,L⟩) hp 0=some (.c (.v (.bool b)),.nop):=by rfl)
 (hc1:chk dr ops i o ⟨fpO (AS.ev ⟨tm,hp,gn,us,L⟩) o,[],[],.c (.v (.bool true))⟩ H=true:=by first|(with_reducible exact bB)|kernel_rfl) (hc2:chk dr ops i o ⟨fpO (AS.ev ⟨tm,hp,gn,us,L⟩) o,[],[],.c (.v (.bool false))⟩ H=true:=by first|(with_reducible exact bB)|kernel_rfl):Walk prog ops Q C dr H (i :: r) ⟨tm,hp,gn,us,L⟩ :=
 zi3 hop hd ht hg he hc1 hc2 h1 h2
theorem x_cal {t:Nat}{c:Call}{fv:Operand}{f:FuncId}{caps:List AC}{args ins:List AV}{res:AV}{nv:AV}{nr:List (Nat×Row)}
 (h:Walk prog ops Q C dr (bP dr (i,o,⟨args.flatMap snV++[],nr.map (fun p=>(p.1,some p.2)),nr.map (·.1),nv⟩) H) r ⟨upd tm t nv,fG hp (nr.map (fun p=>(p.1,some p.2))),gn,nr.map (·.1)++us,L⟩) (hop:ops[i]? = some o:=by exact rfl) (hoc:o.op=.call c:=by exact rfl) (hcal:c.callee=.value fv:=by exact rfl) (hd:o.dst=some t:=by exact rfl) (ht:Nat.blt t L=true:=by exact rfl) (hg:gw ops tm o=some true:=by exact rfl) (hfv:AS.ev ⟨tm,hp,gn,us,L⟩ fv=.c (.fn f caps):=by exact rfl) (hctr:Ctr prog f ins [] res []:=by assumption) (hargs:cD ⟨tm,hp,gn,us,L⟩ c caps=args:=by exact rfl) (hcv:args.map (cvV hp [])=ins:=by exact yK) (hm:dS res=true:=by (first|rfl|exact cg _|(simp [dS,eM,dm,j6,cg,de,df];done))) (hopn:opV (100*(t+1)) res=(nv,nr):=by exact rfl) (hf:(nr.all fun p=>Nat.ble gn p.1&&!us.contains p.1)=true:=by exact rfl) (hc:chk dr ops i o ⟨args.flatMap snV++[],nr.map (fun p=>(p.1,some p.2)),nr.map (·.1),nv⟩ H=true:=by first|(with_reducible exact bB)|kernel_rfl):Walk prog ops Q C dr H (i :: r) ⟨tm,hp,gn,us,L⟩ :=
 uf (100*(t+1)) hctr hop hoc hcal hd ht hg hfv hargs hcv hm hopn hf hc h
theorem il {t:Nat}{c:Call}{fv:Operand}{f:FuncId}{caps:List AC}{args ins:List AV}{res:AV}{nv:AV}{nr:List (Nat×Row)}(hctr:Ctr prog f ins [] res [])
 (h:Walk prog ops Q C dr (bP dr (i,o,⟨args.flatMap snV++[],nr.map (fun p=>(p.1,some p.2)),nr.map (·.1),nv⟩) H) r ⟨upd tm t nv,fG hp (nr.map (fun p=>(p.1,some p.2))),gn,nr.map (·.1)++us,L⟩) (hop:ops[i]? = some o:=by exact rfl) (hoc:o.op=.call c:=by exact rfl) (hcal:c.callee=.value fv:=by exact rfl) (hd:o.dst=some t:=by exact rfl) (ht:Nat.blt t L=true:=by exact rfl) (hg:gw ops tm o=some true:=by exact rfl) (hfv:AS.ev ⟨tm,hp,gn,us,L⟩ fv=.c (.fn f caps):=by exact rfl) (hargs:cD ⟨tm,hp,gn,us,L⟩ c caps=args:=by exact rfl) (hcv:args.map (cvV hp [])=ins:=by exact yK) (hm:dS res=true:=by (first|rfl|exact cg _|(simp [dS,eM,dm,j6,cg,de,df];done))) (hopn:opV (100*(t+1)) res=(nv,nr):=by exact rfl) (hf:(nr.all fun p=>Nat.ble gn p.1&&!us.contains p.1)=true:=by exact rfl) (hc:chk dr ops i o ⟨args.flatMap snV++[],nr.map (fun p=>(p.1,some p.2)),nr.map (·.1),nv⟩ H=true:=by first|(with_reducible exact bB)|kernel_rfl):Walk prog ops Q C dr H (i :: r) ⟨tm,hp,gn,us,L⟩ :=
 uf (100*(t+1)) hctr hop hoc hcal hd ht hg hfv hargs hcv hm hopn hf hc h
end
section
variable {ops:Array Oper}{Q:Exit→Act→World→Prop}{C:Ctx}{H H':List (Nat×Oper×Inf)}{i:Nat}{r:List Nat}{o:Oper}{dr:Bool}
variable {tm:Nat→AV}{hp:Nat→Option Row}{gn L:Nat}{us:List Nat}
theorem z8 {P:Program}{T ty:TypeId}{xo yo:Operand}{a b:ByteArray}(ho:o.op=.binOp .add T xo yo ty)(hT:P.underlying T=some .string)(hs:a.size+b.size≤9223372036854775807)(ev:Operand→Value)(w:World)(hx:ev xo=.string a)(hy:ev yo=.string b):(execOp ev o).run P w=.ok (.value (.string (a++b))) w:=by
 unfold execOp
 rw [ho]
 simp only [hx,hy]
 simp [Sem.run_bind,binOp,eqGuard,run_underlying hT,run_string_add_sum w a b hs]
theorem x_cat {t:Nat}{T ty:TypeId}{xo yo:Operand}{a b:ByteArray}(h:Walk prog ops Q C dr (bP dr (i,o,⟨fpO (AS.ev ⟨tm,hp,gn,us,L⟩) o,[],[],.c (.v (.string (a++b)))⟩) H) r ⟨upd tm t (.c (.v (.string (a++b)))),hp,gn,us,L⟩)
 (hop:ops[i]? = some o:=by exact rfl) (ho:o.op=.binOp .add T xo yo ty:=by exact rfl) (hT:(prog).underlying T=some .string:=by exact underlying9) (hd:o.dst=some t:=by exact rfl) (ht:Nat.blt t L=true:=by exact rfl) (hg:gw ops tm o=some true:=by exact rfl)
 (hx:AS.ev ⟨tm,hp,gn,us,L⟩ xo=.c (.v (.string a)):=by exact rfl) (hy:AS.ev ⟨tm,hp,gn,us,L⟩ yo=.c (.v (.string b)):=by exact rfl) (hs:a.size+b.size≤9223372036854775807:=by first|omega|(simp only [ByteArray.size_append',ByteArray.size_mk',List.size_toArray,List.length_cons,List.length_nil];omega))
 (hc:chk dr ops i o ⟨fpO (AS.ev ⟨tm,hp,gn,us,L⟩) o,[],[],.c (.v (.string (a++b)))⟩ H=true:=by first|(with_reducible exact bB)|kernel_rfl):Walk prog ops Q C dr H (i :: r) ⟨tm,hp,gn,us,L⟩:=by
 refine⟨o,_,hop,iR (y:=.string (a++b)) hop hg rfl fun ev w he=>?_,fun n hn=>absurd hn List.not_mem_nil,eB hc,cY ?_⟩
 ·have e:o.op.operands=#[xo,yo]:=by rw [ho];rfl
  exact z8 ho hT hs ev w (he xo (by rw [e];simp) _ (by rw [hx];rfl)) (he yo (by rw [e];simp) _ (by rw [hy];rfl))
 ·show Walk prog ops Q C dr _ r (AS.put _ o.dst _)
  rw [hd,eN (by exact em ht)];exact h
end
end Go.Proofs.YtmnneflenebgmaaGreat
