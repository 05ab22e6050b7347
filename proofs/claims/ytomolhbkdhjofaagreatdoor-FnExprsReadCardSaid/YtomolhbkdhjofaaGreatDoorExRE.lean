/- T -/
import Derived.Laws.StructEq
import Derived.Test.YtomolhbkdhjofaaGreatDoorExRD
set_option maxHeartbeats 0
set_option maxRecDepth 100000
namespace Go.Proofs.YtomolhbkdhjofaaGreatDoor
open Go.RowKit Go.Proofs.Tryz
section
variable {P:Program}{tm:Nat→AV}{hp:Nat→Option Row}{gn L:Nat}{us:List Nat}
theorem kz (id:Nat){t:Nat}(T:TypeId)(k:Nat)(ht:tm t=.c (.v (.slice none 0 0)))(hf:(Nat.ble gn id&&!us.contains id)=true) :
 Gh ⟨tm,hp,gn,us,L⟩ ⟨upd tm t (.c (.sl id 0)),upd hp id (some ⟨T,k,0,false,[]⟩),gn,id :: us,L⟩:=by
 simp only [baq,Nat.ble_eq,bnt] at hf
 rintro C a w ⟨φ,F,St,h⟩
 obtain⟨φ',F',St',h',hv⟩:=h.newSlice (id:=id) hf.1 (fun hm=>by have:=hf.2;simp at this;exact this hm) (Stp.refl none w) (fun b hb=>by cases hb) (CRL.nil) (fun b hb=>absurd hb List.not_mem_nil) (World.ownsRow_nil w 0 T k) (by simp [obl,Value.ownBlock]) (fun b hb=>by simp [obl,Value.ownBlock] at hb)
 refine⟨φ',F',St',h'.dfr,h'.len,fun t'=>?_,h'.row,h'.nod,h'.dis,h'.bxF,h'.bxd,h'.stF,h'.stB,h'.frm,h'.own,h'.par,h'.new,h'.gnN,h'.stS⟩
 show VR w St' φ' _ (upd tm t _ t') _
 by_cases e:t'=t
 ·subst e
  rw [aP]
  have:=h.tms t'
  change VR w St φ _ (tm t') _ at this
  rw [ht] at this
  simp only [VR,CR] at this
  rw [this.1];exact hv
 ·rw [ba _ _ e];exact h'.tms t'
end
section
variable {P:Program}{ops:Array Oper}{Q:Exit→Act→World→Prop}{C:Ctx}{H H':List (Nat×Oper×Inf)}{i:Nat}{r:List Nat}{o:Oper}{dr:Bool}
variable {tm:Nat→AV}{hp:Nat→Option Row}{gn L:Nat}{us:List Nat}{x:AV}
theorem bv {I:Inf}:chk false ops i o I H=true:=rfl
theorem w_eq {t:Nat}{y:AV}(hop:ops[i]? = some o)(hd:o.dst=some t)(ht:Nat.blt t L=true)(hg:gw ops tm o=some true)(he:EffD P o (AS.ev ⟨tm,hp,gn,us,L⟩) hp 0=some (x,.nop))(hy:x=y)
 (hc:chk dr ops i o ⟨fpO (AS.ev ⟨tm,hp,gn,us,L⟩) o,[],[],y⟩ H=true) (h:Walk P ops Q C dr (bK dr (i,o,⟨fpO (AS.ev ⟨tm,hp,gn,us,L⟩) o,[],[],y⟩) H) r ⟨upd tm t y,hp,gn,us,L⟩):Walk P ops Q C dr H (i :: r) ⟨tm,hp,gn,us,L⟩:=by
 subst hy
 exact tO 0 hop hd ht hg he hc h
theorem zn7 {t:Nat}{b:Bool}(hop:ops[i]? = some o)(hd:o.dst=some t)(ht:Nat.blt t L=true)(hg:gw ops tm o=some true)(he:EffD P o (AS.ev ⟨tm,hp,gn,us,L⟩) hp 0=some (.c (.v (.bool b)),.nop))
 (hc1:chk dr ops i o ⟨fpO (AS.ev ⟨tm,hp,gn,us,L⟩) o,[],[],.c (.v (.bool true))⟩ H=true) (hc2:chk dr ops i o ⟨fpO (AS.ev ⟨tm,hp,gn,us,L⟩) o,[],[],.c (.v (.bool false))⟩ H=true)
 (h1:b=true→Walk P ops Q C dr (bK dr (i,o,⟨fpO (AS.ev ⟨tm,hp,gn,us,L⟩) o,[],[],.c (.v (.bool true))⟩) H) r ⟨upd tm t (.c (.v (.bool true))),hp,gn,us,L⟩)
 (h2:b=false→Walk P ops Q C dr (bK dr (i,o,⟨fpO (AS.ev ⟨tm,hp,gn,us,L⟩) o,[],[],.c (.v (.bool false))⟩) H) r ⟨upd tm t (.c (.v (.bool false))),hp,gn,us,L⟩):Walk P ops Q C dr H (i :: r) ⟨tm,hp,gn,us,L⟩:=by
 cases b with
 | true=>exact tO 0 hop hd ht hg he hc1 (h1 rfl)
 | false=>exact tO 0 hop hd ht hg he hc2 (h2 rfl)
end
theorem cvC_sl' {hp:Nat→Option Row}{D:List Nat}{i n k:Nat}{rw:Row}{l:List AC}(hr:hp i=some rw)(hb:rw.box=false)(hn:rw.n=n)(hk:rw.k=k)(hc:bu rw.cs=true)(hl:gV rw.cs=l):cvC hp D (.sl i n)=.ro n k l:=by
 subst hk
 exact zm7 hr hb hn hc hl
section
variable {ops:Array Oper}{Q:Exit→Act→World→Prop}{C:Ctx}{H H':List (Nat×Oper×Inf)}{i:Nat}{r:List Nat}{o:Oper}{dr:Bool}
variable {tm:Nat→AV}{hp:Nat→Option Row}{gn L:Nat}{us:List Nat}{x:AV}
theorem cV {t:Nat}  (h:Walk prog ops Q C dr (bK dr (i,o,⟨fpO (AS.ev ⟨tm,hp,gn,us,L⟩) o,[],[],x⟩) H) r ⟨upd tm t x,hp,gn,us,L⟩)(hop:ops[i]? = some o:=by exact rfl)(hd:o.dst=some t:=by exact rfl)(ht:Nat.blt t L=true:=by exact rfl)(hg:gw ops tm o=some true:=by exact rfl)(he:EffD prog o (AS.ev ⟨tm,hp,gn,us,L⟩) hp 0=some (x,.nop):=by rfl)(hc:chk dr ops i o ⟨fpO (AS.ev ⟨tm,hp,gn,us,L⟩) o,[],[],x⟩ H=true:=by first|(with_reducible exact bv)|kernel_rfl):Walk prog ops Q C dr H (i :: r) ⟨tm,hp,gn,us,L⟩ :=
 tO 0 hop hd ht hg he hc h
theorem jr {t n k:Nat}{T e:TypeId}{parts:Array (Nat×Operand)}{zs:List AC}  (h:Walk prog ops Q C dr (bK dr (i,o,⟨fpO (AS.ev ⟨tm,hp,gn,us,L⟩) o,[(t,some ⟨e,k,n,false,zs⟩)],[t],.c (.sl t n)⟩) H) r ⟨upd tm t (.c (.sl t n)),upd hp t (some ⟨e,k,n,false,zs⟩),gn,t :: us,L⟩)(hop:ops[i]? = some o:=by exact rfl)(ho:o.op=.buildSlice T n parts:=by exact rfl)(hd:o.dst=some t:=by exact rfl)(ht:Nat.blt t L=true:=by exact rfl)(hg:gw ops tm o=some true:=by exact rfl)(hf:(Nat.ble gn t&&!us.contains t)=true:=by exact rfl)(hT:sliT prog T=some (e,k):=by first|exact (rfl:_=some ((5:Nat),(1:Nat)))|exact (rfl:_=some ((26:Nat),(4:Nat)))|exact (rfl:_=some ((63:Nat),(3:Nat)))|exact (rfl:_=some ((9:Nat),(1:Nat)))|exact (rfl:_=some ((3:Nat),(1:Nat)))|exact (rfl:_=some ((112:Nat),(3:Nat))))(hz:catP k 0 (parts.toList.map fun p=>(p.1,AS.ev ⟨tm,hp,gn,us,L⟩ p.2))=some zs:=by rfl)(hn:n=parts.toList.length:=by rfl)(hb:(Nat.ble (n*k) 16777216&&Nat.ble n 16777216)=true:=by rfl)(hc:chk dr ops i o ⟨fpO (AS.ev ⟨tm,hp,gn,us,L⟩) o,[(t,some ⟨e,k,n,false,zs⟩)],[t],.c (.sl t n)⟩ H=true:=by first|(with_reducible exact bv)|kernel_rfl):Walk prog ops Q C dr H (i :: r) ⟨tm,hp,gn,us,L⟩ :=
 v_bs hop ho hd ht hg hf hT hz hn hb hc h
theorem j5 {t:Nat}{rw:Row}  (h:Walk prog ops Q C dr (bK dr (i,o,⟨fpO (AS.ev ⟨tm,hp,gn,us,L⟩) o,[(t,some rw)],[t],x⟩) H) r ⟨upd tm t x,upd hp t (some rw),gn,t :: us,L⟩)(hop:ops[i]? = some o:=by exact rfl)(hd:o.dst=some t:=by exact rfl)(ht:Nat.blt t L=true:=by exact rfl)(hg:gw ops tm o=some true:=by exact rfl)(hf:(Nat.ble gn t&&!us.contains t)=true:=by exact rfl)(he:EffD prog o (AS.ev ⟨tm,hp,gn,us,L⟩) hp t=some (x,.gr t rw):=by rfl)(hc:chk dr ops i o ⟨fpO (AS.ev ⟨tm,hp,gn,us,L⟩) o,[(t,some rw)],[t],x⟩ H=true:=by first|(with_reducible exact bv)|kernel_rfl):Walk prog ops Q C dr H (i :: r) ⟨tm,hp,gn,us,L⟩ :=
 v_gr hop hd ht hg hf he hc h
theorem kA {j:Nat}{rw:Row}  (h:Walk prog ops Q C dr (bK dr (i,o,⟨fpO (AS.ev ⟨tm,hp,gn,us,L⟩) o,[(j,some rw)],[],x⟩) H) r ⟨tm,upd hp j (some rw),gn,us,L⟩)(hop:ops[i]? = some o:=by exact rfl)(hd:o.dst=none:=by exact rfl)(hg:gw ops tm o=some true:=by exact rfl)(he:EffD prog o (AS.ev ⟨tm,hp,gn,us,L⟩) hp 0=some (x,.st j rw):=by rfl)(hc:chk dr ops i o ⟨fpO (AS.ev ⟨tm,hp,gn,us,L⟩) o,[(j,some rw)],[],x⟩ H=true:=by first|(with_reducible exact bv)|kernel_rfl):Walk prog ops Q C dr H (i :: r) ⟨tm,hp,gn,us,L⟩ :=
 w_st hop hd hg he hc h
theorem iX {t:Nat}  (h:Walk prog ops Q C dr (bK dr (i,o,gY) H) r ⟨upd tm t (.tu []),hp,gn,us,L⟩)(hop:ops[i]? = some o:=by exact rfl)(hd:o.dst=some t:=by exact rfl)(ht:Nat.blt t L=true:=by exact rfl)(hg:gw ops tm o=some false:=by exact rfl)(hc:chk dr ops i o gY H=true:=by first|(with_reducible exact bv)|kernel_rfl):Walk prog ops Q C dr H (i :: r) ⟨tm,hp,gn,us,L⟩ :=
 zh7 hop hd ht hg hc h
theorem kB {t n k j:Nat}{l:List E}{e:E}{kd:IntKind}{z:Int}{T:TypeId}{xo io:Operand}  (h:Walk prog ops Q C dr (bK dr (i,o,⟨fpO (AS.ev ⟨tm,hp,gn,us,L⟩) o,[],[],.c (.rp (acE e) 0)⟩) H) r ⟨upd tm t (.c (.rp (acE e) 0)),hp,gn,us,L⟩)(hop:ops[i]? = some o:=by exact rfl)(ho:o.op=.indexAddr T xo io:=by exact rfl)(hd:o.dst=some t:=by exact rfl)(ht:Nat.blt t L=true:=by exact rfl)(hg:gw ops tm o=some true:=by exact rfl)(hx:AS.ev ⟨tm,hp,gn,us,L⟩ xo=.c (.ro n k (acL l)):=by exact rfl)(hi:AS.ev ⟨tm,hp,gn,us,L⟩ io=.c (.v (.int kd z)):=by exact rfl)(hT:yD prog T k=true:=by exact rfl)(hz:z=(j:Int):=by first|rfl|omega|assumption)(hn:n=l.length:=by exact rfl)(hk:∀e∈l,e.enc.length=k:=by assumption)(he:l[j]? = some e:=by assumption)(hc:chk dr ops i o ⟨fpO (AS.ev ⟨tm,hp,gn,us,L⟩) o,[],[],.c (.rp (acE e) 0)⟩ H=true:=by first|(with_reducible exact bv)|kernel_rfl):Walk prog ops Q C dr H (i :: r) ⟨tm,hp,gn,us,L⟩ :=
 w_idx hop ho hd ht hg hx hi hT hz hn hk he hc h
theorem fu {t n k j s:Nat}{rw:Row}{kd:IntKind}{z:Int}{T:TypeId}{xo io:Operand}  (h:Walk prog ops Q C dr (bK dr (i,o,⟨fpO (AS.ev ⟨tm,hp,gn,us,L⟩) o,[],[],.c (.pt s (j*k))⟩) H) r ⟨upd tm t (.c (.pt s (j*k))),hp,gn,us,L⟩)(hop:ops[i]? = some o:=by exact rfl)(ho:o.op=.indexAddr T xo io:=by exact rfl)(hd:o.dst=some t:=by exact rfl)(ht:Nat.blt t L=true:=by exact rfl)(hg:gw ops tm o=some true:=by exact rfl)(hx:AS.ev ⟨tm,hp,gn,us,L⟩ xo=.c (.sl s n):=by exact rfl)(hi:AS.ev ⟨tm,hp,gn,us,L⟩ io=.c (.v (.int kd z)):=by exact rfl)(hr:hp s=some rw:=by exact rfl)(hb:rw.box=false:=by exact rfl)(hn:rw.n=n:=by exact rfl)(hk:rw.k=k:=by exact rfl)(hT:yD prog T k=true:=by rfl)(hz:z=(j:Int):=by first|rfl|omega|assumption)(hj:j<n:=by first|assumption|omega)(hc:chk dr ops i o ⟨fpO (AS.ev ⟨tm,hp,gn,us,L⟩) o,[],[],.c (.pt s (j*k))⟩ H=true:=by first|(with_reducible exact bv)|kernel_rfl):Walk prog ops Q C dr H (i :: r) ⟨tm,hp,gn,us,L⟩ :=
 zk7 hop ho hd ht hg hx hi hr hb hn hk hT hz hj hc h
theorem fx {t j n m k nm:Nat}{rw:Row}{e T T2:TypeId}{xo yo:Operand}{ys zs:List AC}  (h:Walk prog ops Q C dr (bK dr (i,o,⟨fpO (AS.ev ⟨tm,hp,gn,us,L⟩) o,[(j,none),(t,some ⟨e,k,nm,false,zs⟩)],[t],.c (.sl t nm)⟩) H) r ⟨upd tm t (.c (.sl t nm)),upd (upd hp j none) t (some ⟨e,k,nm,false,zs⟩),gn,t :: us,L⟩)(hop:ops[i]? = some o:=by exact rfl)(ho:o.op=.call ⟨.builtin .append,#[xo,yo],#[T,T2]⟩:=by exact rfl)(hd:o.dst=some t:=by exact rfl)(ht:Nat.blt t L=true:=by exact rfl)(hg:gw ops tm o=some true:=by exact rfl)(hf:(Nat.ble gn t&&!us.contains t)=true:=by exact rfl)(hx:AS.ev ⟨tm,hp,gn,us,L⟩ xo=.c (.sl j n):=by exact rfl)(hr:hp j=some rw:=by exact rfl)(hT:appB prog T T2=some (e,k):=by first|exact (rfl:_=some ((5:Nat),(1:Nat)))|exact (rfl:_=some ((26:Nat),(4:Nat)))|exact (rfl:_=some ((63:Nat),(3:Nat)))|exact (rfl:_=some ((9:Nat),(1:Nat)))|exact (rfl:_=some ((3:Nat),(1:Nat)))|exact (rfl:_=some ((112:Nat),(3:Nat))))(hy:ju hp k (AS.ev ⟨tm,hp,gn,us,L⟩ yo)=some (m,ys):=by first|rfl|exact srcOf_sl rfl rfl rfl rfl)(hnu:ys.all u9=true:=by first|rfl|exact acL_noUn _)(hr1:rw.T=e:=by exact rfl)(hr2:rw.k=k:=by exact rfl)(hr3:rw.n=n:=by exact rfl)(hr4:rw.box=false:=by exact rfl)(hsz:n+m≤4294967296:=by omega)(hnm:n+m=nm:=by first|exact Nat.zero_add _|rfl)(hz:rw.cs++ys=zs:=by first|exact List.nil_append _|rfl)(hc:chk dr ops i o ⟨fpO (AS.ev ⟨tm,hp,gn,us,L⟩) o,[(j,none),(t,some ⟨e,k,nm,false,zs⟩)],[t],.c (.sl t nm)⟩ H=true:=by first|(with_reducible exact bv)|kernel_rfl):Walk prog ops Q C dr H (i :: r) ⟨tm,hp,gn,us,L⟩ :=
 v_app hop ho hd ht hg hf hx hr hT hy hnu hr1 hr2 hr3 hr4 hsz hnm hz hc h
theorem kC {t s off:Nat}{rw:Row}{T:TypeId}{p:Operand}{cs:List AC}  (h:Walk prog ops Q C dr (bK dr (i,o,⟨fpO (AS.ev ⟨tm,hp,gn,us,L⟩) o,[],[],x⟩) H) r ⟨upd tm t x,hp,gn,us,L⟩)(hop:ops[i]? = some o:=by exact rfl)(ho:o.op=.load T p:=by exact rfl)(hd:o.dst=some t:=by exact rfl)(ht:Nat.blt t L=true:=by exact rfl)(hg:gw ops tm o=some true:=by rfl)(hx:AS.ev ⟨tm,hp,gn,us,L⟩ p=.c (.pt s off):=by exact rfl)(hr:hp s=some rw:=by exact rfl)(hs:ij rw.cs off (prog.cellsOf T)=cs:=by assumption)(hm:rJ prog T cs=some x:=by rfl)(hc:chk dr ops i o ⟨fpO (AS.ev ⟨tm,hp,gn,us,L⟩) o,[],[],x⟩ H=true:=by first|(with_reducible exact bv)|kernel_rfl):Walk prog ops Q C dr H (i :: r) ⟨tm,hp,gn,us,L⟩ :=
 w_ld hop ho hd ht hg hx hr hs hm hc h
end
theorem aJ {hp:Nat→Option Row}{v:Value}:clV hp (.c (.v v))=some (.c (.v v),hp):=rfl
section
variable {tm:Nat→AV}{hp:Nat→Option Row}{gn L:Nat}{us:List Nat}
theorem dU {i j n:Nat}{T T':TypeId}{k k' m:Nat}{b:Bool}{cs cs':List AC}{pre post:List AC}(hij:Nat.beq i j=false)(hr:hp i=some ⟨T,k,m,b,cs⟩)(hs:hp j=some ⟨T',k',n,false,cs'⟩)(hcs:cs=pre++.sl j n :: post) :
 Gh ⟨tm,hp,gn,us,L⟩ ⟨tm,upd (upd hp j none) i (some ⟨T,k,m,b,pre++.ow T' n k' cs' :: post⟩),gn,us,L⟩:=y7 hij hr hs rfl rfl hcs
theorem y8 (id:Nat){i n k:Nat}{T:TypeId}{l:List AC}{T':TypeId}{k' m:Nat}{b:Bool}{cs:List AC}{pre post:List AC}(hr:hp i=some ⟨T',k',m,b,cs⟩)(hf:(Nat.ble gn id&&!us.contains id)=true)(hcs:cs=pre++.ow T n k l :: post) :
 Gh ⟨tm,hp,gn,us,L⟩ ⟨tm,upd (upd hp id (some ⟨T,k,n,false,l⟩)) i (some ⟨T',k',m,b,pre++.sl id n :: post⟩),gn,id :: us,L⟩:=r7 id hr hf hcs
end
section
variable {P:Program}{fn:Func}{Post:AV→List (List AC)→Prop}{σ:AS}{hp':Nat→Option Row}
end
theorem bF {hp:Nat→Option Row}{i k m:Nat}{T:TypeId}{cs:List AC}(hr:hp i=some ⟨T,k,m,true,cs⟩)(hc:bu cs=true):je hp [i]=some [cs]:=by
 simp only [je,hr]
 rw [if_pos ⟨.inl trivial,hc,List.not_mem_nil⟩]
section
variable {P:Program}{ops:Array Oper}{Q:Exit→Act→World→Prop}{C:Ctx}{H:List (Nat×Oper×Inf)}{i:Nat}{r:List Nat}{o:Oper}{dr:Bool}{σ:AS}
variable {tm:Nat→AV}{hp:Nat→Option Row}{gn L:Nat}{us:List Nat}{x:AV}
theorem jh {y:Value}(hop:ops[i]? = some o)(hg:gw ops σ.tm o=some true)(hs1:qg y=true)(hr:∀(ev:Operand→Value) (w:World),(∀z∈o.op.operands,∀v,(σ.ev z).val? = some v→ev z=v)→(execOp ev o).run P w=.ok (.value y) w):Snd P ops Q C i o σ ⟨fpO σ.ev o,[],[],.c (.v y)⟩:=by
 intro τ a w ha hs K hK
 obtain⟨φ,F,St,hs⟩:=hs
 have h3:=hr a.eval w fun z hz v hv=>zm1 (by rw [ha.ev z hz];exact hv) (hs.ev z)
 unfold wpOp
 rw [hop]
 have hw:=nT hs (b:=true) (by rw [ha.gw];exact hg)
 simp only [hw,if_true]
 refine .inl ?_
 unfold Oper.wp
 rw [h3]
 have h7:=hs.put o.dst (x:=.c (.v y)) (u:=y) (by simp only [VR,CR];exact⟨trivial,hs1,trivial⟩)
 exact hK _ _ ⟨φ,F,St,h7⟩
theorem zx3 {o:Oper}{op:BinOp}{T ty:TypeId}{xo yo:Operand}{xs ys:Array Value}{b q:Bool}(ho:o.op=.binOp op T xo yo ty)(hm:P.eqGuardType P.depth T=false)(hq:∀w,(Op.equalIn 10000 T (.agg xs) (.agg ys)).run P w=.ok b w)(ev:Operand→Value)(w:World)(hx:ev xo=.agg xs)(hy:ev yo=.agg ys)(hb:op=.eql∧q=b∨op=.neq∧q=!b):(execOp ev o).run P w=.ok (.value (.bool q)) w:=by
 unfold execOp
 rw [ho]
 simp only [hx,hy]
 rcases hb with ⟨rfl,rfl⟩|⟨rfl,rfl⟩
 ·simp [Sem.run_bind,run_eqGuard_agg w _ _ _ _ _ _ hm,run_eql_struct,hq]
 ·simp [Sem.run_bind,run_eqGuard_agg w _ _ _ _ _ _ hm,run_neq_struct,hq]
theorem w_eqS {t:Nat}{op:BinOp}{T ty:TypeId}{xo yo:Operand}{xs ys:List Value}{b q:Bool}(hop:ops[i]? = some o)(ho:o.op=.binOp op T xo yo ty)(hd:o.dst=some t)(ht:Nat.blt t L=true)(hg:gw ops tm o=some true)
 (hm:P.eqGuardType P.depth T=false) (hx:(AS.ev ⟨tm,hp,gn,us,L⟩ xo).val? = some (.agg xs.toArray)) (hy:(AS.ev ⟨tm,hp,gn,us,L⟩ yo).val? = some (.agg ys.toArray)) (hq:∀w,(Op.equalIn 10000 T (.agg xs.toArray) (.agg ys.toArray)).run P w=.ok b w) (hb:op=.eql∧q=b∨op=.neq∧q=!b)
 (hc:chk dr ops i o ⟨fpO (AS.ev ⟨tm,hp,gn,us,L⟩) o,[],[],.c (.v (.bool q))⟩ H=true) (h:Walk P ops Q C dr (bK dr (i,o,⟨fpO (AS.ev ⟨tm,hp,gn,us,L⟩) o,[],[],.c (.v (.bool q))⟩) H) r ⟨upd tm t (.c (.v (.bool q))),hp,gn,us,L⟩):Walk P ops Q C dr H (i :: r) ⟨tm,hp,gn,us,L⟩:=by
 refine⟨o,_,hop,jh (y:=.bool q) hop hg rfl fun ev w he=>?_,fun n hn=>absurd hn List.not_mem_nil,ep hc,cQ ?_⟩
 ·have e:o.op.operands=#[xo,yo]:=by rw [ho];rfl
  exact zx3 ho hm hq ev w (he xo (by rw [e];simp) _ hx) (he yo (by rw [e];simp) _ hy) hb
 ·show Walk P ops Q C dr _ r (AS.put _ o.dst _)
  rw [hd,d5 (by exact d4 ht)];exact h
end
structure EntT (w:World)(St:Nat→Prop)(ins:List AV)(us:List Value)(p:Nat)(T:TypeId)(k n:Nat)(cs:List AC)(A:List Nat):Prop where
 args:VRL w St φ0 K0 ins us
 row:∃u vs fs,us[p]? = some u∧CRL w St φ0 K0 cs vs fs∧w.ownsRow 0 T k u n vs∧A=obl u++fs
 nod:A.Nodup
 st:∀b∈A,¬St b
 gl:GlobOk w∧∀b,isG b→b∉A
structure ExtT (w w':World)(us:List Value)(p:Nat)(T:TypeId)(k n:Nat)(A:List Nat)(res:AV)(back:Option (List AC))(u:Value)(St':Nat→Prop)(G B:List Nat):Prop where
 frm:Fc (·∈ A) (fun _ _=>False) w w'
 res:VRF w' St' φ0 K0 res u G
 bak:∀cs',back=some cs'→∃v vs fs,us[p]? = some v∧CRL w' St' φ0 K0 cs' vs fs∧w'.ownsRow 0 T k v n vs∧B=obl v++fs
 nod:(G++B).Nodup
 own:∀b∈G++B,b∈A∨w.heap.size≤b
def CtrT (P:Program)(f:FuncId)(ins:List AV)(p:Nat)(T:TypeId)(k n:Nat)(cs:List AC)(res:AV)(back:Option (List AC)):Prop :=
 yC P f=true∧∀(w:World) (St:Nat→Prop) (us:List Value) (A:List Nat),EntT w St ins us p T k n cs A →
  Calls P f us.toArray w fun e w'=>∃u St' G B,e=.returned u∧ExtT w w' us p T k n A res back u St' G B
theorem tQ {x y:Option Obj}(h:LikeBut (fun _=>False) x y):y=x:=by
 rcases h with h|⟨c,c',e,rfl,rfl,h1,h2⟩
 ·exact h
 ·have:c'=c:=Array.ext h1 fun i hi hi'=>by
   have:=h2 i (by simp)
   rw [Array.getElem?_eq_getElem hi,Array.getElem?_eq_getElem hi'] at this
   exact Option.some.inj this
  rw [this]
section
variable {C:Ctx}{φ:Nat→Lc}{F:Nat→List Nat}{St:Nat→Prop}{σ:AS}{a:Act}{w w':World}
theorem SimF.keepA (h:SimF C φ F St σ a w){A:List Nat}(hA:∀b∈A,Free C φ F St σ b)(hf:Fc (·∈ A) (fun _ _=>False) w w'):SimF C φ F (fun b=>St b∧b<w.heap.size) σ a w':=by
 have hb:∀b,b<w.heap.size→b∉A→w'.heap[b]? = w.heap[b]? := fun b hl hn=>tQ (hf.blk b hl hn)
 have hS:∀b,St b→b<w.heap.size→(St b∧b<w.heap.size)∧w'.heap[b]? = w.heap[b]? := fun b hs hl=>⟨⟨hs,hl⟩,hb b hl fun hm=>(hA b hm).2.1 hs⟩
 have hK:∀i,σ.Kn i→σ.Kn i∧φ i=φ i:=fun i hi=>⟨hi,rfl⟩
 refine⟨h.dfr,h.len,fun t=>VR.mono hS hf.size hK _ _ (h.tms t),fun i r hr=>⟨(h.row i r hr).1,?_⟩,h.nod,h.dis,h.bxF,h.bxd,fun i r b hr hb hs=>h.stF i r b hr hb hs.1,fun i r b lo hr e hs=>h.stB i r b lo hr e hs.1,?_,h.own,h.par,h.new,h.gnN,fun b hs=>h.stS b hs.1⟩
 ·have h1:=(h.row i r hr).2
  exact h1.mono hS hf.size hK (fun b hm=>hb b (h1.lt b hm) fun hA'=>((hA b hA').1 i r hr).1 hm) fun b lo us e _ hB=>hB.block (hb b hB.lt fun hA'=>((hA b hA').1 i r hr).2 lo e)
 ·refine⟨hf.os.trans h.frm.os,hf.tape.trans h.frm.tape,hf.output.trans h.frm.output,Nat.le_trans h.frm.size hf.size,fun b hl hM=>(h.frm.blk b hl hM).trans (.inl (hb b (Nat.lt_of_lt_of_le hl h.frm.size) fun hA'=>?_))⟩
  rcases (hA b hA').2.2 with h1|h1
  ·exact hM h1
  ·omega
theorem SimF.regrow (h:SimF C φ F St σ a w){i:Nat}(hk:σ.Kn i)(hn:σ.hp i=none){u:Value}(hφ:φ i=.slc u){r:Row}{fp:List Nat}(hr:RowOk w St φ σ.Kn r fp (.slc u))(hnd:fp.Nodup)(hfp:∀b∈fp,Free C φ F St σ b) :
 SimF C φ (upd F i fp) St { σ with hp:=upd σ.hp i (some r) } a w:=by
 have old:∀j s,upd σ.hp i (some r) j=some s→j≠i→σ.hp j=some s:=fun j s hj hji=>by rwa [ba _ _ hji] at hj
 have now:∀s,upd σ.hp i (some r) i=some s→r=s:=fun s hj=>by rw [aP] at hj;injection hj
 refine⟨h.dfr,h.len,h.tms,fun j s hj=>?_,fun j s hj=>?_,fun j k s t hj hk' hjk b hb=>?_,fun j k s t b lo hj hk' e=>?_,fun j k s t b lo lo' hj hk' hjk e e'=>?_,fun j s b hj hb=>?_,fun j s b lo hj e=>?_,h.frm,fun j s b hj hb=>?_,fun j hj=>⟨(h.par j hj).1,fun s hs=>?_⟩,fun j s b lo hj e hN=>?_,h.gnN,h.stS⟩
 ·by_cases hji:j=i
  ·subst hji
   obtain rfl:=now s hj
   refine⟨hk,?_⟩
   rw [hφ,aP];exact hr
  ·simp only [ba _ _ hji];exact h.row j s (old j s hj hji)
 ·by_cases hji:j=i
  ·subst hji;simp only [aP];exact hnd
  ·simp only [ba _ _ hji];exact h.nod j s (old j s hj hji)
 ·by_cases hji:j=i
  ·subst hji
   have hki:k≠j:=Ne.symm hjk
   simp only [aP] at hb;simp only [ba _ _ hki]
   exact ((hfp b hb).1 k t (old k t hk' hki)).1
  ·simp only [ba _ _ hji] at hb
   by_cases hki:k=i
   ·subst hki
    simp only [aP]
    exact fun hb'=>((hfp b hb').1 j s (old j s hj hji)).1 hb
   ·simp only [ba _ _ hki]
    exact h.dis j k s t (old j s hj hji) (old k t hk' hki) hjk b hb
 ·have hji:j≠i:=by rintro rfl;rw [hφ] at e;cases e
  by_cases hki:k=i
  ·subst hki
   simp only [aP]
   exact fun hb'=>((hfp b hb').1 j s (old j s hj hji)).2 lo e
  ·simp only [ba _ _ hki]
   exact h.bxF j k s t b lo (old j s hj hji) (old k t hk' hki) e
 ·have hji:j≠i:=by rintro rfl;rw [hφ] at e;cases e
  have hki:k≠i:=by rintro rfl;rw [hφ] at e';cases e'
  exact h.bxd j k s t b lo lo' (old j s hj hji) (old k t hk' hki) hjk e e'
 ·by_cases hji:j=i
  ·subst hji;simp only [aP] at hb;exact (hfp b hb).2.1
  ·simp only [ba _ _ hji] at hb;exact h.stF j s b (old j s hj hji) hb
 ·have hji:j≠i:=by rintro rfl;rw [hφ] at e;cases e
  exact h.stB j s b lo (old j s hj hji) e
 ·by_cases hji:j=i
  ·subst hji;simp only [aP] at hb;exact (hfp b hb).2.2
  ·simp only [ba _ _ hji] at hb;exact h.own j s b (old j s hj hji) hb
 ·have hji:j≠i:=by
   rintro rfl
   have:=(h.par j hj).1
   rw [hφ] at this;cases this
  exact (h.par j hj).2 s (old j s hs hji)
 ·have hji:j≠i:=by rintro rfl;rw [hφ] at e;cases e
  exact h.new j s b lo (old j s hj hji) e hN
end
def fO (R:List Nat)(j:Nat)(T:TypeId)(k n id:Nat)(res:AV)(back:Option (List AC)):Inf :=
 ⟨j :: R,(j,back.map fun cs=>⟨T,k,n,false,cs⟩) :: (opV id res).2.map (fun p=>(p.1,some p.2)),(opV id res).2.map (·.1),(opV id res).1⟩
section
variable {P:Program}{ops:Array Oper}{Q:Exit→Act→World→Prop}{C:Ctx}{σ:AS}{o:Oper}{i:Nat}
theorem vV {c:Call}(hop:ops[i]? = some o)(hoc:o.op=.call c){fv:Operand}(hcal:c.callee=.value fv){f:FuncId}{caps:List AC}(hfv:σ.ev fv=.c (.fn f caps))(hg:gw ops σ.tm o=some true)
 {p j n k:Nat} {T:TypeId} {cs:List AC} {res:AV} {back:Option (List AC)} {id:Nat} (hp:(bG σ c caps)[p]? = some (.c (.sl j n))) (hr:σ.hp j=some ⟨T,k,n,false,cs⟩) (hcl:bu cs=true)
 (hm:eh res=true) (hmb:∀cs',back=some cs'→dH cs'=true) (hctr:CtrT P f ((bG σ c caps).map (cvV (upd σ.hp j none) [])) p T k n cs res back) (hf:∀q∈(opV id res).2,σ.gn≤q.1) :
 Snd P ops Q C i o σ (fO (lT σ c caps) j T k n id res back):=by
 intro τ a w ha hs K hK
 obtain⟨φ,F,St,hs⟩:=hs
 have hev:=ha.ev
 rw [hoc] at hev
 have hargs:∀x∈c.args.toList,τ.ev x=σ.ev x:=fun x hx=>hev x (by simp only [Op.operands,Call.operands];exact Array.mem_append.2 (.inr (by simpa using hx)))
 have hfe:τ.ev fv=.c (.fn f caps):=by rw [hev fv (by simp [Op.operands,Call.operands,hcal]),hfv]
 have eargs:bG τ c caps=bG σ c caps:=by unfold bG;rw [vz hargs]
 have eR:∀i∈lT σ c caps,τ.hp i=σ.hp i:=fun i hi=>ha.hp i (by simp [fO,hi])
 have ej:τ.hp j=some ⟨T,k,n,false,cs⟩:=by rw [ha.hp j (by simp [fO])];exact hr
 have hd:=hs.drop j
 have ecv:(bG σ c caps).map (cvV (upd τ.hp j none) [])=(bG σ c caps).map (cvV (upd σ.hp j none) []):=List.map_congr_left fun x hx=>vH x fun i hi=>by
  by_cases e:i=j
  ·subst e;simp only [aP]
  ·rw [ba _ _ e,ba _ _ e];exact eR i (List.mem_flatMap.2 ⟨x,hx,hi⟩)
 have hfn:=hs.ev fv
 rw [hfe] at hfn
 simp only [VR,CR] at hfn
 obtain⟨_,us,hfu,hcaps⟩:=hfn
 have hin:VRL w St φ τ.Kn (bG σ c caps) (c.args.toList.map a.eval++us):=by
  rw [←eargs];exact (evs hs _).app (qz hcaps)
 have hent:=hd.ent (D:=[]) (pars:=[]) rfl (R:=lT σ c caps) (fun _ _=>List.not_mem_nil) hin fun x hx i hi=>List.mem_flatMap.2 ⟨x,hx,hi⟩
 rw [ecv] at hent
 obtain⟨u0,hu0,hv0⟩:=hin.at_ hp
 simp only [VR,CR] at hv0
 obtain⟨_,hkj,hφj,-⟩:=hv0
 have hrow:=(hs.row j _ ej).2
 rw [hφj] at hrow
 obtain⟨_,vs,fs,g1,g2,g3⟩:=hrow
 have hfree:∀b∈F j,Free C φ F St { τ with hp:=upd τ.hp j none } b:=fun b hb=>hs.free ej hb
 have hltF:∀b∈F j,b<w.heap.size:=(hs.row j _ ej).2.lt
 have hT:EntT w (stC St { τ with hp:=upd τ.hp j none } F (lT σ c caps)) ((bG σ c caps).map (cvV (upd σ.hp j none) [])) (c.args.toList.map a.eval++us) p T k n cs (F j):=by
  refine⟨?_,⟨u0,vs,fs,hu0,CRL.clo_ hcl (g1.mono (fun b hb _=>⟨.inl hb,rfl⟩) (nlr _) (fun i hi=>⟨hi,rfl⟩) (fun _ _=>rfl)),g2,g3⟩,hs.nod j _ ej,fun b hb hst=>?_,hs.gl,fun b hg hb=>(hs.own j _ b ej hb).elim (hs.gnN.2.2 b hg).1 fun h1=>(by have:=Gl.lt hs.gnN.2.1 hg;omega)⟩
  ·exact VRL.mono (fun b hb _=>⟨hb,rfl⟩) (nlr _) (fun i hi=>absurd hi (Nat.not_lt_zero i)) _ _ hent.args
  ·rcases hst with h1|⟨z,hz,s,hzs,hbz⟩
   ·exact hs.stF j _ b ej hb h1
   ·exact ((hfree b hb).1 z s hzs).1 hbz
 have hcall:=hctr.2 w _ _ _ hT
 unfold wpOp
 rw [hop]
 have hw:=nT hs (b:=true) (by rw [ha.gw];exact hg)
 simp only [hw,if_true]
 refine .inl ?_
 unfold Oper.wp
 have hrun:(execOp a.eval o).run P w=.ok (.enter f (c.args.toList.map a.eval++us).toArray) w:=by
  have e:(#[]++c.args.map a.eval++us.toArray:Array Value)=(c.args.toList.map a.eval++us).toArray:=by
   apply Array.ext';simp
  have h1:(resolve a.eval c o.type).run P w=.ok { target:=.fn (.func f) us.toArray,args:=#[]++c.args.map a.eval } w:=by
   unfold resolve;rw [hcal];simp only [hfu,Deferred.ofValue,Sem.run_pure]
  have h2:execOp a.eval o=(do let d ←resolve a.eval c o.type;invoke d.target d.args):=by unfold execOp;rw [hoc]
  rw [h2,Sem.run_bind,h1]
  simp only [Result.andThen_ok,invoke]
  rw [e]
  exact gj hctr.1 _ _
 rw [hrun,Oper.upon_enter]
 refine hcall.mono ?_
 rintro e w' ⟨u,St',G,B,rfl,hx⟩
 have k1:=hd.keepA hfree hx.frm
 have ltF:∀i s b,upd τ.hp j none i=some s→b∈F i→b<w.heap.size:=fun i s b hi hb=>(hd.row i s hi).2.lt b hb
 have ltB:∀i s b lo,upd τ.hp j none i=some s→φ i=.box b lo→b<w.heap.size:=fun i s b lo hi e=>by
  have h1:=(hd.row i s hi).2
  rw [e] at h1
  obtain⟨_,us,_,h2⟩:=h1
  exact h2.lt
 have hfr:∀b∈G++B,Free C φ F (fun b=>St b∧b<w.heap.size) { τ with hp:=upd τ.hp j none } b:=fun b hb=>by
  rcases hx.own b hb with h1|h1
  ·exact⟨(hfree b h1).1,fun h=>(hfree b h1).2.1 h.1,(hfree b h1).2.2⟩
  ·refine⟨fun i s hi=>⟨fun hm=>?_,fun lo e=>?_⟩,fun h=>by have:=h.2;omega,.inr (Nat.le_trans hs.frm.size h1)⟩
   ·have:=ltF i s b hi hm;omega
   ·have:=ltB i s b lo hi e;omega
 have hnd:=List.nodup_append.1 hx.nod
 obtain⟨φ4,F4,St4,o1,o2⟩:=vD k1 (VRF.rofr_ hm hx.res) hnd.1 (fun b hb=>hfr b (List.mem_append_left _ hb)) (id:=id) (fun q hq=>⟨by show τ.gn≤_;rw [ha.gn];exact hf q hq,by
  show q.1∉τ.us
  exact ha.us q.1 (by simp only [fO,List.mem_map];exact⟨q,hq,rfl⟩)⟩)
 obtain⟨e1,e2,e3,e4⟩:=nU (opV id res).2 { τ with hp:=upd τ.hp j none }
 have hjn:∀q∈(opV id res).2.map (fun q=>(q.1,some q.2)),q.1≠j:=by
  intro q hq e
  simp only [List.mem_map] at hq
  obtain⟨q',hq',rfl⟩:=hq
  have h1:σ.gn≤q'.1:=hf q' hq'
  have h2:q'.1∉τ.us:=ha.us q'.1 (by simp only [fO,List.mem_map];exact⟨q',hq',rfl⟩)
  rcases hkj with h|h
  ·rw [ha.gn] at h;omega
  ·exact h2 (e▸h)
 have hjh:(fo { τ with hp:=upd τ.hp j none } (opV id res).2).hp j=none:=by
  rw [e4,fm hjn];exact aP _ _ _
 have fin:∃F5,SimF C φ4 F5 St4 { fo { τ with hp:=upd τ.hp j none } (opV id res).2 with hp:=upd (fo { τ with hp:=upd τ.hp j none } (opV id res).2).hp j (back.map fun cs=>⟨T,k,n,false,cs⟩) } a w':=by
  cases hbk:back with
  | none =>
   refine⟨F4,?_⟩
   have:upd (fo { τ with hp:=upd τ.hp j none } (opV id res).2).hp j (Option.map (fun cs=>(⟨T,k,n,false,cs⟩:Row)) none)=(fo { τ with hp:=upd τ.hp j none } (opV id res).2).hp:=by
    funext i
    by_cases e:i=j
    ·subst e;rw [aP,hjh];rfl
    ·rw [ba _ _ e]
   rw [this];exact o1.sim
  | some cs' =>
   obtain⟨v,vs',fs',q1,q2,q3,q4⟩:=hx.bak cs' hbk
   rw [hu0] at q1;injection q1 with q1;subst q1
   have hkj':({ τ with hp:=upd τ.hp j none }:AS).Kn j:=hkj
   refine⟨_,o1.sim.regrow (o1.hK j hkj').1 hjh (u:=u0) (by rw [(o1.hK j hkj').2];exact hφj) (fp:=B) ⟨rfl,vs',fs',?_,q3,q4⟩ hnd.2.1 fun b hb=>o1.free b (hfr b (List.mem_append_right _ hb)) fun hG=>hnd.2.2 b hG b hb rfl⟩
   exact CRL.up _ _ o1.hS (q2.rofr_ (hmb cs' hbk))
 obtain⟨F5,h5⟩:=fin
 refine hK _ _ (Sim.aeq ⟨φ4,F5,St4,h5.put o.dst (x:=(opV id res).1) (u:=u) (VR.mono (fun b hb _=>⟨hb,rfl⟩) (nlr _) (fun i hi=>⟨hi,rfl⟩) _ _ o2)⟩ ?_)
 refine⟨?_,?_,?_,fun q=>?_,?_⟩
 ·rw [ib,vp];simp only [e1,e3];rfl
 ·rw [ia,(dm _ _ _).1,e4]
  simp only [fO,fZ]
  funext q
  by_cases e:q=j
  ·subst e
   rw [aP,fm hjn,aP]
  ·rw [ba _ _ e]
   exact jw (.inl (by rw [ba _ _ e,ba _ _ e]))
 ·rw [jx,(dm _ _ _).2.1];exact e2
 ·rw [jy,(dm _ _ _).2.2.1]
  simp only [lh,fO,List.mem_append,List.mem_map]
 ·rw [lP,(dm _ _ _).2.2.2];exact e3
end
section
variable {P:Program}{ops:Array Oper}{Q:Exit→Act→World→Prop}{C:Ctx}{H:List (Nat×Oper×Inf)}{i:Nat}{r:List Nat}{o:Oper}{dr:Bool}
variable {tm:Nat→AV}{hp:Nat→Option Row}{gn L:Nat}{us:List Nat}
theorem zy3 (id p:Nat){t j n k:Nat}{T:TypeId}{cs:List AC}{c:Call}{fv:Operand}{f:FuncId}{caps:List AC}{args ins:List AV}{res:AV}{back:Option (List AC)}(hctr:CtrT P f ins p T k n cs res back)(hop:ops[i]? = some o)(hoc:o.op=.call c)(hcal:c.callee=.value fv)(hd:o.dst=some t)(ht:Nat.blt t L=true)(hg:gw ops tm o=some true)
 (hfv:AS.ev ⟨tm,hp,gn,us,L⟩ fv=.c (.fn f caps)) (hargs:bG ⟨tm,hp,gn,us,L⟩ c caps=args) (hpp:args[p]? = some (.c (.sl j n))) (hr:hp j=some ⟨T,k,n,false,cs⟩) (hcl:bu cs=true) (hcv:args.map (cvV (upd hp j none) [])=ins) (hm:eh res=true) (hmb:∀cs',back=some cs'→dH cs'=true)
 {nv:AV} {nr:List (Nat×Row)} (hopn:opV id res=(nv,nr)) (hf:(nr.all fun p=>Nat.ble gn p.1&&!us.contains p.1)=true)
 (hc:chk dr ops i o ⟨j :: args.flatMap snV,(j,back.map fun cs=>⟨T,k,n,false,cs⟩) :: nr.map (fun p=>(p.1,some p.2)),nr.map (·.1),nv⟩ H=true)
 (h:Walk P ops Q C dr (bK dr (i,o,⟨j :: args.flatMap snV,(j,back.map fun cs=>⟨T,k,n,false,cs⟩) :: nr.map (fun p=>(p.1,some p.2)),nr.map (·.1),nv⟩) H) r ⟨upd tm t nv,fZ (upd hp j (back.map fun cs=>⟨T,k,n,false,cs⟩)) (nr.map (fun p=>(p.1,some p.2))),gn,nr.map (·.1)++us,L⟩):Walk P ops Q C dr H (i :: r) ⟨tm,hp,gn,us,L⟩:=by
 subst hargs
 have e:fO (lT ⟨tm,hp,gn,us,L⟩ c caps) j T k n id res back=⟨j :: (bG ⟨tm,hp,gn,us,L⟩ c caps).flatMap snV,(j,back.map fun cs=>⟨T,k,n,false,cs⟩) :: nr.map (fun p=>(p.1,some p.2)),nr.map (·.1),nv⟩:=by
  unfold fO lT;rw [hopn]
 have hf':∀q∈nr,gn≤q.1∧q.1∉us:=fun q hq=>by have:=List.all_eq_true.1 hf q hq;simpa [Nat.ble_eq] using this
 refine⟨o,_,hop,vV (σ:=⟨tm,hp,gn,us,L⟩) (p:=p) hop hoc hcal hfv hg hpp hr hcl hm hmb (by rw [hcv];exact hctr) (id:=id) (fun q hq=>(hf' q (by rw [hopn] at hq;exact hq)).1),fun q hq=>?_,ep (by rw [e];exact hc),cQ ?_⟩
 ·rw [e] at hq
  simp only [List.mem_map] at hq
  obtain⟨q',hq',rfl⟩:=hq
  exact (hf' q' hq').2
 ·rw [e]
  have e2:AS.app ⟨tm,hp,gn,us,L⟩ ⟨j :: (bG ⟨tm,hp,gn,us,L⟩ c caps).flatMap snV,(j,back.map fun cs=>⟨T,k,n,false,cs⟩) :: nr.map (fun p=>(p.1,some p.2)),nr.map (·.1),nv⟩ o=⟨upd tm t nv,fZ (upd hp j (back.map fun cs=>⟨T,k,n,false,cs⟩)) (nr.map (fun p=>(p.1,some p.2))),gn,nr.map (·.1)++us,L⟩:=by
   unfold AS.app
   rw [hd,d5 (d4 ht)]
   rfl
  rw [e2]
  exact h
end
theorem byc {p:Prop}(h:p:=by first|rfl|(simp [oS,bu,clo,bk,aM,bl,a8,aZ];done)|fail):p:=h
def σT (ins:List AV)(p:Nat)(T:TypeId)(k n:Nat)(cs:List AC)(nt:Nat):AS :=
 { tm:=upd (fun t=>(ins[t]?).getD (.c .un)) p (.c (.sl 0 n)),hp:=upd (fun _=>none) 0 (some ⟨T,k,n,false,cs⟩),gn:=0,us:=[0],L:=ins.length+(nt-ins.length) }
theorem zz3 {P:Program} {f:FuncId} {fn:Func} {c:Code} {ins:List AV} {p:Nat} {T:TypeId} {k n:Nat} {cs:List AC} {res:AV} (hf:P.funcs[f]? = some fn) (hb:fn.body=some c) (hn:(fn.name=="runtime.NumGoroutine")=false) (hp:Nat.blt p ins.length=true)
 (h:AWp P c (bodyQ P fn [] fun r c=>r=res∧c=[]) (σT ins p T k n cs fn.ntmps)):CtrT P f ins p T k n cs res none:=by
 refine⟨by unfold yC;rw [hf];simp [hn,hb],fun w St us A hE=>?_⟩
 have hE0:Ent w St φ0 (fun _=>[]) ins us []:=by
  refine⟨VRL.mono (fun b hb _=>⟨hb,rfl⟩) (nlr _) (fun i hi=>hi.elim) _ _ hE.args,fun i cs hi=>by simp at hi,fun i hi=>absurd hi (Nat.not_lt_zero i),fun i j hi=>absurd hi (Nat.not_lt_zero i),fun i j b lo hi=>absurd hi (Nat.not_lt_zero i),fun i j b lo lo' ci cj hi=>by simp at hi,fun i b hi=>absurd hi (Nat.not_lt_zero i),fun i b lo hi=>absurd hi (Nat.not_lt_zero i),hE.gl.1,fun b _=>⟨fun ⟨i,hi,_⟩=>absurd hi (Nat.not_lt_zero i),fun o ⟨i,lo,cs,hi,_⟩=>by simp at hi⟩⟩
 have h0:=hE0.sim fn.ntmps
 obtain⟨u,vs,fs,hu,g1,g2,rfl⟩:=hE.row
 have h1:SimF { w0:=w,N:=0,pl:=plOf φ0,M:=(·∈ obl u++fs),R:=fun _ _=>False,S0:=St } φ0 (fun _=>[]) St (σ0 ins [] fn.ntmps) { tmps:=us.toArray++Array.replicate (fn.ntmps-us.toArray.size) undef,defers:=[] } w :=
  ⟨h0.dfr,h0.len,h0.tms,h0.row,h0.nod,h0.dis,h0.bxF,h0.bxd,h0.stF,h0.stB,Fc.refl _ _ _,fun i r b hr=>by simp [σ0] at hr,fun i hi=>absurd hi (Nat.not_lt_zero i),fun i r b lo hr=>by simp [σ0] at hr,⟨nlr _,hE.gl.1,fun b hg=>⟨hE.gl.2 b hg,fun _ h=>h⟩⟩,fun b hb _=>.inl hb⟩
 obtain⟨φ,F,St1,h2,hv⟩:=h1.newSlice (id:=0) (nlr _) List.not_mem_nil (Stp.refl none w) (fun b hb=>by cases hb) (CRL.up _ _ (fun b hb _=>hb) g1) (fun b hb e=>by cases e) g2 hE.nod fun b hb=>.inr ⟨fun j s hj=>by simp [σ0] at hj,hE.st b hb,.inl hb⟩
 have hpl:p<ins.length:=d4 hp
 have hlen:=hE.args.len
 have h3:SimF { w0:=w,N:=0,pl:=plOf φ0,M:=(·∈ obl u++fs),R:=fun _ _=>False,S0:=St } φ F St1 (σT ins p T k n cs fn.ntmps) { tmps:=us.toArray++Array.replicate (fn.ntmps-us.toArray.size) undef,defers:=[] } w:=by
  refine⟨h2.dfr,h2.len,fun t=>?_,fun i r hr=>?_,fun i r hr=>?_,fun i j r s hr hs=>?_,fun i j r s b lo hr hs=>?_,fun i j r s b lo lo' hr hs=>?_,fun i r b hr=>?_,fun i r b lo hr=>?_,h2.frm,fun i r b hr=>?_,fun i hi=>absurd hi (Nat.not_lt_zero i),fun i r b lo hr=>?_,h2.gnN,h2.stS⟩
  ·rw [show (σT ins p T k n cs fn.ntmps).tm=upd (fun t=>(ins[t]?).getD (.c .un)) p (.c (.sl 0 n)) from rfl]
   by_cases e:t=p
   ·subst e
    rw [aP]
    have:(us.toArray++Array.replicate (fn.ntmps-us.toArray.size) undef).getD t undef=u:=by
     rw [Array.getD_eq_getD_getElem?,Array.getElem?_append_left (by simp [hlen,hpl])]
     simp [hu]
    rw [this];exact hv
   ·rw [ba _ _ e];exact h2.tms t
  all_goals
   have hx:∀i,(σT ins p T k n cs fn.ntmps).hp i=upd (σ0 ins [] fn.ntmps).hp 0 (some ⟨T,k,n,false,cs⟩) i:=fun i=>by
    rw [show (σT ins p T k n cs fn.ntmps).hp=upd (fun _=>none) 0 (some ⟨T,k,n,false,cs⟩) from rfl]
    by_cases e:i=0
    ·subst e;rw [aP,aP]
    ·rw [ba _ _ e,ba _ _ e];simp [σ0]
   first
    | (rw [hx] at hr hs;first|exact h2.dis i j r s hr hs|exact h2.bxF i j r s b lo hr hs|exact h2.bxd i j r s b lo lo' hr hs)
    | (rw [hx] at hr;first|exact h2.row i r hr|exact h2.nod i r hr|exact h2.stF i r b hr|exact h2.stB i r b lo hr|exact h2.own i r b hr|exact h2.new i r b lo hr)
 refine calls_of_wp hf hb (wp_mono (h _ _ _ ⟨φ,F,St1,h3⟩) ?_)
 rintro e a' w' ⟨σ',hq,φ',F',St',hsim⟩
 have key:retQ P fn [] (fun r c=>r=res∧c=[]) σ'→a'.defers=[]∧∃v,(results fn a'.tmps).run P w'=.ok v w'∧∃u' St' G B,Ending.returned v=.returned u'∧ExtT w w' us p T k n (obl u++fs) res none u' St' G B:=by
  rintro ⟨l,x,hp',rows,h1,h2,h3,h4,rfl,h5⟩
  obtain⟨ws,r1,r2⟩:=lN (P:=P) hsim _ _ h1
  obtain⟨v,r3,r4⟩:=lO r2
  obtain⟨G,c1,c2,c3,c4,c5,c6⟩:=vl hsim r4 h2
  refine⟨hsim.dfr,v,?_,v,St',G,[],rfl,c2.frm,c1,fun cs' hc=>(by cases hc),(by simpa using c3),fun b hb=>?_⟩
  ·have:(fun|ResultVar.tmp t=>pure (a'.tmps.getD t undef)|ResultVar.cell a t=>(do loadVar t (←asAddr (a'.tmps.getD a undef)):Sem Value))=jv a'.tmps:=by funext z;cases z<;>rfl
   have hres:results fn a'.tmps=(fn.results.mapM (jv a'.tmps) >>= fun vs=>pure (if h:vs.size=1 then vs[0] else .tuple vs)):=by rw [←this];rfl
   simp [hres,Array.mapM_eq_mapM_toList,r1,←r3]
  ·rw [List.append_nil] at hb;exact (c4 b hb).1.2.2
 cases e<;>first|exact hq.elim|exact key hq
section
variable {ops:Array Oper}{Q:Exit→Act→World→Prop}{C:Ctx}{H:List (Nat×Oper×Inf)}{i:Nat}{r:List Nat}{o:Oper}{dr:Bool}
variable {tm:Nat→AV}{hp:Nat→Option Row}{gn L:Nat}{us:List Nat}
theorem iq {t j n k:Nat}{T:TypeId}{cs:List AC}{c:Call}{fv:Operand}{f:FuncId}{caps:List AC}{args ins:List AV}{res:AV}{back:Option (List AC)}{nv:AV}{nr:List (Nat×Row)}(id p:Nat)(hctr:CtrT prog f ins p T k n cs res back)
 (h:Walk prog ops Q C dr (bK dr (i,o,⟨j :: args.flatMap snV,(j,back.map fun cs=>⟨T,k,n,false,cs⟩) :: nr.map (fun p=>(p.1,some p.2)),nr.map (·.1),nv⟩) H) r ⟨upd tm t nv,fZ (upd hp j (back.map fun cs=>⟨T,k,n,false,cs⟩)) (nr.map (fun p=>(p.1,some p.2))),gn,nr.map (·.1)++us,L⟩)
 (hop:ops[i]? = some o:=by exact rfl) (hoc:o.op=.call c:=by exact rfl) (hcal:c.callee=.value fv:=by exact rfl) (hd:o.dst=some t:=by exact rfl) (ht:Nat.blt t L=true:=by exact rfl) (hg:gw ops tm o=some true:=by exact rfl)
 (hfv:AS.ev ⟨tm,hp,gn,us,L⟩ fv=.c (.fn f caps):=by exact rfl) (hargs:bG ⟨tm,hp,gn,us,L⟩ c caps=args:=by exact rfl) (hpp:args[p]? = some (.c (.sl j n)):=by exact rfl) (hr:hp j=some ⟨T,k,n,false,cs⟩:=by exact rfl) (hcl:bu cs=true:=by first|rfl|(simp [oS,bu,clo,bk,aM,bl,a8,aZ];done)) (hcv:args.map (cvV (upd hp j none) [])=ins:=by (repeat' (first|rfl|exact cvm_nil|refine r8 ?_ ?_|refine cv_ag ?_|refine cv_c ?_|refine r9 ?_ ?_|(refine zw1 ?_;exact byc)|(refine cvC_rp ?_;exact byc)|refine cvC_fn ?_|(refine cvC_sl' rqf rqf rqf rqf ?_ ?_;(focus exact byc);(first|rfl|exact jz _))))) (hm:eh res=true:=by (first|rfl|exact cf _|(simp [eh,fj,dH,kU,cf,dB,dp];done))) (hmb:∀cs',back=some cs'→dH cs'=true:=by first|exact (fun _ h=>by cases h)|(rintro _ ⟨⟩;(first|rfl|exact cf _|(simp [eh,fj,dH,kU,cf,dB,dp];done))))
 (hopn:opV id res=(nv,nr):=by exact rfl) (hf:(nr.all fun p=>Nat.ble gn p.1&&!us.contains p.1)=true:=by exact rfl)
 (hc:chk dr ops i o ⟨j :: args.flatMap snV,(j,back.map fun cs=>⟨T,k,n,false,cs⟩) :: nr.map (fun p=>(p.1,some p.2)),nr.map (·.1),nv⟩ H=true:=by first|(with_reducible exact bv)|kernel_rfl):Walk prog ops Q C dr H (i :: r) ⟨tm,hp,gn,us,L⟩ :=
 zy3 id p hctr hop hoc hcal hd ht hg hfv hargs hpp hr hcl hcv hm hmb hopn hf hc h
end
end Go.Proofs.YtomolhbkdhjofaaGreatDoor
