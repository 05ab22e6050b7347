/- What data say, handed to a function of data with places. -/
import Derived.Laws.StructEq
import Derived.Laws.Concat
import Derived.Test.YtnjfnhoipnbpeaaGreatDoorTxtPD
namespace Go.Proofs.YtnjfnhoipnbpeaaGreatDoor
open Go.RowKit
noncomputable def liftS {α β:Type}(R:α→Prop)(f:α→β)(z:β):β:=open Classical in if h:∃a,R a then f h.choose else z
theorem liftS_to {α β:Type}{R:α→Prop}{f:α→β}{z:β}{a:α}(h:R a):∃a',R a'∧liftS R f z=f a':=by
 have h':∃a,R a:=⟨a,h⟩
 refine⟨h'.choose,h'.choose_spec,?_⟩
 unfold liftS
 rw [dif_pos h']
theorem avI_of_d {P:Program}{e e':E}{t:TypeId}(h:e.Ty P t)(h':e'.Ty P t)(hd:e.d=e'.d):avI e=avI e':=by
 have ha:=acE_of_d e e' t h h' hd
 cases e<;>cases e'<;>simp_all [avI,E.d,acE]
section
variable {P:Program}{tm:Nat→AV}{hp:Nat→Option Row}{gn L:Nat}{us:List Nat}
theorem g_nilT (id:Nat){t:Nat}(T:TypeId)(k:Nat)(ht:tm t=.c (.v (.slice none 0 0)))(hf:(Nat.ble gn id&&!us.contains id)=true) :
 Gh ⟨tm,hp,gn,us,L⟩ ⟨upd tm t (.c (.sl id 0)),upd hp id (some ⟨T,k,0,false,[]⟩),gn,id :: us,L⟩:=by
 simp only [Bool.and_eq_true,Nat.ble_eq,Bool.not_eq_true'] at hf
 rintro C a w ⟨φ,F,St,h⟩
 obtain⟨φ',F',St',h',hv⟩:=h.newSlice (id:=id) hf.1 (fun hm=>by have:=hf.2;simp at this;exact this hm) (Stp.refl none w) (fun b hb=>by cases hb) (CRL.nil) (fun b hb=>absurd hb List.not_mem_nil) (World.ownsRow_nil w 0 T k) (by simp [obl,Value.ownBlock]) (fun b hb=>by simp [obl,Value.ownBlock] at hb)
 refine⟨φ',F',St',h'.dfr,h'.len,fun t'=>?_,h'.row,h'.nod,h'.dis,h'.bxF,h'.bxd,h'.stF,h'.stB,h'.frm,h'.own,h'.par,h'.new,h'.gnN,h'.stS⟩
 show VR w St' φ' _ (upd tm t _ t') _
 by_cases e:t'=t
 ·subst e
  rw [zb2]
  have:=h.tms t'
  change VR w St φ _ (tm t') _ at this
  rw [ht] at this
  simp only [VR,CR] at this
  rw [this.1];exact hv
 ·rw [zi2 _ _ e];exact h'.tms t'
end
section
variable {P:Program}{ops:Array Oper}{Q:Exit→Act→World→Prop}{C:Ctx}{H H':List (Nat×Oper×Inf)}{i:Nat}{r:List Nat}{o:Oper}{dr:Bool}
variable {tm:Nat→AV}{hp:Nat→Option Row}{gn L:Nat}{us:List Nat}{x:AV}
theorem zj2 {I:Inf}:chk false ops i o I H=true:=rfl
theorem w_eq {t:Nat}{y:AV}(hop:ops[i]? = some o)(hd:o.dst=some t)(ht:Nat.blt t L=true)(hg:gw ops tm o=some true)(he:EffD P o (AS.ev ⟨tm,hp,gn,us,L⟩) hp 0=some (x,.nop))(hy:x=y)
 (hc:chk dr ops i o ⟨fpO (AS.ev ⟨tm,hp,gn,us,L⟩) o,[],[],y⟩ H=true) (h:Walk P ops Q C dr (keepH dr (i,o,⟨fpO (AS.ev ⟨tm,hp,gn,us,L⟩) o,[],[],y⟩) H) r ⟨upd tm t y,hp,gn,us,L⟩):Walk P ops Q C dr H (i :: r) ⟨tm,hp,gn,us,L⟩:=by
 subst hy
 exact zd21 0 hop hd ht hg he hc h
theorem w_bool {t:Nat}{b:Bool}(hop:ops[i]? = some o)(hd:o.dst=some t)(ht:Nat.blt t L=true)(hg:gw ops tm o=some true)(he:EffD P o (AS.ev ⟨tm,hp,gn,us,L⟩) hp 0=some (.c (.v (.bool b)),.nop))
 (hc1:chk dr ops i o ⟨fpO (AS.ev ⟨tm,hp,gn,us,L⟩) o,[],[],.c (.v (.bool true))⟩ H=true) (hc2:chk dr ops i o ⟨fpO (AS.ev ⟨tm,hp,gn,us,L⟩) o,[],[],.c (.v (.bool false))⟩ H=true)
 (h1:b=true→Walk P ops Q C dr (keepH dr (i,o,⟨fpO (AS.ev ⟨tm,hp,gn,us,L⟩) o,[],[],.c (.v (.bool true))⟩) H) r ⟨upd tm t (.c (.v (.bool true))),hp,gn,us,L⟩)
 (h2:b=false→Walk P ops Q C dr (keepH dr (i,o,⟨fpO (AS.ev ⟨tm,hp,gn,us,L⟩) o,[],[],.c (.v (.bool false))⟩) H) r ⟨upd tm t (.c (.v (.bool false))),hp,gn,us,L⟩):Walk P ops Q C dr H (i :: r) ⟨tm,hp,gn,us,L⟩:=by
 cases b with
 | true=>exact zd21 0 hop hd ht hg he hc1 (h1 rfl)
 | false=>exact zd21 0 hop hd ht hg he hc2 (h2 rfl)
end
theorem cvC_sl' {hp:Nat→Option Row}{D:List Nat}{i n k:Nat}{rw:Row}{l:List AC}(hr:hp i=some rw)(hb:rw.box=false)(hn:rw.n=n)(hk:rw.k=k)(hc:cloL rw.cs=true)(hl:toRoL rw.cs=l):cvC hp D (.sl i n)=.ro n k l:=by
 subst hk
 exact cvC_sl hr hb hn hc hl
theorem byc {p:Prop}(h:p:=by first|rfl|(simp [cloV,cloL,clo,zc1,zk,zd1,zo,zt];done)|fail):p:=h
set_option maxRecDepth 100000
section
variable {ops:Array Oper}{Q:Exit→Act→World→Prop}{C:Ctx}{H H':List (Nat×Oper×Inf)}{i:Nat}{r:List Nat}{o:Oper}{dr:Bool}
variable {tm:Nat→AV}{hp:Nat→Option Row}{gn L:Nat}{us:List Nat}{x:AV}
theorem zm2 {t:Nat}  (h:Walk Tryz.prog ops Q C dr (keepH dr (i,o,⟨fpO (AS.ev ⟨tm,hp,gn,us,L⟩) o,[],[],x⟩) H) r ⟨upd tm t x,hp,gn,us,L⟩)(hop:ops[i]? = some o:=by exact rfl)(hd:o.dst=some t:=by exact rfl)(ht:Nat.blt t L=true:=by exact rfl)(hg:gw ops tm o=some true:=by exact rfl)(he:EffD Tryz.prog o (AS.ev ⟨tm,hp,gn,us,L⟩) hp 0=some (x,.nop):=by rfl)(hc:chk dr ops i o ⟨fpO (AS.ev ⟨tm,hp,gn,us,L⟩) o,[],[],x⟩ H=true:=by first|(with_reducible exact zj2)|kernel_rfl):Walk Tryz.prog ops Q C dr H (i :: r) ⟨tm,hp,gn,us,L⟩ :=
 zd21 0 hop hd ht hg he hc h
theorem x_bs {t n k:Nat}{T e:TypeId}{parts:Array (Nat×Operand)}{zs:List AC}  (h:Walk Tryz.prog ops Q C dr (keepH dr (i,o,⟨fpO (AS.ev ⟨tm,hp,gn,us,L⟩) o,[(t,some ⟨e,k,n,false,zs⟩)],[t],.c (.sl t n)⟩) H) r ⟨upd tm t (.c (.sl t n)),upd hp t (some ⟨e,k,n,false,zs⟩),gn,t :: us,L⟩)(hop:ops[i]? = some o:=by exact rfl)(ho:o.op=.buildSlice T n parts:=by exact rfl)(hd:o.dst=some t:=by exact rfl)(ht:Nat.blt t L=true:=by exact rfl)(hg:gw ops tm o=some true:=by exact rfl)(hf:(Nat.ble gn t&&!us.contains t)=true:=by exact rfl)(hT:sliT Tryz.prog T=some (e,k):=by first|exact (rfl:_=some ((47:Nat),(6:Nat)))|exact (rfl:_=some ((41:Nat),(3:Nat)))|exact (rfl:_=some ((9:Nat),(1:Nat)))|exact (rfl:_=some ((71:Nat),(6:Nat)))|exact (rfl:_=some ((45:Nat),(4:Nat)))|exact (rfl:_=some ((5:Nat),(1:Nat)))|exact (rfl:_=some ((140:Nat),(3:Nat)))|exact (rfl:_=some ((3:Nat),(1:Nat))))(hz:catP k 0 (parts.toList.map fun p=>(p.1,AS.ev ⟨tm,hp,gn,us,L⟩ p.2))=some zs:=by rfl)(hn:n=parts.toList.length:=by rfl)(hb:(Nat.ble (n*k) 16777216&&Nat.ble n 16777216)=true:=by rfl)(hc:chk dr ops i o ⟨fpO (AS.ev ⟨tm,hp,gn,us,L⟩) o,[(t,some ⟨e,k,n,false,zs⟩)],[t],.c (.sl t n)⟩ H=true:=by first|(with_reducible exact zj2)|kernel_rfl):Walk Tryz.prog ops Q C dr H (i :: r) ⟨tm,hp,gn,us,L⟩ :=
 v_bs hop ho hd ht hg hf hT hz hn hb hc h
theorem x_gr {t:Nat}{rw:Row}  (h:Walk Tryz.prog ops Q C dr (keepH dr (i,o,⟨fpO (AS.ev ⟨tm,hp,gn,us,L⟩) o,[(t,some rw)],[t],x⟩) H) r ⟨upd tm t x,upd hp t (some rw),gn,t :: us,L⟩)(hop:ops[i]? = some o:=by exact rfl)(hd:o.dst=some t:=by exact rfl)(ht:Nat.blt t L=true:=by exact rfl)(hg:gw ops tm o=some true:=by exact rfl)(hf:(Nat.ble gn t&&!us.contains t)=true:=by exact rfl)(he:EffD Tryz.prog o (AS.ev ⟨tm,hp,gn,us,L⟩) hp t=some (x,.gr t rw):=by rfl)(hc:chk dr ops i o ⟨fpO (AS.ev ⟨tm,hp,gn,us,L⟩) o,[(t,some rw)],[t],x⟩ H=true:=by first|(with_reducible exact zj2)|kernel_rfl):Walk Tryz.prog ops Q C dr H (i :: r) ⟨tm,hp,gn,us,L⟩ :=
 v_gr hop hd ht hg hf he hc h
theorem x_st {j:Nat}{rw:Row}  (h:Walk Tryz.prog ops Q C dr (keepH dr (i,o,⟨fpO (AS.ev ⟨tm,hp,gn,us,L⟩) o,[(j,some rw)],[],x⟩) H) r ⟨tm,upd hp j (some rw),gn,us,L⟩)(hop:ops[i]? = some o:=by exact rfl)(hd:o.dst=none:=by exact rfl)(hg:gw ops tm o=some true:=by exact rfl)(he:EffD Tryz.prog o (AS.ev ⟨tm,hp,gn,us,L⟩) hp 0=some (x,.st j rw):=by rfl)(hc:chk dr ops i o ⟨fpO (AS.ev ⟨tm,hp,gn,us,L⟩) o,[(j,some rw)],[],x⟩ H=true:=by first|(with_reducible exact zj2)|kernel_rfl):Walk Tryz.prog ops Q C dr H (i :: r) ⟨tm,hp,gn,us,L⟩ :=
 w_st hop hd hg he hc h
theorem x_mv {t:Nat}{j:Nat}{rw:Row}  (h:Walk Tryz.prog ops Q C dr (keepH dr (i,o,⟨fpO (AS.ev ⟨tm,hp,gn,us,L⟩) o,[(j,none),(t,some rw)],[t],x⟩) H) r ⟨upd tm t x,upd (upd hp j none) t (some rw),gn,t :: us,L⟩)(hop:ops[i]? = some o:=by exact rfl)(hd:o.dst=some t:=by exact rfl)(ht:Nat.blt t L=true:=by exact rfl)(hg:gw ops tm o=some true:=by exact rfl)(hf:(Nat.ble gn t&&!us.contains t)=true:=by exact rfl)(he:EffD Tryz.prog o (AS.ev ⟨tm,hp,gn,us,L⟩) hp t=some (x,.mv j t rw):=by rfl)(hc:chk dr ops i o ⟨fpO (AS.ev ⟨tm,hp,gn,us,L⟩) o,[(j,none),(t,some rw)],[t],x⟩ H=true:=by first|(with_reducible exact zj2)|kernel_rfl):Walk Tryz.prog ops Q C dr H (i :: r) ⟨tm,hp,gn,us,L⟩ :=
 v_mv hop hd ht hg hf he hc h
theorem x_sk {t:Nat}  (h:Walk Tryz.prog ops Q C dr (keepH dr (i,o,infSkip) H) r ⟨upd tm t (.tu []),hp,gn,us,L⟩)(hop:ops[i]? = some o:=by exact rfl)(hd:o.dst=some t:=by exact rfl)(ht:Nat.blt t L=true:=by exact rfl)(hg:gw ops tm o=some false:=by exact rfl)(hc:chk dr ops i o infSkip H=true:=by first|(with_reducible exact zj2)|kernel_rfl):Walk Tryz.prog ops Q C dr H (i :: r) ⟨tm,hp,gn,us,L⟩ :=
 w_skip hop hd ht hg hc h
theorem zd3   (h:Walk Tryz.prog ops Q C dr (keepH dr (i,o,infSkip) H) r ⟨tm,hp,gn,us,L⟩)(hop:ops[i]? = some o:=by exact rfl)(hd:o.dst=none:=by exact rfl)(hg:gw ops tm o=some false:=by exact rfl)(hc:chk dr ops i o infSkip H=true:=by first|(with_reducible exact zj2)|kernel_rfl):Walk Tryz.prog ops Q C dr H (i :: r) ⟨tm,hp,gn,us,L⟩ :=
 w_skip0 hop hd hg hc h
theorem x_ix {t n k j:Nat}{l:List E}{e:E}{kd:IntKind}{z:Int}{T:TypeId}{xo io:Operand}  (h:Walk Tryz.prog ops Q C dr (keepH dr (i,o,⟨fpO (AS.ev ⟨tm,hp,gn,us,L⟩) o,[],[],.c (.rp (acE e) 0)⟩) H) r ⟨upd tm t (.c (.rp (acE e) 0)),hp,gn,us,L⟩)(hop:ops[i]? = some o:=by exact rfl)(ho:o.op=.indexAddr T xo io:=by exact rfl)(hd:o.dst=some t:=by exact rfl)(ht:Nat.blt t L=true:=by exact rfl)(hg:gw ops tm o=some true:=by exact rfl)(hx:AS.ev ⟨tm,hp,gn,us,L⟩ xo=.c (.ro n k (acL l)):=by exact rfl)(hi:AS.ev ⟨tm,hp,gn,us,L⟩ io=.c (.v (.int kd z)):=by exact rfl)(hT:eltB Tryz.prog T k=true:=by exact rfl)(hz:z=(j:Int):=by first|rfl|omega|assumption)(hn:n=l.length:=by exact rfl)(hk:∀e∈l,e.enc.length=k:=by assumption)(he:l[j]? = some e:=by assumption)(hc:chk dr ops i o ⟨fpO (AS.ev ⟨tm,hp,gn,us,L⟩) o,[],[],.c (.rp (acE e) 0)⟩ H=true:=by first|(with_reducible exact zj2)|kernel_rfl):Walk Tryz.prog ops Q C dr H (i :: r) ⟨tm,hp,gn,us,L⟩ :=
 w_idx hop ho hd ht hg hx hi hT hz hn hk he hc h
theorem za3 {t n k j s:Nat}{rw:Row}{kd:IntKind}{z:Int}{T:TypeId}{xo io:Operand}  (h:Walk Tryz.prog ops Q C dr (keepH dr (i,o,⟨fpO (AS.ev ⟨tm,hp,gn,us,L⟩) o,[],[],.c (.pt s (j*k))⟩) H) r ⟨upd tm t (.c (.pt s (j*k))),hp,gn,us,L⟩)(hop:ops[i]? = some o:=by exact rfl)(ho:o.op=.indexAddr T xo io:=by exact rfl)(hd:o.dst=some t:=by exact rfl)(ht:Nat.blt t L=true:=by exact rfl)(hg:gw ops tm o=some true:=by exact rfl)(hx:AS.ev ⟨tm,hp,gn,us,L⟩ xo=.c (.sl s n):=by exact rfl)(hi:AS.ev ⟨tm,hp,gn,us,L⟩ io=.c (.v (.int kd z)):=by exact rfl)(hr:hp s=some rw:=by exact rfl)(hb:rw.box=false:=by exact rfl)(hn:rw.n=n:=by exact rfl)(hk:rw.k=k:=by exact rfl)(hT:eltB Tryz.prog T k=true:=by rfl)(hz:z=(j:Int):=by first|rfl|omega|assumption)(hj:j<n:=by first|assumption|omega)(hc:chk dr ops i o ⟨fpO (AS.ev ⟨tm,hp,gn,us,L⟩) o,[],[],.c (.pt s (j*k))⟩ H=true:=by first|(with_reducible exact zj2)|kernel_rfl):Walk Tryz.prog ops Q C dr H (i :: r) ⟨tm,hp,gn,us,L⟩ :=
 w_idxs hop ho hd ht hg hx hi hr hb hn hk hT hz hj hc h
theorem ze3 {s off:Nat}{RT:TypeId}{Rk Rn:Nat}{Rb:Bool}{Rc:List AC}{T:TypeId}{p y:Operand}{cs:List AC}  (h:Walk Tryz.prog ops Q C dr (keepH dr (i,o,⟨fpO (AS.ev ⟨tm,hp,gn,us,L⟩) o,[(s,some (⟨RT,Rk,Rn,Rb,spl Rc off cs⟩:Row))],[],.c .un⟩) H) r ⟨tm,upd hp s (some (⟨RT,Rk,Rn,Rb,spl Rc off cs⟩:Row)),gn,us,L⟩)(hop:ops[i]? = some o:=by exact rfl)(ho:o.op=.store T p y:=by exact rfl)(hd:o.dst=none:=by exact rfl)(hg:gw ops tm o=some true:=by exact rfl)(hx:AS.ev ⟨tm,hp,gn,us,L⟩ p=.c (.pt s off):=by exact rfl)(hr:hp s=some ⟨RT,Rk,Rn,Rb,Rc⟩:=by exact rfl)(hy:(AS.ev ⟨tm,hp,gn,us,L⟩ y).cells=some cs:=by exact rfl)(hT:(Tryz.prog.info? T).map (·.size)=some cs.length:=by exact rfl)(hnu:cs.all noUn=true:=by exact rfl)(hle:off+cs.length≤Rc.length:=by assumption)(hc:chk dr ops i o ⟨fpO (AS.ev ⟨tm,hp,gn,us,L⟩) o,[(s,some (⟨RT,Rk,Rn,Rb,spl Rc off cs⟩:Row))],[],.c .un⟩ H=true:=by first|(with_reducible exact zj2)|kernel_rfl):Walk Tryz.prog ops Q C dr H (i :: r) ⟨tm,hp,gn,us,L⟩ :=
 w_sto hop ho hd hg hx hr hy hT hnu hle hc h
theorem zb3 {t j n m k nm:Nat}{rw:Row}{e T T2:TypeId}{xo yo:Operand}{ys zs:List AC}  (h:Walk Tryz.prog ops Q C dr (keepH dr (i,o,⟨fpO (AS.ev ⟨tm,hp,gn,us,L⟩) o,[(j,none),(t,some ⟨e,k,nm,false,zs⟩)],[t],.c (.sl t nm)⟩) H) r ⟨upd tm t (.c (.sl t nm)),upd (upd hp j none) t (some ⟨e,k,nm,false,zs⟩),gn,t :: us,L⟩)(hop:ops[i]? = some o:=by exact rfl)(ho:o.op=.call ⟨.builtin .append,#[xo,yo],#[T,T2]⟩:=by exact rfl)(hd:o.dst=some t:=by exact rfl)(ht:Nat.blt t L=true:=by exact rfl)(hg:gw ops tm o=some true:=by exact rfl)(hf:(Nat.ble gn t&&!us.contains t)=true:=by exact rfl)(hx:AS.ev ⟨tm,hp,gn,us,L⟩ xo=.c (.sl j n):=by exact rfl)(hr:hp j=some rw:=by exact rfl)(hT:appB Tryz.prog T T2=some (e,k):=by first|exact (rfl:_=some ((47:Nat),(6:Nat)))|exact (rfl:_=some ((41:Nat),(3:Nat)))|exact (rfl:_=some ((9:Nat),(1:Nat)))|exact (rfl:_=some ((71:Nat),(6:Nat)))|exact (rfl:_=some ((45:Nat),(4:Nat)))|exact (rfl:_=some ((5:Nat),(1:Nat)))|exact (rfl:_=some ((140:Nat),(3:Nat)))|exact (rfl:_=some ((3:Nat),(1:Nat))))(hy:srcOf hp k (AS.ev ⟨tm,hp,gn,us,L⟩ yo)=some (m,ys):=by first|rfl|exact zt9 rfl rfl rfl rfl)(hnu:ys.all noUn=true:=by first|rfl|exact zo6 _)(hr1:rw.T=e:=by exact rfl)(hr2:rw.k=k:=by exact rfl)(hr3:rw.n=n:=by exact rfl)(hr4:rw.box=false:=by exact rfl)(hsz:n+m≤4294967296:=by omega)(hnm:n+m=nm:=by first|exact Nat.zero_add _|rfl)(hz:rw.cs++ys=zs:=by first|exact List.nil_append _|rfl)(hc:chk dr ops i o ⟨fpO (AS.ev ⟨tm,hp,gn,us,L⟩) o,[(j,none),(t,some ⟨e,k,nm,false,zs⟩)],[t],.c (.sl t nm)⟩ H=true:=by first|(with_reducible exact zj2)|kernel_rfl):Walk Tryz.prog ops Q C dr H (i :: r) ⟨tm,hp,gn,us,L⟩ :=
 v_app hop ho hd ht hg hf hx hr hT hy hnu hr1 hr2 hr3 hr4 hsz hnm hz hc h
theorem zk2 {t m k:Nat}{e T T2:TypeId}{xo yo:Operand}{ys:List AC}  (h:Walk Tryz.prog ops Q C dr (keepH dr (i,o,⟨fpO (AS.ev ⟨tm,hp,gn,us,L⟩) o,[(t,some ⟨e,k,m,false,ys⟩)],[t],.c (.sl t m)⟩) H) r ⟨upd tm t (.c (.sl t m)),upd hp t (some ⟨e,k,m,false,ys⟩),gn,t :: us,L⟩)(hop:ops[i]? = some o:=by exact rfl)(ho:o.op=.call ⟨.builtin .append,#[xo,yo],#[T,T2]⟩:=by exact rfl)(hd:o.dst=some t:=by exact rfl)(ht:Nat.blt t L=true:=by exact rfl)(hg:gw ops tm o=some true:=by exact rfl)(hf:(Nat.ble gn t&&!us.contains t)=true:=by exact rfl)(hx:AS.ev ⟨tm,hp,gn,us,L⟩ xo=.c (.v (.slice none 0 0)):=by exact rfl)(hT:appB Tryz.prog T T2=some (e,k):=by first|exact (rfl:_=some ((47:Nat),(6:Nat)))|exact (rfl:_=some ((41:Nat),(3:Nat)))|exact (rfl:_=some ((9:Nat),(1:Nat)))|exact (rfl:_=some ((71:Nat),(6:Nat)))|exact (rfl:_=some ((45:Nat),(4:Nat)))|exact (rfl:_=some ((5:Nat),(1:Nat)))|exact (rfl:_=some ((140:Nat),(3:Nat)))|exact (rfl:_=some ((3:Nat),(1:Nat))))(hy:srcOf hp k (AS.ev ⟨tm,hp,gn,us,L⟩ yo)=some (m,ys):=by first|rfl|exact zt9 rfl rfl rfl rfl)(hnu:ys.all noUn=true:=by first|rfl|exact zo6 _)(hsz:m≤4294967296:=by omega)(hc:chk dr ops i o ⟨fpO (AS.ev ⟨tm,hp,gn,us,L⟩) o,[(t,some ⟨e,k,m,false,ys⟩)],[t],.c (.sl t m)⟩ H=true:=by first|(with_reducible exact zj2)|kernel_rfl):Walk Tryz.prog ops Q C dr H (i :: r) ⟨tm,hp,gn,us,L⟩ :=
 v_app0 hop ho hd ht hg hf hx hT hy hnu hsz hc h
theorem x_ld {t s off:Nat}{rw:Row}{T:TypeId}{p:Operand}{cs:List AC}  (h:Walk Tryz.prog ops Q C dr (keepH dr (i,o,⟨fpO (AS.ev ⟨tm,hp,gn,us,L⟩) o,[],[],x⟩) H) r ⟨upd tm t x,hp,gn,us,L⟩)(hop:ops[i]? = some o:=by exact rfl)(ho:o.op=.load T p:=by exact rfl)(hd:o.dst=some t:=by exact rfl)(ht:Nat.blt t L=true:=by exact rfl)(hg:gw ops tm o=some true:=by rfl)(hx:AS.ev ⟨tm,hp,gn,us,L⟩ p=.c (.pt s off):=by exact rfl)(hr:hp s=some rw:=by exact rfl)(hs:subL rw.cs off (Tryz.prog.cellsOf T)=cs:=by assumption)(hm:mkAV Tryz.prog T cs=some x:=by rfl)(hc:chk dr ops i o ⟨fpO (AS.ev ⟨tm,hp,gn,us,L⟩) o,[],[],x⟩ H=true:=by first|(with_reducible exact zj2)|kernel_rfl):Walk Tryz.prog ops Q C dr H (i :: r) ⟨tm,hp,gn,us,L⟩ :=
 w_ld hop ho hd ht hg hx hr hs hm hc h
theorem x_call {t:Nat}{c:Call}{fv:Operand}{f:FuncId}{caps:List AC}{args ins:List AV}{res:AV}{nv:AV}{nr:List (Nat×Row)}(id:Nat)(hctr:Ctr Tryz.prog f ins [] res [])(h:Walk Tryz.prog ops Q C dr (keepH dr (i,o,⟨args.flatMap snV++[],nr.map (fun p=>(p.1,some p.2)),nr.map (·.1),nv⟩) H) r ⟨upd tm t nv,updL hp (nr.map (fun p=>(p.1,some p.2))),gn,nr.map (·.1)++us,L⟩)(hop:ops[i]? = some o:=by exact rfl)(hoc:o.op=.call c:=by exact rfl)(hcal:c.callee=.value fv:=by exact rfl)(hd:o.dst=some t:=by exact rfl)(ht:Nat.blt t L=true:=by exact rfl)(hg:gw ops tm o=some true:=by exact rfl)(hfv:AS.ev ⟨tm,hp,gn,us,L⟩ fv=.c (.fn f caps):=by exact rfl)(hargs:callArgs ⟨tm,hp,gn,us,L⟩ c caps=args:=by exact rfl)(hcv:args.map (cvV hp [])=ins:=by (repeat' (first|rfl|exact zl5|refine zw4 ?_ ?_|refine zb12 ?_|refine cv_c ?_|refine zx4 ?_ ?_|(refine zy6 ?_;exact byc)|(refine zz6 ?_;exact byc)|refine za7 ?_|(refine cvC_sl' (by rfl) (by rfl) (by rfl) (by rfl) ?_ ?_;(focus exact byc);(first|rfl|exact zf4 _)))))(hm:rofrV res=true:=by (first|rfl|exact zc3 _|(simp [rofrV,rofrVL,rofrL,rofr,zc3,zy3,zt3];done)))(hopn:opV id res=(nv,nr):=by exact rfl)(hf:(nr.all fun p=>Nat.ble gn p.1&&!us.contains p.1)=true:=by exact rfl)(hc:chk dr ops i o ⟨args.flatMap snV++[],nr.map (fun p=>(p.1,some p.2)),nr.map (·.1),nv⟩ H=true:=by first|(with_reducible exact zj2)|kernel_rfl):Walk Tryz.prog ops Q C dr H (i :: r) ⟨tm,hp,gn,us,L⟩ :=
 v_call id hctr hop hoc hcal hd ht hg hfv hargs hcv hm hopn hf hc h
end
theorem zg1 {hp:Nat→Option Row}{v:Value}:clV hp (.c (.v v))=some (.c (.v v),hp):=rfl
section
variable {tm:Nat→AV}{hp:Nat→Option Row}{gn L:Nat}{us:List Nat}
theorem zk8 {i j n:Nat}{T T':TypeId}{k k' m:Nat}{b:Bool}{cs cs':List AC}{pre post:List AC}(hij:Nat.beq i j=false)(hr:hp i=some ⟨T,k,m,b,cs⟩)(hs:hp j=some ⟨T',k',n,false,cs'⟩)(hcs:cs=pre++.sl j n :: post) :
 Gh ⟨tm,hp,gn,us,L⟩ ⟨tm,upd (upd hp j none) i (some ⟨T,k,m,b,pre++.ow T' n k' cs' :: post⟩),gn,us,L⟩:=g_absorb hij hr hs rfl rfl hcs
theorem g_rev (id:Nat){i n k:Nat}{T:TypeId}{l:List AC}{T':TypeId}{k' m:Nat}{b:Bool}{cs:List AC}{pre post:List AC}(hr:hp i=some ⟨T',k',m,b,cs⟩)(hf:(Nat.ble gn id&&!us.contains id)=true)(hcs:cs=pre++.ow T n k l :: post) :
 Gh ⟨tm,hp,gn,us,L⟩ ⟨tm,upd (upd hp id (some ⟨T,k,n,false,l⟩)) i (some ⟨T',k',m,b,pre++.sl id n :: post⟩),gn,id :: us,L⟩:=zj19 id hr hf hcs
end
section
variable {P:Program}{fn:Func}{Post:AV→List (List AC)→Prop}{σ:AS}{hp':Nat→Option Row}
end
theorem zz4 {hp:Nat→Option Row}{i k m:Nat}{T:TypeId}{cs:List AC}(hr:hp i=some ⟨T,k,m,true,cs⟩)(hc:cloL cs=true):lend hp [i]=some [cs]:=by
 simp only [lend,hr]
 rw [if_pos ⟨.inl trivial,hc,List.not_mem_nil⟩]
set_option maxRecDepth 100000
section
variable {P:Program}{ops:Array Oper}{Q:Exit→Act→World→Prop}{C:Ctx}{H:List (Nat×Oper×Inf)}{i:Nat}{r:List Nat}{o:Oper}{dr:Bool}{σ:AS}
variable {tm:Nat→AV}{hp:Nat→Option Row}{gn L:Nat}{us:List Nat}{x:AV}
theorem zr10 {y:Value}(hop:ops[i]? = some o)(hg:gw ops σ.tm o=some true)(hs1:scal y=true)(hr:∀(ev:Operand→Value) (w:World),(∀z∈o.op.operands,∀v,(σ.ev z).val? = some v→ev z=v)→(execOp ev o).run P w=.ok (.value y) w):Snd P ops Q C i o σ ⟨fpO σ.ev o,[],[],.c (.v y)⟩:=by
 intro τ a w ha hs K hK
 obtain⟨φ,F,St,hs⟩:=hs
 have h3:=hr a.eval w fun z hz v hv=>val_eq (by rw [ha.ev z hz];exact hv) (hs.ev z)
 unfold wpOp
 rw [hop]
 have hw:=gw_to hs (b:=true) (by rw [ha.gw];exact hg)
 simp only [hw,if_true]
 refine .inl ?_
 unfold Oper.wp
 rw [h3]
 have h7:=hs.put o.dst (x:=.c (.v y)) (u:=y) (by simp only [VR,CR];exact⟨trivial,hs1,trivial⟩)
 exact hK _ _ ⟨φ,F,St,h7⟩
end
structure EntT (w:World)(St:Nat→Prop)(ins:List AV)(us:List Value)(p:Nat)(T:TypeId)(k n:Nat)(cs:List AC)(A:List Nat):Prop where
 args:VRL w St φ0 K0 ins us
 row:∃u vs fs,us[p]? = some u∧CRL w St φ0 K0 cs vs fs∧w.ownsRow 0 T k u n vs∧A=obl u++fs
 nod:A.Nodup
 st:∀b∈A,¬St b
 gl:GlobOk w∧∀b,isG b→b∉A
structure ExtT (w w':World)(us:List Value)(p:Nat)(T:TypeId)(k n:Nat)(A:List Nat)(res:AV)(back:Option (List AC))(u:Value)(St':Nat→Prop)(G B:List Nat):Prop where
 frm:Fc (·∈ A) (fun _ _=>False) w w'
 res:VRF w' St' φ0 K0 res u G
 bak:∀cs',back=some cs'→∃v vs fs,us[p]? = some v∧CRL w' St' φ0 K0 cs' vs fs∧w'.ownsRow 0 T k v n vs∧B=obl v++fs
 nod:(G++B).Nodup
 own:∀b∈G++B,b∈A∨w.heap.size≤b
section
variable {C:Ctx}{φ:Nat→Lc}{F:Nat→List Nat}{St:Nat→Prop}{σ:AS}{a:Act}{w w':World}
end
section
variable {P:Program}{ops:Array Oper}{Q:Exit→Act→World→Prop}{C:Ctx}{σ:AS}{o:Oper}{i:Nat}
end
section
variable {P:Program}{ops:Array Oper}{Q:Exit→Act→World→Prop}{C:Ctx}{H:List (Nat×Oper×Inf)}{i:Nat}{r:List Nat}{o:Oper}{dr:Bool}
variable {tm:Nat→AV}{hp:Nat→Option Row}{gn L:Nat}{us:List Nat}
end
section
variable {ops:Array Oper}{Q:Exit→Act→World→Prop}{C:Ctx}{H:List (Nat×Oper×Inf)}{i:Nat}{r:List Nat}{o:Oper}{dr:Bool}
variable {tm:Nat→AV}{hp:Nat→Option Row}{gn L:Nat}{us:List Nat}
end
theorem rnL_app {ρ:Nat→Option Nat}:∀{P Q P' Q':List AC},rnL ρ P=some P'→rnL ρ Q=some Q'→rnL ρ (P++Q)=some (P'++Q')
 | [],Q,P',Q',h,k=>by simp only [rnL,Option.some.injEq] at h;subst h;exact k
 | c :: P,Q,P',Q',h,k=>by
  simp only [rnL] at h
  split at h
  ·rename_i c' r' h1 h2
   injection h with h;subst h
   simp only [List.cons_append,rnL,h1,rnL_app h2 k]
  ·cases h
theorem zq1 {ρ:Nat→Option Nat}{y:Option Row}{T:TypeId}{k m:Nat}{b:Bool}{P Q:List AC}{i j n:Nat}(h:y=some ⟨T,k,m,b,P++.sl i n :: Q⟩)(hρ:ρ i=some j)(hP:cloL P=true)(hQ:cloL Q=true) :
 ∃r',y=some r'∧((cloL r'.cs=true∧(⟨T,k,m,b,P++.sl j n :: Q⟩:Row)=r')∨∃cs',rnL ρ r'.cs=some cs'∧(⟨T,k,m,b,P++.sl j n :: Q⟩:Row)={ r' with cs:=cs' }):=by
 refine⟨_,h,.inr ⟨P++.sl j n :: Q,?_,rfl⟩⟩
 refine rnL_app (zd15 P hP) ?_
 simp [rnL,rnC,hρ,zd15 Q hQ]
section
variable {P:Program}{ops:Array Oper}{Q:Exit→Act→World→Prop}{C:Ctx}{H:List (Nat×Oper×Inf)}{i:Nat}{r:List Nat}{o:Oper}{dr:Bool}
variable {tm:Nat→AV}{hp:Nat→Option Row}{gn L:Nat}{us:List Nat}
def gdL (i:Nat):List Oper→Bool
 | []=>false
 | o :: r=>match o.guard with|some (g,_)=>Nat.beq g i||gdL i r|none=>gdL i r
end
section
variable {ops:Array Oper}{Q:Exit→Act→World→Prop}{C:Ctx}{H H':List (Nat×Oper×Inf)}{i:Nat}{r:List Nat}{o:Oper}{dr:Bool}
variable {tm:Nat→AV}{hp:Nat→Option Row}{gn L:Nat}{us:List Nat}{x:AV}
theorem x_gm {t:Nat}{b:Bool}(h1:b=true→Walk Tryz.prog ops Q C dr (keepH dr (i,o,⟨fpO (AS.ev ⟨tm,hp,gn,us,L⟩) o,[],[],.c (.v (.bool true))⟩) H) r ⟨upd tm t (.c (.v (.bool true))),hp,gn,us,L⟩)
 (h2:b=false→Walk Tryz.prog ops Q C dr (keepH dr (i,o,⟨fpO (AS.ev ⟨tm,hp,gn,us,L⟩) o,[],[],.c (.v (.bool false))⟩) H) r ⟨upd tm t (.c (.v (.bool false))),hp,gn,us,L⟩)
 (hop:ops[i]? = some o:=by exact rfl) (hgd:gdL i ops.toList=true:=by exact rfl) (hd:o.dst=some t:=by exact rfl) (ht:Nat.blt t L=true:=by exact rfl) (hg:gw ops tm o=some true:=by exact rfl) (he:EffD Tryz.prog o (AS.ev ⟨tm,hp,gn,us,L⟩) hp 0=some (.c (.v (.bool b)),.nop):=by rfl)
 (hc1:chk dr ops i o ⟨fpO (AS.ev ⟨tm,hp,gn,us,L⟩) o,[],[],.c (.v (.bool true))⟩ H=true:=by first|(with_reducible exact zj2)|kernel_rfl) (hc2:chk dr ops i o ⟨fpO (AS.ev ⟨tm,hp,gn,us,L⟩) o,[],[],.c (.v (.bool false))⟩ H=true:=by first|(with_reducible exact zj2)|kernel_rfl):Walk Tryz.prog ops Q C dr H (i :: r) ⟨tm,hp,gn,us,L⟩ :=
 w_bool hop hd ht hg he hc1 hc2 h1 h2
theorem x_cal {t:Nat}{c:Call}{fv:Operand}{f:FuncId}{caps:List AC}{args ins:List AV}{res:AV}{nv:AV}{nr:List (Nat×Row)}
 (h:Walk Tryz.prog ops Q C dr (keepH dr (i,o,⟨args.flatMap snV++[],nr.map (fun p=>(p.1,some p.2)),nr.map (·.1),nv⟩) H) r ⟨upd tm t nv,updL hp (nr.map (fun p=>(p.1,some p.2))),gn,nr.map (·.1)++us,L⟩) (hop:ops[i]? = some o:=by exact rfl) (hoc:o.op=.call c:=by exact rfl) (hcal:c.callee=.value fv:=by exact rfl) (hd:o.dst=some t:=by exact rfl) (ht:Nat.blt t L=true:=by exact rfl) (hg:gw ops tm o=some true:=by exact rfl) (hfv:AS.ev ⟨tm,hp,gn,us,L⟩ fv=.c (.fn f caps):=by exact rfl) (hctr:Ctr Tryz.prog f ins [] res []:=by assumption) (hargs:callArgs ⟨tm,hp,gn,us,L⟩ c caps=args:=by exact rfl) (hcv:args.map (cvV hp [])=ins:=by ((repeat' (first|rfl|exact zl5|refine zw4 ?_ ?_|refine zb12 ?_|refine cv_c ?_|refine zx4 ?_ ?_|(refine zy6 ?_;exact byc)|(refine zz6 ?_;exact byc)|refine za7 ?_|(refine cvC_sl' (by rfl) (by rfl) (by rfl) (by rfl) ?_ ?_;(focus exact byc);(first|rfl|exact zf4 _))))<;>exact rfl)) (hm:rofrV res=true:=by (first|rfl|exact zc3 _|(simp [rofrV,rofrVL,rofrL,rofr,zc3,zy3,zt3];done))) (hopn:opV (100*(t+1)) res=(nv,nr):=by exact rfl) (hf:(nr.all fun p=>Nat.ble gn p.1&&!us.contains p.1)=true:=by exact rfl) (hc:chk dr ops i o ⟨args.flatMap snV++[],nr.map (fun p=>(p.1,some p.2)),nr.map (·.1),nv⟩ H=true:=by first|(with_reducible exact zj2)|kernel_rfl):Walk Tryz.prog ops Q C dr H (i :: r) ⟨tm,hp,gn,us,L⟩ :=
 v_call (100*(t+1)) hctr hop hoc hcal hd ht hg hfv hargs hcv hm hopn hf hc h
theorem zn7 {t:Nat}{c:Call}{fv:Operand}{f:FuncId}{caps:List AC}{args ins:List AV}{res:AV}{nv:AV}{nr:List (Nat×Row)}(hctr:Ctr Tryz.prog f ins [] res [])
 (h:Walk Tryz.prog ops Q C dr (keepH dr (i,o,⟨args.flatMap snV++[],nr.map (fun p=>(p.1,some p.2)),nr.map (·.1),nv⟩) H) r ⟨upd tm t nv,updL hp (nr.map (fun p=>(p.1,some p.2))),gn,nr.map (·.1)++us,L⟩) (hop:ops[i]? = some o:=by exact rfl) (hoc:o.op=.call c:=by exact rfl) (hcal:c.callee=.value fv:=by exact rfl) (hd:o.dst=some t:=by exact rfl) (ht:Nat.blt t L=true:=by exact rfl) (hg:gw ops tm o=some true:=by exact rfl) (hfv:AS.ev ⟨tm,hp,gn,us,L⟩ fv=.c (.fn f caps):=by exact rfl) (hargs:callArgs ⟨tm,hp,gn,us,L⟩ c caps=args:=by exact rfl) (hcv:args.map (cvV hp [])=ins:=by ((repeat' (first|rfl|exact zl5|refine zw4 ?_ ?_|refine zb12 ?_|refine cv_c ?_|refine zx4 ?_ ?_|(refine zy6 ?_;exact byc)|(refine zz6 ?_;exact byc)|refine za7 ?_|(refine cvC_sl' (by rfl) (by rfl) (by rfl) (by rfl) ?_ ?_;(focus exact byc);(first|rfl|exact zf4 _))))<;>exact rfl)) (hm:rofrV res=true:=by (first|rfl|exact zc3 _|(simp [rofrV,rofrVL,rofrL,rofr,zc3,zy3,zt3];done))) (hopn:opV (100*(t+1)) res=(nv,nr):=by exact rfl) (hf:(nr.all fun p=>Nat.ble gn p.1&&!us.contains p.1)=true:=by exact rfl) (hc:chk dr ops i o ⟨args.flatMap snV++[],nr.map (fun p=>(p.1,some p.2)),nr.map (·.1),nv⟩ H=true:=by first|(with_reducible exact zj2)|kernel_rfl):Walk Tryz.prog ops Q C dr H (i :: r) ⟨tm,hp,gn,us,L⟩ :=
 v_call (100*(t+1)) hctr hop hoc hcal hd ht hg hfv hargs hcv hm hopn hf hc h
end
section
variable {ops:Array Oper}{Q:Exit→Act→World→Prop}{C:Ctx}{H H':List (Nat×Oper×Inf)}{i:Nat}{r:List Nat}{o:Oper}{dr:Bool}
variable {tm:Nat→AV}{hp:Nat→Option Row}{gn L:Nat}{us:List Nat}
theorem run_cat {P:Program}{T ty:TypeId}{xo yo:Operand}{a b:ByteArray}(ho:o.op=.binOp .add T xo yo ty)(hT:P.underlying T=some .string)(hs:a.size+b.size≤9223372036854775807)(ev:Operand→Value)(w:World)(hx:ev xo=.string a)(hy:ev yo=.string b):(execOp ev o).run P w=.ok (.value (.string (a++b))) w:=by
 unfold execOp
 rw [ho]
 simp only [hx,hy]
 simp [Sem.run_bind,binOp,eqGuard,run_underlying hT,run_string_add_sum w a b hs]
theorem x_cat {t:Nat}{T ty:TypeId}{xo yo:Operand}{a b:ByteArray}(h:Walk Tryz.prog ops Q C dr (keepH dr (i,o,⟨fpO (AS.ev ⟨tm,hp,gn,us,L⟩) o,[],[],.c (.v (.string (a++b)))⟩) H) r ⟨upd tm t (.c (.v (.string (a++b)))),hp,gn,us,L⟩)
 (hop:ops[i]? = some o:=by exact rfl) (ho:o.op=.binOp .add T xo yo ty:=by exact rfl) (hT:(Tryz.prog).underlying T=some .string:=by exact Tryz.underlying9) (hd:o.dst=some t:=by exact rfl) (ht:Nat.blt t L=true:=by exact rfl) (hg:gw ops tm o=some true:=by exact rfl)
 (hx:AS.ev ⟨tm,hp,gn,us,L⟩ xo=.c (.v (.string a)):=by exact rfl) (hy:AS.ev ⟨tm,hp,gn,us,L⟩ yo=.c (.v (.string b)):=by exact rfl) (hs:a.size+b.size≤9223372036854775807:=by first|omega|(simp only [ByteArray.size_append',ByteArray.size_mk',List.size_toArray,List.length_cons,List.length_nil];omega))
 (hc:chk dr ops i o ⟨fpO (AS.ev ⟨tm,hp,gn,us,L⟩) o,[],[],.c (.v (.string (a++b)))⟩ H=true:=by first|(with_reducible exact zj2)|kernel_rfl):Walk Tryz.prog ops Q C dr H (i :: r) ⟨tm,hp,gn,us,L⟩:=by
 refine⟨o,_,hop,zr10 (y:=.string (a++b)) hop hg rfl fun ev w he=>?_,fun n hn=>absurd hn List.not_mem_nil,ze5 hc,zs3 ?_⟩
 ·have e:o.op.operands=#[xo,yo]:=by rw [ho];rfl
  exact run_cat ho hT hs ev w (he xo (by rw [e];simp) _ (by rw [hx];rfl)) (he yo (by rw [e];simp) _ (by rw [hy];rfl))
 ·show Walk Tryz.prog ops Q C dr _ r (AS.put _ o.dst _)
  rw [hd,zp5 (by exact zd5 ht)];exact h
end
end Go.Proofs.YtnjfnhoipnbpeaaGreatDoor
