/- T -/
import Derived.Laws.Concat
import Derived.Laws.Strings3
import Derived.Laws.DeepStrings4
import Derived.Test.YtomolhbkdhjofaaGreatDoorExAE
set_option maxHeartbeats 0
set_option maxRecDepth 100000
namespace Go.Proofs.YtomolhbkdhjofaaGreatDoor
open Go.RowKit Go.Proofs.Tryz
def σT (ins:List AV)(p:Nat)(T:TypeId)(k n:Nat)(cs:List AC)(nt:Nat):AS :=
 { tm:=upd (fun t=>(ins[t]?).getD (.c .un)) p (.c (.sl 0 n)),hp:=upd (fun _=>none) 0 (some ⟨T,k,n,false,cs⟩),gn:=0,us:=[0],L:=ins.length+(nt-ins.length) }
theorem zk {P:Program} {f:FuncId} {fn:Func} {c:Code} {ins:List AV} {p:Nat} {T:TypeId} {k n:Nat} {cs:List AC} {res:AV} (hf:P.funcs[f]? = some fn) (hb:fn.body=some c) (hn:(fn.name=="runtime.NumGoroutine")=false) (hp:Nat.blt p ins.length=true)
 (h:AWp P c (bodyQ P fn [] fun r c=>r=res∧c=[]) (σT ins p T k n cs fn.ntmps)):CtrT P f ins p T k n cs res none:=by
 refine⟨by unfold w7;rw [hf];simp [hn,hb],fun w St us A hE=>?_⟩
 have hE0:Ent w St φ0 (fun _=>[]) ins us []:=by
  refine⟨VRL.mono (fun b hb _=>⟨hb,rfl⟩) (Nat.le_refl _) (fun i hi=>hi.elim) _ _ hE.args,fun i cs hi=>by simp at hi,fun i hi=>absurd hi (Nat.not_lt_zero i),fun i j hi=>absurd hi (Nat.not_lt_zero i),fun i j b lo hi=>absurd hi (Nat.not_lt_zero i),fun i j b lo lo' ci cj hi=>by simp at hi,fun i b hi=>absurd hi (Nat.not_lt_zero i),fun i b lo hi=>absurd hi (Nat.not_lt_zero i),hE.gl.1,fun b _=>⟨fun ⟨i,hi,_⟩=>absurd hi (Nat.not_lt_zero i),fun o ⟨i,lo,cs,hi,_⟩=>by simp at hi⟩⟩
 have h0:=hE0.sim fn.ntmps
 obtain⟨u,vs,fs,hu,g1,g2,rfl⟩:=hE.row
 have h1:SimF { w0:=w,N:=0,pl:=yZ φ0,M:=(·∈ obl u++fs),R:=fun _ _=>False,S0:=St } φ0 (fun _=>[]) St (σ0 ins [] fn.ntmps) { tmps:=us.toArray++Array.replicate (fn.ntmps-us.toArray.size) undef,defers:=[] } w :=
  ⟨h0.dfr,h0.len,h0.tms,h0.row,h0.nod,h0.dis,h0.bxF,h0.bxd,h0.stF,h0.stB,Fc.refl _ _ _,fun i r b hr=>by simp [σ0] at hr,fun i hi=>absurd hi (Nat.not_lt_zero i),fun i r b lo hr=>by simp [σ0] at hr,⟨Nat.le_refl _,hE.gl.1,fun b hg=>⟨hE.gl.2 b hg,fun _ h=>h⟩⟩,fun b hb _=>.inl hb⟩
 obtain⟨φ,F,St1,h2,hv⟩:=h1.newSlice (id:=0) (Nat.le_refl _) List.not_mem_nil (Stp.refl none w) (fun b hb=>by cases hb) (CRL.up _ _ (fun b hb _=>hb) g1) (fun b hb e=>by cases e) g2 hE.nod fun b hb=>.inr ⟨fun j s hj=>by simp [σ0] at hj,hE.st b hb,.inl hb⟩
 have hpl:p<ins.length:=dy hp
 have hlen:=hE.args.len
 have h3:SimF { w0:=w,N:=0,pl:=yZ φ0,M:=(·∈ obl u++fs),R:=fun _ _=>False,S0:=St } φ F St1 (σT ins p T k n cs fn.ntmps) { tmps:=us.toArray++Array.replicate (fn.ntmps-us.toArray.size) undef,defers:=[] } w:=by
  refine⟨h2.dfr,h2.len,fun t=>?_,fun i r hr=>?_,fun i r hr=>?_,fun i j r s hr hs=>?_,fun i j r s b lo hr hs=>?_,fun i j r s b lo lo' hr hs=>?_,fun i r b hr=>?_,fun i r b lo hr=>?_,h2.frm,fun i r b hr=>?_,fun i hi=>absurd hi (Nat.not_lt_zero i),fun i r b lo hr=>?_,h2.gnN,h2.stS⟩
  ·rw [show (σT ins p T k n cs fn.ntmps).tm=upd (fun t=>(ins[t]?).getD (.c .un)) p (.c (.sl 0 n)) from rfl]
   by_cases e:t=p
   ·subst e
    rw [aJ]
    have:(us.toArray++Array.replicate (fn.ntmps-us.toArray.size) undef).getD t undef=u:=by
     rw [Array.getD_eq_getD_getElem?,Array.getElem?_append_left (by simp [hlen,hpl])]
     simp [hu]
    rw [this];exact hv
   ·rw [aX _ _ e];exact h2.tms t
  all_goals
   have hx:∀i,(σT ins p T k n cs fn.ntmps).hp i=upd (σ0 ins [] fn.ntmps).hp 0 (some ⟨T,k,n,false,cs⟩) i:=fun i=>by
    rw [show (σT ins p T k n cs fn.ntmps).hp=upd (fun _=>none) 0 (some ⟨T,k,n,false,cs⟩) from rfl]
    by_cases e:i=0
    ·subst e;rw [aJ,aJ]
    ·rw [aX _ _ e,aX _ _ e];simp [σ0]
   first
    | (rw [hx] at hr hs;first|exact h2.dis i j r s hr hs|exact h2.bxF i j r s b lo hr hs|exact h2.bxd i j r s b lo lo' hr hs)
    | (rw [hx] at hr;first|exact h2.row i r hr|exact h2.nod i r hr|exact h2.stF i r b hr|exact h2.stB i r b lo hr|exact h2.own i r b hr|exact h2.new i r b lo hr)
 refine calls_of_wp hf hb (wp_mono (h _ _ _ ⟨φ,F,St1,h3⟩) ?_)
 rintro e a' w' ⟨σ',hq,φ',F',St',hsim⟩
 have key:retQ P fn [] (fun r c=>r=res∧c=[]) σ'→a'.defers=[]∧∃v,(results fn a'.tmps).run P w'=.ok v w'∧∃u' St' G B,Ending.returned v=.returned u'∧ExtT w w' us p T k n (obl u++fs) res none u' St' G B:=by
  rintro ⟨l,x,hp',rows,h1,h2,h3,h4,rfl,h5⟩
  obtain⟨ws,r1,r2⟩:=mo (P:=P) hsim _ _ h1
  obtain⟨v,r3,r4⟩:=nI r2
  obtain⟨G,c1,c2,c3,c4,c5,c6⟩:=tz hsim r4 h2
  refine⟨hsim.dfr,v,?_,v,St',G,[],rfl,c2.frm,c1,fun cs' hc=>(by cases hc),(by simpa using c3),fun b hb=>?_⟩
  ·have:(fun|ResultVar.tmp t=>pure (a'.tmps.getD t undef)|ResultVar.cell a t=>(do loadVar t (←asAddr (a'.tmps.getD a undef)):Sem Value))=kl a'.tmps:=by funext z;cases z<;>rfl
   have hres:results fn a'.tmps=(fn.results.mapM (kl a'.tmps) >>= fun vs=>pure (if h:vs.size=1 then vs[0] else .tuple vs)):=by rw [←this];rfl
   simp [hres,Array.mapM_eq_mapM_toList,r1,←r3]
  ·rw [List.append_nil] at hb;exact (c4 b hb).1.2.2
 cases e<;>first|exact hq.elim|exact key hq
section
variable {ops:Array Oper}{Q:Exit→Act→World→Prop}{C:Ctx}{H:List (Nat×Oper×Inf)}{i:Nat}{r:List Nat}{o:Oper}{dr:Bool}
variable {tm:Nat→AV}{hp:Nat→Option Row}{gn L:Nat}{us:List Nat}
theorem ul {t j n k:Nat}{T:TypeId}{cs:List AC}{c:Call}{fv:Operand}{f:FuncId}{caps:List AC}{args ins:List AV}{res:AV}{back:Option (List AC)}{nv:AV}{nr:List (Nat×Row)}(id p:Nat)(hctr:CtrT prog f ins p T k n cs res back)
 (h:Walk prog ops Q C dr (bB dr (i,o,⟨j :: args.flatMap snV,(j,back.map fun cs=>⟨T,k,n,false,cs⟩) :: nr.map (fun p=>(p.1,some p.2)),nr.map (·.1),nv⟩) H) r ⟨upd tm t nv,eW (upd hp j (back.map fun cs=>⟨T,k,n,false,cs⟩)) (nr.map (fun p=>(p.1,some p.2))),gn,nr.map (·.1)++us,L⟩)
 (hop:ops[i]? = some o:=by exact rfl) (hoc:o.op=.call c:=by exact rfl) (hcal:c.callee=.value fv:=by exact rfl) (hd:o.dst=some t:=by exact rfl) (ht:Nat.blt t L=true:=by exact rfl) (hg:gw ops tm o=some true:=by exact rfl)
 (hfv:AS.ev ⟨tm,hp,gn,us,L⟩ fv=.c (.fn f caps):=by exact rfl) (hargs:bl ⟨tm,hp,gn,us,L⟩ c caps=args:=by exact rfl) (hpp:args[p]? = some (.c (.sl j n)):=by exact rfl) (hr:hp j=some ⟨T,k,n,false,cs⟩:=by exact rfl) (hcl:bi cs=true:=by first|rfl|(simp [nR,bi,clo,bc,aG,bf,aV,aW];done)) (hcv:args.map (cvV (upd hp j none) [])=ins:=by (repeat' (first|rfl|exact cvm_nil|refine mw ?_ ?_|refine cv_ag ?_|refine cv_c ?_|refine mz ?_ ?_|(refine uh ?_;exact byc)|(refine cvC_rp ?_;exact byc)|refine cvC_fn ?_|(refine cvC_sl' (by rfl) (by rfl) (by rfl) (by rfl) ?_ ?_;(focus exact byc);(first|rfl|exact gP _))))) (hm:dv res=true:=by (first|rfl|exact bL _|(simp [dv,ec,da,jV,bL,cU,cI];done))) (hmb:∀cs',back=some cs'→da cs'=true:=by first|exact (fun _ h=>by cases h)|(rintro _ ⟨⟩;(first|rfl|exact bL _|(simp [dv,ec,da,jV,bL,cU,cI];done))))
 (hopn:opV id res=(nv,nr):=by exact rfl) (hf:(nr.all fun p=>Nat.ble gn p.1&&!us.contains p.1)=true:=by exact rfl)
 (hc:chk dr ops i o ⟨j :: args.flatMap snV,(j,back.map fun cs=>⟨T,k,n,false,cs⟩) :: nr.map (fun p=>(p.1,some p.2)),nr.map (·.1),nv⟩ H=true:=by first|(with_reducible exact bg)|kernel_rfl):Walk prog ops Q C dr H (i :: r) ⟨tm,hp,gn,us,L⟩ :=
 zj id p hctr hop hoc hcal hd ht hg hfv hargs hpp hr hcl hcv hm hmb hopn hf hc h
end
theorem wH {p:Prop}(h:p:=by first|((repeat' (first|rfl|exact cvm_nil|refine mw ?_ ?_|refine cv_ag ?_|refine cv_c ?_|refine mz ?_ ?_|(refine uh ?_;exact byc)|(refine cvC_rp ?_;exact byc)|refine cvC_fn ?_|(refine cvC_sl' (by rfl) (by rfl) (by rfl) (by rfl) ?_ ?_;(focus exact byc);(first|rfl|exact gP _))))<;>exact rfl)|fail):p:=h
section
variable {P:Program}{ops:Array Oper}{Q:Exit→Act→World→Prop}{C:Ctx}{H:List (Nat×Oper×Inf)}{i:Nat}{r:List Nat}{o:Oper}{dr:Bool}
variable {tm:Nat→AV}{hp:Nat→Option Row}{gn L:Nat}{us:List Nat}
def gdL (i:Nat):List Oper→Bool
 | []=>false
 | o :: r=>match o.guard with|some (g,_)=>Nat.beq g i||gdL i r|none=>gdL i r
end
section
variable {ops:Array Oper}{Q:Exit→Act→World→Prop}{C:Ctx}{H H':List (Nat×Oper×Inf)}{i:Nat}{r:List Nat}{o:Oper}{dr:Bool}
variable {tm:Nat→AV}{hp:Nat→Option Row}{gn L:Nat}{us:List Nat}{x:AV}
theorem xk {t:Nat}{b:Bool}(h1:b=true→Walk prog ops Q C dr (bB dr (i,o,⟨fpO (AS.ev ⟨tm,hp,gn,us,L⟩) o,[],[],.c (.v (.bool true))⟩) H) r ⟨upd tm t (.c (.v (.bool true))),hp,gn,us,L⟩)
 (h2:b=false→Walk prog ops Q C dr (bB dr (i,o,⟨fpO (AS.ev ⟨tm,hp,gn,us,L⟩) o,[],[],.c (.v (.bool false))⟩) H) r ⟨upd tm t (.c (.v (.bool false))),hp,gn,us,L⟩)
 (hop:ops[i]? = some o:=by exact rfl) (hgd:gdL i ops.toList=true:=by exact rfl) (hd:o.dst=some t:=by exact rfl) (ht:Nat.blt t L=true:=by exact rfl) (hg:gw ops tm o=some true:=by exact rfl) (he:EffD prog o (AS.ev ⟨tm,hp,gn,us,L⟩) hp 0=some (.c (.v (.bool b)),.nop):=by rfl)
 (hc1:chk dr ops i o ⟨fpO (AS.ev ⟨tm,hp,gn,us,L⟩) o,[],[],.c (.v (.bool true))⟩ H=true:=by first|(with_reducible exact bg)|kernel_rfl) (hc2:chk dr ops i o ⟨fpO (AS.ev ⟨tm,hp,gn,us,L⟩) o,[],[],.c (.v (.bool false))⟩ H=true:=by first|(with_reducible exact bg)|kernel_rfl):Walk prog ops Q C dr H (i :: r) ⟨tm,hp,gn,us,L⟩ :=
 zt3 hop hd ht hg he hc1 hc2 h1 h2
theorem x_cal {t:Nat}{c:Call}{fv:Operand}{f:FuncId}{caps:List AC}{args ins:List AV}{res:AV}{nv:AV}{nr:List (Nat×Row)}
 (h:Walk prog ops Q C dr (bB dr (i,o,⟨args.flatMap snV++[],nr.map (fun p=>(p.1,some p.2)),nr.map (·.1),nv⟩) H) r ⟨upd tm t nv,eW hp (nr.map (fun p=>(p.1,some p.2))),gn,nr.map (·.1)++us,L⟩) (hop:ops[i]? = some o:=by exact rfl) (hoc:o.op=.call c:=by exact rfl) (hcal:c.callee=.value fv:=by exact rfl) (hd:o.dst=some t:=by exact rfl) (ht:Nat.blt t L=true:=by exact rfl) (hg:gw ops tm o=some true:=by exact rfl) (hfv:AS.ev ⟨tm,hp,gn,us,L⟩ fv=.c (.fn f caps):=by exact rfl) (hctr:Ctr prog f ins [] res []:=by assumption) (hargs:bl ⟨tm,hp,gn,us,L⟩ c caps=args:=by exact rfl) (hcv:args.map (cvV hp [])=ins:=by exact wH) (hm:dv res=true:=by (first|rfl|exact bL _|(simp [dv,ec,da,jV,bL,cU,cI];done))) (hopn:opV (100*(t+1)) res=(nv,nr):=by exact rfl) (hf:(nr.all fun p=>Nat.ble gn p.1&&!us.contains p.1)=true:=by exact rfl) (hc:chk dr ops i o ⟨args.flatMap snV++[],nr.map (fun p=>(p.1,some p.2)),nr.map (·.1),nv⟩ H=true:=by first|(with_reducible exact bg)|kernel_rfl):Walk prog ops Q C dr H (i :: r) ⟨tm,hp,gn,us,L⟩ :=
 uj (100*(t+1)) hctr hop hoc hcal hd ht hg hfv hargs hcv hm hopn hf hc h
theorem lD {t:Nat}{c:Call}{fv:Operand}{f:FuncId}{caps:List AC}{args ins:List AV}{res:AV}{nv:AV}{nr:List (Nat×Row)}(hctr:Ctr prog f ins [] res [])
 (h:Walk prog ops Q C dr (bB dr (i,o,⟨args.flatMap snV++[],nr.map (fun p=>(p.1,some p.2)),nr.map (·.1),nv⟩) H) r ⟨upd tm t nv,eW hp (nr.map (fun p=>(p.1,some p.2))),gn,nr.map (·.1)++us,L⟩) (hop:ops[i]? = some o:=by exact rfl) (hoc:o.op=.call c:=by exact rfl) (hcal:c.callee=.value fv:=by exact rfl) (hd:o.dst=some t:=by exact rfl) (ht:Nat.blt t L=true:=by exact rfl) (hg:gw ops tm o=some true:=by exact rfl) (hfv:AS.ev ⟨tm,hp,gn,us,L⟩ fv=.c (.fn f caps):=by exact rfl) (hargs:bl ⟨tm,hp,gn,us,L⟩ c caps=args:=by exact rfl) (hcv:args.map (cvV hp [])=ins:=by exact wH) (hm:dv res=true:=by (first|rfl|exact bL _|(simp [dv,ec,da,jV,bL,cU,cI];done))) (hopn:opV (100*(t+1)) res=(nv,nr):=by exact rfl) (hf:(nr.all fun p=>Nat.ble gn p.1&&!us.contains p.1)=true:=by exact rfl) (hc:chk dr ops i o ⟨args.flatMap snV++[],nr.map (fun p=>(p.1,some p.2)),nr.map (·.1),nv⟩ H=true:=by first|(with_reducible exact bg)|kernel_rfl):Walk prog ops Q C dr H (i :: r) ⟨tm,hp,gn,us,L⟩ :=
 uj (100*(t+1)) hctr hop hoc hcal hd ht hg hfv hargs hcv hm hopn hf hc h
end
section
variable {ops:Array Oper}{Q:Exit→Act→World→Prop}{C:Ctx}{H H':List (Nat×Oper×Inf)}{i:Nat}{r:List Nat}{o:Oper}{dr:Bool}
variable {tm:Nat→AV}{hp:Nat→Option Row}{gn L:Nat}{us:List Nat}
theorem zl {P:Program}{T ty:TypeId}{xo yo:Operand}{a b:ByteArray}(ho:o.op=.binOp .add T xo yo ty)(hT:P.underlying T=some .string)(hs:a.size+b.size≤9223372036854775807)(ev:Operand→Value)(w:World)(hx:ev xo=.string a)(hy:ev yo=.string b):(execOp ev o).run P w=.ok (.value (.string (a++b))) w:=by
 unfold execOp
 rw [ho]
 simp only [hx,hy]
 simp [Sem.run_bind,binOp,eqGuard,run_underlying hT,run_string_add_sum w a b hs]
theorem x_cat {t:Nat}{T ty:TypeId}{xo yo:Operand}{a b:ByteArray}(h:Walk prog ops Q C dr (bB dr (i,o,⟨fpO (AS.ev ⟨tm,hp,gn,us,L⟩) o,[],[],.c (.v (.string (a++b)))⟩) H) r ⟨upd tm t (.c (.v (.string (a++b)))),hp,gn,us,L⟩)
 (hop:ops[i]? = some o:=by exact rfl) (ho:o.op=.binOp .add T xo yo ty:=by exact rfl) (hT:(prog).underlying T=some .string:=by exact underlying9) (hd:o.dst=some t:=by exact rfl) (ht:Nat.blt t L=true:=by exact rfl) (hg:gw ops tm o=some true:=by exact rfl)
 (hx:AS.ev ⟨tm,hp,gn,us,L⟩ xo=.c (.v (.string a)):=by exact rfl) (hy:AS.ev ⟨tm,hp,gn,us,L⟩ yo=.c (.v (.string b)):=by exact rfl) (hs:a.size+b.size≤9223372036854775807:=by first|omega|(simp only [ByteArray.size_append',ByteArray.size_mk',List.size_toArray,List.length_cons,List.length_nil];omega))
 (hc:chk dr ops i o ⟨fpO (AS.ev ⟨tm,hp,gn,us,L⟩) o,[],[],.c (.v (.string (a++b)))⟩ H=true:=by first|(with_reducible exact bg)|kernel_rfl):Walk prog ops Q C dr H (i :: r) ⟨tm,hp,gn,us,L⟩:=by
 refine⟨o,_,hop,ij (y:=.string (a++b)) hop hg rfl fun ev w he=>?_,fun n hn=>absurd hn List.not_mem_nil,dM hc,cv ?_⟩
 ·have e:o.op.operands=#[xo,yo]:=by rw [ho];rfl
  exact zl ho hT hs ev w (he xo (by rw [e];simp) _ (by rw [hx];rfl)) (he yo (by rw [e];simp) _ (by rw [hy];rfl))
 ·show Walk prog ops Q C dr _ r (AS.put _ o.dst _)
  rw [hd,dz (by exact dy ht)];exact h
end
def bAt (s:ByteArray)(j:Nat):Nat:=(s.data[j]?.getD 0).toNat
theorem dm (s:ByteArray)(j:Nat):bAt s j<256:=UInt8.toNat_lt _
theorem zm {s:ByteArray}{j:Nat}(h:j<s.size):(s[j]'h).toNat=bAt s j:=by
 unfold bAt
 have h':j<s.data.size:=h
 rw [Array.getElem?_eq_getElem h']
 rfl
def bu (s:ByteArray)(a b:Nat):ByteArray:=s.extract a b
theorem bR {s:ByteArray}{a b:Nat}(h1:a≤b)(h2:b≤s.size):(bu s a b).size=b-a:=by
 unfold bu
 rw [ByteArray.size_extract]
 omega
theorem dJ {s:ByteArray}{a b j:Nat}(h2:b≤s.size)(hj:j<b-a):bAt (bu s a b) j=bAt s (a+j):=by
 unfold bAt bu
 rw [ByteArray.data_extract,Array.getElem?_extract]
 have:b≤s.data.size:=h2
 rw [if_pos omq]
section
variable {ops:Array Oper}{Q:Exit→Act→World→Prop}{C:Ctx}{H H':List (Nat×Oper×Inf)}{i:Nat}{r:List Nat}{o:Oper}{dr:Bool}
variable {tm:Nat→AV}{hp:Nat→Option Row}{gn L:Nat}{us:List Nat}
theorem zn {P:Program}{T:TypeId}{xo io:Operand}{s:ByteArray}{kd:IntKind}{z:Int}{j:Nat}(ho:o.op=.index T xo io)(hT:P.underlying T=some .string)(hz:z=(j:Int))(hj:j<s.size)(ev:Operand→Value)(w:World)(hx:ev xo=.string s)(hi:ev io=.int kd z):(execOp ev o).run P w=.ok (.value (.int .u8 (bAt s j))) w:=by
 subst hz
 unfold execOp
 rw [ho]
 simp only [hx,hi]
 have h:=run_index_string (P:=P) w T s kd (j:Int) hT
 rw [dif_pos ⟨omq,omq⟩] at h
 simp [Sem.run_bind,h,zm hj]
theorem x_six {t j:Nat}{T:TypeId}{xo io:Operand}{s:ByteArray}{kd:IntKind}{z:Int}(h:Walk prog ops Q C dr (bB dr (i,o,⟨fpO (AS.ev ⟨tm,hp,gn,us,L⟩) o,[],[],.c (.v (.int .u8 (bAt s j)))⟩) H) r ⟨upd tm t (.c (.v (.int .u8 (bAt s j)))),hp,gn,us,L⟩)
 (hop:ops[i]? = some o:=by exact rfl) (ho:o.op=.index T xo io:=by exact rfl) (hT:(prog).underlying T=some .string:=by exact underlying9) (hd:o.dst=some t:=by exact rfl) (ht:Nat.blt t L=true:=by exact rfl) (hg:gw ops tm o=some true:=by exact rfl)
 (hx:AS.ev ⟨tm,hp,gn,us,L⟩ xo=.c (.v (.string s)):=by exact rfl) (hi:AS.ev ⟨tm,hp,gn,us,L⟩ io=.c (.v (.int kd z)):=by exact rfl) (hz:z=(j:Int):=by first|assumption|rfl) (hj:j<s.size:=by first|assumption|omega|(simp only [beq_iff_eq,decide_eq_true_iff] at *;omega))
 (hc:chk dr ops i o ⟨fpO (AS.ev ⟨tm,hp,gn,us,L⟩) o,[],[],.c (.v (.int .u8 (bAt s j)))⟩ H=true:=by first|(with_reducible exact bg)|kernel_rfl):Walk prog ops Q C dr H (i :: r) ⟨tm,hp,gn,us,L⟩:=by
 refine⟨o,_,hop,ij (y:=.int .u8 (bAt s j)) hop hg rfl fun ev w he=>?_,fun n hn=>absurd hn List.not_mem_nil,dM hc,cv ?_⟩
 ·have e:o.op.operands=#[xo,io]:=by rw [ho];rfl
  exact zn ho hT hz hj ev w (he xo (by rw [e];simp) _ (by rw [hx];rfl)) (he io (by rw [e];simp) _ (by rw [hi];rfl))
 ·show Walk prog ops Q C dr _ r (AS.put _ o.dst _)
  rw [hd,dz (by exact dy ht)];exact h
theorem zo {P:Program}{T:TypeId}{xo lo hi:Operand}{s:ByteArray}{k1 k2:IntKind}{y z:Int}{a b:Nat}(ho:o.op=.slice T xo (some lo) (some hi) none)(hT:P.underlying T=some .string)(hy:y=(a:Int))(hz:z=(b:Int))(h1:a≤b)(h2:b≤s.size)(ev:Operand→Value)(w:World)(hx:ev xo=.string s)(hl:ev lo=.int k1 y)(hh:ev hi=.int k2 z):(execOp ev o).run P w=.ok (.value (.string (bu s a b))) w:=by
 subst hy hz
 unfold execOp
 rw [ho]
 have h:=run_slice_string (P:=P) w T s k1 k2 (a:Int) (b:Int) hT omq omq omq
 simp only [Int.toNat_natCast] at h
 simp [Sem.run_bind,hx,hl,hh,run_sliceAt_string w _ _ _ _ _ hT,h,bu]
theorem zp {P:Program}{T:TypeId}{xo lo:Operand}{s:ByteArray}{k1:IntKind}{y:Int}{a:Nat}(ho:o.op=.slice T xo (some lo) none none)(hT:P.underlying T=some .string)(hy:y=(a:Int))(h1:a≤s.size)(ev:Operand→Value)(w:World)(hx:ev xo=.string s)(hl:ev lo=.int k1 y):(execOp ev o).run P w=.ok (.value (.string (bu s a s.size))) w:=by
 subst hy
 unfold execOp
 rw [ho]
 have h:=run_slice_string_l (P:=P) w T s hT k1 (a:Int) omq omq
 simp only [Int.toNat_natCast] at h
 simp [Sem.run_bind,hx,hl,run_sliceAt_string w _ _ _ _ _ hT,h,bu]
theorem zq {P:Program}{T:TypeId}{xo hi:Operand}{s:ByteArray}{k2:IntKind}{z:Int}{b:Nat}(ho:o.op=.slice T xo none (some hi) none)(hT:P.underlying T=some .string)(hz:z=(b:Int))(h2:b≤s.size)(ev:Operand→Value)(w:World)(hx:ev xo=.string s)(hh:ev hi=.int k2 z):(execOp ev o).run P w=.ok (.value (.string (bu s 0 b))) w:=by
 subst hz
 unfold execOp
 rw [ho]
 have h:=run_slice_string_h (P:=P) w T s hT k2 (b:Int) omq omq
 simp only [Int.toNat_natCast] at h
 simp [Sem.run_bind,hx,hh,run_sliceAt_string w _ _ _ _ _ hT,h,bu]
theorem x_ssl {t a b:Nat}{T:TypeId}{xo lo hi:Operand}{s:ByteArray}{k1 k2:IntKind}{y z:Int}(h:Walk prog ops Q C dr (bB dr (i,o,⟨fpO (AS.ev ⟨tm,hp,gn,us,L⟩) o,[],[],.c (.v (.string (bu s a b)))⟩) H) r ⟨upd tm t (.c (.v (.string (bu s a b)))),hp,gn,us,L⟩)
 (hop:ops[i]? = some o:=by exact rfl) (ho:o.op=.slice T xo (some lo) (some hi) none:=by exact rfl) (hT:(prog).underlying T=some .string:=by exact underlying9) (hd:o.dst=some t:=by exact rfl) (ht:Nat.blt t L=true:=by exact rfl) (hg:gw ops tm o=some true:=by exact rfl)
 (hx:AS.ev ⟨tm,hp,gn,us,L⟩ xo=.c (.v (.string s)):=by exact rfl) (hl:AS.ev ⟨tm,hp,gn,us,L⟩ lo=.c (.v (.int k1 y)):=by exact rfl) (hh:AS.ev ⟨tm,hp,gn,us,L⟩ hi=.c (.v (.int k2 z)):=by exact rfl) (hy:y=(a:Int):=by first|assumption|rfl) (hz:z=(b:Int):=by first|assumption|rfl) (h1:a≤b:=by first|assumption|omega) (h2:b≤s.size:=by first|assumption|omega)
 (hc:chk dr ops i o ⟨fpO (AS.ev ⟨tm,hp,gn,us,L⟩) o,[],[],.c (.v (.string (bu s a b)))⟩ H=true:=by first|(with_reducible exact bg)|kernel_rfl):Walk prog ops Q C dr H (i :: r) ⟨tm,hp,gn,us,L⟩:=by
 refine⟨o,_,hop,ij (y:=.string (bu s a b)) hop hg rfl fun ev w he=>?_,fun n hn=>absurd hn List.not_mem_nil,dM hc,cv ?_⟩
 ·have e:o.op.operands.toList=[xo,lo,hi]:=by rw [ho];rfl
  have e':∀q∈[xo,lo,hi],q∈o.op.operands:=fun q hq=>by rw [←e] at hq;exact Array.mem_toList_iff.1 hq
  exact zo ho hT hy hz h1 h2 ev w (he xo (e' _ (by simp)) _ (by rw [hx];rfl)) (he lo (e' _ (by simp)) _ (by rw [hl];rfl)) (he hi (e' _ (by simp)) _ (by rw [hh];rfl))
 ·show Walk prog ops Q C dr _ r (AS.put _ o.dst _)
  rw [hd,dz (by exact dy ht)];exact h
theorem x_ssf {t a:Nat}{T:TypeId}{xo lo:Operand}{s:ByteArray}{k1:IntKind}{y:Int}(h:Walk prog ops Q C dr (bB dr (i,o,⟨fpO (AS.ev ⟨tm,hp,gn,us,L⟩) o,[],[],.c (.v (.string (bu s a s.size)))⟩) H) r ⟨upd tm t (.c (.v (.string (bu s a s.size)))),hp,gn,us,L⟩)
 (hop:ops[i]? = some o:=by exact rfl) (ho:o.op=.slice T xo (some lo) none none:=by exact rfl) (hT:(prog).underlying T=some .string:=by exact underlying9) (hd:o.dst=some t:=by exact rfl) (ht:Nat.blt t L=true:=by exact rfl) (hg:gw ops tm o=some true:=by exact rfl)
 (hx:AS.ev ⟨tm,hp,gn,us,L⟩ xo=.c (.v (.string s)):=by exact rfl) (hl:AS.ev ⟨tm,hp,gn,us,L⟩ lo=.c (.v (.int k1 y)):=by exact rfl) (hy:y=(a:Int):=by first|assumption|rfl) (h1:a≤s.size:=by first|assumption|omega)
 (hc:chk dr ops i o ⟨fpO (AS.ev ⟨tm,hp,gn,us,L⟩) o,[],[],.c (.v (.string (bu s a s.size)))⟩ H=true:=by first|(with_reducible exact bg)|kernel_rfl):Walk prog ops Q C dr H (i :: r) ⟨tm,hp,gn,us,L⟩:=by
 refine⟨o,_,hop,ij (y:=.string (bu s a s.size)) hop hg rfl fun ev w he=>?_,fun n hn=>absurd hn List.not_mem_nil,dM hc,cv ?_⟩
 ·have e:o.op.operands.toList=[xo,lo]:=by rw [ho];rfl
  have e':∀q∈[xo,lo],q∈o.op.operands:=fun q hq=>by rw [←e] at hq;exact Array.mem_toList_iff.1 hq
  exact zp ho hT hy h1 ev w (he xo (e' _ (by simp)) _ (by rw [hx];rfl)) (he lo (e' _ (by simp)) _ (by rw [hl];rfl))
 ·show Walk prog ops Q C dr _ r (AS.put _ o.dst _)
  rw [hd,dz (by exact dy ht)];exact h
theorem x_sst {t b:Nat}{T:TypeId}{xo hi:Operand}{s:ByteArray}{k2:IntKind}{z:Int}(h:Walk prog ops Q C dr (bB dr (i,o,⟨fpO (AS.ev ⟨tm,hp,gn,us,L⟩) o,[],[],.c (.v (.string (bu s 0 b)))⟩) H) r ⟨upd tm t (.c (.v (.string (bu s 0 b)))),hp,gn,us,L⟩)
 (hop:ops[i]? = some o:=by exact rfl) (ho:o.op=.slice T xo none (some hi) none:=by exact rfl) (hT:(prog).underlying T=some .string:=by exact underlying9) (hd:o.dst=some t:=by exact rfl) (ht:Nat.blt t L=true:=by exact rfl) (hg:gw ops tm o=some true:=by exact rfl)
 (hx:AS.ev ⟨tm,hp,gn,us,L⟩ xo=.c (.v (.string s)):=by exact rfl) (hh:AS.ev ⟨tm,hp,gn,us,L⟩ hi=.c (.v (.int k2 z)):=by exact rfl) (hz:z=(b:Int):=by first|assumption|rfl) (h2:b≤s.size:=by first|assumption|omega)
 (hc:chk dr ops i o ⟨fpO (AS.ev ⟨tm,hp,gn,us,L⟩) o,[],[],.c (.v (.string (bu s 0 b)))⟩ H=true:=by first|(with_reducible exact bg)|kernel_rfl):Walk prog ops Q C dr H (i :: r) ⟨tm,hp,gn,us,L⟩:=by
 refine⟨o,_,hop,ij (y:=.string (bu s 0 b)) hop hg rfl fun ev w he=>?_,fun n hn=>absurd hn List.not_mem_nil,dM hc,cv ?_⟩
 ·have e:o.op.operands.toList=[xo,hi]:=by rw [ho];rfl
  have e':∀q∈[xo,hi],q∈o.op.operands:=fun q hq=>by rw [←e] at hq;exact Array.mem_toList_iff.1 hq
  exact zq ho hT hz h2 ev w (he xo (e' _ (by simp)) _ (by rw [hx];rfl)) (he hi (e' _ (by simp)) _ (by rw [hh];rfl))
 ·show Walk prog ops Q C dr _ r (AS.put _ o.dst _)
  rw [hd,dz (by exact dy ht)];exact h
def xm:Op→Bool
 | .binOp .add ..=>true
 | .binOp .sub ..=>true
 | .binOp .mul ..=>true
 | .convert ..=>true
 | _=>false
theorem nS {t:Nat}{z:Int}(h:Walk prog ops Q C dr (bB dr (i,o,⟨fpO (AS.ev ⟨tm,hp,gn,us,L⟩) o,[],[],.c (.v (.int .i64 z))⟩) H) r ⟨upd tm t (.c (.v (.int .i64 z))),hp,gn,us,L⟩)
 (hop:ops[i]? = some o:=by exact rfl) (hb:xm o.op=true:=by exact rfl) (hd:o.dst=some t:=by exact rfl) (ht:Nat.blt t L=true:=by exact rfl) (hg:gw ops tm o=some true:=by exact rfl)
 (he:EffD prog o (AS.ev ⟨tm,hp,gn,us,L⟩) hp 0=some (.c (.v (.int .i64 (IntKind.i64.wrap z))),.nop):=by rfl) (hz : -9223372036854775808≤z∧z≤9223372036854775807:=by omega)
 (hc:chk dr ops i o ⟨fpO (AS.ev ⟨tm,hp,gn,us,L⟩) o,[],[],.c (.v (.int .i64 z))⟩ H=true:=by first|(with_reducible exact bg)|kernel_rfl):Walk prog ops Q C dr H (i :: r) ⟨tm,hp,gn,us,L⟩ :=
 w_eq hop hd ht hg he (by rw [show IntKind.i64.wrap z=z by rw [IntKind.wrap_i64];omega]) hc h
theorem xn {P:Program}{s d:TypeId}{xo:Operand}{k:IntKind}{c:Nat}(ho:o.op=.convert s d xo)(hs:P.underlying s=some (.int k))(hd:P.underlying d=some .string)(hc:c<128)(ev:Operand→Value)(w:World)(hx:ev xo=.int k (c:Int)):(execOp ev o).run P w=.ok (.value (.string ⟨#[UInt8.ofNat c]⟩)) w:=by
 unfold execOp
 rw [ho]
 have hv:Utf8.valid (c:Int)=true:=by
  unfold Utf8.valid
  simp
  omega
 simp [Sem.run_bind,hx,convert,run_underlying hs,run_underlying hd,Conv.intToString,Utf8.encode,hv,show c<128 from hc]
theorem zv3 {t c:Nat}{s d:TypeId}{xo:Operand}{k:IntKind}(h:Walk prog ops Q C dr (bB dr (i,o,⟨fpO (AS.ev ⟨tm,hp,gn,us,L⟩) o,[],[],.c (.v (.string ⟨#[UInt8.ofNat c]⟩))⟩) H) r ⟨upd tm t (.c (.v (.string ⟨#[UInt8.ofNat c]⟩))),hp,gn,us,L⟩)
 (hop:ops[i]? = some o:=by exact rfl) (ho:o.op=.convert s d xo:=by exact rfl) (hd:o.dst=some t:=by exact rfl) (ht:Nat.blt t L=true:=by exact rfl) (hg:gw ops tm o=some true:=by exact rfl)
 (hx:AS.ev ⟨tm,hp,gn,us,L⟩ xo=.c (.v (.int k (c:Int))):=by exact rfl) (hs:(prog).underlying s=some (.int k):=by kernel_rfl) (hdd:(prog).underlying d=some .string:=by kernel_rfl) (hcl:c<128:=by first|assumption|omega)
 (hc:chk dr ops i o ⟨fpO (AS.ev ⟨tm,hp,gn,us,L⟩) o,[],[],.c (.v (.string ⟨#[UInt8.ofNat c]⟩))⟩ H=true:=by first|(with_reducible exact bg)|kernel_rfl):Walk prog ops Q C dr H (i :: r) ⟨tm,hp,gn,us,L⟩:=by
 refine⟨o,_,hop,ij (y:=.string ⟨#[UInt8.ofNat c]⟩) hop hg rfl fun ev w he=>?_,fun n hn=>absurd hn List.not_mem_nil,dM hc,cv ?_⟩
 ·have e:o.op.operands=#[xo]:=by rw [ho];rfl
  exact xn ho hs hdd hcl ev w (he xo (by rw [e];simp) _ (by rw [hx];rfl))
 ·show Walk prog ops Q C dr _ r (AS.put _ o.dst _)
  rw [hd,dz (by exact dy ht)];exact h
theorem x_cad {t:Nat}{c:Call}{fv:Operand}{f:FuncId}{caps:List AC}{args ins:List AV}{par:List AC}{rows:List (List AC)}{res:AV}{nv:AV}{nr:List (Nat×Row)}(lr:Nat)(hctr:Ctr prog f ins [par] res rows)(h:Walk prog ops Q C dr (bB dr (i,o,cF ⟨tm,hp,gn,us,L⟩ (args.flatMap snV) [lr] [] (100*(t+1)) res rows) H) r ⟨upd tm t nv,eW hp (eh hp [lr] rows++[]++nr.map (fun p=>(p.1,some p.2))),gn,nr.map (·.1)++us,L⟩)(hop:ops[i]? = some o:=by exact rfl)(hoc:o.op=.call c:=by exact rfl)(hcal:c.callee=.value fv:=by exact rfl)(hd:o.dst=some t:=by exact rfl)(ht:Nat.blt t L=true:=by exact rfl)(hg:gw ops tm o=some true:=by exact rfl)(hfv:AS.ev ⟨tm,hp,gn,us,L⟩ fv=.c (.fn f caps):=by exact rfl)(hargs:bl ⟨tm,hp,gn,us,L⟩ c caps=args:=by exact rfl)(hcv:args.map (cvV hp [lr])=ins:=by exact wH)(hl:ig hp [lr]=some [par]:=by exact bz (by rfl) (by first|rfl|(simp [nR,bi,clo,bc,aG,bf,aV,aW];done)))(hRD:((args.flatMap snV).all fun z=>![lr].contains z)=true:=by exact rfl)(hmm:(dv res=true∧∀c∈rows,da c=true)∨((args.flatMap snV).all fun z=>([]:List Nat).contains z)=true:=by first|exact .inr rfl|exact .inl ⟨by (first|rfl|exact bL _|(simp [dv,ec,da,jV,bL,cU,cI];done)),rofr_one (by (first|rfl|exact bL _|(simp [dv,ec,da,jV,bL,cU,cI];done)))⟩)(hopn:opV (100*(t+1)) res=(nv,nr):=by exact rfl)(hf:(nr.all fun p=>Nat.ble gn p.1&&!us.contains p.1)=true:=by exact rfl)(hc:chk dr ops i o (cF ⟨tm,hp,gn,us,L⟩ (args.flatMap snV) [lr] [] (100*(t+1)) res rows) H=true:=by first|(with_reducible exact bg)|kernel_rfl):Walk prog ops Q C dr H (i :: r) ⟨tm,hp,gn,us,L⟩ :=
 qx (100*(t+1)) [lr] [] hop hoc hcal hd ht hg hfv hargs hl (by rw [hcv];exact hctr) hRD rfl hmm hopn hf hc h
end
section
variable {P:Program}{Q:Exit→AS→Prop}{σ:AS}
theorem qB {tm:Nat→AV}{t:Nat}{x:AV}(h:tm t=x):upd tm t x=tm:=by
 funext j
 by_cases e:j=t
 ·subst e;rw [aJ,h]
 ·rw [aX _ _ e]
theorem ae {tm:Nat→AV}{hp:Nat→Option Row}{gn L:Nat}{us:List Nat}{x y:Code}{t:Nat}{b:Bool}(hc:tm t=.c (.v (.bool b)))(h1:b=true→AWp P x Q ⟨upd tm t (.c (.v (.bool true))),hp,gn,us,L⟩)(h2:b=false→AWp P y Q ⟨upd tm t (.c (.v (.bool false))),hp,gn,us,L⟩):AWp P (.cond (.tmp t) x y) Q ⟨tm,hp,gn,us,L⟩:=by
 refine cS (t:=b) hc (fun hb=>?_) fun hb=>?_
 ·have:=h1 hb
  rwa [qB (by rw [hc,hb])] at this
 ·have:=h2 hb
  rwa [qB (by rw [hc,hb])] at this
theorem qC {x y:Code}(τ:AS)(h:AWp P x (xa (fun σ'=>Gh σ' τ) Q) σ)(k:AWp P y Q τ):AWp P (.seq x y) Q σ :=
 ac (w9 h fun e σ' he=>by
  cases e with
  | normal=>exact bk he k
  | exit id=>exact he
  | goto l=>exact he
  | ret=>exact he
  | panic c=>exact he
  | outgrown=>exact he)
theorem gQ {id:Nat}{ops:Array Oper}{dr:Bool}{y:Code}(h:AWp P (.region id ops dr) (xa (AWp P y Q) Q) σ):AWp P (.seq (.region id ops dr) y) Q σ:=ac h
end
theorem zw3 {ρ:Nat→Option Nat}{b b':Bool}(h:b=b'):rnV ρ (.c (.v (.bool b)))=some (.c (.v (.bool b'))):=by subst h;rfl
theorem mA {ρ:Nat→Option Nat}{x:AV}{b b':Bool}(hx:x=.c (.v (.bool b)))(h:Hid (b=b')):rnV ρ x=some (.c (.v (.bool b'))):=by subst hx;exact zw3 h.out
end Go.Proofs.YtomolhbkdhjofaaGreatDoor
