/- T -/
import Derived.Shelf.Strings.Prefix
import Derived.Stop.IfaceNil
import Derived.Test.YtomolhbkdhjofaaGreatDoorExAK
set_option maxHeartbeats 0
set_option maxRecDepth 100000
namespace Go.Proofs.YtomolhbkdhjofaaGreatDoor
open Go.RowKit Go.Proofs.Tryz
theorem uR:∀(l:List UInt8) (acc:Nat),acc≤jO acc l
 | [],acc=>Nat.le_refl _
 | c :: r,acc=>by
  have:=uR r (acc*10+(c.toNat-48))
  unfold jO
  omega
def digL (l:List UInt8):Prop:=∀c∈l,48≤c.toNat∧c.toNat≤57
theorem n8:∀(l:List UInt8) (acc:Nat),digL l→acc<18446744073709551616→Lib.parseUint10 acc l=if jO acc l<18446744073709551616 then .ok (jO acc l) else .range
 | [],acc,_,h=>by
  unfold Lib.parseUint10 jO
  rw [if_pos h]
 | c :: r,acc,hd,h=>by
  have h1:=hd c List.mem_cons_self
  have h2:digL r:=fun x hx=>hd x (List.mem_cons_of_mem _ hx)
  have h3:=uR r (acc*10+(c.toNat-48))
  unfold Lib.parseUint10 jO
  rw [if_pos h1]
  by_cases h4:1844674407370955162≤acc
  ·rw [if_pos h4,if_neg omq]
  ·rw [if_neg h4]
   by_cases h5:18446744073709551616≤acc*10+(c.toNat-48)
   ·rw [if_pos h5,if_neg omq]
   ·rw [if_neg h5]
    exact n8 r _ h2 omq
theorem qM {l:List UInt8}(hne:l≠[])(hd:digL l):Lib.atoiAll l=if jO 0 l<9223372036854775808 then .ok (jO 0 l:Int) else .range:=by
 cases l with
 | nil=>exact absurd rfl hne
 | cons c r =>
  have h1:=hd c List.mem_cons_self
  unfold Lib.atoiAll
  dsimp only
  rw [if_neg (show ¬(c.toNat=43∨c.toNat=45) by omega)]
  unfold Lib.parseMag
  rw [if_neg (by simp),n8 _ 0 hd omq]
  generalize jO 0 (c :: r)=v
  by_cases h2:v<18446744073709551616
  ·rw [if_pos h2]
   dsimp only
   by_cases h3:v<9223372036854775808
   ·rw [if_neg omq,if_neg omq,if_pos h3,if_neg omq]
   ·rw [if_pos omq,if_neg h3]
  ·rw [if_neg h2,if_neg omq]
theorem uS:∀(n:Nat) (l:List UInt8),l.length≤n→l≠[]→digL l→(l.length=1∨∀c r,l=c :: r→c.toNat≠48)→Lib.decDigits (jO 0 l)=l∧(l.length≠1→10≤jO 0 l)∧((∀c r,l=c :: r→c.toNat≠48)→1≤jO 0 l)
 | 0,l,h,hne,_,_=>absurd (List.eq_nil_of_length_eq_zero omq) hne
 | n+1,l,h,hne,hd,hz=>by
  obtain⟨m,x,rfl⟩:∃m x,l=m++[x]:=⟨l.dropLast,l.getLast hne,(List.dropLast_concat_getLast hne).symm⟩
  have hx:=hd x (by simp)
  have hv:jO 0 (m++[x])=jO 0 m*10+(x.toNat-48):=by rw [mJ,qK]
  have hx2:UInt8.ofNat (48+(x.toNat-48))=x:=by rw [show 48+(x.toNat-48)=x.toNat by omega,UInt8.ofNat_toNat]
  rw [hv]
  cases m with
  | nil =>
   have e:jO 0 ([]:List UInt8)=0:=rfl
   rw [e]
   refine⟨by rw [eP omq,Nat.zero_mul,Nat.zero_add,hx2];rfl,fun h=>absurd rfl h,fun h=>?_⟩
   have:=h x [] rfl
   omega
  | cons c r =>
   have hz2:c.toNat≠48:=by
    rcases hz with h|h
    ·simp at h
    ·exact h c (r++[x]) rfl
   obtain⟨e1,e2,e3⟩:=uS n (c :: r) (by simp at h ⊢;omega) (by simp) (fun y hy=>hd y (List.mem_append_left _ hy)) (.inr fun c' r' e=>by injection e with e _;rw [←e];exact hz2)
   have e4:=e3 fun c' r' e=>by injection e with e _;rw [←e];exact hz2
   refine⟨?_,fun _=>by omega,fun _=>by omega⟩
   rw [kA omq,show (jO 0 (c :: r)*10+(x.toNat-48)) / 10=jO 0 (c :: r) by omega,show (jO 0 (c :: r)*10+(x.toNat-48)) % 10=x.toNat-48 by omega,hx2,e1]
theorem zmQ:∀(n k:Nat),k≤n→Lib.decDigits k≠[]
 | n,k,_=>by
  by_cases h:k<10
  ·rw [eP h];simp
  ·rw [kA h];simp
theorem qN:∀(n k:Nat) (r:List UInt8),k≤n→Lib.decDigits k=48 :: r→r=[]∧k=0
 | n,k,r,hk,h=>by
  by_cases h1:k<10
  ·rw [eP h1] at h
   injection h with h2 h3
   have h4:=congrArg UInt8.toNat h2
   rw [UInt8.toNat_ofNat'] at h4
   have h5:(48:UInt8).toNat=48:=rfl
   exact⟨h3.symm,omq⟩
  ·cases n with
   | zero=>omega
   | succ n =>
    rw [kA h1] at h
    cases hd:Lib.decDigits (k / 10) with
    | nil=>exact absurd hd (zmQ _ _ (Nat.le_refl _))
    | cons y t =>
     rw [hd] at h
     injection h with h2 h3
     subst h2
     have:=(qN n (k / 10) t omq hd).2
     omega
theorem uT:∀(n k:Nat),k<10 ^ (n+1)→(Lib.decDigits k).length≤n+1
 | 0,k,h=>by rw [eP omq];simp
 | n+1,k,h=>by
  by_cases h1:k<10
  ·rw [eP h1];simp
  ·rw [kA h1,List.length_append,List.length_singleton]
   have:=uT n (k / 10) (by rw [Nat.pow_succ] at h;omega)
   omega
theorem pz {s:ByteArray}(hd:lF cR s=true):digL s.data.toList:=fun c hc=>by
 obtain⟨j,hj,rfl⟩:=List.getElem_of_mem hc
 have hj2:j<s.size:=by rw [Array.length_toList] at hj;exact hj
 have h1:cR (bAt s j)=true:=by simp only [lF,decide_eq_true_iff] at hd;exact hd j hj2
 have h2:=mK hj2
 rw [List.getElem?_eq_getElem hj] at h2
 injection h2 with h2
 rw [h2,UInt8.toNat_ofNat',Nat.mod_eq_of_lt (dm s j)]
 simpa [cR] using h1
theorem znQ {s:ByteArray}(hd:lF cR s=true)(h1:1≤s.size):(lw s≤2147483647∧iE (lw s:Int)=s)↔cq 1 (wL s) ByteArray.empty=true:=by
 have hne:s.data.toList≠[]:=fun h=>by have:=congrArg List.length h;rw [Array.length_toList] at this;have:s.size=0:=this;omega
 have hdL:=pz hd
 have hlen:s.data.toList.length=s.size:=Array.length_toList
 have hh:s.data.toList[0]? = some (UInt8.ofNat (bAt s 0)):=mK omq
 have hmod:(UInt8.ofNat (bAt s 0)).toNat=bAt s 0:=by rw [UInt8.toNat_ofNat',Nat.mod_eq_of_lt (dm s 0)]
 have hnum:iE (lw s:Int)=s↔Lib.decDigits (lw s)=s.data.toList:=by
  rw [qI]
  constructor
  ·intro h
   have:=congrArg (fun x:ByteArray=>x.data.toList) h
   simpa using this
  ·intro h
   rw [h]
 rw [hnum]
 have htk:cq 1 (wL s) ByteArray.empty=true↔0≤wL s∧wL s≤2147483647:=by
  unfold cq
  rw [if_pos rfl]
  simp
 rw [htk]
 have hhead:∀c r,s.data.toList=c :: r→c.toNat=bAt s 0:=fun c r e=>by
  rw [e] at hh
  have:c=UInt8.ofNat (bAt s 0):=by simpa using hh
  rw [this,hmod]
 constructor
 ·rintro ⟨a1,a2⟩
  have b1:s.size≤10:=by
   rw [←hlen,←a2]
   exact uT 9 _ (Nat.lt_of_le_of_lt a1 (by decide))
  have b2:¬(1<s.size∧bAt s 0=48):=fun ⟨c1,c2⟩=>by
   cases hl:s.data.toList with
   | nil=>exact hne hl
   | cons c r =>
    have h4:=hhead c r hl
    have h5:c=48:=UInt8.toNat_inj.1 (by rw [h4,c2];rfl)
    subst h5
    rw [hl] at a2
    have:=(qN _ _ r (Nat.le_refl _) a2).1
    subst this
    rw [hl] at hlen
    simp at hlen
    omega
  rw [j0 ⟨h1,b1,b2⟩]
  omega
 ·rintro ⟨a1,a2⟩
  by_cases hb:1≤s.size∧s.size≤10∧¬(1<s.size∧bAt s 0=48)
  ·rw [j0 hb] at a2
   refine⟨omq,?_⟩
   refine (uS _ _ (Nat.le_refl _) hne hdL ?_).1
   by_cases h2:s.size=1
   ·left;omega
   ·right
    intro c r e
    rw [hhead c r e]
    exact fun h=>hb.2.2 ⟨omq,h⟩
  ·rw [pw hb] at a1
   omega
theorem jc {P:Program}{f:FuncId}{ins:List AV}{res:AV}(he:w7 P f=true)
 (hc:∀(w:World) (St:Nat→Prop) (φ:Nat→Lc) (K:Nat→Prop) (us:List Value),Gl w→VRL w St φ K ins us→Calls P f us.toArray w fun e w'=>∃v,e=.returned v∧VRF w' (fun _=>False) φ0 K0 res v []∧Below w.heap.size w w'):Ctr P f ins [] res []:=by
 refine⟨he,fun w St φ F us' hent=>?_⟩
 refine (hc w St φ _ us' hent.gl.1 hent.args).mono ?_
 rintro e w' ⟨v,rfl,hv,hb⟩
 exact⟨_,_,v,fun _=>False,fun _=>[],[],⟨rfl,rfl⟩,rfl,⟨⟨hb.os,hb.tape,hb.output,hb.size,fun b hlt _=>.inl (hb.block b hlt)⟩,hv,by simp,rfl,fun i cs hi=>by simp at hi,fun i hi=>by simp at hi,fun i hi=>by simp at hi,fun i j hi=>by simp at hi,fun i b lo hi=>by simp at hi,fun b hb=>by simp at hb,fun b hb=>hb.elim⟩⟩
theorem vrf_2 {w:World}{St:Nat→Prop}{φ:Nat→Lc}{K:Nat→Prop}{a b:Value}{x y:AC}(ha:CR w St φ K x a [])(hb:CR w St φ K y b []):VRF w St φ K (.tu [.c x,.c y]) (.tuple #[a,b]) []:=by
 simp only [VRF]
 refine⟨[a,b],rfl,?_⟩
 simp only [VRFL]
 refine⟨a,[b],[],[],rfl,rfl,?_,b,[],[],[],rfl,rfl,?_,rfl,rfl⟩
 ·simp only [VRF];exact ha
 ·simp only [VRF];exact hb
theorem zd1 {s:ByteArray}(hd:lF cR s=true)(h1:1≤s.size)(hs:s.size≤1048576)(hv:lw s<9223372036854775808):Ctr prog 64 [.c (.v (.string s))] [] (.tu [.c (.v (.int .i64 (lw s:Int))),.c (.v .nilIface)]) []:=by
 have hne:s.data.toList≠[]:=fun h=>by have:=congrArg List.length h;rw [Array.length_toList] at this;have:s.size=0:=this;omega
 refine jc (by kernel_rfl) fun w St φ K us gw h=>?_
 simp only [VRL,VR,CR] at h
 obtain⟨u,us1,rfl,⟨rfl,-⟩,rfl⟩:=h
 refine (Go.Proofs.Any.strconv_Atoi_ok qL s omq (lw s:Int) (by rw [qM hne (pz hd)];exact if_pos hv) w).mono ?_
 rintro e w' ⟨rfl,hw⟩
 refine⟨_,rfl,vrf_2 (by simp only [CR];exact⟨trivial,rfl,trivial⟩) (by simp only [CR];exact⟨trivial,rfl,trivial⟩),?_⟩
 rcases hw with rfl|⟨t,rfl⟩
 ·exact Below.refl _ _
 ·exact Lib.bytesWorld_below w _ t
theorem ze1 {s:ByteArray}(hd:lF cR s=true)(h1:1≤s.size)(hs:s.size≤1048576)(hv:¬lw s<9223372036854775808):Ctr prog 64 [.c (.v (.string s))] [] (.tu [.c (.v (.int .i64 (Lib.atoiSat s.data.toList))),.c .nn]) []:=by
 have hne:s.data.toList≠[]:=fun h=>by have:=congrArg List.length h;rw [Array.length_toList] at this;have:s.size=0:=this;omega
 refine jc (by kernel_rfl) fun w St φ K us gw h=>?_
 simp only [VRL,VR,CR] at h
 obtain⟨u,us1,rfl,⟨rfl,-⟩,rfl⟩:=h
 obtain⟨te,pe,hev⟩:=rK gw
 refine (Go.Proofs.Any.strconv_Atoi_range qL s omq (by rw [qM hne (pz hd)];exact if_neg hv) _ w hev (.inr ⟨_,_,rfl⟩)).mono ?_
 rintro e w' ⟨N,rfl,-,-,hb⟩
 exact⟨_,rfl,vrf_2 (by simp only [CR];exact⟨trivial,rfl,trivial⟩) (by simp only [CR];exact⟨trivial,_,_,rfl⟩),hb⟩
def hpS (s m:ByteArray):Bool:=Lib.hasPrefix s.data.toList m.data.toList
theorem pA (s m:ByteArray):Ctr prog 102 [.c (.v (.string s)),.c (.v (.string m))] [] (.c (.v (.bool (hpS s m)))) []:=by
 refine jc (by kernel_rfl) fun w St φ K us gw h=>?_
 simp only [VRL,VR,CR] at h
 obtain⟨u,us1,rfl,⟨rfl,-⟩,u2,us2,rfl,⟨rfl,-⟩,rfl⟩:=h
 refine (Go.Proofs.Any.strings_HasPrefix zy3 s m w).mono ?_
 rintro e w' ⟨rfl,rfl⟩
 exact⟨_,rfl,by unfold hpS;simp only [VRF,CR];exact⟨trivial,rfl,trivial⟩,Below.refl _ _⟩
section
variable {ops:Array Oper}{Q:Exit→Act→World→Prop}{C:Ctx}{H:List (Nat×Oper×Inf)}{i:Nat}{r:List Nat}{dr:Bool}
variable {tm:Nat→AV}{hp:Nat→Option Row}{gn L:Nat}{us:List Nat}
theorem mL {P:Program}{o:Oper}{σ:AS}{y:Value}(hop:ops[i]? = some o)(hg:gw ops σ.tm o=some true)(hs1:oV y=true)(hr:∀(ev:Operand→Value) (w:World),(∀z∈o.op.operands,∃St φ K,VR w St φ K (σ.ev z) (ev z))→(execOp ev o).run P w=.ok (.value y) w):Snd P ops Q C i o σ ⟨fpO σ.ev o,[],[],.c (.v y)⟩:=by
 intro τ a w ha hs K hK
 obtain⟨φ,F,St,hs⟩:=hs
 have h3:=hr a.eval w fun z hz=>⟨St,φ,_,by rw [←ha.ev z hz];exact hs.ev z⟩
 unfold wpOp
 rw [hop]
 have hw:=nM hs (b:=true) (by rw [ha.gw];exact hg)
 simp only [hw,if_true]
 refine .inl ?_
 unfold Oper.wp
 rw [h3]
 have h7:=hs.put o.dst (x:=.c (.v y)) (u:=y) (by simp only [VR,CR];exact⟨trivial,hs1,trivial⟩)
 exact hK _ _ ⟨φ,F,St,h7⟩
theorem zz3 {P:Program}{o:Oper}{T ty t:TypeId}{p:Value}{xo:Operand}(ho:o.op=.binOp .neq T xo (.const .nilIface) ty)(hT:P.isIface T=true)(ev:Operand→Value)(w:World)(hx:ev xo=.iface t p)(hy:ev (.const .nilIface)=.nilIface):(execOp ev o).run P w=.ok (.value (.bool true)) w:=by
 unfold execOp
 rw [ho]
 simp only [hx,hy]
 simp [Sem.run_bind,eqGuard,run_neq_iface_nil w T hT t p]
theorem o_nn {t:Nat}{gd:Option (Nat×Bool)}{ps:String}{af:Array Edge}{ty ty':TypeId}{xo:Operand}(h:Walk prog ops Q C dr (bB dr (i,(⟨some t,.binOp .neq 83 xo (.const .nilIface) ty',ty,ps,af,gd⟩:Oper),⟨fpO (AS.ev ⟨tm,hp,gn,us,L⟩) (⟨some t,.binOp .neq 83 xo (.const .nilIface) ty',ty,ps,af,gd⟩:Oper),[],[],.c (.v (.bool true))⟩) H) r ⟨upd tm t (.c (.v (.bool true))),hp,gn,us,L⟩)
 (ht:Nat.blt t L=true:=by exact rfl) (hg:gw ops tm (⟨some t,.binOp .neq 83 xo (.const .nilIface) ty',ty,ps,af,gd⟩:Oper)=some true:=by exact rfl) (hx:AS.ev ⟨tm,hp,gn,us,L⟩ xo=.c .nn:=by exact rfl)
 (hc:chk dr ops i (⟨some t,.binOp .neq 83 xo (.const .nilIface) ty',ty,ps,af,gd⟩:Oper) ⟨fpO (AS.ev ⟨tm,hp,gn,us,L⟩) (⟨some t,.binOp .neq 83 xo (.const .nilIface) ty',ty,ps,af,gd⟩:Oper),[],[],.c (.v (.bool true))⟩ H=true:=by first|(with_reducible exact bg)|kernel_rfl):WalkO prog ops Q C dr H i (⟨some t,.binOp .neq 83 xo (.const .nilIface) ty',ty,ps,af,gd⟩:Oper) r ⟨tm,hp,gn,us,L⟩:=⟨fun hop=>by
 refine⟨_,_,hop,mL (y:=.bool true) hop hg rfl fun ev w he=>?_,fun n hn=>absurd hn List.not_mem_nil,dM hc,cv ?_⟩
 ·obtain⟨St,φ,K,h1⟩:=he xo (by show xo∈#[xo,.const .nilIface];simp)
  rw [hx] at h1
  simp only [VR,CR] at h1
  obtain⟨-,t',p,h1⟩:=h1
  obtain⟨St,φ,K,h2⟩:=he (.const .nilIface) (by show _∈#[xo,.const .nilIface];simp)
  have h3:ev (.const .nilIface)=.nilIface:=by
   have h4:VR w St φ K (.c (.v .nilIface)) (ev (.const .nilIface)):=h2
   simp only [VR,CR] at h4
   exact h4.1
  exact zz3 rfl (by kernel_rfl) ev w h1 h3
 ·show Walk prog ops Q C dr _ r (AS.put _ (some t) _)
  rw [dz (by exact dy ht)];exact h⟩
theorem oa (a0 b0:Int)(a1 b1:Int)(a2 b2:ByteArray)(w:World):(Op.equalIn 10000 63 (.agg #[.int .i64 a0,.int .i64 a1,.string a2]) (.agg #[.int .i64 b0,.int .i64 b1,.string b2])).run prog w=.ok ((a0==b0)&&((a1==b1)&&(a2.toList==b2.toList))) w:=by
 rw [run_equalIn_agg w 9999 _ _ _ (by kernel_rfl) (by kernel_rfl)]
 simp only [Program.fieldsOf,underlying63,Op.eqFields]
 simp [go_sem]
 by_cases h0:a0=b0<;>by_cases h1:a1=b1<;>by_cases h2:a2.toList=b2.toList<;>simp [*]
theorem zf1 {t:Nat}{gd:Option (Nat×Bool)}{ps:String}{af:Array Edge}{ty ty':TypeId}{xo yo:Operand}{a0 b0:Int}{a1 b1:Int}{a2 b2:ByteArray}(h:Walk prog ops Q C dr (bB dr (i,(⟨some t,.binOp .eql 63 xo yo ty',ty,ps,af,gd⟩:Oper),⟨fpO (AS.ev ⟨tm,hp,gn,us,L⟩) (⟨some t,.binOp .eql 63 xo yo ty',ty,ps,af,gd⟩:Oper),[],[],.c (.v (.bool ((a0==b0)&&((a1==b1)&&(a2.toList==b2.toList)))))⟩) H) r ⟨upd tm t (.c (.v (.bool ((a0==b0)&&((a1==b1)&&(a2.toList==b2.toList)))))),hp,gn,us,L⟩)
 (ht:Nat.blt t L=true:=by exact rfl) (hg:gw ops tm (⟨some t,.binOp .eql 63 xo yo ty',ty,ps,af,gd⟩:Oper)=some true:=by exact rfl) (hx:AS.ev ⟨tm,hp,gn,us,L⟩ xo=.ag [.v (.int .i64 a0),.v (.int .i64 a1),.v (.string a2)]:=by exact rfl) (hy:AS.ev ⟨tm,hp,gn,us,L⟩ yo=.ag [.v (.int .i64 b0),.v (.int .i64 b1),.v (.string b2)]:=by exact rfl)
 (hc:chk dr ops i (⟨some t,.binOp .eql 63 xo yo ty',ty,ps,af,gd⟩:Oper) ⟨fpO (AS.ev ⟨tm,hp,gn,us,L⟩) (⟨some t,.binOp .eql 63 xo yo ty',ty,ps,af,gd⟩:Oper),[],[],.c (.v (.bool ((a0==b0)&&((a1==b1)&&(a2.toList==b2.toList)))))⟩ H=true:=by first|(with_reducible exact bg)|kernel_rfl):WalkO prog ops Q C dr H i (⟨some t,.binOp .eql 63 xo yo ty',ty,ps,af,gd⟩:Oper) r ⟨tm,hp,gn,us,L⟩ :=
 ⟨fun hop=>w_eqS (xs:=[.int .i64 a0,.int .i64 a1,.string a2]) (ys:=[.int .i64 b0,.int .i64 b1,.string b2]) hop rfl rfl ht hg (by kernel_rfl) (by rw [hx];rfl) (by rw [hy];rfl) (oa a0 b0 a1 b1 a2 b2) (.inl ⟨rfl,rfl⟩) hc h⟩
theorem pB {t:Nat}{gd:Option (Nat×Bool)}{ps:String}{af:Array Edge}{ty ty':TypeId}{xo yo:Operand}{a0 b0:Int}{a1 b1:Int}{a2 b2:ByteArray}(h:Walk prog ops Q C false [] r ⟨upd tm t (.c (.v (.bool ((a0==b0)&&((a1==b1)&&(a2.toList==b2.toList)))))),hp,gn,us,L⟩)(ht:Nat.blt t L=true:=by exact rfl)(hg:gw ops tm (⟨some t,.binOp .eql 63 xo yo ty',ty,ps,af,gd⟩:Oper)=some true:=by exact rfl)(hx:AS.ev ⟨tm,hp,gn,us,L⟩ xo=.ag [.v (.int .i64 a0),.v (.int .i64 a1),.v (.string a2)]:=by exact rfl)(hy:AS.ev ⟨tm,hp,gn,us,L⟩ yo=.ag [.v (.int .i64 b0),.v (.int .i64 b1),.v (.string b2)]:=by exact rfl):WalkO prog ops Q C false [] i (⟨some t,.binOp .eql 63 xo yo ty',ty,ps,af,gd⟩:Oper) r ⟨tm,hp,gn,us,L⟩:=zf1 (dr:=false) (H:=[]) (h:=h) (ht:=ht) (hg:=hg) (hx:=hx) (hy:=hy)
end
theorem mM {s:ByteArray}{a b k:Nat}(hb:b≤s.size):(bu s a b).data.toList[k]? = if a+k<b then some (UInt8.ofNat (bAt s (a+k))) else none:=by
 unfold bu bAt
 rw [Array.getElem?_toList,ByteArray.data_extract,Array.getElem?_extract]
 have e:s.data.size=s.size:=rfl
 by_cases h:a+k<b
 ·rw [if_pos h,if_pos omq,Array.getElem?_eq_getElem (show a+k<s.data.size by omega),Option.getD_some,UInt8.ofNat_toNat]
 ·rw [if_neg h,if_neg omq]
theorem uU {a b:Nat}(ha:a<256)(hb:b<256)(h:UInt8.ofNat a=UInt8.ofNat b):a=b:=by
 have:=congrArg UInt8.toNat h
 rw [UInt8.toNat_ofNat',UInt8.toNat_ofNat'] at this
 omega
theorem uV {s:ByteArray}{a c:Nat}(ha:a≤s.size)(hc:c<256):Lib.indexByte (bu s a s.size).data.toList (UInt8.ofNat c)=if bI (neB c) s s.size a<s.size then ((bI (neB c) s s.size a-a:Nat):Int) else -1:=by
 obtain⟨g1,g2,g3',g4'⟩:=bO (p:=neB c) (s:=s) s.size a ha omq
 have g3:∀j,a≤j→j<bI (neB c) s s.size a→bAt s j≠c:=fun j h1 h2=>by simpa [neB] using g3' j h1 h2
 have g4:bI (neB c) s s.size a<s.size→bAt s (bI (neB c) s s.size a)=c:=fun h=>by simpa [neB] using g4' h
 clear g3' g4'
 have hge:=Lib.indexByte_ge (bu s a s.size).data.toList (UInt8.ofNat c)
 rcases Int.lt_or_le (Lib.indexByte (bu s a s.size).data.toList (UInt8.ofNat c)) 0 with hn|hn
 ·have e:Lib.indexByte (bu s a s.size).data.toList (UInt8.ofNat c) = -1:=by omega
  rw [e]
  have h0:=Lib.indexByte_none e
  by_cases hu:bI (neB c) s s.size a<s.size
  ·exfalso
   have h1:=h0 (bI (neB c) s s.size a-a)
   rw [mM (Nat.le_refl _),if_pos omq,show a+(bI (neB c) s s.size a-a)=bI (neB c) s s.size a by omega,g4 hu] at h1
   exact h1 rfl
  ·rw [if_neg hu]
 ·obtain⟨o,ho⟩:∃o:Nat,Lib.indexByte (bu s a s.size).data.toList (UInt8.ofNat c)=(o:Int):=⟨_,(Int.toNat_of_nonneg hn).symm⟩
  obtain⟨h1,h2⟩:=Lib.indexByte_some ho
  rw [mM (Nat.le_refl _)] at h1
  by_cases hlt:a+o<s.size
  ·rw [if_pos hlt] at h1
   injection h1 with h1
   have h3:=uU (dm _ _) hc h1
   have h4:bI (neB c) s s.size a=a+o:=by
    rcases Nat.lt_trichotomy (bI (neB c) s s.size a) (a+o) with h|h|h
    ·exfalso
     have h5:=h2 (bI (neB c) s s.size a-a) omq
     rw [mM (Nat.le_refl _),if_pos omq,show a+(bI (neB c) s s.size a-a)=bI (neB c) s s.size a by omega,g4 omq] at h5
     exact h5 rfl
    ·exact h
    ·exact absurd h3 (g3 (a+o) omq h)
   rw [ho,h4,if_pos hlt,show a+o-a=o by omega]
  ·rw [if_neg hlt] at h1;cases h1
theorem lW {s:ByteArray}(hs:s.size≤1048576)(h0:0<s.size):Ctr prog 61 [.c (.v (.string s))] [] (if bI (neB (bAt s 0)) s s.size 1=s.size then .tu [.c (.v (.string ByteArray.empty)),.c (.v (.bool false))] else .tu [.c (.v (.string (bu s 1 (bI (neB (bAt s 0)) s s.size 1)))),.c (.v (.bool true))]) []:=by
 have c1:=eQ (bu s 1 s.size) (dm s 0)
 rw [uV omq (dm s 0)] at c1
 have hr:=bO (p:=neB (bAt s 0)) (s:=s) s.size 1 omq omq
 have g1:=hr.1
 have g2:=hr.2.1
 clear hr
 generalize bI (neB (bAt s 0)) s s.size 1=e at c1 g1 g2 ⊢
 by_cases h:e=s.size
 ·rw [if_pos h]
  rw [if_neg omq] at c1
  refine av func61 rfl rfl ?_
  repeat' (first|(apply ay;first|refine al ?_|refine ai ?_|refine aD ?_)|refine ak ?_|refine ab ?_|(apply dC;first|(apply ep;refine aN ?_)|(apply mG;refine aN ?_)|refine ex c1 ?_|refine fx ?_|refine lE ?_)|refine ak ?_|refine ab ?_|refine aa fun C=>?_|refine ar (by kernel_rfl) (by kernel_rfl) fun C=>?_|refine ac ?_|refine aq rfl ?_)
  refine am ?_;refine bv rfl (cf (aC aH (aC aH bh))) ⟨?_,rfl⟩;rfl
 ·rw [if_neg h]
  rw [if_pos omq] at c1
  have he:((e-1:Nat):Int)+1=(e:Int):=by omega
  refine av func61 rfl rfl ?_
  repeat' (first|(apply ay;first|refine al ?_|refine ai ?_|refine aD ?_|refine aw ?_|refine r9 ?_)|refine ak ?_|refine ab ?_|(apply dC;first|(apply ep;refine aN ?_)|(apply mG;refine aN ?_)|refine ex c1 ?_|refine fx ?_|refine lE ?_)|refine ak ?_|refine ab ?_|refine aa fun C=>?_|refine ar (by kernel_rfl) (by kernel_rfl) fun C=>?_|refine ac ?_|refine aj ?_|(refine ae (by rfl) ?_ ?_<;>intro hC<;>(try cases hC)))
  all_goals first
   | (exfalso;simp only [decide_eq_true_iff] at hC;omega)
   | (refine am ?_;refine bv rfl (cf (aC aH (aC aH bh))) ⟨?_,rfl⟩;rfl)
theorem tdy2 {p:Prop}(h:p:=by repeat' (first|exact TmOk.nil|exact RwOk.nil|refine TmOk.cons ?_ ?_|refine RwOk.cons ?_ ?_|rfl|exact bq rfl (by assumption)|exact bq rfl (bytC_cloB _)|(refine rnV_id' rfl ?_;exact byc)|(refine cV ?_;first|rfl|omega|(rw [bM omq omq];omega))|(refine bq rfl ?_;exact byc)|exact d5 rfl rfl|(refine rw_mid (by rfl) (by rfl) ?_ ?_<;>exact byc)|(refine rw_rn' rfl rfl ?_;simp;done))):p:=h
def xC:List ByteArray:=[⟨#[60,61]⟩,⟨#[61,61]⟩,⟨#[33,61]⟩,⟨#[62,61]⟩,⟨#[38,38]⟩,⟨#[124,124]⟩]
def sixL:List E:=[.str ⟨#[60,61]⟩,.str ⟨#[61,61]⟩,.str ⟨#[33,61]⟩,.str ⟨#[62,61]⟩,.str ⟨#[38,38]⟩,.str ⟨#[124,124]⟩]
theorem zoQ {s:ByteArray}{x y:UInt8}:hpS s ⟨#[x,y]⟩=true↔2≤s.size∧bAt s 0=x.toNat∧bAt s 1=y.toNat:=by
 have hl:s.data.toList.length=s.size:=Array.length_toList
 have hb:∀j,bAt s j=(s.data.toList[j]?.getD 0).toNat:=fun j=>by unfold bAt;rw [Array.getElem?_toList]
 unfold hpS Lib.hasPrefix
 rw [hb 0,hb 1,←hl]
 show ([x,y]:List UInt8).isPrefixOf s.data.toList=true↔_
 generalize s.data.toList=l
 match l with
 | []=>simp
 | [a]=>simp
 | a :: b :: r =>
  simp only [List.isPrefixOf_iff_prefix,List.length_cons,List.getElem?_cons_zero,List.getElem?_cons_succ,Option.getD_some]
  constructor
  ·intro h
   obtain⟨t,ht⟩:=h
   have h1:x=a:=by injection ht
   have h2:y=b:=by injection ht with _ h;injection h
   exact⟨omq,by rw [h1],by rw [h2]⟩
  ·rintro ⟨-,h1,h2⟩
   rw [UInt8.toNat_inj.1 h1,UInt8.toNat_inj.1 h2]
   exact⟨r,rfl⟩
theorem zg1 {s:ByteArray}(h:2≤s.size):bu s 0 2=⟨#[UInt8.ofNat (bAt s 0),UInt8.ofNat (bAt s 1)]⟩:=by
 have hz:=bR (s:=s) (a:=0) (b:=2) omq h
 rw [zb1 hz,dJ h omq,dJ h omq]
theorem gU {s:ByteArray}{x y:UInt8}(h6:nu x.toNat y.toNat=true)(h:hpS s ⟨#[x,y]⟩=true):pr s=⟨#[x,y]⟩:=by
 obtain⟨h1,h2,h3⟩:=zoQ.1 h
 unfold pr
 rw [if_pos ⟨h1,by rw [h2,h3];exact h6⟩,zg1 h1,h2,h3,UInt8.ofNat_toNat,UInt8.ofNat_toNat]
theorem uW {s:ByteArray}(h:∀m∈xC,hpS s m=false):¬(2≤s.size∧nu (bAt s 0) (bAt s 1)=true):=fun ⟨h1,h2⟩=>by
 have key:∀x y:UInt8,bAt s 0=x.toNat→bAt s 1=y.toNat→(⟨#[x,y]⟩:ByteArray)∈xC→False:=fun x y e1 e2 hm=>by
  have:=h _ hm
  rw [zoQ.2 ⟨h1,e1,e2⟩] at this
  cases this
 simp only [nu,Bool.or_eq_true,Bool.and_eq_true,decide_eq_true_iff] at h2
 rcases h2 with ⟨f1,f2|f2|f2|f2⟩|⟨f2,f1⟩|⟨f2,f1⟩
 ·exact key 60 61 f2 f1 (by simp [xC])
 ·exact key 61 61 f2 f1 (by simp [xC])
 ·exact key 33 61 f2 f1 (by simp [xC])
 ·exact key 62 61 f2 f1 (by simp [xC])
 ·exact key 38 38 f2 f1 (by simp [xC])
 ·exact key 124 124 f2 f1 (by simp [xC])
theorem zh1:∀c:Fin 256,decide (0≤Lib.indexByte [123,125,40,41,91,93,44,59,36,43,45,42,47,37,46,60,62,33,126,61] (UInt8.ofNat c.1))=mI c.1:=by decide
theorem xD {s:ByteArray}(hs:s.size≤1048576):Ctr prog 69 [.c (.v (.string s))] [] (.c (.v (.string (pr s)))) []:=by
 have hP:=pA s
 refine av func69 rfl rfl ?_
 repeat' (first|(apply ay;first|refine al ?_|refine ai ?_|refine dA ?_|refine dX ?_)|refine ak ?_|refine ab ?_|refine aa fun C=>?_|refine ac ?_|refine ah ?_)
 refine a8 (fun k:Nat=>⟨eX [(0,.c (.v (.string s))),(5,.c (.sl 5 6)),(6,.c (.v (.int .i64 6))),(7,.c (.v (.int .i64 (k:Int))))],eJ [(5,5,⟨9,1,6,false,owL sixL⟩)],0,[5],26⟩)
  (fun N k=>k+N=6∧∀j m,j<k→xC[j]? = some m→hpS s m=false) 6 0 ⟨omq,fun j m hj=>absurd hj (Nat.not_lt_zero j)⟩ ?_ ?_
 ·show Gh _ _
  (refine aM _ _ rfl rfl ?_ ?_<;>exact tdy2)
 rintro N k ⟨hN,hr⟩
 try dsimp only
 by_cases hk:k<6
 ·rcases (show k=0∨k=1∨k=2∨k=3∨k=4∨k=5 by omega) with rfl|rfl|rfl|rfl|rfl|rfl
  ·have c1:=hP ⟨#[60,61]⟩
   cases hq:hpS s ⟨#[60,61]⟩ with
   | true =>
    rw [hq] at c1
    rw [gU (x:=60) (y:=61) (by decide) hq]
    repeat' (first|(apply ay;first|refine al ?_|refine ai ?_|refine aI ?_|refine aF c1 ?_|refine eO ?_|refine aD ?_)|refine ak ?_|refine ab ?_|refine aa fun C=>?_|refine ac ?_|refine ah ?_|refine aj ?_|refine aq rfl ?_)
    exact fJ
   | false =>
    rw [hq] at c1
    repeat' (first|(apply ay;first|refine al ?_|refine ai ?_|refine aI ?_|refine aF c1 ?_|refine eO ?_|refine aD ?_|refine aw ?_)|refine ak ?_|refine ab ?_|refine aa fun C=>?_|refine ac ?_|refine ah ?_|refine aj ?_|refine aq rfl ?_|refine au rfl ?_)
    refine⟨N-1,1,omq,⟨omq,fun j m hj hm=>?_⟩,?_⟩
    ·by_cases e:j=0
     ·subst e
      injection hm with hm
      rw [←hm];exact hq
     ·exact hr j m omq hm
    ·show Gh _ _
     (refine aM _ _ rfl rfl ?_ ?_<;>exact tdy2)
  ·have c1:=hP ⟨#[61,61]⟩
   cases hq:hpS s ⟨#[61,61]⟩ with
   | true =>
    rw [hq] at c1
    rw [gU (x:=61) (y:=61) (by decide) hq]
    repeat' (first|(apply ay;first|refine al ?_|refine ai ?_|refine aI ?_|refine aF c1 ?_|refine eO ?_|refine aD ?_)|refine ak ?_|refine ab ?_|refine aa fun C=>?_|refine ac ?_|refine ah ?_|refine aj ?_|refine aq rfl ?_)
    exact fJ
   | false =>
    rw [hq] at c1
    repeat' (first|(apply ay;first|refine al ?_|refine ai ?_|refine aI ?_|refine aF c1 ?_|refine eO ?_|refine aD ?_|refine aw ?_)|refine ak ?_|refine ab ?_|refine aa fun C=>?_|refine ac ?_|refine ah ?_|refine aj ?_|refine aq rfl ?_|refine au rfl ?_)
    refine⟨N-1,2,omq,⟨omq,fun j m hj hm=>?_⟩,?_⟩
    ·by_cases e:j=1
     ·subst e
      injection hm with hm
      rw [←hm];exact hq
     ·exact hr j m omq hm
    ·show Gh _ _
     (refine aM _ _ rfl rfl ?_ ?_<;>exact tdy2)
  ·have c1:=hP ⟨#[33,61]⟩
   cases hq:hpS s ⟨#[33,61]⟩ with
   | true =>
    rw [hq] at c1
    rw [gU (x:=33) (y:=61) (by decide) hq]
    repeat' (first|(apply ay;first|refine al ?_|refine ai ?_|refine aI ?_|refine aF c1 ?_|refine eO ?_|refine aD ?_)|refine ak ?_|refine ab ?_|refine aa fun C=>?_|refine ac ?_|refine ah ?_|refine aj ?_|refine aq rfl ?_)
    exact fJ
   | false =>
    rw [hq] at c1
    repeat' (first|(apply ay;first|refine al ?_|refine ai ?_|refine aI ?_|refine aF c1 ?_|refine eO ?_|refine aD ?_|refine aw ?_)|refine ak ?_|refine ab ?_|refine aa fun C=>?_|refine ac ?_|refine ah ?_|refine aj ?_|refine aq rfl ?_|refine au rfl ?_)
    refine⟨N-1,3,omq,⟨omq,fun j m hj hm=>?_⟩,?_⟩
    ·by_cases e:j=2
     ·subst e
      injection hm with hm
      rw [←hm];exact hq
     ·exact hr j m omq hm
    ·show Gh _ _
     (refine aM _ _ rfl rfl ?_ ?_<;>exact tdy2)
  ·have c1:=hP ⟨#[62,61]⟩
   cases hq:hpS s ⟨#[62,61]⟩ with
   | true =>
    rw [hq] at c1
    rw [gU (x:=62) (y:=61) (by decide) hq]
    repeat' (first|(apply ay;first|refine al ?_|refine ai ?_|refine aI ?_|refine aF c1 ?_|refine eO ?_|refine aD ?_)|refine ak ?_|refine ab ?_|refine aa fun C=>?_|refine ac ?_|refine ah ?_|refine aj ?_|refine aq rfl ?_)
    exact fJ
   | false =>
    rw [hq] at c1
    repeat' (first|(apply ay;first|refine al ?_|refine ai ?_|refine aI ?_|refine aF c1 ?_|refine eO ?_|refine aD ?_|refine aw ?_)|refine ak ?_|refine ab ?_|refine aa fun C=>?_|refine ac ?_|refine ah ?_|refine aj ?_|refine aq rfl ?_|refine au rfl ?_)
    refine⟨N-1,4,omq,⟨omq,fun j m hj hm=>?_⟩,?_⟩
    ·by_cases e:j=3
     ·subst e
      injection hm with hm
      rw [←hm];exact hq
     ·exact hr j m omq hm
    ·show Gh _ _
     (refine aM _ _ rfl rfl ?_ ?_<;>exact tdy2)
  ·have c1:=hP ⟨#[38,38]⟩
   cases hq:hpS s ⟨#[38,38]⟩ with
   | true =>
    rw [hq] at c1
    rw [gU (x:=38) (y:=38) (by decide) hq]
    repeat' (first|(apply ay;first|refine al ?_|refine ai ?_|refine aI ?_|refine aF c1 ?_|refine eO ?_|refine aD ?_)|refine ak ?_|refine ab ?_|refine aa fun C=>?_|refine ac ?_|refine ah ?_|refine aj ?_|refine aq rfl ?_)
    exact fJ
   | false =>
    rw [hq] at c1
    repeat' (first|(apply ay;first|refine al ?_|refine ai ?_|refine aI ?_|refine aF c1 ?_|refine eO ?_|refine aD ?_|refine aw ?_)|refine ak ?_|refine ab ?_|refine aa fun C=>?_|refine ac ?_|refine ah ?_|refine aj ?_|refine aq rfl ?_|refine au rfl ?_)
    refine⟨N-1,5,omq,⟨omq,fun j m hj hm=>?_⟩,?_⟩
    ·by_cases e:j=4
     ·subst e
      injection hm with hm
      rw [←hm];exact hq
     ·exact hr j m omq hm
    ·show Gh _ _
     (refine aM _ _ rfl rfl ?_ ?_<;>exact tdy2)
  ·have c1:=hP ⟨#[124,124]⟩
   cases hq:hpS s ⟨#[124,124]⟩ with
   | true =>
    rw [hq] at c1
    rw [gU (x:=124) (y:=124) (by decide) hq]
    repeat' (first|(apply ay;first|refine al ?_|refine ai ?_|refine aI ?_|refine aF c1 ?_|refine eO ?_|refine aD ?_)|refine ak ?_|refine ab ?_|refine aa fun C=>?_|refine ac ?_|refine ah ?_|refine aj ?_|refine aq rfl ?_)
    exact fJ
   | false =>
    rw [hq] at c1
    repeat' (first|(apply ay;first|refine al ?_|refine ai ?_|refine aI ?_|refine aF c1 ?_|refine eO ?_|refine aD ?_|refine aw ?_)|refine ak ?_|refine ab ?_|refine aa fun C=>?_|refine ac ?_|refine ah ?_|refine aj ?_|refine aq rfl ?_|refine au rfl ?_)
    refine⟨N-1,6,omq,⟨omq,fun j m hj hm=>?_⟩,?_⟩
    ·by_cases e:j=5
     ·subst e
      injection hm with hm
      rw [←hm];exact hq
     ·exact hr j m omq hm
    ·show Gh _ _
     (refine aM _ _ rfl rfl ?_ ?_<;>exact tdy2)
 ·have hk':k=6:=by omega
  subst hk'
  have hmiss:=uW (s:=s) fun m hm=>by
   obtain⟨j,hj,rfl⟩:=List.getElem_of_mem hm
   exact hr j _ hj (List.getElem?_eq_getElem hj)
  unfold pr
  rw [if_neg hmiss]
  by_cases h0:s.size=0
  ·rw [if_neg omq]
   have hz:=ja (s:=s) (t:=⟨#[]⟩) h0 fun j hj=>absurd hj omq
   repeat' (first|(apply ay;first|refine bX ?_|(refine aR ?_ ?_<;>intro hG<;>(try cases hG))|refine al ?_|refine ai ?_|refine fm ?_|refine aD ?_|refine aB ?_)|refine ak ?_|refine ab ?_|refine aa fun C=>?_|refine ac ?_|refine aj ?_|refine aA ?_|(refine ae (by rfl) ?_ ?_<;>intro hC<;>(try cases hC)))
   all_goals first
    | (exfalso;simp_all;done)
    | (refine am ?_;refine bv rfl aH ⟨?_,rfl⟩;rfl)
  ·have c1:=eQ ⟨#[123,125,40,41,91,93,44,59,36,43,45,42,47,37,46,60,62,33,126,61]⟩ (dm s 0)
   have h3:decide (0≤Lib.indexByte (ByteArray.mk #[123,125,40,41,91,93,44,59,36,43,45,42,47,37,46,60,62,33,126,61]).data.toList (UInt8.ofNat (bAt s 0)))=mI (bAt s 0):=zh1 ⟨bAt s 0,dm s 0⟩
   generalize Lib.indexByte (ByteArray.mk #[123,125,40,41,91,93,44,59,36,43,45,42,47,37,46,60,62,33,126,61]).data.toList (UInt8.ofNat (bAt s 0))=z at c1 h3
   have h01:0<s.size:=by omega
   have hne:(s.toList==(ByteArray.mk #[]).toList)=false:=by rw [xB];exact decide_eq_false h0
   cases h4:mI (bAt s 0) with
   | true =>
    rw [h4] at h3
    have hz:0≤z:=of_decide_eq_true h3
    rw [if_pos ⟨omq,rfl⟩]
    repeat' (first|(apply ay;first|refine bX ?_|(refine aR ?_ ?_<;>intro hG<;>(try cases hG))|refine al ?_|refine ai ?_|refine aF c1 ?_|refine fm ?_|refine aD ?_|refine dP ?_|refine aB ?_|refine cG ?_|refine gh ?_)|refine ak ?_|refine ab ?_|refine aa fun C=>?_|refine ac ?_|refine aj ?_|refine aA ?_|(refine ae (by rfl) ?_ ?_<;>intro hC<;>(try cases hC)))
    all_goals first
     | (exfalso;rw [bne,hne] at hG;cases hG;done)
     | (exfalso;simp only [decide_eq_false_iff_not] at hC;omega)
     | (refine am ?_;refine bv rfl aH ⟨?_,rfl⟩;rfl)
   | false =>
    rw [h4] at h3
    have hz:¬0≤z:=of_decide_eq_false h3
    rw [if_neg (by simp)]
    repeat' (first|(apply ay;first|refine bX ?_|(refine aR ?_ ?_<;>intro hG<;>(try cases hG))|refine al ?_|refine ai ?_|refine aF c1 ?_|refine fm ?_|refine aD ?_|refine dP ?_|refine aB ?_|refine cG ?_|refine gh ?_)|refine ak ?_|refine ab ?_|refine aa fun C=>?_|refine ac ?_|refine aj ?_|refine aA ?_|(refine ae (by rfl) ?_ ?_<;>intro hC<;>(try cases hC)))
    all_goals first
     | (exfalso;simp only [decide_eq_true_iff] at hC;omega)
     | (refine am ?_;refine bv rfl aH ⟨?_,rfl⟩;rfl)
end Go.Proofs.YtomolhbkdhjofaaGreatDoor
