/- The machine: blocks given over to those that stand; the conversion of a literal's row of bytes, by which it stands from then on. -/
import Derived.Shelf.Lays
import Derived.Shelf.Strings.BuilderX
import Derived.Shelf.Small.Strs
import Derived.Shelf.Strings.OnBuilder
import Derived.Test.YtghljnfbbaklnaaGreatGetModuleJ
namespace Go.Proofs.YtghljnfbbaklnaaGreat
open Go.RowKit
set_option maxRecDepth 100000
section
variable {C:Ctx}{φ:Nat→Lc}{F:Nat→List Nat}{St:Nat→Prop}{σ:AS}{a:Act}{w w':World}
theorem SimF.give (h:SimF C φ F St σ a w){b:Nat}(hf:Free C φ F St σ b)(hs:Stp (some b) w w'):SimF C φ F (fun x=>(St x∧x<w.heap.size)∨x=b) σ a w':=by
 have hS:∀x,St x→x<w.heap.size→((St x∧x<w.heap.size)∨x=b)∧w'.heap[x]? = w.heap[x]? := fun x hx hl=>⟨.inl ⟨hx,hl⟩,hs.blk x hl fun e=>hf.2.1 (by injection e with e;exact e▸hx)⟩
 have hK:∀j,σ.Kn j→σ.Kn j∧φ j=φ j:=fun j hj=>⟨hj,rfl⟩
 refine⟨h.dfr,h.len,fun t=>VR.mono hS hs.size hK _ _ (h.tms t),fun j s hj=>⟨(h.row j s hj).1,?_⟩,h.nod,h.dis,h.bxF,h.bxd,fun j s x hj hx hst=>?_,fun j s x lo hj e hst=>?_,?_,h.own,h.par,h.new,h.gnN,fun x hx hl=>?_⟩
 ·have h1:=(h.row j s hj).2
  exact h1.mono hS hs.size hK (fun x hx=>hs.blk x (h1.lt x hx) fun e=>(hf.1 j s hj).1 (by injection e with e;exact e▸hx)) fun x lo us e' _ hB=>hB.block (hs.blk x hB.lt fun e=>(hf.1 j s hj).2 lo (by injection e with e;rw [e',e]))
 ·rcases hst with h1|rfl
  ·exact h.stF j s x hj hx h1.1
  ·exact (hf.1 j s hj).1 hx
 ·rcases hst with h1|rfl
  ·exact h.stB j s x lo hj e h1.1
  ·exact (hf.1 j s hj).2 lo e
 ·have hfr:=h.frm
  refine⟨hs.os.trans hfr.os,hs.tape.trans hfr.tape,hs.output.trans hfr.output,Nat.le_trans hfr.size hs.size,fun x hx hM=>(hfr.blk x hx hM).trans (.inl (hs.blk x (Nat.lt_of_lt_of_le hx hfr.size) fun e=>?_))⟩
  injection e with e
  subst e
  rcases hf.2.2 with h1|h1
  ·exact hM h1
  ·omega
 ·rcases hx with h1|rfl
  ·exact h.stS x h1.1 hl
  ·rcases hf.2.2 with h1|h1
   ·exact .inr h1
   ·omega
end
section
variable {P:Program}{ops:Array Oper}{Q:Exit→Act→World→Prop}{C:Ctx}{i:Nat}{r:List Nat}{o:Oper}
variable {tm:Nat→AV}{hp:Nat→Option Row}{gn L:Nat}{us:List Nat}{x:AV}
theorem zt20 {w:World}{b:Nat}{cur:Array Value}{e:TypeId}(h:w.heap[b]? = some (.cells cur e (0,0))):(w.freeze ⟨b,cur.size,none⟩ 1).heap[b]? = some (.cells cur e (cur.size,cur.size+1))∧Stp (some b) w (w.freeze ⟨b,cur.size,none⟩ 1):=by
 unfold World.freeze
 rw [if_neg (by decide)]
 refine⟨?_,rfl,rfl,rfl,?_,fun j hj hne=>?_⟩
 ·show (w.heap.modify b _)[b]? = _
  rw [Array.getElem?_modify,if_pos rfl,h];rfl
 ·show w.heap.size≤(w.heap.modify b _).size
  rw [Array.size_modify];exact Nat.le_refl _
 ·show (w.heap.modify b _)[j]? = _
  rw [Array.getElem?_modify,if_neg (fun e=>hne (by rw [e]))]
theorem run_convB {P:Program}{T e:TypeId}{w:World}{b n c:Nat}{cur:Array Value}(ht:P.underlying T=some (.slice e))(he:P.underlying e=some (.int .u8))(h:w.heap[b]? = some (.cells cur e (0,0))) :
 (convert T T (.slice (some ⟨b,0,none⟩) n c)).run P w=.ok (.slice (some ⟨b,0,none⟩) n c) (w.freeze ⟨b,cur.size,none⟩ 1):=by
 have hsh:w.shape? b=some (e,cur.size):=by unfold World.shape?;rw [h]
 simp [convert,run_underlying ht,run_underlying he,markStringish,hsh]
def scC:AC→Bool
 | .v _=>true
 | _=>false
theorem crl_sc {w w':World}{St St':Nat→Prop}{φ φ':Nat→Lc}{K K':Nat→Prop}:∀{l:List AC} {us:List Value} {fp:List Nat},l.all scC=true→CRL w St φ K l us fp→fp=[]∧CRL w' St' φ' K' l us []
 | [],us,fp,_,h=>by
  simp only [CRL] at h
  obtain⟨rfl,rfl⟩:=h
  exact⟨rfl,CRL.nil⟩
 | c :: t,us,fp,hl,h=>by
  simp only [List.all_cons,Bool.and_eq_true] at hl
  simp only [CRL] at h
  obtain⟨u,us',f1,f2,rfl,rfl,h1,h2⟩:=h
  obtain⟨rfl,h4⟩:=crl_sc (w':=w') (St':=St') (φ':=φ') (K':=K') hl.2 h2
  cases c with
  | v y =>
   simp only [CR] at h1
   obtain⟨rfl,g2,rfl⟩:=h1
   exact⟨rfl,CRL.cons (f:=[]) (f':=[]) (by simp only [CR];exact⟨trivial,g2,trivial⟩) h4⟩
  | _=>cases hl.1
theorem n_cvm {ty:TypeId}{gd:Option (Nat×Bool)}{ps:String}{af:Array Edge}{t j n:Nat}{T e:TypeId}{xo:Operand}{cs:List AC}
 (h:Walk P ops Q C false [] r ⟨upd tm t (.c (.ro n 1 cs)),upd hp j none,gn,us,L⟩)
 (hT:P.underlying T=some (.slice e)) (hE:P.underlying e=some (.int .u8)) (ht:Nat.blt t L=true:=by exact rfl) (hg:gw ops tm (⟨some t,.convert T T xo,ty,ps,af,gd⟩:Oper)=some true:=by exact rfl)
 (hx:AS.ev ⟨tm,hp,gn,us,L⟩ xo=.c (.sl j n):=by exact rfl) (hr:hp j=some ⟨e,1,n,false,cs⟩:=by exact rfl) (hn:Nat.blt 0 n=true:=by exact rfl) (hs:cs.all scC=true:=by exact rfl) :
 WalkO P ops Q C false [] i (⟨some t,.convert T T xo,ty,ps,af,gd⟩:Oper) r ⟨tm,hp,gn,us,L⟩:=⟨fun hop=>by
 refine⟨_,⟨[j],[(j,none)],[],.c (.ro n 1 cs)⟩,hop,?_,fun n hn=>absurd hn List.not_mem_nil,za5 (by exact zz1),?_⟩
 ·intro τ a w ha hsim K hK
  obtain⟨φ,F,St,hsim⟩:=hsim
  have e1:τ.ev xo=.c (.sl j n):=by rw [ha.ev xo (by show xo∈#[xo];simp)];exact hx
  have e2:τ.hp j=some ⟨e,1,n,false,cs⟩:=by rw [ha.hp j List.mem_cons_self];exact hr
  have v1:=hsim.ev xo
  rw [e1] at v1
  simp only [VR,CR] at v1
  obtain⟨-,k1,k2,A,c,k3⟩:=v1
  obtain⟨-,hrow⟩:=hsim.row j _ e2
  rw [k2] at hrow
  obtain⟨-,vs,fs,g1,g2,g3⟩:=hrow
  have hn':0<n:=zz4 hn
  obtain⟨hl,⟨-,h0⟩|⟨b,cap,cur,hu,-,hh,hnc,hcm,hsz,htk⟩⟩:=g2
  ·dsimp only at h0;omega
  obtain⟨hfs,-⟩:=crl_sc (w':=w) (St':=St) (φ':=φ) (K':=τ.Kn) hs g1
  subst hfs
  rw [List.append_nil] at g3
  rw [hu] at g3
  have hob:obl (Value.slice (some ⟨b,0,none⟩) n cap)=[b]:=rfl
  dsimp only at hnc hsz htk hl hh
  have hbF:b∈F j:=by rw [g3];exact List.mem_cons_self
  have hfree:=hsim.free e2 hbF
  obtain⟨w1,w2⟩:=zt20 hh
  have hsim2:=(hsim.drop j).give hfree w2
  have hev:a.eval xo=.slice (some ⟨b,0,none⟩) n cap:=hu
  unfold wpOp
  rw [hop]
  have hw:=zk20 hsim (b:=true) (by rw [ha.gw];exact hg)
  simp only [hw,if_true]
  refine .inl ?_
  unfold Oper.wp
  have hrun:(execOp a.eval (⟨some t,.convert T T xo,ty,ps,af,gd⟩:Oper)).run P w=.ok (.value (.slice (some ⟨b,0,none⟩) n cap)) (w.freeze ⟨b,cur.size,none⟩ 1):=by
   unfold execOp
   have hrc:=run_convB (P:=P) (n:=n) (c:=cap) hT hE hh
   simp only [hev]
   simp [Sem.run_bind,hrc]
  rw [hrun]
  have hvr:VR (w.freeze ⟨b,cur.size,none⟩ 1) (fun x=>(St x∧x<w.heap.size)∨x=b) φ ({ τ with hp:=upd τ.hp j none }:AS).Kn (.c (.ro n 1 cs)) (.slice (some ⟨b,0,none⟩) n cap):=by
   simp only [VR,CR]
   refine⟨trivial,some ⟨b,0,none⟩,cap,rfl,⟨hnc,hcm,fun h=>by cases h⟩,?_,fun _=>⟨b,0,vs,rfl,.inr rfl,(Array.getElem?_eq_some_iff.1 w1).1,fun q y hq=>?_,?_⟩⟩
   ·rw [←g1.len];omega
   ·have hq2:cur[q]? = some y:=by
     rw [←htk] at hq
     rw [List.getElem?_take] at hq
     split at hq
     ·rwa [Array.getElem?_toList] at hq
     ·cases hq
    rw [Nat.zero_add]
    unfold World.cell?
    rw [w1]
    exact hq2
   ·exact (crl_sc hs g1).2
  have h7:=hsim2.put (some t) hvr
  exact hK _ _ ⟨φ,F,_,h7⟩
 ·refine zk3 ?_
  show Walk P ops Q C false [] r (AS.put _ (some t) _)
  rw [zs5 (by exact zz4 ht)];exact h⟩
end
section
variable {ops:Array Oper}{Q:Exit→Act→World→Prop}{C:Ctx}{i:Nat}{r:List Nat}
variable {tm:Nat→AV}{hp:Nat→Option Row}{gn L:Nat}{us:List Nat}
class BitB (b:BinOp):Prop where
 h:b=.and∨b=.or∨b=.xor
instance:BitB .and:=⟨.inl rfl⟩
instance:BitB .or:=⟨.inr (.inl rfl)⟩
instance:BitB .xor:=⟨.inr (.inr rfl)⟩
theorem e_bits {b:BinOp}[hb:BitB b]{ty:TypeId}{gd:Option (Nat×Bool)}{ps:String}{af:Array Edge}{t:Nat}{x y:Operand}{U:TypeId}{z1 z2:Int}{ev:Operand→AV}(hx:ev x=.c (.v (.int .i64 z1)))(hy:ev y=.c (.v (.int .i64 z2))):EffD Tryz.prog (⟨some t,.binOp b 3 x y U,ty,ps,af,gd⟩:Oper) ev hp 0=some (.c (.v (.int .i64 (bits b .i64 z1 z2))),.nop):=by
 rcases hb.h with rfl|rfl|rfl
 ·(show nop? (aScal _ _ _)=_;rw [zs3 rfl (by intro q hq;have hq':q=x∨q=y:=(by have h2:q∈[x,y]:=Array.mem_toList_iff.2 hq;simpa using h2);rcases hq' with rfl|rfl<;>first|(rw [hx];rfl)|(rw [hy];rfl))];have e:∀f:Operand→Value,f x=((AV.val? (ev x)).getD undef)→True:=fun _ _=>trivial;clear e;unfold execOp;dsimp only;rw [hx,hy];rfl)
 ·(show nop? (aScal _ _ _)=_;rw [zs3 rfl (by intro q hq;have hq':q=x∨q=y:=(by have h2:q∈[x,y]:=Array.mem_toList_iff.2 hq;simpa using h2);rcases hq' with rfl|rfl<;>first|(rw [hx];rfl)|(rw [hy];rfl))];have e:∀f:Operand→Value,f x=((AV.val? (ev x)).getD undef)→True:=fun _ _=>trivial;clear e;unfold execOp;dsimp only;rw [hx,hy];rfl)
 ·(show nop? (aScal _ _ _)=_;rw [zs3 rfl (by intro q hq;have hq':q=x∨q=y:=(by have h2:q∈[x,y]:=Array.mem_toList_iff.2 hq;simpa using h2);rcases hq' with rfl|rfl<;>first|(rw [hx];rfl)|(rw [hy];rfl))];have e:∀f:Operand→Value,f x=((AV.val? (ev x)).getD undef)→True:=fun _ _=>trivial;clear e;unfold execOp;dsimp only;rw [hx,hy];rfl)
theorem zn15 {b:BinOp}[hb:BitB b]{ty:TypeId}{gd:Option (Nat×Bool)}{ps:String}{af:Array Edge}{t:Nat}{x y:Operand}{U:TypeId}{z1 z2:Int}(h:Walk Tryz.prog ops Q C false [] r ⟨upd tm t (.c (.v (.int .i64 (bits b .i64 z1 z2)))),hp,gn,us,L⟩)(ht:Nat.blt t L=true:=by exact rfl)(hg:gw ops tm (⟨some t,.binOp b 3 x y U,ty,ps,af,gd⟩:Oper)=some true:=by exact rfl)(hx:AS.ev ⟨tm,hp,gn,us,L⟩ x=.c (.v (.int .i64 z1)):=by exact rfl)(hy:AS.ev ⟨tm,hp,gn,us,L⟩ y=.c (.v (.int .i64 z2)):=by exact rfl):WalkO Tryz.prog ops Q C false [] i (⟨some t,.binOp b 3 x y U,ty,ps,af,gd⟩:Oper) r ⟨tm,hp,gn,us,L⟩:=zh1 h ht hg (e_bits hx hy)
theorem e_sh {ty:TypeId}{gd:Option (Nat×Bool)}{ps:String}{af:Array Edge}{t:Nat}{x y:Operand}{U:TypeId}{yk:IntKind}{z1 z2:Int}{ev:Operand→AV}(hx:ev x=.c (.v (.int .i64 z1)))(hy:ev y=.c (.v (.int yk z2)))(h0:0≤z2∧z2≤63):EffD Tryz.prog (⟨some t,.binOp .shr 3 x y U,ty,ps,af,gd⟩:Oper) ev hp 0=some (.c (.v (.int .i64 (z1.fdiv (2 ^ z2.toNat)))),.nop)∧EffD Tryz.prog (⟨some t,.binOp .shl 3 x y U,ty,ps,af,gd⟩:Oper) ev hp 0=some (.c (.v (.int .i64 (IntKind.i64.wrap (z1*2 ^ z2.toNat)))),.nop):=by
 have hm:min z2.toNat IntKind.i64.bits=z2.toNat:=by show min z2.toNat 64=_;omega
 have e1:Op.shift .shr .i64 z1 yk z2=pure (.int .i64 (z1.fdiv (2 ^ z2.toNat))):=by unfold Op.shift;rw [if_neg (by omega)];dsimp only;rw [hm]
 have e2:Op.shift .shl .i64 z1 yk z2=pure (.int .i64 (IntKind.i64.wrap (z1*2 ^ z2.toNat))):=by unfold Op.shift;rw [if_neg (by omega)];dsimp only;rw [hm]
 constructor
 ·show nop? (aScal _ _ _)=_
  rw [zs3 rfl (by intro q hq;have hq':q=x∨q=y:=(by have h2:q∈[x,y]:=Array.mem_toList_iff.2 hq;simpa using h2);rcases hq' with rfl|rfl<;>first|(rw [hx];rfl)|(rw [hy];rfl))]
  unfold execOp
  dsimp only
  rw [hx,hy]
  simp only [AV.val?,AC.val?,Option.getD_some,binOp,e1]
  rfl
 ·show nop? (aScal _ _ _)=_
  rw [zs3 rfl (by intro q hq;have hq':q=x∨q=y:=(by have h2:q∈[x,y]:=Array.mem_toList_iff.2 hq;simpa using h2);rcases hq' with rfl|rfl<;>first|(rw [hx];rfl)|(rw [hy];rfl))]
  unfold execOp
  dsimp only
  rw [hx,hy]
  simp only [AV.val?,AC.val?,Option.getD_some,binOp,e2]
  rfl
theorem n_shr {ty:TypeId}{gd:Option (Nat×Bool)}{ps:String}{af:Array Edge}{t:Nat}{x y:Operand}{U:TypeId}{yk:IntKind}{z1 z2:Int}(h:Walk Tryz.prog ops Q C false [] r ⟨upd tm t (.c (.v (.int .i64 (z1.fdiv (2 ^ z2.toNat))))),hp,gn,us,L⟩)(ht:Nat.blt t L=true:=by exact rfl)(hg:gw ops tm (⟨some t,.binOp .shr 3 x y U,ty,ps,af,gd⟩:Oper)=some true:=by exact rfl)(hx:AS.ev ⟨tm,hp,gn,us,L⟩ x=.c (.v (.int .i64 z1)):=by exact rfl)(hy:AS.ev ⟨tm,hp,gn,us,L⟩ y=.c (.v (.int yk z2)):=by exact rfl)(h0:0≤z2∧z2≤63:=by omega):WalkO Tryz.prog ops Q C false [] i (⟨some t,.binOp .shr 3 x y U,ty,ps,af,gd⟩:Oper) r ⟨tm,hp,gn,us,L⟩:=zh1 h ht hg (e_sh (U:=U) (ty:=ty) (ps:=ps) (af:=af) (gd:=gd) hx hy h0).1
theorem n_shl {ty:TypeId}{gd:Option (Nat×Bool)}{ps:String}{af:Array Edge}{t:Nat}{x y:Operand}{U:TypeId}{yk:IntKind}{z1 z2:Int}(h:Walk Tryz.prog ops Q C false [] r ⟨upd tm t (.c (.v (.int .i64 (IntKind.i64.wrap (z1*2 ^ z2.toNat))))),hp,gn,us,L⟩)(ht:Nat.blt t L=true:=by exact rfl)(hg:gw ops tm (⟨some t,.binOp .shl 3 x y U,ty,ps,af,gd⟩:Oper)=some true:=by exact rfl)(hx:AS.ev ⟨tm,hp,gn,us,L⟩ x=.c (.v (.int .i64 z1)):=by exact rfl)(hy:AS.ev ⟨tm,hp,gn,us,L⟩ y=.c (.v (.int yk z2)):=by exact rfl)(h0:0≤z2∧z2≤63:=by omega):WalkO Tryz.prog ops Q C false [] i (⟨some t,.binOp .shl 3 x y U,ty,ps,af,gd⟩:Oper) r ⟨tm,hp,gn,us,L⟩:=zh1 h ht hg (e_sh (U:=U) (ty:=ty) (ps:=ps) (af:=af) (gd:=gd) hx hy h0).2
theorem e_remA {ty:TypeId}{gd:Option (Nat×Bool)}{ps:String}{af:Array Edge}{t:Nat}{x y:Operand}{U:TypeId}{z1 z2:Int}{ev:Operand→AV}(hx:ev x=.c (.v (.int .i64 z1)))(hy:ev y=.c (.v (.int .i64 z2)))(h0:z2≠0):EffD Tryz.prog (⟨some t,.binOp .rem 3 x y U,ty,ps,af,gd⟩:Oper) ev hp 0=some (.c (.v (.int .i64 (z1.tmod z2))),.nop):=by
 show nop? (aScal _ _ _)=_
 rw [zs3 rfl (by intro q hq;have hq':q=x∨q=y:=(by have h2:q∈[x,y]:=Array.mem_toList_iff.2 hq;simpa using h2);rcases hq' with rfl|rfl<;>first|(rw [hx];rfl)|(rw [hy];rfl))]
 unfold execOp
 dsimp only
 rw [hx,hy]
 have hd:Op.intDiv .rem .i64 z1 z2=pure (.int .i64 (z1.tmod z2)):=by unfold Op.intDiv;rw [if_neg h0]
 simp only [AV.val?,AC.val?,Option.getD_some,binOp,ne_eq,not_true_eq_false,if_false,hd]
 rfl
theorem n_remA {ty:TypeId}{gd:Option (Nat×Bool)}{ps:String}{af:Array Edge}{t:Nat}{x y:Operand}{U:TypeId}{z1 z2:Int}(h:Walk Tryz.prog ops Q C false [] r ⟨upd tm t (.c (.v (.int .i64 (z1.tmod z2)))),hp,gn,us,L⟩)(ht:Nat.blt t L=true:=by exact rfl)(hg:gw ops tm (⟨some t,.binOp .rem 3 x y U,ty,ps,af,gd⟩:Oper)=some true:=by exact rfl)(hx:AS.ev ⟨tm,hp,gn,us,L⟩ x=.c (.v (.int .i64 z1)):=by exact rfl)(hy:AS.ev ⟨tm,hp,gn,us,L⟩ y=.c (.v (.int .i64 z2)):=by exact rfl)(h0:z2≠0:=by omega):WalkO Tryz.prog ops Q C false [] i (⟨some t,.binOp .rem 3 x y U,ty,ps,af,gd⟩:Oper) r ⟨tm,hp,gn,us,L⟩:=zh1 h ht hg (e_remA hx hy h0)
end
theorem zp5 (n:Int):bits .and .i64 n 127=n % 128:=by
 have h1:(BitVec.ofInt 64 n).toNat=(n % 18446744073709551616).toNat:=by rw [BitVec.toNat_ofInt];rfl
 have h2:(BitVec.ofInt 64 127).toNat=2 ^ 7-1:=by rfl
 show IntKind.i64.wrap ((BitVec.ofInt 64 n &&& BitVec.ofInt 64 127).toNat:Int)=_
 rw [BitVec.toNat_and,h1,h2,Nat.and_two_pow_sub_one_eq_mod,IntKind.wrap_i64]
 omega
end Go.Proofs.YtghljnfbbaklnaaGreat
namespace Go.Proofs.YtghljnfbbaklnaaGreat
open Go.RowKit Go.Shelf
set_option maxRecDepth 100000
def lays137_ren:Go.Shelf.Ren:=⟨fun|137=>229|217=>238|266=>241|n=>n,fun|9=>9|5=>5|3=>3|n=>n,fun|n=>n⟩
theorem lays137:Go.Proofs.Lays.n137 Tryz.prog lays137_ren:={
 mixed:=by kernel_rfl
 f137:=Tryz.func229.trans (congrArg some (by kernel_rfl))
 f217:=Tryz.func238.trans (congrArg some (by kernel_rfl))
 f266:=Tryz.func241.trans (congrArg some (by kernel_rfl))
 t3:=Tryz.underlying3
 a3:=Tryz.isAgg3
 z3:=Tryz.sizeOf3
 v3:=Tryz.zeroValue3
 t5:=Tryz.underlying5
 a5:=Tryz.isAgg5
 z5:=Tryz.sizeOf5
 v5:=Tryz.zeroValue5
 t9:=Tryz.underlying9
 a9:=Tryz.isAgg9
 z9:=Tryz.sizeOf9
 v9:=Tryz.zeroValue9 }
end Go.Proofs.YtghljnfbbaklnaaGreat
namespace Go.Proofs.YtghljnfbbaklnaaGreat
open Go.RowKit Go.Shelf
set_option maxRecDepth 100000
def lays156_ren:Go.Shelf.Ren:=⟨fun|156=>221|165=>231|166=>232|169=>233|240=>239|241=>240|276=>242|277=>243|n=>n,fun|31=>23|9=>9|3=>3|4=>4|0=>0|20=>20|72=>275|76=>279|70=>273|37=>28|75=>278|127=>282|164=>283|5=>5|80=>281|n=>n,fun|n=>n⟩
theorem lays156:Go.Proofs.Lays.n156 Tryz.prog lays156_ren:={
 mixed:=by kernel_rfl
 f156:=Tryz.func221.trans (congrArg some (by kernel_rfl))
 f165:=Tryz.func231.trans (congrArg some (by kernel_rfl))
 f166:=Tryz.func232.trans (congrArg some (by kernel_rfl))
 f169:=Tryz.func233.trans (congrArg some (by kernel_rfl))
 f240:=Tryz.func239.trans (congrArg some (by kernel_rfl))
 f241:=Tryz.func240.trans (congrArg some (by kernel_rfl))
 f276:=Tryz.func242.trans (congrArg some (by kernel_rfl))
 f277:=Tryz.func243.trans (congrArg some (by kernel_rfl))
 t0:=Tryz.underlying0
 a0:=Tryz.isAgg0
 z0:=Tryz.sizeOf0
 v0:=Tryz.zeroValue0
 t3:=Tryz.underlying3
 a3:=Tryz.isAgg3
 z3:=Tryz.sizeOf3
 v3:=Tryz.zeroValue3
 t4:=Tryz.underlying4
 a4:=Tryz.isAgg4
 z4:=Tryz.sizeOf4
 v4:=Tryz.zeroValue4
 t9:=Tryz.underlying9
 a9:=Tryz.isAgg9
 z9:=Tryz.sizeOf9
 v9:=Tryz.zeroValue9
 t20:=Tryz.underlying20
 a20:=Tryz.isAgg20
 z20:=Tryz.sizeOf20
 v20:=Tryz.zeroValue20
 t31:=Tryz.underlying23
 a31:=Tryz.isAgg23
 z31:=Tryz.sizeOf23
 v31:=Tryz.zeroValue23
 t37:=Tryz.underlying28
 a37:=Tryz.isAgg28
 z37:=Tryz.sizeOf28
 v37:=Tryz.zeroValue28
 t70:=Tryz.underlying273
 a70:=Tryz.isAgg273
 z70:=Tryz.sizeOf273
 v70:=Tryz.zeroValue273
 t72:=Tryz.underlying275
 a72:=Tryz.isAgg275
 z72:=Tryz.sizeOf275
 v72:=Tryz.zeroValue275
 t75:=Tryz.underlying278
 a75:=Tryz.isAgg278
 z75:=Tryz.sizeOf278
 v75:=Tryz.zeroValue278
 t76:=Tryz.underlying279
 a76:=Tryz.isAgg279
 z76:=Tryz.sizeOf279
 v76:=Tryz.zeroValue279
 t127:=Tryz.underlying282
 a127:=Tryz.isAgg282
 z127:=Tryz.sizeOf282
 v127:=Tryz.zeroValue282
 t164:=Tryz.underlying283
 a164:=Tryz.isAgg283
 z164:=Tryz.sizeOf283
 v164:=Tryz.zeroValue283 }
theorem Builder_Extra_156:Builder.Extra Tryz.prog lays156_ren:={
 sizeBuilder:=by kernel_rfl
 liesBuilder:=by kernel_rfl
 t5:=Tryz.underlying5
 a5:=Tryz.isAgg5
 z5:=Tryz.sizeOf5
 v5:=Tryz.zeroValue5
 infoByte:=by kernel_rfl
 cellsByte:=by kernel_rfl
 sizeByte:=by kernel_rfl
 neB5:=by decide }
end Go.Proofs.YtghljnfbbaklnaaGreat
namespace Go.Proofs.YtghljnfbbaklnaaGreat
open Go.RowKit
set_option maxRecDepth 100000
theorem zr7 {P:Program}{f:FuncId}{ins:List AV}{v:Value}(he:entB P f=true)(hv:scal v=true)
 (hc:∀(w:World) (St:Nat→Prop) (φ:Nat→Lc) (K:Nat→Prop) (us:List Value),VRL w St φ K ins us→Calls P f us.toArray w fun e w'=>e=.returned v∧Below w.heap.size w w'):Ctr P f ins [] (.c (.v v)) []:=by
 refine⟨he,fun w St φ F us' hent=>?_⟩
 refine (hc w St φ _ us' hent.args).mono ?_
 rintro e w' ⟨rfl,hb⟩
 refine⟨_,_,v,fun _=>False,fun _=>[],[],⟨rfl,rfl⟩,rfl,⟨⟨hb.os,hb.tape,hb.output,hb.size,fun b hlt _=>.inl (hb.block b hlt)⟩,?_,by simp,rfl,fun i cs hi=>by simp at hi,fun i hi=>by simp at hi,fun i hi=>by simp at hi,fun i j hi=>by simp at hi,fun i b lo hi=>by simp at hi,fun b hb=>by simp at hb,fun b hb=>hb.elim⟩⟩
 simp only [VRF,CR]
 exact⟨trivial,hv,trivial⟩
theorem zt10 (s:ByteArray){c:Nat}(_hc:c<256):Ctr Tryz.prog 229 [.c (.v (.string s)),.c (.v (.int .u8 (c:Int)))] [] (.c (.v (.int .i64 (Lib.indexByte s.data.toList (UInt8.ofNat c))))) []:=by
 refine zr7 (by kernel_rfl) rfl fun w St φ K us h=>?_
 simp only [VRL,VR,CR] at h
 obtain⟨u,us1,rfl,⟨rfl,-⟩,u2,us2,rfl,⟨rfl,-⟩,rfl⟩:=h
 refine (Go.Proofs.Any.strings_IndexByte lays137 s (c:Int) w).mono ?_
 rintro e w' ⟨rfl,rfl⟩
 exact⟨rfl,Below.refl _ _⟩
def strB:E→ByteArray
 | .str s=>s
 | _=>ByteArray.empty
theorem crl_str {w:World}{St:Nat→Prop}{φ:Nat→Lc}{K:Nat→Prop}:∀{l:List E} {us:List Value} {fp:List Nat},(∀e∈l,∃s,e=.str s)→CRL w St φ K (acL l) us fp→us=l.map fun e=>.string (strB e)
 | [],us,fp,_,h=>by
  simp only [acL,CRL] at h
  exact h.1
 | e :: r,us,fp,he,h=>by
  obtain⟨s,rfl⟩:=he e List.mem_cons_self
  have h':CRL w St φ K (.v (.string s) :: acL r) us fp:=h
  simp only [CRL] at h'
  obtain⟨u,us',f1,f2,rfl,rfl,h1,h2⟩:=h'
  simp only [CR] at h1
  obtain⟨rfl,-⟩:=h1
  rw [crl_str (fun e he'=>he e (List.mem_cons_of_mem _ he')) h2]
  rfl
def joinB (l:List E)(sep:ByteArray):ByteArray:=⟨(Lib.join (l.map fun e=>(strB e).data.toList) sep.data.toList).toArray⟩
theorem join_c {l:List E}(hl:∀e∈l,∃s,e=.str s)(sep:ByteArray)(hn:l.length≤1073741824)(hsz:(joinB l sep).size≤140737488355328):Ctr Tryz.prog 221 [.c (.ro l.length 1 (acL l)),.c (.v (.string sep))] [] (.c (.v (.string (joinB l sep)))) []:=by
 refine zr7 (by kernel_rfl) rfl fun w St φ K us h=>?_
 simp only [VRL,VR,CR] at h
 obtain⟨u,us1,rfl,⟨-,A,c,rfl,⟨h1,h2,h3⟩,h4,h5⟩,u2,us2,rfl,⟨rfl,-⟩,rfl⟩:=h
 cases l with
 | nil=>exact (Go.Proofs.Any.strings_Join_none lays156 Builder_Extra_156 A c sep w).mono fun e w' ⟨he,hw⟩=>⟨he,hw▸Below.refl _ _⟩
 | cons x r =>
  obtain⟨b,o,us,rfl,-,hb,hc,hcr⟩:=h5 (by simp)
  have hus:=crl_str hl hcr
  have e1:(x :: r).length=((x :: r).map strB).length:=by simp
  have e2:joinB (x :: r) sep=⟨(Lib.join (((x :: r).map strB).map (·.data.toList)) sep.data.toList).toArray⟩:=by unfold joinB;rw [List.map_map];rfl
  rw [e2] at hsz ⊢
  rw [e1] at hn h1 ⊢
  refine Go.Proofs.Any.strings_Join lays156 Builder_Extra_156 b o c ((x :: r).map strB) sep w (fun j y hy=>hc j _ ?_) hb (by omega) h1 ?_
  ·rw [hus,List.getElem?_map]
   rw [List.getElem?_map] at hy
   cases hq:(x :: r)[j]? with
   | none=>rw [hq] at hy;cases hy
   | some e=>rw [hq] at hy;simp at hy;simp [hy]
  ·have:(ByteArray.mk (Lib.join (((x :: r).map strB).map (·.data.toList)) sep.data.toList).toArray).size=(Lib.join (((x :: r).map strB).map (·.data.toList)) sep.data.toList).length:=by show (List.toArray _).size=_;rw [List.size_toArray]
   rw [this] at hsz
   exact hsz
def inB (n lo hi:Int):Bool:=decide (lo≤n)&&decide (n≤hi)
theorem zo8 (n lo hi:Int)(w:World):Calls Tryz.prog 102 #[.int .i64 n,.int .i64 lo,.int .i64 hi] w fun e w' =>
 e=.returned (.bool (inB n lo hi))∧w=w':=by
 go_enter Tryz.func102,Tryz.ntmps102
 go_wp2
 all_goals (go_ret;exact⟨by simp [inB, *]<;>omega,rfl⟩)
theorem l1In_any (n lo hi:Int)(w:World):Calls Tryz.prog 97 #[.int .i64 n,.int .i64 lo,.int .i64 hi] w fun e w' =>
 e=.returned (.bool (inB n lo hi))∧w=w':=by
 go_enter Tryz.func97,Tryz.ntmps97
 go_wp2
 all_goals (go_ret;exact⟨by simp [inB, *]<;>omega,rfl⟩)
def hasN (n:Int):Bool:=n==2||n==3||n==4||n==5||n==6||n==7||n==13||n==16||n==17||n==18||n==19||n==20||n==21||n==24||n==25||n==32||n==34||n==36
theorem zc4 (n:Int)(w:World):Calls Tryz.prog 99 #[.int .i64 n] w fun e w' =>
 e=.returned (.bool (hasN n))∧w=w':=by
 go_enter Tryz.func99,Tryz.ntmps99
 go_wp2
 all_goals (go_ret;exact⟨by simp [hasN, *],rfl⟩)
theorem zw3 (n:Int)(w:World):Calls Tryz.prog 114 #[.int .i64 n] w fun e w' =>
 e=.returned (.bool (hasN n))∧w=w':=by
 go_enter Tryz.func114,Tryz.ntmps114
 go_wp2
 all_goals (go_ret;exact⟨by simp [hasN, *],rfl⟩)
def insOk (o n:Int):Bool :=
 inB o 1 41&&(inB n 0 10000&&(if o=7 then decide (n≤11) else if o=13 then decide (n≤1) else if o=34 then inB n 1 5 else hasN o||n==0))
theorem zt4 (o n:Int)(w:World):Calls Tryz.prog 160 #[.agg #[.int .i64 o,.int .i64 n]] w fun e w' =>
 e=.returned (.bool (insOk o n))∧Below w.heap.size w w':=by
 go_enter Tryz.func160,Tryz.ntmps160
 go_wp2_with (first|(go_at_call 97;refine (l1In_any _ _ _ _).mono ?_;rintro e w' ⟨rfl,rfl⟩)|(go_at_call 99;refine (zc4 _ _).mono ?_;rintro e w' ⟨rfl,rfl⟩))
 all_goals (go_ret;exact⟨rb (by simp_all [insOk]),(Below.refl _ _).alloc (by simp) _⟩)
def insOkI (o n:Int):Bool :=
 if (!inB o 1 41||!hasN o)=true then inB o 1 41&&n==0
 else if (o==7)=true then inB n 0 11 else if (o==13)=true then inB n 0 1 else if (o==34)=true then inB n 1 5 else inB n 0 10000
theorem insOkI_eq (o n:Int):insOkI o n=insOk o n:=by
 rw [Bool.eq_iff_iff]
 unfold insOkI insOk
 by_cases h1:inB o 1 41=true
 ·by_cases h2:hasN o=true
  ·by_cases h7:o=7
   ·subst h7;simp [hasN,inB];omega
   ·by_cases h13:o=13
    ·subst h13;simp [hasN,inB];omega
    ·by_cases h34:o=34
     ·subst h34;simp [hasN,inB];omega
     ·simp [h1,h2,h7,h13,h34]
  ·have h7:o≠7:=by rintro rfl;exact h2 rfl
   have h13:o≠13:=by rintro rfl;exact h2 rfl
   have h34:o≠34:=by rintro rfl;exact h2 rfl
   simp [h2,h7,h13,h34,inB];omega
 ·simp [h1]
theorem zu4 (o n:Int)(w:World):Calls Tryz.prog 111 #[.agg #[.int .i64 o,.int .i64 n]] w fun e w' =>
 e=.returned (.bool (insOk o n))∧Below w.heap.size w w':=by
 rw [←insOkI_eq]
 go_enter Tryz.func111,Tryz.ntmps111
 go_wp2_with (first|(go_at_call 102;refine (zo8 _ _ _ _).mono ?_;rintro e w' ⟨rfl,rfl⟩)|(go_at_call 114;refine (zw3 _ _).mono ?_;rintro e w' ⟨rfl,rfl⟩))
 all_goals (go_ret;exact⟨rb (by simp_all [insOkI]),(Below.refl _ _).alloc (by simp) _⟩)
end Go.Proofs.YtghljnfbbaklnaaGreat
namespace Go.Proofs.YtghljnfbbaklnaaGreat
open Go.RowKit
end Go.Proofs.YtghljnfbbaklnaaGreat
namespace Go.Proofs.YtghljnfbbaklnaaGreat
open Go.RowKit
end Go.Proofs.YtghljnfbbaklnaaGreat
namespace Go.Proofs.YtghljnfbbaklnaaGreat
open Go.RowKit
theorem zk6 (n:Int)(h₀:0≤n)(h₁:n<2 ^ 63):IntKind.i64.wrap n=n:=by rw [IntKind.wrap_i64];omega
theorem and127 (x:Int)(h₀:0≤x)(h₁:x<2 ^ 63):bits .and .i64 x 127=x % 128:=bits_mask .i64 63 (by decide) zk6 7 (by decide) x h₀ h₁
theorem or128 (x:Int)(h₀:0≤x)(h₁:x<128):bits .or .i64 x 128=x+128:=by
 obtain⟨a,rfl⟩:=Int.eq_ofNat_of_zero_le h₀
 have:=(bits_nat .i64 63 (by decide) zk6 a 128 (by omega) (by omega)).2
 rw [show (((128:Nat):Int))=128 from rfl] at this
 rw [this]
 have ha:a<128:=by omega
 have e:∀a<128,a ||| 128=a+128:=by decide
 rw [e a ha];simp
end Go.Proofs.YtghljnfbbaklnaaGreat
