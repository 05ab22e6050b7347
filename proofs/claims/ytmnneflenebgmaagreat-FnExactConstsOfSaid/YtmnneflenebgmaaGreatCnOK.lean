/- T -/
import Derived.Test.YtmnneflenebgmaaGreatCnOJ
set_option maxHeartbeats 0
set_option maxRecDepth 100000
namespace Go.Proofs.YtmnneflenebgmaaGreat
open Go.RowKit Go.Proofs.Tryz
section
variable {C:Ctx}{φ:Nat→Lc}{F:Nat→List Nat}{St:Nat→Prop}{σ:AS}{a:Act}{w w':World}
theorem SimF.give (h:SimF C φ F St σ a w){b:Nat}(hf:Free C φ F St σ b)(hs:Stp (some b) w w'):SimF C φ F (fun x=>(St x∧x<w.heap.size)∨x=b) σ a w':=by
 have hS:∀x,St x→x<w.heap.size→((St x∧x<w.heap.size)∨x=b)∧w'.heap[x]? = w.heap[x]? := fun x hx hl=>⟨.inl ⟨hx,hl⟩,hs.blk x hl fun e=>hf.2.1 (by injection e with e;exact e▸hx)⟩
 have hK:∀j,σ.Kn j→σ.Kn j∧φ j=φ j:=fun j hj=>⟨hj,rfl⟩
 refine⟨h.dfr,h.len,fun t=>VR.mono hS hs.size hK _ _ (h.tms t),fun j s hj=>⟨(h.row j s hj).1,?_⟩,h.nod,h.dis,h.bxF,h.bxd,fun j s x hj hx hst=>?_,fun j s x lo hj e hst=>?_,?_,h.own,h.par,h.new,h.gnN,fun x hx hl=>?_⟩
 ·have h1:=(h.row j s hj).2
  exact h1.mono hS hs.size hK (fun x hx=>hs.blk x (h1.lt x hx) fun e=>(hf.1 j s hj).1 (by injection e with e;exact e▸hx)) fun x lo us e' _ hB=>hB.block (hs.blk x hB.lt fun e=>(hf.1 j s hj).2 lo (by injection e with e;rw [e',e]))
 ·rcases hst with h1|rfl
  ·exact h.stF j s x hj hx h1.1
  ·exact (hf.1 j s hj).1 hx
 ·rcases hst with h1|rfl
  ·exact h.stB j s x lo hj e h1.1
  ·exact (hf.1 j s hj).2 lo e
 ·have hfr:=h.frm
  refine⟨hs.os.trans hfr.os,hs.tape.trans hfr.tape,hs.output.trans hfr.output,Nat.le_trans hfr.size hs.size,fun x hx hM=>(hfr.blk x hx hM).trans (.inl (hs.blk x (Nat.lt_of_lt_of_le hx hfr.size) fun e=>?_))⟩
  injection e with e
  subst e
  rcases hf.2.2 with h1|h1
  ·exact hM h1
  ·omega
 ·rcases hx with h1|rfl
  ·exact h.stS x h1.1 hl
  ·rcases hf.2.2 with h1|h1
   ·exact .inr h1
   ·omega
end
section
variable {P:Program}{ops:Array Oper}{Q:Exit→Act→World→Prop}{C:Ctx}{i:Nat}{r:List Nat}{o:Oper}
variable {tm:Nat→AV}{hp:Nat→Option Row}{gn L:Nat}{us:List Nat}{x:AV}
theorem rO {w:World}{b:Nat}{cur:Array Value}{e:TypeId}(h:w.heap[b]? = some (.cells cur e (0,0))):(w.freeze ⟨b,cur.size,none⟩ 1).heap[b]? = some (.cells cur e (cur.size,cur.size+1))∧Stp (some b) w (w.freeze ⟨b,cur.size,none⟩ 1):=by
 unfold World.freeze
 rw [if_neg (by decide)]
 refine⟨?_,rfl,rfl,rfl,?_,fun j hj hne=>?_⟩
 ·show (w.heap.modify b _)[b]? = _
  rw [Array.getElem?_modify,if_pos rfl,h];rfl
 ·show w.heap.size≤(w.heap.modify b _).size
  rw [Array.size_modify];exact Nat.le_refl _
 ·show (w.heap.modify b _)[j]? = _
  rw [Array.getElem?_modify,if_neg (fun e=>hne (by rw [e]))]
theorem uz {P:Program}{T e:TypeId}{w:World}{b n c:Nat}{cur:Array Value}(ht:P.underlying T=some (.slice e))(he:P.underlying e=some (.int .u8))(h:w.heap[b]? = some (.cells cur e (0,0))) :
 (convert T T (.slice (some ⟨b,0,none⟩) n c)).run P w=.ok (.slice (some ⟨b,0,none⟩) n c) (w.freeze ⟨b,cur.size,none⟩ 1):=by
 have hsh:w.shape? b=some (e,cur.size):=by unfold World.shape?;rw [h]
 simp [convert,run_underlying ht,run_underlying he,markStringish,hsh]
def scC:AC→Bool
 | .v _=>true
 | _=>false
theorem uA {w w':World}{St St':Nat→Prop}{φ φ':Nat→Lc}{K K':Nat→Prop}:∀{l:List AC} {us:List Value} {fp:List Nat},l.all scC=true→CRL w St φ K l us fp→fp=[]∧CRL w' St' φ' K' l us []
 | [],us,fp,_,h=>by
  simp only [CRL] at h
  obtain⟨rfl,rfl⟩:=h
  exact⟨rfl,CRL.nil⟩
 | c :: t,us,fp,hl,h=>by
  simp only [List.all_cons,Bool.and_eq_true] at hl
  simp only [CRL] at h
  obtain⟨u,us',f1,f2,rfl,rfl,h1,h2⟩:=h
  obtain⟨rfl,h4⟩:=uA (w':=w') (St':=St') (φ':=φ') (K':=K') hl.2 h2
  cases c with
  | v y =>
   simp only [CR] at h1
   obtain⟨rfl,g2,rfl⟩:=h1
   exact⟨rfl,CRL.cons (f:=[]) (f':=[]) (by simp only [CR];exact⟨trivial,g2,trivial⟩) h4⟩
  | _=>cases hl.1
theorem n_cvm {ty:TypeId}{gd:Option (Nat×Bool)}{ps:String}{af:Array Edge}{t j n:Nat}{T e:TypeId}{xo:Operand}{cs:List AC}
 (h:Walk P ops Q C false [] r ⟨upd tm t (.c (.ro n 1 cs)),upd hp j none,gn,us,L⟩)
 (hT:P.underlying T=some (.slice e)) (hE:P.underlying e=some (.int .u8)) (ht:Nat.blt t L=true:=by exact rfl) (hg:gw ops tm (⟨some t,.convert T T xo,ty,ps,af,gd⟩:Oper)=some true:=by exact rfl)
 (hx:AS.ev ⟨tm,hp,gn,us,L⟩ xo=.c (.sl j n):=by exact rfl) (hr:hp j=some ⟨e,1,n,false,cs⟩:=by exact rfl) (hn:Nat.blt 0 n=true:=by exact rfl) (hs:cs.all scC=true:=by exact rfl) :
 WalkO P ops Q C false [] i (⟨some t,.convert T T xo,ty,ps,af,gd⟩:Oper) r ⟨tm,hp,gn,us,L⟩:=⟨fun hop=>by
 refine⟨_,⟨[j],[(j,none)],[],.c (.ro n 1 cs)⟩,hop,?_,fun n hn=>absurd hn List.not_mem_nil,eB (by exact bB),?_⟩
 ·intro τ a w ha hsim K hK
  obtain⟨φ,F,St,hsim⟩:=hsim
  have e1:τ.ev xo=.c (.sl j n):=by rw [ha.ev xo (by show xo∈#[xo];simp)];exact hx
  have e2:τ.hp j=some ⟨e,1,n,false,cs⟩:=by rw [ha.hp j List.mem_cons_self];exact hr
  have v1:=hsim.ev xo
  rw [e1] at v1
  simp only [VR,CR] at v1
  obtain⟨-,k1,k2,A,c,k3⟩:=v1
  obtain⟨-,hrow⟩:=hsim.row j _ e2
  rw [k2] at hrow
  obtain⟨-,vs,fs,g1,g2,g3⟩:=hrow
  have hn':0<n:=em hn
  obtain⟨hl,⟨-,h0⟩|⟨b,cap,cur,hu,-,hh,hnc,hcm,hsz,htk⟩⟩:=g2
  ·dsimp only at h0;omega
  obtain⟨hfs,-⟩:=uA (w':=w) (St':=St) (φ':=φ) (K':=τ.Kn) hs g1
  subst hfs
  rw [List.append_nil] at g3
  rw [hu] at g3
  have hob:obl (Value.slice (some ⟨b,0,none⟩) n cap)=[b]:=rfl
  dsimp only at hnc hsz htk hl hh
  have hbF:b∈F j:=by rw [g3];exact List.mem_cons_self
  have hfree:=hsim.free e2 hbF
  obtain⟨w1,w2⟩:=rO hh
  have hsim2:=(hsim.drop j).give hfree w2
  have hev:a.eval xo=.slice (some ⟨b,0,none⟩) n cap:=hu
  unfold wpOp
  rw [hop]
  have hw:=o9 hsim (b:=true) (by rw [ha.gw];exact hg)
  simp only [hw,if_true]
  refine .inl ?_
  unfold Oper.wp
  have hrun:(execOp a.eval (⟨some t,.convert T T xo,ty,ps,af,gd⟩:Oper)).run P w=.ok (.value (.slice (some ⟨b,0,none⟩) n cap)) (w.freeze ⟨b,cur.size,none⟩ 1):=by
   unfold execOp
   have hrc:=uz (P:=P) (n:=n) (c:=cap) hT hE hh
   simp only [hev]
   simp [Sem.run_bind,hrc]
  rw [hrun]
  have hvr:VR (w.freeze ⟨b,cur.size,none⟩ 1) (fun x=>(St x∧x<w.heap.size)∨x=b) φ ({ τ with hp:=upd τ.hp j none }:AS).Kn (.c (.ro n 1 cs)) (.slice (some ⟨b,0,none⟩) n cap):=by
   simp only [VR,CR]
   refine⟨trivial,some ⟨b,0,none⟩,cap,rfl,⟨hnc,hcm,fun h=>by cases h⟩,?_,fun _=>⟨b,0,vs,rfl,.inr rfl,(Array.getElem?_eq_some_iff.1 w1).1,fun q y hq=>?_,?_⟩⟩
   ·rw [←g1.len];omega
   ·have hq2:cur[q]? = some y:=by
     rw [←htk] at hq
     rw [List.getElem?_take] at hq
     split at hq
     ·rwa [Array.getElem?_toList] at hq
     ·cases hq
    rw [Nat.zero_add]
    unfold World.cell?
    rw [w1]
    exact hq2
   ·exact (uA hs g1).2
  have h7:=hsim2.put (some t) hvr
  exact hK _ _ ⟨φ,F,_,h7⟩
 ·refine cY ?_
  show Walk P ops Q C false [] r (AS.put _ (some t) _)
  rw [eN (by exact em ht)];exact h⟩
end
mutual
def fzC:AC→AC
 | .ow _ n k l=>.ro n k (fzL l)
 | .bx _ _=>.un
 | .v x=>.v x
 | .ro n k l=>.ro n k l
 | .sl i n=>.sl i n
 | .pt i o=>.pt i o
 | .rp l o=>.rp l o
 | .fn f c=>.fn f c
 | .un=>.un
 | .nn=>.nn
 | .mp l=>.mp l
def fzL:List AC→List AC
 | []=>[]
 | c :: r=>fzC c :: fzL r
end
theorem pg:∀l:List AC,(fzL l).length=l.length
 | []=>rfl
 | _ :: r=>by simp only [fzL,List.length_cons,pg r]
theorem km:∀l m:List AC,fzL (l++m)=fzL l++fzL m
 | [],_=>rfl
 | _ :: r,m=>by simp only [List.cons_append,fzL,km r m]
section
variable {C:Ctx}{φ:Nat→Lc}{F:Nat→List Nat}{St St':Nat→Prop}{K:Nat→Prop}{σ:AS}{a:Act}{w w':World}
theorem CRL.fz_of:∀(l:List AC) (us:List Value) (fs:List Nat),(∀e∈l,∀(u:Value) (fp:List Nat),(∀b∈fp,St' b)→CR w St φ K e u fp→CR w St' φ K (fzC e) u [])→(∀b∈fs,St' b)→CRL w St φ K l us fs→CRL w St' φ K (fzL l) us []
 | [],us,fs,_,_,h=>by simp only [CRL] at h;obtain⟨rfl,rfl⟩:=h;exact CRL.nil
 | c :: r,us,fs,hh,hf,h=>by
  simp only [CRL] at h
  obtain⟨u,us',f1,f2,rfl,rfl,g1,g2⟩:=h
  exact CRL.cons (f:=[]) (f':=[]) (hh c List.mem_cons_self u f1 (fun b hb=>hf b (List.mem_append_left _ hb)) g1) (CRL.fz_of r us' f2 (fun e he=>hh e (List.mem_cons_of_mem _ he)) (fun b hb=>hf b (List.mem_append_right _ hb)) g2)
theorem CR.fz (hS:∀b,St b→St' b):∀(c:AC) (u:Value) (fp:List Nat),(∀b∈fp,St' b)→CR w St φ K c u fp→CR w St' φ K (fzC c) u []:=by
 intro c
 induction c using AC.ind with
 | h1 x=>intro u fp _ h;simp only [CR,fzC] at h ⊢;exact⟨h.1,h.2.1,trivial⟩
 | h2 n k l ih=>intro u fp _ h;have h0:=h;simp only [CR] at h0;obtain⟨rfl,_⟩:=h0;exact CR.sub_ hS _ u [] h
 | h3 T n k l ih =>
  intro u fp hfp h
  have hlt:=CR.lt _ _ _ h
  simp only [CR] at h
  obtain⟨us,fs,h1,h2,rfl⟩:=h
  obtain⟨hl,h3⟩:=h2
  have hlen:(fzL l).length=n*k:=by rw [pg,←h1.len,hl]
  have hr:=CRL.fz_of (St':=St') l us fs ih (fun b hb=>hfp b (List.mem_append_right _ hb)) h1
  simp only [fzC,CR]
  rcases h3 with ⟨rfl,h0⟩|⟨b,cap,cur,rfl,-,hh,hnc,hcm,hsz,htk⟩
  ·exact⟨trivial,none,0,by rw [h0],⟨omq,by unfold maxLen;omega,fun _=>rfl⟩,hlen,fun hn=>by omega⟩
  ·refine⟨trivial,some ⟨b,0,none⟩,cap,rfl,⟨hnc,hcm,fun e=>by cases e⟩,hlen,fun _=>⟨b,0,us,rfl,hfp b (List.mem_append_left _ (by simp [obl,Value.ownBlock])),hlt b (List.mem_append_left _ (by simp [obl,Value.ownBlock])),fun q y hq=>?_,hr⟩⟩
   have hq2:cur[q]? = some y:=by
    rw [←htk] at hq
    rw [List.getElem?_take] at hq
    split at hq
    ·rwa [Array.getElem?_toList] at hq
    ·cases hq
   rw [Nat.zero_add]
   unfold World.cell?
   rw [hh]
   exact hq2
 | h4 i n=>intro u fp _ h;have h0:=h;simp only [CR] at h0;obtain⟨rfl,_⟩:=h0;exact CR.sub_ hS _ u [] h
 | h5 i o=>intro u fp _ h;have h0:=h;simp only [CR] at h0;obtain⟨rfl,_⟩:=h0;exact CR.sub_ hS _ u [] h
 | h6 l o ih=>intro u fp _ h;have h0:=h;simp only [CR] at h0;obtain⟨rfl,_⟩:=h0;exact CR.sub_ hS _ u [] h
 | h7 f c ih=>intro u fp _ h;have h0:=h;simp only [CR] at h0;obtain⟨rfl,_⟩:=h0;exact CR.sub_ hS _ u [] h
 | h9 T l ih=>intro u fp _ h;simp only [fzC,CR]
 | h8=>intro u fp _ h;simp only [fzC,CR]
 | hn=>intro u fp _ h;have h0:=h;simp only [CR] at h0;obtain⟨rfl,_⟩:=h0;exact CR.sub_ hS _ u [] h
 | hm l=>intro u fp _ h;have h0:=h;simp only [CR] at h0;obtain⟨rfl,_⟩:=h0;exact CR.sub_ hS _ u [] h
theorem SimF.freeze (h:SimF C φ F St σ a w){i:Nat}{r:Row}(hr:σ.hp i=some r){pre mid post:List AC}(hcs:r.cs=pre++(mid++post)) :
 ∃F' St',SimF C φ F' St' { σ with hp:=upd σ.hp i (some { r with cs:=pre++(fzL mid++post) }) } a w:=by
 have hlen:(pre++(fzL mid++post)).length=r.cs.length:=by rw [hcs];simp [pg]
 have key:∀(us:List Value) (fp:List Nat),CRL w St φ σ.Kn r.cs us fp→fp.Nodup→∃(X Y:List Nat),(∀St':Nat→Prop,(∀b,St b→St' b)→(∀b∈Y,St' b)→CRL w St' φ σ.Kn (pre++(fzL mid++post)) us X)∧(∀b,b∈fp↔b∈X∨b∈Y)∧X.Nodup∧∀b∈X,b∉Y:=by
  intro us fp hc hnd
  rw [hcs] at hc
  obtain⟨u1,u2,f1,f2,rfl,rfl,g1,g2⟩:=hc.split
  obtain⟨u3,u4,f3,f4,rfl,rfl,g3,g4⟩:=g2.split
  have h3:=List.nodup_append.1 hnd
  have h4:=List.nodup_append.1 h3.2.1
  refine⟨f1++f4,f3,fun St' s1 s2=>(g1.sub_ s1).app (CRL.app (f:=[]) (f':=f4) (CRL.fz_of mid u3 f3 (fun e _ u fp hf hc=>CR.fz s1 e u fp hf hc) s2 g3) (g4.sub_ s1)),fun b=>by simp only [List.mem_append];exact⟨fun h=>h.elim (fun h=>.inl (.inl h)) fun h=>h.elim .inr fun h=>.inl (.inr h),fun h=>h.elim (fun h=>h.elim .inl fun h=>.inr (.inr h)) fun h=>.inr (.inl h)⟩,List.nodup_append.2 ⟨h3.1,h4.2.1,fun p hp q hq e=>h3.2.2 p hp q (List.mem_append_right _ hq) e⟩,fun b hb hm=>?_⟩
  rcases List.mem_append.1 hb with hb|hb
  ·exact h3.2.2 b hb b (List.mem_append_left _ hm) rfl
  ·exact h4.2.2 b hm b hb rfl
 have hrow:=(h.row i r hr).2
 have hnd:=h.nod i r hr
 obtain⟨X,Y,x1,x2,x3,x4⟩:∃(X Y:List Nat),(∀St':Nat→Prop,(∀b,St b→St' b)→(∀b∈Y,St' b)→RowOk w St' φ σ.Kn { r with cs:=pre++(fzL mid++post) } X (φ i))∧(∀b,b∈F i↔b∈X∨b∈Y)∧X.Nodup∧∀b∈X,b∉Y:=by
  cases e:φ i with
  | box b lo =>
   rw [e] at hrow
   obtain⟨hb,us,g1,g2⟩:=hrow
   obtain⟨X,Y,k1,k2,k3,k4⟩:=key us (F i) g1 hnd
   exact⟨X,Y,fun St' s1 s2=>⟨hb,us,k1 St' s1 s2,g2⟩,k2,k3,k4⟩
  | slc v =>
   rw [e] at hrow
   obtain⟨hb,us,fs0,g1,g2,g3⟩:=hrow
   rw [g3] at hnd
   have hn3:=List.nodup_append.1 hnd
   obtain⟨X,Y,k1,k2,k3,k4⟩:=key us fs0 g1 hn3.2.1
   refine⟨obl v++X,Y,fun St' s1 s2=>⟨hb,us,X,k1 St' s1 s2,g2,rfl⟩,fun b=>by rw [g3,List.mem_append,List.mem_append,k2,or_assoc],List.nodup_append.2 ⟨hn3.1,k3,fun p hp q hq e=>hn3.2.2 p hp q ((k2 q).2 (.inl hq)) e⟩,fun b hb hm=>?_⟩
   rcases List.mem_append.1 hb with hb|hb
   ·exact hn3.2.2 b hb b ((k2 b).2 (.inr hm)) rfl
   ·exact k4 b hb hm
 have hS:∀b,St b→b<w.heap.size→(St b∨b∈Y)∧w.heap[b]? = w.heap[b]? := fun b hb _=>⟨.inl hb,rfl⟩
 have hK:∀j,σ.Kn j→σ.Kn j∧φ j=φ j:=fun j hj=>⟨hj,rfl⟩
 have old:∀m t,upd σ.hp i (some { r with cs:=pre++(fzL mid++post) }) m=some t→(m=i∧t={ r with cs:=pre++(fzL mid++post) })∨(m≠i∧σ.hp m=some t):=fun m t hm=>by
  by_cases e:m=i
  ·subst e;rw [aX] at hm;injection hm with hm;exact .inl ⟨rfl,hm.symm⟩
  ·rw [bh _ _ e] at hm;exact .inr ⟨e,hm⟩
 have get:∀m t,upd σ.hp i (some { r with cs:=pre++(fzL mid++post) }) m=some t→∃t',σ.hp m=some t'∧(∀b∈upd F i X m,b∈F m)∧t.cs.length=t'.cs.length:=fun m t hm=>by
  rcases old m t hm with ⟨rfl,rfl⟩|⟨e1,e3⟩
  ·exact⟨r,hr,fun b hb=>by rw [aX] at hb;exact (x2 b).2 (.inl hb),hlen⟩
  ·exact⟨t,e3,fun b hb=>by rw [bh _ _ e1] at hb;exact hb,rfl⟩
 refine⟨upd F i X,fun b=>St b∨b∈Y,h.dfr,h.len,fun t=>VR.mono hS (Nat.le_refl _) hK _ _ (h.tms t),fun m t hm=>?_,fun m t hm=>?_,fun m q t v hm hq hmq b hb hb'=>?_,fun m q t v b lo hm hq e hb=>?_,fun m q t v b lo lo' hm hq hmq e e'=>?_,fun m t b hm hb hst=>?_,fun m t b lo hm e hst=>?_,h.frm,fun m t b hm hb=>?_,fun m hm=>⟨(h.par m hm).1,fun t ht q hq=>?_⟩,fun m t b lo hm e hN=>?_,h.gnN,fun b hb hl=>?_⟩
 ·rcases old m t hm with ⟨rfl,rfl⟩|⟨e1,e3⟩
  ·rw [aX];exact⟨(h.row m r hr).1,x1 _ (fun b hb=>.inl hb) (fun b hb=>.inr hb)⟩
  ·rw [bh _ _ e1]
   exact⟨(h.row m t e3).1,(h.row m t e3).2.mono hS (Nat.le_refl _) hK (fun _ _=>rfl) (fun _ _ _ _ _ hB=>hB)⟩
 ·rcases old m t hm with ⟨rfl,rfl⟩|⟨e1,e3⟩
  ·rw [aX];exact x3
  ·rw [bh _ _ e1];exact h.nod m t e3
 ·obtain⟨t',g1,g2,_⟩:=get m t hm
  obtain⟨v',p1,p2,_⟩:=get q v hq
  exact h.dis m q t' v' g1 p1 hmq b (g2 b hb) (p2 b hb')
 ·obtain⟨t',g1,g2,_⟩:=get m t hm
  obtain⟨v',p1,p2,_⟩:=get q v hq
  exact h.bxF m q t' v' b lo g1 p1 e (p2 b hb)
 ·obtain⟨t',g1,_,g3⟩:=get m t hm
  obtain⟨v',p1,_,p3⟩:=get q v hq
  rw [g3,p3]
  exact h.bxd m q t' v' b lo lo' g1 p1 hmq e e'
 ·rcases hst with hst|hY
  ·obtain⟨t',g1,g2,_⟩:=get m t hm
   exact h.stF m t' b g1 (g2 b hb) hst
  ·rcases old m t hm with ⟨rfl,rfl⟩|⟨e1,e3⟩
   ·rw [aX] at hb;exact x4 b hb hY
   ·rw [bh _ _ e1] at hb;exact h.dis m i t r e3 hr e1 b hb ((x2 b).2 (.inr hY))
 ·obtain⟨t',g1,g2,_⟩:=get m t hm
  rcases hst with hst|hY
  ·exact h.stB m t' b lo g1 e hst
  ·exact h.bxF m i t' r b lo g1 hr e ((x2 b).2 (.inr hY))
 ·obtain⟨t',g1,g2,_⟩:=get m t hm;exact h.own m t' b g1 (g2 b hb)
 ·obtain⟨t',g1,_,g3⟩:=get m t ht
  exact (h.par m hm).2 t' g1 q (by rw [←g3];exact hq)
 ·obtain⟨t',g1,_,_⟩:=get m t hm;exact h.new m t' b lo g1 e hN
 ·rcases hb with hb|hY
  ·exact h.stS b hb hl
  ·exact .inr ((h.own i r b hr ((x2 b).2 (.inr hY))).resolve_right omq)
end
section
variable {tm:Nat→AV}{hp:Nat→Option Row}{gn L:Nat}{us:List Nat}
end
section
variable {ops:Array Oper}{Q:Exit→Act→World→Prop}{C:Ctx}{i:Nat}{r:List Nat}
variable {tm:Nat→AV}{hp:Nat→Option Row}{gn L:Nat}{us:List Nat}
end
section
variable {C:Ctx}{φ:Nat→Lc}{F:Nat→List Nat}{St:Nat→Prop}{σ:AS}{a:Act}{w:World}
theorem SimF.giveNew (h:SimF C φ F St σ a w)(o:Obj):SimF C φ F (fun x=>(St x∧x<w.heap.size)∨x=w.heap.size) σ a (w.alloc o):=by
 have hs:=Stp.alloc w o none
 have hS:∀x,St x→x<w.heap.size→((St x∧x<w.heap.size)∨x=w.heap.size)∧(w.alloc o).heap[x]? = w.heap[x]? := fun x hx hl=>⟨.inl ⟨hx,hl⟩,hs.blk x hl fun e=>by cases e⟩
 have hK:∀j,σ.Kn j→σ.Kn j∧φ j=φ j:=fun j hj=>⟨hj,rfl⟩
 have ltB:∀j s b lo,σ.hp j=some s→φ j=.box b lo→b<w.heap.size:=fun j s b lo hj e=>by
  have h1:=(h.row j s hj).2
  rw [e] at h1
  obtain⟨_,us,_,h2⟩:=h1
  exact h2.lt
 refine⟨h.dfr,h.len,fun t=>VR.mono hS hs.size hK _ _ (h.tms t),fun j s hj=>⟨(h.row j s hj).1,?_⟩,h.nod,h.dis,h.bxF,h.bxd,fun j s x hj hx hst=>?_,fun j s x lo hj e hst=>?_,?_,h.own,h.par,h.new,h.gnN,fun x hx hl=>?_⟩
 ·have h1:=(h.row j s hj).2
  exact h1.mono hS hs.size hK (fun x hx=>hs.blk x (h1.lt x hx) fun e=>by cases e) fun x lo us e' _ hB=>hB.block (hs.blk x hB.lt fun e=>by cases e)
 ·rcases hst with h1|rfl
  ·exact h.stF j s x hj hx h1.1
  ·exact absurd ((h.row j s hj).2.lt _ hx) (Nat.lt_irrefl _)
 ·rcases hst with h1|rfl
  ·exact h.stB j s x lo hj e h1.1
  ·exact absurd (ltB j s _ lo hj e) (Nat.lt_irrefl _)
 ·have hfr:=h.frm
  refine⟨hs.os.trans hfr.os,hs.tape.trans hfr.tape,hs.output.trans hfr.output,Nat.le_trans hfr.size hs.size,fun x hx hM=>(hfr.blk x hx hM).trans (.inl (hs.blk x (Nat.lt_of_lt_of_le hx hfr.size) fun e=>by cases e))⟩
 ·rcases hx with h1|rfl
  ·exact h.stS x h1.1 hl
  ·exact absurd (Nat.lt_of_lt_of_le hl h.frm.size) (Nat.lt_irrefl _)
end
section
variable {P:Program}{ops:Array Oper}{Q:Exit→Act→World→Prop}{C:Ctx}{i:Nat}{r:List Nat}
variable {tm:Nat→AV}{hp:Nat→Option Row}{gn L:Nat}{us:List Nat}
theorem zq3 {ty:TypeId}{gd:Option (Nat×Bool)}{ps:String}{af:Array Edge}{t:Nat}{T:TypeId}{xo:Operand}{cs:List AC}
 (h:Walk P ops Q C false [] r ⟨upd tm t (.c (.rp cs 0)),hp,gn,us,L⟩)
 (ht:Nat.blt t L=true:=by exact rfl) (hg:gw ops tm (⟨some t,.box T xo,ty,ps,af,gd⟩:Oper)=some true:=by exact rfl)
 (hx:(AS.ev ⟨tm,hp,gn,us,L⟩ xo).cells=some cs:=by exact rfl) :
 WalkO P ops Q C false [] i (⟨some t,.box T xo,ty,ps,af,gd⟩:Oper) r ⟨tm,hp,gn,us,L⟩:=⟨fun hop=>by
 refine⟨_,⟨[],[],[],.c (.rp cs 0)⟩,hop,?_,fun n hn=>absurd hn List.not_mem_nil,eB (by exact bB),?_⟩
 ·intro τ a w ha hsim K hK
  obtain⟨φ,F,St,hsim⟩:=hsim
  have e1:(τ.ev xo).cells=some cs:=by rw [ha.ev xo (by show xo∈#[xo];simp)];exact hx
  have v1:=ic e1 (hsim.ev xo)
  obtain⟨vs,v1,v2⟩:∃vs,CRL w St φ τ.Kn cs vs []∧vs.toArray=(a.eval xo).cells:=⟨_,v1,by simp⟩
  have hsim2:=hsim.giveNew (.cells vs.toArray T)
  unfold wpOp
  rw [hop]
  have hw:=o9 hsim (b:=true) (by rw [ha.gw];exact hg)
  simp only [hw,if_true]
  refine .inl ?_
  unfold Oper.wp
  have hrun:(execOp a.eval (⟨some t,.box T xo,ty,ps,af,gd⟩:Oper)).run P w=.ok (.value (.pointer (some ⟨w.heap.size,0,none⟩))) (w.alloc (.cells vs.toArray T)):=by
   unfold execOp
   simp [Sem.run_bind,Instr.box,newVar,newRow,v2]
  rw [hrun]
  have hvr:VR (w.alloc (.cells vs.toArray T)) (fun x=>(St x∧x<w.heap.size)∨x=w.heap.size) φ τ.Kn (.c (.rp cs 0)) (.pointer (some ⟨w.heap.size,0,none⟩)):=by
   simp only [VR,CR]
   refine⟨trivial,w.heap.size,0,vs,rfl,.inr rfl,by simp,fun q y hq=>?_,?_⟩
   ·rw [Nat.zero_add]
    unfold World.cell?
    rw [heap_alloc_new w _]
    simpa using hq
   ·exact v1.mono (fun b hb hl=>⟨.inl ⟨hb,hl⟩,(Stp.alloc w (.cells vs.toArray T) none).blk b hl fun e=>by cases e⟩) (by simp) (fun j hj=>⟨hj,rfl⟩) (fun b hb=>absurd hb List.not_mem_nil)
  have h7:=hsim2.put (some t) hvr
  exact hK _ _ ⟨φ,F,_,h7⟩
 ·refine cY ?_
  show Walk P ops Q C false [] r (AS.put _ (some t) _)
  rw [eN (by exact em ht)];exact h⟩
end
structure Cap (caps:List AC):Prop where
 cv:∀hp,cvL hp [0] caps=caps
 sn:snL caps=[]
 rn:∀ρ:Nat→Option Nat,ρ 0=some 0→rnL ρ caps=some caps
theorem zr3:Cap [.pt 0 0]:=⟨fun _=>rfl,rfl,fun ρ h=>by simp only [rnL,rnC,h,Option.map_some]⟩
theorem nP {f:FuncId}{c:List AC}(h:Cap c):Cap [.rp [.fn f c] 0]:=⟨fun hp=>by
 simp only [cvL,cvC,snL,snC,h.sn,h.cv]
 split
 ·rfl
 ·rfl,rfl,fun ρ h0=>by
 simp only [rnL,rnC,h.rn ρ h0,Option.map_some]
 split
 ·rename_i e1 e2
  split at e1
  ·injection e1 with e1;subst e1;injection e2 with e2;subst e2;rfl
  ·injection e1 with e1;subst e1;injection e2 with e2;subst e2;rfl
 ·rename_i hno
  exfalso
  split at hno<;>exact hno _ _ rfl rfl⟩
theorem lM {f:FuncId}{c:List AC}(h:Cap c){ρ:Nat→Option Nat}(h0:ρ 0=some 0){x:AV}(hx:x=.c (.fn f c)):rnV ρ x=some (.c (.fn f c)):=by
 subst hx
 simp only [rnV,rnC,h.rn ρ h0,Option.map_some]
theorem mB {f:FuncId}{c:List AC}(h:Cap c){ρ:Nat→Option Nat}(h0:ρ 0=some 0){x:AV}(hx:x=.c (.rp [.fn f c] 0)):rnV ρ x=some (.c (.rp [.fn f c] 0)):=by
 subst hx
 have h1:=(nP (f:=f) h).rn ρ h0
 simp only [rnL] at h1
 split at h1
 ·rename_i c' r' e1 e2
  injection e2 with e2
  subst e2
  injection h1 with h1
  injection h1 with h1
  subst h1
  simp only [rnV,e1,Option.map_some]
 ·cases h1
section
variable {hp:Nat→Option Row}{caps:List AC}
theorem xn (h:Cap caps):List.map (cvV hp [0]) (caps.map .c)=caps.map .c:=by
 have h1:=h.cv hp
 rw [j9] at h1
 rw [List.map_map]
 conv=>rhs;rw [←h1,List.map_map]
 rfl
theorem uB:∀l:List AC,(l.map AV.c).flatMap snV=snL l
 | []=>rfl
 | x :: r=>by rw [List.map_cons,List.flatMap_cons,uB r];rfl
theorem qJ {x x':AV}(h:Cap caps)(hx:cvV hp [0] x=x'):List.map (cvV hp [0]) (x :: caps.map .c)=x' :: caps.map .c:=by rw [List.map_cons,hx,xn h]
theorem mC {x:AV}(h:Cap caps)(hx:snV x=[]){p:Nat→Bool}:((x :: caps.map .c).flatMap snV).all p=true:=by rw [List.flatMap_cons,hx,uB,h.sn];rfl
theorem fP {f:FuncId}{x x':AV}(h:Cap caps)(hx:cvV hp [0] x=x'):List.map (cvV hp [0]) [x,.c (.fn f caps)]=[x',.c (.fn f caps)]:=by
 rw [List.map_cons,hx,List.map_cons,cvV,cvC,h.cv];rfl
theorem dU {f:FuncId}{x:AV}(h:Cap caps)(hx:snV x=[]){p:Nat→Bool}:(([x,.c (.fn f caps)]:List AV).flatMap snV).all p=true:=by
 rw [List.flatMap_cons,hx,List.flatMap_cons]
 show ((snL caps++[]).all p)=true
 rw [h.sn];rfl
end
def inR (x a b:Int):Bool:=decide (a≤x)&&decide (x≤b)
theorem fQ (x a b:Int):Ctr prog 138 [.c (.v (.int .i64 x)),.c (.v (.int .i64 a)),.c (.v (.int .i64 b))] [] (.c (.v (.bool (inR x a b)))) []:=by
 refine av func138 rfl rfl ?_
 repeat' (first|refine ae ?_|refine aa fun C=>?_|refine ab ?_|(refine xg ?_ ?_<;>intro hG<;>(try cases hG))|refine bD ?_|refine dB ?_)
 all_goals
  refine am ?_
  refine bi rfl aN ⟨?_,rfl⟩
  refine congrArg (fun s=>AV.c (AC.v (Value.bool s))) ?_
  simp at *
  simp [inR, *]
  try omega
theorem ir (x a b:Int):Ctr prog 172 [.c (.v (.int .i64 x)),.c (.v (.int .i64 a)),.c (.v (.int .i64 b))] [] (.c (.v (.bool (inR x a b)))) []:=by
 refine av func172 rfl rfl ?_
 repeat' (first|refine ae ?_|refine aa fun C=>?_|refine ab ?_|(refine xg ?_ ?_<;>intro hG<;>(try cases hG))|refine bD ?_|refine dB ?_)
 all_goals
  refine am ?_
  refine bi rfl aN ⟨?_,rfl⟩
  refine congrArg (fun s=>AV.c (AC.v (Value.bool s))) ?_
  simp at *
  simp [inR, *]
  try omega
def xp (c:Nat):Bool:=decide (48≤c)&&decide (c≤57)
theorem nQ (c:Nat):Ctr prog 201 [.c (.v (.int .u8 (c:Int)))] [] (.c (.v (.bool (xp c)))) []:=by
 refine av func201 rfl rfl ?_
 repeat' (first|refine ae ?_|refine aa fun C=>?_|refine ab ?_|(refine xg ?_ ?_<;>intro hG<;>(try cases hG))|refine bD ?_|refine dB ?_)
 all_goals
  (first|refine am ?_|skip);refine bi rfl aN ⟨?_,rfl⟩;refine congrArg (fun s=>AV.c (AC.v (Value.bool s))) ?_
  unfold xp
  (rw [Bool.eq_iff_iff];(try simp only [Bool.and_eq_true,Bool.or_eq_true,Bool.not_eq_true',decide_eq_true_iff,decide_eq_false_iff_not,beq_iff_eq,Bool.and_eq_false_iff,Bool.or_eq_false_iff,bne_iff_ne,ne_eq,Bool.true_eq_false,Bool.false_eq_true,true_iff,false_iff,iff_true,iff_false] at *);first|omega|(simp at *;omega))
theorem nR {c:Nat}(hc:c<256):Ctr prog 171 [.c (.v (.int .u8 (c:Int)))] [] (.c (.v (.bool (xp c)))) []:=by
 refine av func171 rfl rfl ?_
 repeat' (first|refine ae ?_|refine aa fun C=>?_|refine ab ?_|refine pf ?_|refine bD ?_|refine il (ir _ _ _) ?_)
 all_goals
  (first|refine am ?_|skip);refine bi rfl aN ⟨?_,rfl⟩;refine congrArg (fun s=>AV.c (AC.v (Value.bool s))) ?_
  unfold xp inR
  (rw [Bool.eq_iff_iff];(try simp only [Bool.and_eq_true,Bool.or_eq_true,Bool.not_eq_true',decide_eq_true_iff,decide_eq_false_iff_not,beq_iff_eq,Bool.and_eq_false_iff,Bool.or_eq_false_iff,bne_iff_ne,ne_eq,Bool.true_eq_false,Bool.false_eq_true,true_iff,false_iff,iff_true,iff_false] at *);first|omega|(simp at *;omega))
theorem fa (p:E→Bool)(l:List E):decide (gf p l ≥ 0)=l.any p:=by
 cases h:l.any p with
 | true =>
  obtain⟨x,hx,hp⟩:=List.any_eq_true.1 h
  rcases rI p l with h1|⟨k,h1,_⟩
  ·have:=wZ h1
   rw [List.findIdx?_eq_none_iff] at this
   rw [this x hx] at hp;cases hp
  ·rw [h1];simp
 | false =>
  have hn:∀x∈l,p x=false:=fun x hx=>by
   cases hp:p x with
   | false=>rfl
   | true=>rw [List.any_eq_true.2 ⟨x,hx,hp⟩] at h;cases h
  rw [dt fun j y _ hy=>hn y (List.mem_of_getElem? hy)]
  rfl
end Go.Proofs.YtmnneflenebgmaaGreat
