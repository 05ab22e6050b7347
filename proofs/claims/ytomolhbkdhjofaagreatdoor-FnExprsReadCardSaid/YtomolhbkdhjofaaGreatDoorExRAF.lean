/- T -/
import Derived.Test.YtomolhbkdhjofaaGreatDoorExRAE
set_option maxHeartbeats 0
set_option maxRecDepth 100000
namespace Go.Proofs.YtomolhbkdhjofaaGreatDoor
open Go.RowKit Go.Proofs.Tryz
mutual
def fzC:AC→AC
 | .ow _ n k l=>.ro n k (fzL l)
 | .bx _ _=>.un
 | .v x=>.v x
 | .ro n k l=>.ro n k l
 | .sl i n=>.sl i n
 | .pt i o=>.pt i o
 | .rp l o=>.rp l o
 | .fn f c=>.fn f c
 | .un=>.un
 | .nn=>.nn
 | .mp l=>.mp l
def fzL:List AC→List AC
 | []=>[]
 | c :: r=>fzC c :: fzL r
end
theorem rD:∀l:List AC,(fzL l).length=l.length
 | []=>rfl
 | _ :: r=>by simp only [fzL,List.length_cons,rD r]
theorem ym:∀l m:List AC,fzL (l++m)=fzL l++fzL m
 | [],_=>rfl
 | _ :: r,m=>by simp only [List.cons_append,fzL,ym r m]
mutual
theorem zw6:∀e:E,fzL (owE e)=acE e
 | .int k n=>by simp only [owE,acE,fzL,fzC]
 | .bool b=>by simp only [owE,acE,fzL,fzC]
 | .str s=>by simp only [owE,acE,fzL,fzC]
 | .agg fs=>by simp only [owE,acE];exact mQ fs
 | .lst k T A c l=>by simp only [owE,acE,fzL,fzC,mQ l]
theorem mQ:∀l:List E,fzL (owL l)=acL l
 | []=>by simp only [owL,acL,fzL]
 | e :: r=>by simp only [owL,acL,ym,zw6 e,mQ r]
end
section
variable {C:Ctx}{φ:Nat→Lc}{F:Nat→List Nat}{St St':Nat→Prop}{K:Nat→Prop}{σ:AS}{a:Act}{w w':World}
theorem CRL.fz_of:∀(l:List AC) (us:List Value) (fs:List Nat),(∀e∈l,∀(u:Value) (fp:List Nat),(∀b∈fp,St' b)→CR w St φ K e u fp→CR w St' φ K (fzC e) u [])→(∀b∈fs,St' b)→CRL w St φ K l us fs→CRL w St' φ K (fzL l) us []
 | [],us,fs,_,_,h=>by simp only [CRL] at h;obtain⟨rfl,rfl⟩:=h;exact CRL.nil
 | c :: r,us,fs,hh,hf,h=>by
  simp only [CRL] at h
  obtain⟨u,us',f1,f2,rfl,rfl,g1,g2⟩:=h
  exact CRL.cons (f:=[]) (f':=[]) (hh c mcs u f1 (fun b hb=>hf b (List.mem_append_left _ hb)) g1) (CRL.fz_of r us' f2 (fun e he=>hh e (mco _ he)) (fun b hb=>hf b (List.mem_append_right _ hb)) g2)
theorem CR.fz (hS:∀b,St b→St' b):∀(c:AC) (u:Value) (fp:List Nat),(∀b∈fp,St' b)→CR w St φ K c u fp→CR w St' φ K (fzC c) u []:=by
 intro c
 induction c using AC.ind with
 | h1 x=>intro u fp _ h;simp only [CR,fzC] at h ⊢;exact⟨h.1,h.2.1,trivial⟩
 | h2 n k l ih=>intro u fp _ h;have h0:=h;simp only [CR] at h0;obtain⟨rfl,_⟩:=h0;exact CR.sub_ hS _ u [] h
 | h3 T n k l ih =>
  intro u fp hfp h
  have hlt:=CR.lt _ _ _ h
  simp only [CR] at h
  obtain⟨us,fs,h1,h2,rfl⟩:=h
  obtain⟨hl,h3⟩:=h2
  have hlen:(fzL l).length=n*k:=by rw [rD,←h1.len,hl]
  have hr:=CRL.fz_of (St':=St') l us fs ih (fun b hb=>hfp b (List.mem_append_right _ hb)) h1
  simp only [fzC,CR]
  rcases h3 with ⟨rfl,h0⟩|⟨b,cap,cur,rfl,-,hh,hnc,hcm,hsz,htk⟩
  ·exact⟨trivial,none,0,by rw [h0],⟨omq,by unfold maxLen;omega,fun _=>rfl⟩,hlen,fun hn=>by omega⟩
  ·refine⟨trivial,some ⟨b,0,none⟩,cap,rfl,⟨hnc,hcm,fun e=>by cases e⟩,hlen,fun _=>⟨b,0,us,rfl,hfp b (List.mem_append_left _ (by simp [obl,Value.ownBlock])),hlt b (List.mem_append_left _ (by simp [obl,Value.ownBlock])),fun q y hq=>?_,hr⟩⟩
   have hq2:cur[q]? = some y:=by
    rw [←htk] at hq
    rw [List.getElem?_take] at hq
    split at hq
    ·rwa [Array.getElem?_toList] at hq
    ·cases hq
   rw [Nat.zero_add]
   unfold World.cell?
   rw [hh]
   exact hq2
 | h4 i n=>intro u fp _ h;have h0:=h;simp only [CR] at h0;obtain⟨rfl,_⟩:=h0;exact CR.sub_ hS _ u [] h
 | h5 i o=>intro u fp _ h;have h0:=h;simp only [CR] at h0;obtain⟨rfl,_⟩:=h0;exact CR.sub_ hS _ u [] h
 | h6 l o ih=>intro u fp _ h;have h0:=h;simp only [CR] at h0;obtain⟨rfl,_⟩:=h0;exact CR.sub_ hS _ u [] h
 | h7 f c ih=>intro u fp _ h;have h0:=h;simp only [CR] at h0;obtain⟨rfl,_⟩:=h0;exact CR.sub_ hS _ u [] h
 | h9 T l ih=>intro u fp _ h;simp only [fzC,CR]
 | h8=>intro u fp _ h;simp only [fzC,CR]
 | hn=>intro u fp _ h;have h0:=h;simp only [CR] at h0;obtain⟨rfl,_⟩:=h0;exact CR.sub_ hS _ u [] h
 | hm l=>intro u fp _ h;have h0:=h;simp only [CR] at h0;obtain⟨rfl,_⟩:=h0;exact CR.sub_ hS _ u [] h
theorem SimF.freeze (h:SimF C φ F St σ a w){i:Nat}{r:Row}(hr:σ.hp i=some r){pre mid post:List AC}(hcs:r.cs=pre++(mid++post)) :
 ∃F' St',SimF C φ F' St' { σ with hp:=upd σ.hp i (some { r with cs:=pre++(fzL mid++post) }) } a w:=by
 have hlen:(pre++(fzL mid++post)).length=r.cs.length:=by rw [hcs];simp [rD]
 have key:∀(us:List Value) (fp:List Nat),CRL w St φ σ.Kn r.cs us fp→fp.Nodup→∃(X Y:List Nat),(∀St':Nat→Prop,(∀b,St b→St' b)→(∀b∈Y,St' b)→CRL w St' φ σ.Kn (pre++(fzL mid++post)) us X)∧(∀b,b∈fp↔b∈X∨b∈Y)∧X.Nodup∧∀b∈X,b∉Y:=by
  intro us fp hc hnd
  rw [hcs] at hc
  obtain⟨u1,u2,f1,f2,rfl,rfl,g1,g2⟩:=hc.split
  obtain⟨u3,u4,f3,f4,rfl,rfl,g3,g4⟩:=g2.split
  have h3:=List.nodup_append.1 hnd
  have h4:=List.nodup_append.1 h3.2.1
  refine⟨f1++f4,f3,fun St' s1 s2=>(g1.sub_ s1).app (CRL.app (f:=[]) (f':=f4) (CRL.fz_of mid u3 f3 (fun e _ u fp hf hc=>CR.fz s1 e u fp hf hc) s2 g3) (g4.sub_ s1)),fun b=>by simp only [List.mem_append];exact⟨fun h=>h.elim (fun h=>.inl (.inl h)) fun h=>h.elim .inr fun h=>.inl (.inr h),fun h=>h.elim (fun h=>h.elim .inl fun h=>.inr (.inr h)) fun h=>.inr (.inl h)⟩,List.nodup_append.2 ⟨h3.1,h4.2.1,fun p hp q hq e=>h3.2.2 p hp q (List.mem_append_right _ hq) e⟩,fun b hb hm=>?_⟩
  rcases List.mem_append.1 hb with hb|hb
  ·exact h3.2.2 b hb b (List.mem_append_left _ hm) rfl
  ·exact h4.2.2 b hm b hb rfl
 have hrow:=(h.row i r hr).2
 have hnd:=h.nod i r hr
 obtain⟨X,Y,x1,x2,x3,x4⟩:∃(X Y:List Nat),(∀St':Nat→Prop,(∀b,St b→St' b)→(∀b∈Y,St' b)→RowOk w St' φ σ.Kn { r with cs:=pre++(fzL mid++post) } X (φ i))∧(∀b,b∈F i↔b∈X∨b∈Y)∧X.Nodup∧∀b∈X,b∉Y:=by
  cases e:φ i with
  | box b lo =>
   rw [e] at hrow
   obtain⟨hb,us,g1,g2⟩:=hrow
   obtain⟨X,Y,k1,k2,k3,k4⟩:=key us (F i) g1 hnd
   exact⟨X,Y,fun St' s1 s2=>⟨hb,us,k1 St' s1 s2,g2⟩,k2,k3,k4⟩
  | slc v =>
   rw [e] at hrow
   obtain⟨hb,us,fs0,g1,g2,g3⟩:=hrow
   rw [g3] at hnd
   have hn3:=List.nodup_append.1 hnd
   obtain⟨X,Y,k1,k2,k3,k4⟩:=key us fs0 g1 hn3.2.1
   refine⟨obl v++X,Y,fun St' s1 s2=>⟨hb,us,X,k1 St' s1 s2,g2,rfl⟩,fun b=>by rw [g3,List.mem_append,List.mem_append,k2,or_assoc],List.nodup_append.2 ⟨hn3.1,k3,fun p hp q hq e=>hn3.2.2 p hp q ((k2 q).2 (.inl hq)) e⟩,fun b hb hm=>?_⟩
   rcases List.mem_append.1 hb with hb|hb
   ·exact hn3.2.2 b hb b ((k2 b).2 (.inr hm)) rfl
   ·exact k4 b hb hm
 have hS:∀b,St b→b<w.heap.size→(St b∨b∈Y)∧w.heap[b]? = w.heap[b]? := fun b hb _=>⟨.inl hb,rfl⟩
 have hK:∀j,σ.Kn j→σ.Kn j∧φ j=φ j:=fun j hj=>⟨hj,rfl⟩
 have old:∀m t,upd σ.hp i (some { r with cs:=pre++(fzL mid++post) }) m=some t→(m=i∧t={ r with cs:=pre++(fzL mid++post) })∨(m≠i∧σ.hp m=some t):=fun m t hm=>by
  by_cases e:m=i
  ·subst e;rw [aP] at hm;injection hm with hm;exact .inl ⟨rfl,hm.symm⟩
  ·rw [ba _ _ e] at hm;exact .inr ⟨e,hm⟩
 have get:∀m t,upd σ.hp i (some { r with cs:=pre++(fzL mid++post) }) m=some t→∃t',σ.hp m=some t'∧(∀b∈upd F i X m,b∈F m)∧t.cs.length=t'.cs.length:=fun m t hm=>by
  rcases old m t hm with ⟨rfl,rfl⟩|⟨e1,e3⟩
  ·exact⟨r,hr,fun b hb=>by rw [aP] at hb;exact (x2 b).2 (.inl hb),hlen⟩
  ·exact⟨t,e3,fun b hb=>by rw [ba _ _ e1] at hb;exact hb,rfl⟩
 refine⟨upd F i X,fun b=>St b∨b∈Y,h.dfr,h.len,fun t=>VR.mono hS (nlr _) hK _ _ (h.tms t),fun m t hm=>?_,fun m t hm=>?_,fun m q t v hm hq hmq b hb hb'=>?_,fun m q t v b lo hm hq e hb=>?_,fun m q t v b lo lo' hm hq hmq e e'=>?_,fun m t b hm hb hst=>?_,fun m t b lo hm e hst=>?_,h.frm,fun m t b hm hb=>?_,fun m hm=>⟨(h.par m hm).1,fun t ht q hq=>?_⟩,fun m t b lo hm e hN=>?_,h.gnN,fun b hb hl=>?_⟩
 ·rcases old m t hm with ⟨rfl,rfl⟩|⟨e1,e3⟩
  ·rw [aP];exact⟨(h.row m r hr).1,x1 _ (fun b hb=>.inl hb) (fun b hb=>.inr hb)⟩
  ·rw [ba _ _ e1]
   exact⟨(h.row m t e3).1,(h.row m t e3).2.mono hS (nlr _) hK (fun _ _=>rfl) (fun _ _ _ _ _ hB=>hB)⟩
 ·rcases old m t hm with ⟨rfl,rfl⟩|⟨e1,e3⟩
  ·rw [aP];exact x3
  ·rw [ba _ _ e1];exact h.nod m t e3
 ·obtain⟨t',g1,g2,_⟩:=get m t hm
  obtain⟨v',p1,p2,_⟩:=get q v hq
  exact h.dis m q t' v' g1 p1 hmq b (g2 b hb) (p2 b hb')
 ·obtain⟨t',g1,g2,_⟩:=get m t hm
  obtain⟨v',p1,p2,_⟩:=get q v hq
  exact h.bxF m q t' v' b lo g1 p1 e (p2 b hb)
 ·obtain⟨t',g1,_,g3⟩:=get m t hm
  obtain⟨v',p1,_,p3⟩:=get q v hq
  rw [g3,p3]
  exact h.bxd m q t' v' b lo lo' g1 p1 hmq e e'
 ·rcases hst with hst|hY
  ·obtain⟨t',g1,g2,_⟩:=get m t hm
   exact h.stF m t' b g1 (g2 b hb) hst
  ·rcases old m t hm with ⟨rfl,rfl⟩|⟨e1,e3⟩
   ·rw [aP] at hb;exact x4 b hb hY
   ·rw [ba _ _ e1] at hb;exact h.dis m i t r e3 hr e1 b hb ((x2 b).2 (.inr hY))
 ·obtain⟨t',g1,g2,_⟩:=get m t hm
  rcases hst with hst|hY
  ·exact h.stB m t' b lo g1 e hst
  ·exact h.bxF m i t' r b lo g1 hr e ((x2 b).2 (.inr hY))
 ·obtain⟨t',g1,g2,_⟩:=get m t hm;exact h.own m t' b g1 (g2 b hb)
 ·obtain⟨t',g1,_,g3⟩:=get m t ht
  exact (h.par m hm).2 t' g1 q (by rw [←g3];exact hq)
 ·obtain⟨t',g1,_,_⟩:=get m t hm;exact h.new m t' b lo g1 e hN
 ·rcases hb with hb|hY
  ·exact h.stS b hb hl
  ·exact .inr ((h.own i r b hr ((x2 b).2 (.inr hY))).resolve_right omq)
end
section
variable {tm:Nat→AV}{hp:Nat→Option Row}{gn L:Nat}{us:List Nat}
theorem g_frz {i k n:Nat}{T:TypeId}{b:Bool}{cs cs':List AC}{pre mid mid' post:List AC}(hr:hp i=some ⟨T,k,n,b,cs⟩)(hcs:cs=pre++(mid++post))(hm:fzL mid=mid')(he:pre++(mid'++post)=cs'):Gh ⟨tm,hp,gn,us,L⟩ ⟨tm,upd hp i (some ⟨T,k,n,b,cs'⟩),gn,us,L⟩:=fun C a w hs=>by
 obtain⟨φ,F,St,h⟩:=hs
 obtain⟨F',St',h'⟩:=h.freeze hr hcs
 subst hm he
 exact⟨φ,F',St',h'⟩
end
section
variable {ops:Array Oper}{Q:Exit→Act→World→Prop}{C:Ctx}{i:Nat}{r:List Nat}
variable {tm:Nat→AV}{hp:Nat→Option Row}{gn L:Nat}{us:List Nat}
end
section
variable {ops:Array Oper}{Q:Exit→Act→World→Prop}{C:Ctx}{i:Nat}{r:List Nat}
variable {tm:Nat→AV}{hp:Nat→Option Row}{gn L:Nat}{us:List Nat}
class BitB (b:BinOp):Prop where
 h:b=.and∨b=.or∨b=.xor
instance:BitB .and:=⟨.inl rfl⟩
instance:BitB .or:=⟨.inr (.inl rfl)⟩
instance:BitB .xor:=⟨.inr (.inr rfl)⟩
end
theorem r3 {a b a' b':Int}{c:Bool}(h1:a=a')(h2:b=b'):Ending.returned (.tuple #[.int .i64 a,.int .i64 b,.bool c])=.returned (.tuple #[.int .i64 a',.int .i64 b',.bool c]):=by rw [h1,h2]
structure GIns where
 o:Nat
 n:Nat
 p:Nat
 ok:Bool
end Go.Proofs.YtomolhbkdhjofaaGreatDoor
-- BIT
namespace Go.Proofs.YtomolhbkdhjofaaGreatDoor
open Go.RowKit Go.Proofs.Tryz
end Go.Proofs.YtomolhbkdhjofaaGreatDoor
namespace Go.Proofs.YtomolhbkdhjofaaGreatDoor
open Go.RowKit Go.Proofs.Tryz
section
variable {C:Ctx}{φ:Nat→Lc}{F:Nat→List Nat}{St:Nat→Prop}{σ:AS}{a:Act}{w:World}
theorem SimF.freezeS (h:SimF C φ F St σ a w){j t n k:Nat}{T:TypeId}{cs:List AC}(hr:σ.hp j=some ⟨T,k,n,false,cs⟩)(ht:σ.tm t=.c (.sl j n)) :
 ∃St',SimF C φ F St' { σ with tm:=upd σ.tm t (.c (.ro n k (fzL cs))),hp:=upd σ.hp j none } a w:=by
 have hd:=h.drop j
 have hfree:∀b∈F j,Free C φ F St { σ with hp:=upd σ.hp j none } b:=fun b hb=>h.free hr hb
 have hv:=h.tms t
 rw [ht] at hv
 simp only [VR,CR] at hv
 obtain⟨-,-,hφ,-⟩:=hv
 have hrow:=(h.row j _ hr).2
 rw [hφ] at hrow
 obtain⟨_,vs,fs,g1,g2,g3⟩:=hrow
 have hS:∀b,St b→b<w.heap.size→(St b∨b∈F j)∧w.heap[b]? = w.heap[b]? := fun b hb _=>⟨.inl hb,rfl⟩
 have hK:∀i,σ.Kn i→σ.Kn i∧φ i=φ i:=fun i hi=>⟨hi,rfl⟩
 have hro:=CR.fz (St':=fun b=>St b∨b∈F j) (fun b hb=>.inl hb) (.ow T n k cs) (a.tmps.getD t undef) (F j) (fun b hb=>.inr hb) (show CR w St φ σ.Kn (.ow T n k cs) _ (F j) by simp only [CR];exact⟨vs,fs,g1,g2,g3⟩)
 refine⟨fun b=>St b∨b∈F j,hd.dfr,hd.len,fun t'=>?_,fun i r hi=>⟨(hd.row i r hi).1,(hd.row i r hi).2.mono hS (nlr _) hK (fun _ _=>rfl) (fun _ _ _ _ _ hB=>hB)⟩,hd.nod,hd.dis,hd.bxF,hd.bxd,fun i r b hi hb hs=>?_,fun i r b lo hi e hs=>?_,hd.frm,hd.own,hd.par,hd.new,hd.gnN,fun b hs hl=>?_⟩
 ·show VR w _ φ σ.Kn (upd σ.tm t (.c (.ro n k (fzL cs))) t') _
  by_cases e:t'=t
  ·subst e;rw [aP];simp only [VR];exact hro
  ·rw [ba _ _ e];exact VR.mono hS (nlr _) hK _ _ (h.tms t')
 ·rcases hs with hs|hs
  ·exact hd.stF i r b hi hb hs
  ·exact ((hfree b hs).1 i r hi).1 hb
 ·rcases hs with hs|hs
  ·exact hd.stB i r b lo hi e hs
  ·exact ((hfree b hs).1 i r hi).2 lo e
 ·rcases hs with hs|hs
  ·exact hd.stS b hs hl
  ·exact .inr ((hfree b hs).2.2.resolve_right omq)
end
theorem zt8 {tm:Nat→AV}{hp:Nat→Option Row}{gn L:Nat}{us:List Nat}{j t n k:Nat}{T:TypeId}{cs cs':List AC}(ht:tm t=.c (.sl j n))(hr:hp j=some ⟨T,k,n,false,cs⟩)(hc:fzL cs=cs'):Gh ⟨tm,hp,gn,us,L⟩ ⟨upd tm t (.c (.ro n k cs')),upd hp j none,gn,us,L⟩:=fun C a w hs=>by
 obtain⟨φ,F,St,h⟩:=hs
 obtain⟨St',h'⟩:=h.freezeS hr ht
 subst hc
 exact⟨φ,F,St',h'⟩
section
variable {ops:Array Oper}{Q:Exit→Act→World→Prop}{C:Ctx}{i:Nat}{r:List Nat}
variable {tm:Nat→AV}{hp:Nat→Option Row}{gn L:Nat}{us:List Nat}
theorem n_caG {ty:TypeId}{gd:Option (Nat×Bool)}{cas:Array Operand}{cts:Array TypeId}{ps:String}{af:Array Edge}{t:Nat}{fv:Operand}{f:FuncId}{caps:List AC}{args ins:List AV}{res nv:AV}{nr:List (Nat×Row)}(hctr:Ctr prog f ins [] res [])(h:Walk prog ops Q C false [] r ⟨upd tm t nv,fZ hp (nr.map (fun p=>(p.1,some p.2))),gn,nr.map (·.1)++us,L⟩)(ht:Nat.blt t L=true:=by exact rfl)(hg:gw ops tm (⟨some t,.call ⟨.value fv,cas,cts⟩,ty,ps,af,gd⟩:Oper)=some true:=by exact rfl)(hfv:AS.ev ⟨tm,hp,gn,us,L⟩ fv=.c (.fn f caps):=by exact rfl)(hargs:bG ⟨tm,hp,gn,us,L⟩ ⟨.value fv,cas,cts⟩ caps=args:=by exact rfl)(hcv:args.map (cvV hp [])=ins:=by exact yx)(hm:((args.flatMap snV).all fun z=>([]:List Nat).contains z)=true:=by exact rfl)(hopn:opV (100*(t+1)) res=(nv,nr):=by exact rfl)(hf:(nr.all fun p=>Nat.ble gn p.1&&!us.contains p.1)=true:=by exact rfl):WalkO prog ops Q C false [] i (⟨some t,.call ⟨.value fv,cas,cts⟩,ty,ps,af,gd⟩:Oper) r ⟨tm,hp,gn,us,L⟩:=⟨fun hop=>by
 refine rX (100*(t+1)) [] [] hop rfl rfl rfl ht hg hfv hargs (pars:=[]) rfl (by rw [hcv];exact hctr) (by simp) rfl (.inr hm) hopn hf (by exact bv) ?_
 simpa [bK,fq] using h⟩
end
theorem uR {α:Type}{P:List AC→Prop}{R:List AC→α→List AC→Prop}(step:∀cs,P cs→∃(x:α) (cs':List AC),P cs'∧R cs x cs'){cs:List AC}(h:P cs):∃(S:Nat→List AC) (X:Nat→α),S 0=cs∧∀k,P (S k)∧R (S k) (X k) (S (k+1)):=by
 let f:{c:List AC // P c}→{c:List AC // P c}:=fun s=>⟨Classical.choose (Classical.choose_spec (step s.1 s.2)),(Classical.choose_spec (Classical.choose_spec (step s.1 s.2))).1⟩
 let S:Nat→{c:List AC // P c}:=fun k=>Nat.rec ⟨cs,h⟩ (fun _ s=>f s) k
 exact⟨fun k=>(S k).1,fun k=>Classical.choose (step (S k).1 (S k).2),rfl,fun k=>⟨(S k).2,(Classical.choose_spec (Classical.choose_spec (step (S k).1 (S k).2))).2⟩⟩
structure NewB (w w':World)(T:TypeId)(cells:List AC)(b lo:Nat)(vs:List Value)(fs:List Nat):Prop where
 crl:∀(St:Nat→Prop) (φ:Nat→Lc) (K:Nat→Prop),CRL w' St φ K cells vs fs
 box:BoxAt w' b lo vs
 nod:fs.Nodup
 nin:b∉fs
 new:w.heap.size≤b
 fnw:∀x∈fs,w.heap.size≤x
 stp:Stp none w w'
theorem yn {P:Program}{f:FuncId}{fn:Func}{c:Code}{ins:List AV}{us:List Value}{T:TypeId}{cells:List AC}{w:World}{d:Nat}(hf:P.funcs[f]? = some fn)(hb:fn.body=some c)(hres:fn.results=#[.tmp d])(hcl:bu cells=true)(hro:dH cells=true)
 (h:AWp P c (fun e σ=>(e=.normal∨e=.ret)∧∃i,σ.tm d=.c (.pt i 0)∧σ.hp i=some ⟨T,0,0,true,cells⟩) (σ0 ins [] fn.ntmps)) (hargs:∀(St:Nat→Prop) (φ:Nat→Lc) (K:Nat→Prop),VRL w St φ K ins us) (gl:GlobOk w) :
 Calls P f us.toArray w fun e w'=>∃b lo vs fs,e=.returned (.pointer (some ⟨b,lo,none⟩))∧NewB w w' T cells b lo vs fs:=by
 have hE:Ent w (fun _=>False) φ0 (fun _=>[]) ins us [] :=
  ⟨hargs _ _ _,fun i cs hi=>by simp at hi,fun i hi=>absurd hi (Nat.not_lt_zero i),fun i j hi=>absurd hi (Nat.not_lt_zero i),fun i j b lo hi=>absurd hi (Nat.not_lt_zero i),fun i j b lo lo' ci cj hi=>by simp at hi,fun i b hi=>absurd hi (Nat.not_lt_zero i),fun i b lo hi=>absurd hi (Nat.not_lt_zero i),gl,fun b _=>⟨fun ⟨i,hi,_⟩=>absurd hi (Nat.not_lt_zero i),fun o ⟨i,lo,cs,hi,_⟩=>by simp at hi⟩⟩
 have hs:=hE.sim fn.ntmps
 refine calls_of_wp hf hb (wp_mono (h _ _ _ ⟨_,_,_,hs⟩) ?_)
 rintro e a' w' ⟨σ',⟨he,i,h1,h2⟩,φ',F',St',hsim⟩
 have key:a'.defers=[]∧∃v,(results fn a'.tmps).run P w'=.ok v w'∧∃b lo vs fs,Ending.returned v=.returned (.pointer (some ⟨b,lo,none⟩))∧NewB w w' T cells b lo vs fs:=by
  obtain⟨hk,hrow⟩:=hsim.row i _ h2
  have hv:=hsim.tms d
  rw [h1] at hv
  simp only [VR,CR] at hv
  obtain⟨-,-,hv⟩:=hv
  rcases hv with ⟨b,lo,e1,e2⟩|⟨b,n,cp,e1,e2⟩
  ·rw [e1] at hrow
   obtain⟨-,vs,g1,g2⟩:=hrow
   have hl:yz P σ'.hp σ'.tm fn.results.toList=some [σ'.tm d]:=by rw [hres];rfl
   obtain⟨ws,r1,r2⟩:=lN (P:=P) hsim _ _ hl
   obtain⟨v,r3,r4⟩:=lO r2
   have hv2:v=.pointer (some ⟨b,lo,none⟩):=by
    have r5:VR w' St' φ' σ'.Kn (σ'.tm d) v:=r4
    rw [h1] at r5
    simp only [VR,CR] at r5
    obtain⟨-,-,⟨b',lo',q1,q2⟩|⟨b',n',c',q1,q2⟩⟩:=r5
    ·rw [e1] at q1
     injection q1 with q1 q3
     subst q1 q3
     exact q2
    ·rw [e1] at q1;cases q1
   refine⟨hsim.dfr,v,?_,b,lo,vs,F' i,by rw [hv2],⟨fun St φ K=>CRL.clo_ hcl (CRL.rofr_ hro g1),g2,hsim.nod i _ h2,hsim.bxF i i _ _ b lo h2 h2 e1,hsim.new i _ b lo h2 e1 (Nat.zero_le _),fun x hx=>(hsim.own i _ x h2 hx).resolve_left fun ⟨j,hj,_⟩=>absurd hj (Nat.not_lt_zero j),?_⟩⟩
   ·have:(fun|ResultVar.tmp t=>pure (a'.tmps.getD t undef)|ResultVar.cell a t=>(do loadVar t (←asAddr (a'.tmps.getD a undef)):Sem Value))=jv a'.tmps:=by funext z;cases z<;>rfl
    have hres2:results fn a'.tmps=(fn.results.mapM (jv a'.tmps) >>= fun vs=>pure (if h:vs.size=1 then vs[0] else .tuple vs)):=by rw [←this];rfl
    simp [hres2,Array.mapM_eq_mapM_toList,r1,←r3]
   ·have hfr:=hsim.frm
    refine⟨hfr.os,hfr.tape,hfr.output,hfr.size,fun j hj _=>?_⟩
    have hlk:=hfr.blk j hj (fun ⟨q,hq,_⟩=>absurd hq (Nat.not_lt_zero q))
    rcases hlk with hlk|⟨c1,c2,e3,x1,x2,x3,x4⟩
    ·exact hlk
    ·have hc:c2=c1:=Array.ext_getElem? fun o=>x4 o fun ⟨q,lo,cs,hq,_⟩=>by simp at hq
     rw [hc] at x2
     exact x2.trans x1.symm
  ·rw [e1] at hrow
   exact absurd hrow.1 (by simp)
 rcases he with rfl|rfl<;>exact key
section
variable {ops:Array Oper}{Q:Exit→Act→World→Prop}{C:Ctx}{i:Nat}{r:List Nat}
variable {tm:Nat→AV}{hp:Nat→Option Row}{gn L:Nat}{us:List Nat}
theorem zg3 {ty cT:TypeId}{gd:Option (Nat×Bool)}{ps:String}{af:Array Edge}{t:Nat}{xo fv:Operand}{s:ByteArray}{f:FuncId}{T:TypeId}{cells:List AC}
 (hent:yC prog f=true) (hnew:∀w:World,GlobOk w→Calls prog f #[.string s] w fun e w'=>∃b lo vs fs,e=.returned (.pointer (some ⟨b,lo,none⟩))∧NewB w w' T cells b lo vs fs)
 (h:Walk prog ops Q C false [] r ⟨upd tm t (.c (.pt t 0)),upd hp t (some ⟨T,0,0,true,cells⟩),gn,t :: us,L⟩)
 (ht:Nat.blt t L=true:=by exact rfl) (hg:gw ops tm (⟨some t,.call ⟨.value fv,#[xo],#[cT]⟩,ty,ps,af,gd⟩:Oper)=some true:=by exact rfl) (hf:(Nat.ble gn t&&!us.contains t)=true:=by exact rfl)
 (hfv:AS.ev ⟨tm,hp,gn,us,L⟩ fv=.c (.fn f []):=by exact rfl) (hx:AS.ev ⟨tm,hp,gn,us,L⟩ xo=.c (.v (.string s)):=by exact rfl) :
 WalkO prog ops Q C false [] i (⟨some t,.call ⟨.value fv,#[xo],#[cT]⟩,ty,ps,af,gd⟩:Oper) r ⟨tm,hp,gn,us,L⟩:=⟨fun hop=>by
 simp only [baq,Nat.ble_eq,bnt] at hf
 have hnu:t∉us:=fun hm=>by have:=hf.2;simp at this;exact this hm
 refine⟨_,⟨[],[(t,some ⟨T,0,0,true,cells⟩)],[t],.c (.pt t 0)⟩,hop,?_,fun m hm=>?_,ep (by exact bv),?_⟩
 ·intro τ a w ha hsim K hK
  obtain⟨φ,F,St,hsim⟩:=hsim
  have e1:τ.ev xo=.c (.v (.string s)):=by rw [ha.ev xo (by simp [Op.operands,Call.operands])];exact hx
  have e2:τ.ev fv=.c (.fn f []):=by rw [ha.ev fv (by simp [Op.operands,Call.operands])];exact hfv
  have v1:=hsim.ev xo
  have v2:=hsim.ev fv
  rw [e1] at v1
  rw [e2] at v2
  simp only [VR,CR] at v1 v2
  obtain⟨-,us2,hfu,hcaps⟩:=v2
  obtain⟨rfl,-⟩:us2=[]∧True:=by simp only [CRL] at hcaps;exact⟨hcaps.1,trivial⟩
  have hev:=v1.1
  unfold wpOp
  rw [hop]
  have hw:=nT hsim (b:=true) (by rw [ha.gw];exact hg)
  simp only [hw,if_true]
  refine .inl ?_
  unfold Oper.wp
  have hrun:(execOp a.eval (⟨some t,.call ⟨.value fv,#[xo],#[cT]⟩,ty,ps,af,gd⟩:Oper)).run prog w=.ok (.enter f #[.string s]) w:=by
   have h1:(resolve a.eval ⟨.value fv,#[xo],#[cT]⟩ ty).run prog w=.ok { target:=.fn (.func f) #[],args:=#[.string s] } w:=by
    unfold resolve;simp only [hfu,Deferred.ofValue,Sem.run_pure]
    simp [hev]
   have h2:execOp a.eval (⟨some t,.call ⟨.value fv,#[xo],#[cT]⟩,ty,ps,af,gd⟩:Oper)=(do let d ←resolve a.eval ⟨.value fv,#[xo],#[cT]⟩ ty;invoke d.target d.args):=by unfold execOp;rfl
   rw [h2,Sem.run_bind,h1]
   simp only [Result.andThen_ok,invoke]
   exact gj hent _ _
  rw [hrun,Oper.upon_enter]
  refine (hnew w hsim.gl).mono ?_
  rintro e w' ⟨b,lo,vs,fs,rfl,hN⟩
  have s1:=hsim.newRow (i:=t) (by rw [ha.gn];exact hf.1) (ha.us t (by simp)) (b0:=none) hN.stp (fun b hb=>by cases hb) (r:=⟨T,0,0,true,cells⟩) (L:=.box b lo) (fp:=fs) (fun St' φ' _ _=>⟨rfl,vs,hN.crl _ _ _,hN.box⟩) hN.nod (fun x hx=>.inl (hN.fnw x hx)) (fun b' lo' e=>by injection e with e1 e2;subst e1;exact⟨hN.new,hN.nin⟩)
  exact hK _ _ ⟨_,_,_,s1.put (some t) (x:=.c (.pt t 0)) (u:=.pointer (some ⟨b,lo,none⟩)) (by simp only [VR,CR];exact⟨trivial,.inr mcs,.inl ⟨b,lo,by rw [aP],rfl⟩⟩)⟩
 ·have:m=t:=by simpa using hm
  subst this
  exact hnu
 ·refine cQ ?_
  show Walk prog ops Q C false [] r (AS.put _ (some t) _)
  rw [d5 (by exact d4 ht)];exact h⟩
end
theorem zf1 {s:ByteArray}(hs:s.size≤1048576)(w:World)(gl:GlobOk w):Calls prog 29 #[.string s] w fun e w'=>∃b lo vs fs,e=.returned (.pointer (some ⟨b,lo,none⟩))∧NewB w w' 53 [.ow 63 ((gT s).map T3.E).length 3 (owL ((gT s).map T3.E)),.v (.int .i64 0),.v (.bool ((i6 s).2 != -1)),.v (.int .i64 0)] b lo vs fs:=by
 have c1:=wl hs
 rw [(dj s).2] at c1
 refine yn (ins:=[.c (.v (.string s))]) (us:=[.string s]) func29 rfl rfl (by simp [bu,clo,a8]) (by simp [dH,kU];(first|rfl|exact cf _|(simp [eh,fj,dH,kU,cf,dB,dp];done))) ?_ (fun St φ K=>VRL_cons (VR_str s) VRL_nil) gl
 repeat' (first|(apply ay;first|refine ak ?_|refine cI (v:=.tu _) ?_|refine ai ?_|refine db c1 ?_|refine aN ?_|refine b9 ?_|refine cE ?_|refine au ?_)|refine aj ?_|refine ab ?_|refine aa fun C=>?_|refine ac ?_)
 refine bc (dU (i:=14) (j:=800) rfl rfl rfl (pre:=[]) (post:=[_,_,_]) rfl) ?_
 refine am ?_
 exact⟨.inr rfl,14,rfl,rfl⟩
theorem rE {L:List T3}(hL:L.length≤2000)(hok:okL L){f:Nat}(hf:f≤3000){g:RI→E×RI}(hg:GI L f g)(hi:HI L f g){r:RI}(hb:r.b=false)(hr:L.length+1≤r.a+(f+1))(ha:r.a<L.length) :
 Ctr prog 51 [.c (.pt 0 0)] [dX L r] (.ag (owE (enI L g r).1)) [dX L (enI L g r).2]:=by
 obtain⟨a,b⟩:=r
 have hb:b=false:=hb
 subst hb
 dsimp only at hr ha
 unfold enI
 have w1:=oV L ⟨a,false⟩ ⟨#[40]⟩
 have k1:=fL hL (r:=⟨a,false⟩) (by dsimp only;omega) ⟨#[40]⟩
 generalize waI L ⟨a,false⟩ ⟨#[40]⟩=r1 at *
 dsimp only at w1
 have t1:TI L r1:=fun h=>by have:=w1.2 h;omega
 have g1:=hg r1 t1
 have k2:=hi r1 t1 (fun _=>by omega)
 have n1:=g1.n
 have f1:=g1.fine
 clear g1
 generalize g r1=x1 at *
 have hq1:x1.2.a≤60000:=by omega
 have c1:=pY hL (r:=x1.2) omq (j:=0) omq (z:=0) rfl ⟨#[105,110]⟩
 have c2:=pY hL (r:=x1.2) omq (j:=0) omq (z:=0) rfl ⟨#[126]⟩
 obtain⟨y1,⟨q1,b1⟩⟩:=x1
 dsimp only at *
 have hu:RI.up ⟨q1,b1⟩=⟨q1+1,b1⟩:=rfl
 cases hi1:isI L ⟨q1,b1⟩ 0 ⟨#[105,110]⟩ with
 | true =>
  rw [if_pos rfl,hu]
  rw [hi1] at c1
  clear c2 hg hi
  have k4:=oO hL (r:=⟨q1+1,b1⟩) (by dsimp only;omega) 2
  have t3:=ta_f hok ⟨q1+1,b1⟩ (k:=2) (by decide)
  generalize taI L ⟨q1+1,b1⟩ 2=x3 at *
  obtain⟨⟨u1,u2,u3⟩,q3⟩:=x3
  dsimp only at *
  have k7:=fL hL (r:=q3) omq ⟨#[41]⟩
  generalize waI L q3 ⟨#[41]⟩=r6 at *
  clear w1 t1 t3 hi1
  cases f1 with
  | mk m1 m2 m3 m4 _ _ _ _ =>
  refine az func51 rfl rfl ?_
  unfold dX at *
  dsimp only at c1 k1 k2 k4 k7 ⊢
  repeat' (first|(apply ay;first|refine ak ?_|refine ai ?_|refine bf ?_|refine aI ?_|refine bM ?_|refine fD 0 [6] (k1) ?_ (hl:=bF rqf cA)|refine fD 0 [52] (k7) ?_ (hl:=bF rqf cA)|refine aF 0 (c1) ?_|refine aF 0 (k2) ?_|refine bh ?_|refine aw ?_|refine bJ ?_|refine dT ?_|refine au ?_)|refine aj ?_|refine ab ?_|(apply da;first|(apply dC;refine aD ?_)|refine gI ?_|refine m5 0 (k4) ?_|refine li ?_|refine nu ?_|refine aD ?_)|refine aj ?_|refine ab ?_|refine aa fun C=>?_|refine av krq krq fun C=>?_|refine ac ?_|refine ah ?_|refine aq rfl ?_)
  refine bc (dU (i:=33) (j:=1000) rfl rfl rfl (pre:=[_,_,_]) (post:=[]) rfl) ?_
  exact fY
 | false =>
  rw [if_neg (by simp)]
  rw [hi1] at c1
  cases hi2:isI L ⟨q1,b1⟩ 0 ⟨#[126]⟩ with
  | true =>
   rw [if_pos rfl,hu]
   rw [hi2] at c2
   clear hg hi
   have k4:=oO hL (r:=⟨q1+1,b1⟩) (by dsimp only;omega) 4
   have t3:=ta_f hok ⟨q1+1,b1⟩ (k:=4) (by decide)
   generalize taI L ⟨q1+1,b1⟩ 4=x3 at *
   obtain⟨⟨u1,u2,u3⟩,q3⟩:=x3
   dsimp only at *
   have k7:=fL hL (r:=q3) omq ⟨#[41]⟩
   generalize waI L q3 ⟨#[41]⟩=r6 at *
   clear w1 t1 t3 hi1 hi2
   cases f1 with
   | mk m1 m2 m3 m4 _ _ _ _ =>
   refine az func51 rfl rfl ?_
   unfold dX at *
   dsimp only at c1 c2 k1 k2 k4 k7 ⊢
   repeat' (first|(apply ay;first|refine ak ?_|refine ai ?_|refine bf ?_|refine aI ?_|refine bM ?_|refine fD 0 [6] (k1) ?_ (hl:=bF rqf cA)|refine fD 0 [52] (k7) ?_ (hl:=bF rqf cA)|refine aF 0 (c1) ?_|refine aF 0 (c2) ?_|refine aF 0 (k2) ?_|refine bh ?_|refine aw ?_|refine bJ ?_|refine dT ?_|refine au ?_)|refine aj ?_|refine ab ?_|(apply da;first|(apply dC;refine aD ?_)|refine gI ?_|refine m5 0 (k4) ?_|refine li ?_|refine nu ?_|refine aD ?_)|refine aj ?_|refine ab ?_|refine aa fun C=>?_|refine av krq krq fun C=>?_|refine ac ?_|refine ah ?_|refine aq rfl ?_|refine ar rfl ?_)
   refine bc (dU (i:=49) (j:=1000) rfl rfl rfl (pre:=[_,_,_]) (post:=[]) rfl) ?_
   exact fY
  | false =>
   rw [if_neg (by simp)]
   rw [hi2] at c2
   have k4:=oO hL (r:=⟨q1,b1⟩) (by dsimp only;omega) 5
   have t3:=ta_f hok ⟨q1,b1⟩ (k:=5) (by decide)
   generalize taI L ⟨q1,b1⟩ 5=x3 at *
   obtain⟨⟨u1,u2,u3⟩,q3⟩:=x3
   dsimp only at *
   have bb1:=ed r1.b;have bb2:=ed b1;have bb3:=ed q3.b
   have t4:TI L q3:=fun h=>by have:=t3.2.1 h;omega
   have g5:=hg q3 t4
   have k6:=hi q3 t4 (fun _=>by omega)
   have n5:=g5.n
   have f5:=g5.fine
   clear g5 hg hi
   generalize g q3=x5 at *
   have k7:=fL hL (r:=x5.2) omq ⟨#[41]⟩
   generalize waI L x5.2 ⟨#[41]⟩=r6 at *
   obtain⟨y5,q5⟩:=x5
   dsimp only at *
   clear w1 t1 t3 hi1 hi2 n1 n5 t4 bb1 bb2 bb3
   cases f1 with
   | mk m1 m2 m3 m4 _ _ _ _ =>
   cases f5 with
   | mk h1 h2 h3 h4 _ _ _ _ =>
   refine az func51 rfl rfl ?_
   unfold dX at *
   dsimp only at c1 c2 k1 k2 k4 k6 k7 ⊢
   repeat' (first|(apply ay;first|refine ak ?_|refine ai ?_|refine bM ?_|refine fD 0 [6] (k1) ?_ (hl:=bF rqf cA)|refine fD 0 [52] (k7) ?_ (hl:=bF rqf cA)|refine aF 0 (c1) ?_|refine aF 0 (c2) ?_|refine aF 0 (k4) ?_|refine aF 0 (k2) ?_|refine bh ?_|refine bJ ?_|refine dT ?_|refine au ?_)|refine aj ?_|refine ab ?_|(apply da;first|(apply dC;refine aD ?_)|refine dZ ?_|refine gI ?_|refine m5 0 (k6) ?_|refine li ?_|refine nu ?_)|refine aj ?_|refine ab ?_|refine aa fun C=>?_|refine av krq krq fun C=>?_|refine ac ?_|refine ah ?_|refine ar rfl ?_)
   refine bc (dU (i:=17) (j:=1000) rfl rfl rfl (pre:=[_,_,_]) (post:=[_,_,_,_]) rfl) ?_
   refine bc (dU (i:=17) (j:=1700) rfl rfl rfl (pre:=[_,_,_,_,_,_,_]) (post:=[]) rfl) ?_
   exact fY
theorem qc {L:List T3}{r:RI}(hb:r.b=true):Ctr prog 26 [.c (.pt 0 0)] [dX L r] (.ag (owE (zE,r).1)) [dX L (zE,r).2]:=by
 obtain⟨a,b⟩:=r
 have hb:b=true:=hb
 subst hb
 refine az func26 rfl rfl ?_
 unfold dX
 dsimp only
 repeat' (first|(apply ay;first|refine ak ?_|refine bf ?_|refine aI ?_|refine bh ?_|refine bJ ?_|refine au ?_)|refine aj ?_|refine ab ?_|refine aa fun C=>?_|refine ac ?_|refine aq rfl ?_)
 refine bc (cR 90000 (i:=2) 26 4 rfl rfl (pre:=[_,_,_]) (post:=[]) rfl) ?_
 exact fY
theorem zx6 {L:List T3}(hL:L.length≤2000)(hok:okL L){f:Nat}(hf:f≤3000){g:RI→E×RI}(hg:GI L f g)(hi:HI L f g){r:RI}(hb:r.b=false)(hr:L.length+1≤r.a+(f+1))(ht:TI L r):Ctr prog 26 [.c (.pt 0 0)] [dX L r] (.ag (owE (paI L g r).1)) [dX L (paI L g r).2]:=by
 have ha0:r.a≤L.length:=ht (by rw [hb];rfl)
 have cw:r.a<L.length→Ctr prog 49 [.c (.pt 0 0)] [dX L r] (.ag (owE (cU L g (tAt L r.a).2.2 r).1)) [dX L (cU L g (tAt L r.a).2.2 r).2]:=fun h=>zt6 hL hok hf hg hi hb hr h
 have fw:r.a<L.length→FnX (cU L g (tAt L r.a).2.2 r).1:=fun h=>(x8 hok hg (tc hok r.a).1 (by rw [hb];rfl) h).fine
 have ce:r.a<L.length→Ctr prog 51 [.c (.pt 0 0)] [dX L r] (.ag (owE (enI L g r).1)) [dX L (enI L g r).2]:=fun h=>rE hL hok hf hg hi hb hr h
 have fe:r.a<L.length→FnX (enI L g r).1:=fun h=>(en_PI hok hg (by rw [hb];rfl) h).fine
 have hlt0:(tAt L r.a).1≠0→r.a<L.length:=fun h=>rq h
 obtain⟨a,b⟩:=r
 have hb:b=false:=hb
 subst hb
 dsimp only at hr ha0 cw fw ce fe hlt0
 have c1:=iF hL (r:=⟨a,false⟩) (by dsimp only;omega) (j:=0) omq (z:=0) rfl
 have c2:=pY hL (r:=⟨a,false⟩) (by dsimp only;omega) (j:=0) omq (z:=0) rfl ⟨#[40]⟩
 rw [show (⟨a,false⟩:RI).a+0=a from rfl] at c1
 unfold paI
 dsimp only
 generalize htt:tAt L a=t at *
 obtain⟨k,n,s⟩:=t
 dsimp only at *
 have hu:RI.up ⟨a,false⟩=⟨a+1,false⟩:=rfl
 by_cases h1:k=1
 ·subst h1
  rw [if_pos rfl,hu]
  clear cw fw ce fe hg hi c2
  refine az func26 rfl rfl ?_
  unfold dX at *
  dsimp only at c1 ⊢
  repeat' (first|((refine gU (by decide) (by decide) (by decide) ?_))|(apply ay;first|refine ak ?_|refine ai ?_|refine bf ?_|refine aI ?_|refine aF 0 (c1) ?_|refine bh ?_|refine ao ?_|refine aw ?_|refine bJ ?_|refine au ?_)|refine aj ?_|refine ab ?_|refine aa fun C=>?_|refine ac ?_|refine ah ?_|refine al ?_|refine aq rfl ?_|refine ar rfl ?_)
  refine bc (cR 90000 (i:=2) 26 4 rfl rfl (pre:=[_,_,_]) (post:=[]) rfl) ?_
  exact fY
 rw [if_neg h1]
 by_cases h3:k=3
 ·subst h3
  rw [if_pos rfl,hu]
  clear cw fw ce fe hg hi c2
  refine az func26 rfl rfl ?_
  unfold dX at *
  dsimp only at c1 ⊢
  repeat' (first|((refine gU (by decide) (by decide) (by decide) ?_))|(apply ay;first|refine ak ?_|refine ai ?_|refine bf ?_|refine aI ?_|refine aF 0 (c1) ?_|refine bh ?_|refine ao ?_|refine aw ?_|refine bJ ?_|refine au ?_)|refine aj ?_|refine ab ?_|refine aa fun C=>?_|refine ac ?_|refine ah ?_|refine al ?_|refine aq rfl ?_|refine ar rfl ?_)
  refine bc (cR 90000 (i:=2) 26 4 rfl rfl (pre:=[_,_,_]) (post:=[]) rfl) ?_
  exact fY
 rw [if_neg h3]
 by_cases h2:k=2
 ·subst h2
  rw [if_pos rfl]
  have cw:=cw (hlt0 (by decide))
  have fw:=fw (hlt0 (by decide))
  clear ce fe hg hi c2
  generalize cU L g s ⟨a,false⟩=x1 at *
  obtain⟨y1,q1⟩:=x1
  dsimp only at *
  cases fw with
  | mk m1 m2 m3 m4 _ _ _ _ =>
  refine az func26 rfl rfl ?_
  unfold dX at *
  dsimp only at c1 cw ⊢
  repeat' (first|((refine gU (by decide) (by decide) (by decide) ?_))|(apply ay;first|refine ak ?_|refine ai ?_|refine bf ?_|refine aI ?_|refine aF 0 (c1) ?_|refine aF 0 (cw) ?_|refine bh ?_|refine ao ?_|refine bJ ?_|refine au ?_)|refine aj ?_|refine ab ?_|refine aa fun C=>?_|refine ac ?_|refine ah ?_|refine al ?_|refine aq rfl ?_|refine ar rfl ?_)
  exact fY
 rw [if_neg h2]
 clear cw fw
 have e1:(k==1)=false:=by simpa using h1
 have e2:(k==2)=false:=by simpa using h2
 have e3:(k==3)=false:=by simpa using h3
 cases hi1:isI L ⟨a,false⟩ 0 ⟨#[40]⟩ with
 | true =>
  rw [if_pos rfl]
  rw [hi1] at c2
  have hlt:a<L.length:=mK hi1
  have ce:=ce hlt
  have fe:=fe hlt
  clear hg hi
  generalize enI L g ⟨a,false⟩=x1 at *
  obtain⟨y1,q1⟩:=x1
  dsimp only at *
  cases fe with
  | mk m1 m2 m3 m4 _ _ _ _ =>
  refine az func26 rfl rfl ?_
  unfold dX at *
  dsimp only at c1 c2 ce ⊢
  repeat' (first|(apply ay;first|refine ak ?_|refine bf ?_|refine aI ?_|refine bJ ?_|refine au ?_)|refine aj ?_|refine ab ?_|refine aa fun C=>?_|refine ac ?_)
  refine ar rfl ?_
  repeat' (first|((refine gU (by decide) (by decide) (by decide) ?_))|(apply ay;first|refine ak ?_|refine ai ?_|refine bf ?_|refine aI ?_|refine aF 0 (c1) ?_|refine bh ?_|refine ao ?_|refine bJ ?_)|refine aj ?_|refine ab ?_|refine aa fun C=>?_|refine ac ?_|refine ah ?_|refine al ?_)
  refine ae rqf (fun hC=>absurd (eq_of_beq hC) h1) fun hC=>?_
  repeat' (first|(apply ay;first|refine ai ?_|refine bf ?_|refine aI ?_|refine ao ?_)|refine aj ?_|refine ab ?_|refine aa fun C=>?_|refine ac ?_)
  refine ae rqf (fun hC=>absurd (eq_of_beq hC) h3) fun hC=>?_
  repeat' (first|(apply ay;first|refine ai ?_|refine bf ?_|refine aI ?_|refine ao ?_)|refine aj ?_|refine ab ?_|refine aa fun C=>?_|refine ac ?_)
  refine ae rqf (fun hC=>absurd (eq_of_beq hC) h2) fun hC=>?_
  repeat' (first|(apply ay;first|refine ak ?_|refine ai ?_|refine aF 0 (c2) ?_|refine aF 0 (ce) ?_|refine bh ?_)|refine aj ?_|refine ab ?_|refine aa fun C=>?_|refine ac ?_|refine aq rfl ?_)
  exact fY
 | false =>
  rw [if_neg (by simp)]
  rw [hi1] at c2
  clear ce fe
  by_cases h5:k=5∧0<gS s
  ·rw [if_pos h5,hu]
   obtain⟨h5,hk⟩:=h5
   subst h5
   have hlt:=hlt0 (by decide)
   have t1:TI L ⟨a+1,false⟩:=fun h=>by dsimp only;omega
   have g1:=hg ⟨a+1,false⟩ t1
   have k2:=hi ⟨a+1,false⟩ t1 (fun _=>by dsimp only;omega)
   have f1:=g1.fine
   clear g1 hg hi
   generalize g ⟨a+1,false⟩=x1 at *
   obtain⟨y1,q1⟩:=x1
   dsimp only at *
   cases f1 with
   | mk m1 m2 m3 m4 _ _ _ _ =>
   have hk2:decide (0<gS s)=true:=decide_eq_true hk
   refine az func26 rfl rfl ?_
   unfold dX at *
   dsimp only at c1 c2 k2 ⊢
   repeat' (first|((refine gU (by decide) (by decide) (by decide) ?_))|(apply ay;refine n_lk ?_)|(apply ay;first|(refine aK ?_ ?_<;>intro hG<;>(try cases hG))|refine ak ?_|refine ai ?_|refine bf ?_|refine aI ?_|refine aF 0 (c1) ?_|refine aF 0 (c2) ?_|refine bh ?_|refine ao ?_|refine aX ?_|refine aB ?_|refine bJ ?_|refine au ?_)|refine aj ?_|refine ab ?_|refine aa fun C=>?_|refine ac ?_|refine ah ?_|refine al ?_|refine ar rfl ?_)
   refine ae rqf (fun hC=>?_) fun hC=>by exfalso;simp only [dqn] at hC;exact hC hk
   repeat' (first|(apply da;refine o_lk ?_)|(apply ay;first|refine ak ?_|refine bf ?_|refine aI ?_|refine bh ?_|refine aw ?_|refine au ?_)|refine aj ?_|refine ab ?_|(apply da;first|(apply dC;refine aD ?_)|refine dZ ?_|refine bW ?_|refine m5 0 (k2) ?_|refine li ?_|refine nu ?_|refine aD ?_)|refine aj ?_|refine ab ?_|refine aa fun C=>?_|refine av krq krq fun C=>?_|refine ac ?_)
   refine bc (dU (i:=77) (j:=7700) rfl rfl rfl (pre:=[_,_,_]) (post:=[]) rfl) ?_
   exact fY
  ·rw [if_neg h5]
   clear hg hi
   refine az func26 rfl rfl ?_
   unfold dX at *
   dsimp only at c1 c2 ⊢
   repeat' (first|(apply ay;first|refine ak ?_|refine bf ?_|refine aI ?_|refine bJ ?_|refine au ?_)|refine aj ?_|refine ab ?_|refine aa fun C=>?_|refine ac ?_)
   refine ar rfl ?_
   repeat' (first|((refine gU (by decide) (by decide) (by decide) ?_))|(apply ay;first|refine ak ?_|refine ai ?_|refine bf ?_|refine aI ?_|refine aF 0 (c1) ?_|refine bh ?_|refine ao ?_|refine bJ ?_)|refine aj ?_|refine ab ?_|refine aa fun C=>?_|refine ac ?_|refine ah ?_|refine al ?_)
   refine ae rqf (fun hC=>absurd (eq_of_beq hC) h1) fun hC=>?_
   repeat' (first|(apply ay;first|refine ai ?_|refine bf ?_|refine aI ?_|refine ao ?_)|refine aj ?_|refine ab ?_|refine aa fun C=>?_|refine ac ?_)
   refine ae rqf (fun hC=>absurd (eq_of_beq hC) h3) fun hC=>?_
   repeat' (first|(apply ay;first|refine ai ?_|refine bf ?_|refine aI ?_|refine ao ?_)|refine aj ?_|refine ab ?_|refine aa fun C=>?_|refine ac ?_)
   refine ae rqf (fun hC=>absurd (eq_of_beq hC) h2) fun hC=>?_
   repeat' (first|(apply ay;refine n_lk ?_)|(apply ay;first|refine bH ?_|(refine aK ?_ ?_<;>intro hG<;>(try cases hG))|refine ak ?_|refine ai ?_|refine bf ?_|refine aI ?_|refine aF 0 (c2) ?_|refine bh ?_|refine ao ?_|refine aX ?_|refine aB ?_|refine au ?_)|refine aj ?_|refine ab ?_|refine aa fun C=>?_|refine ac ?_|refine al ?_|refine ar rfl ?_)
   ·refine ae rqf (fun hC=>?_) fun hC=>?_
    ·exfalso
     simp only [dqt] at hC
     exact h5 ⟨eq_of_beq hG,hC⟩
    ·repeat' (first|(apply ay;first|refine ak ?_|refine bf ?_|refine bh ?_|refine au ?_)|refine aj ?_|refine ab ?_|refine aa fun C=>?_|refine ac ?_|refine al ?_)
     refine bc (cR 90000 (i:=2) 26 4 rfl rfl (pre:=[_,_,_]) (post:=[]) rfl) ?_
     exact fY
   ·skip
    refine bc (cR 90000 (i:=2) 26 4 rfl rfl (pre:=[_,_,_]) (post:=[]) rfl) ?_
    exact fY
theorem yp {L:List T3}(hL:L.length≤2000)(hok:okL L):∀f:Nat,f≤3000→HI L f (exI L f)
 | 0,_,q,ht,hq=>by
  cases hb:q.b with
  | true =>
   have e:exI L 0 q=(zE,q):=by obtain⟨a,b⟩:=q;have hb:b=true:=hb;subst hb;rfl
   rw [e]
   exact qc hb
  | false=>exact absurd (ht (by rw [hb];rfl)) (by have:=hq hb;omega)
 | f+1,hf,q,ht,hq=>by
  have ih:=yp hL hok f omq
  unfold exI
  cases hb:q.b with
  | true=>rw [if_pos rfl];exact qc hb
  | false=>rw [if_neg (by simp)];exact zx6 hL hok omq (x9 hok f) ih hb (hq hb) ht
end Go.Proofs.YtomolhbkdhjofaaGreatDoor
