/- A ghost step: what is held stands from now on (it is read alone). A call that gives back part of what it reads. -/
import Derived.Shelf.Lays
import Derived.Shelf.Strings.BuilderX
import Derived.Shelf.Small.Strs
import Derived.Shelf.Strings.OnBuilder
import Derived.Lib.FieldsP
import Derived.Lib.MapLaws
import Derived.Shelf.Strings.FieldsFuncAny
import Derived.Test.YtfemkmnkofgaaaaGreatClearW
namespace Go.Proofs.YtfemkmnkofgaaaaGreat
open Go.RowKit
set_option maxRecDepth 100000
mutual
def fzC:AC→AC
 | .ow _ n k l=>.ro n k (fzL l)
 | .bx _ _=>.un
 | .v x=>.v x
 | .ro n k l=>.ro n k l
 | .sl i n=>.sl i n
 | .pt i o=>.pt i o
 | .rp l o=>.rp l o
 | .fn f c=>.fn f c
 | .un=>.un
def fzL:List AC→List AC
 | []=>[]
 | c :: r=>fzC c :: fzL r
end
theorem zb13:∀l:List AC,(fzL l).length=l.length
 | []=>rfl
 | _ :: r=>by simp only [fzL,List.length_cons,zb13 r]
theorem zg18:∀l m:List AC,fzL (l++m)=fzL l++fzL m
 | [],_=>rfl
 | _ :: r,m=>by simp only [List.cons_append,fzL,zg18 r m]
mutual
theorem zm21:∀e:E,fzL (owE e)=acE e
 | .int k n=>by simp only [owE,acE,fzL,fzC]
 | .bool b=>by simp only [owE,acE,fzL,fzC]
 | .str s=>by simp only [owE,acE,fzL,fzC]
 | .agg fs=>by simp only [owE,acE];exact zj7 fs
 | .lst k T A c l=>by simp only [owE,acE,fzL,fzC,zj7 l]
theorem zj7:∀l:List E,fzL (owL l)=acL l
 | []=>by simp only [owL,acL,fzL]
 | e :: r=>by simp only [owL,acL,zg18,zm21 e,zj7 r]
end
section
variable {C:Ctx}{φ:Nat→Lc}{F:Nat→List Nat}{St St':Nat→Prop}{K:Nat→Prop}{σ:AS}{a:Act}{w w':World}
theorem CRL.fz_of:∀(l:List AC) (us:List Value) (fs:List Nat),(∀e∈l,∀(u:Value) (fp:List Nat),(∀b∈fp,St' b)→CR w St φ K e u fp→CR w St' φ K (fzC e) u [])→(∀b∈fs,St' b)→CRL w St φ K l us fs→CRL w St' φ K (fzL l) us []
 | [],us,fs,_,_,h=>by simp only [CRL] at h;obtain⟨rfl,rfl⟩:=h;exact CRL.nil
 | c :: r,us,fs,hh,hf,h=>by
  simp only [CRL] at h
  obtain⟨u,us',f1,f2,rfl,rfl,g1,g2⟩:=h
  exact CRL.cons (f:=[]) (f':=[]) (hh c List.mem_cons_self u f1 (fun b hb=>hf b (List.mem_append_left _ hb)) g1) (CRL.fz_of r us' f2 (fun e he=>hh e (List.mem_cons_of_mem _ he)) (fun b hb=>hf b (List.mem_append_right _ hb)) g2)
theorem CR.fz (hS:∀b,St b→St' b):∀(c:AC) (u:Value) (fp:List Nat),(∀b∈fp,St' b)→CR w St φ K c u fp→CR w St' φ K (fzC c) u []:=by
 intro c
 induction c using AC.ind with
 | h1 x=>intro u fp _ h;simp only [CR,fzC] at h ⊢;exact⟨h.1,h.2.1,trivial⟩
 | h2 n k l ih=>intro u fp _ h;have h0:=h;simp only [CR] at h0;obtain⟨rfl,_⟩:=h0;exact CR.sub_ hS _ u [] h
 | h3 T n k l ih =>
  intro u fp hfp h
  have hlt:=CR.lt _ _ _ h
  simp only [CR] at h
  obtain⟨us,fs,h1,h2,rfl⟩:=h
  obtain⟨hl,h3⟩:=h2
  have hlen:(fzL l).length=n*k:=by rw [zb13,←h1.len,hl]
  have hr:=CRL.fz_of (St':=St') l us fs ih (fun b hb=>hfp b (List.mem_append_right _ hb)) h1
  simp only [fzC,CR]
  rcases h3 with ⟨rfl,h0⟩|⟨b,cap,cur,rfl,-,hh,hnc,hcm,hsz,htk⟩
  ·exact⟨trivial,none,0,by rw [h0],⟨by omega,by unfold maxLen;omega,fun _=>rfl⟩,hlen,fun hn=>by omega⟩
  ·refine⟨trivial,some ⟨b,0,none⟩,cap,rfl,⟨hnc,hcm,fun e=>by cases e⟩,hlen,fun _=>⟨b,0,us,rfl,hfp b (List.mem_append_left _ (by simp [obl,Value.ownBlock])),hlt b (List.mem_append_left _ (by simp [obl,Value.ownBlock])),fun q y hq=>?_,hr⟩⟩
   have hq2:cur[q]? = some y:=by
    rw [←htk] at hq
    rw [List.getElem?_take] at hq
    split at hq
    ·rwa [Array.getElem?_toList] at hq
    ·cases hq
   rw [Nat.zero_add]
   unfold World.cell?
   rw [hh]
   exact hq2
 | h4 i n=>intro u fp _ h;have h0:=h;simp only [CR] at h0;obtain⟨rfl,_⟩:=h0;exact CR.sub_ hS _ u [] h
 | h5 i o=>intro u fp _ h;have h0:=h;simp only [CR] at h0;obtain⟨rfl,_⟩:=h0;exact CR.sub_ hS _ u [] h
 | h6 l o ih=>intro u fp _ h;have h0:=h;simp only [CR] at h0;obtain⟨rfl,_⟩:=h0;exact CR.sub_ hS _ u [] h
 | h7 f c ih=>intro u fp _ h;have h0:=h;simp only [CR] at h0;obtain⟨rfl,_⟩:=h0;exact CR.sub_ hS _ u [] h
 | h9 T l ih=>intro u fp _ h;simp only [fzC,CR]
 | h8=>intro u fp _ h;simp only [fzC,CR]
theorem SimF.freeze (h:SimF C φ F St σ a w){i:Nat}{r:Row}(hr:σ.hp i=some r){pre mid post:List AC}(hcs:r.cs=pre++(mid++post)) :
 ∃F' St',SimF C φ F' St' { σ with hp:=upd σ.hp i (some { r with cs:=pre++(fzL mid++post) }) } a w:=by
 have hlen:(pre++(fzL mid++post)).length=r.cs.length:=by rw [hcs];simp [zb13]
 have key:∀(us:List Value) (fp:List Nat),CRL w St φ σ.Kn r.cs us fp→fp.Nodup→∃(X Y:List Nat),(∀St':Nat→Prop,(∀b,St b→St' b)→(∀b∈Y,St' b)→CRL w St' φ σ.Kn (pre++(fzL mid++post)) us X)∧(∀b,b∈fp↔b∈X∨b∈Y)∧X.Nodup∧∀b∈X,b∉Y:=by
  intro us fp hc hnd
  rw [hcs] at hc
  obtain⟨u1,u2,f1,f2,rfl,rfl,g1,g2⟩:=hc.split
  obtain⟨u3,u4,f3,f4,rfl,rfl,g3,g4⟩:=g2.split
  have h3:=List.nodup_append.1 hnd
  have h4:=List.nodup_append.1 h3.2.1
  refine⟨f1++f4,f3,fun St' s1 s2=>(g1.sub_ s1).app (CRL.app (f:=[]) (f':=f4) (CRL.fz_of mid u3 f3 (fun e _ u fp hf hc=>CR.fz s1 e u fp hf hc) s2 g3) (g4.sub_ s1)),fun b=>by simp only [List.mem_append];exact⟨fun h=>h.elim (fun h=>.inl (.inl h)) fun h=>h.elim .inr fun h=>.inl (.inr h),fun h=>h.elim (fun h=>h.elim .inl fun h=>.inr (.inr h)) fun h=>.inr (.inl h)⟩,List.nodup_append.2 ⟨h3.1,h4.2.1,fun p hp q hq e=>h3.2.2 p hp q (List.mem_append_right _ hq) e⟩,fun b hb hm=>?_⟩
  rcases List.mem_append.1 hb with hb|hb
  ·exact h3.2.2 b hb b (List.mem_append_left _ hm) rfl
  ·exact h4.2.2 b hm b hb rfl
 have hrow:=(h.row i r hr).2
 have hnd:=h.nod i r hr
 obtain⟨X,Y,x1,x2,x3,x4⟩:∃(X Y:List Nat),(∀St':Nat→Prop,(∀b,St b→St' b)→(∀b∈Y,St' b)→RowOk w St' φ σ.Kn { r with cs:=pre++(fzL mid++post) } X (φ i))∧(∀b,b∈F i↔b∈X∨b∈Y)∧X.Nodup∧∀b∈X,b∉Y:=by
  cases e:φ i with
  | box b lo =>
   rw [e] at hrow
   obtain⟨hb,us,g1,g2⟩:=hrow
   obtain⟨X,Y,k1,k2,k3,k4⟩:=key us (F i) g1 hnd
   exact⟨X,Y,fun St' s1 s2=>⟨hb,us,k1 St' s1 s2,g2⟩,k2,k3,k4⟩
  | slc v =>
   rw [e] at hrow
   obtain⟨hb,us,fs0,g1,g2,g3⟩:=hrow
   rw [g3] at hnd
   have hn3:=List.nodup_append.1 hnd
   obtain⟨X,Y,k1,k2,k3,k4⟩:=key us fs0 g1 hn3.2.1
   refine⟨obl v++X,Y,fun St' s1 s2=>⟨hb,us,X,k1 St' s1 s2,g2,rfl⟩,fun b=>by rw [g3,List.mem_append,List.mem_append,k2,or_assoc],List.nodup_append.2 ⟨hn3.1,k3,fun p hp q hq e=>hn3.2.2 p hp q ((k2 q).2 (.inl hq)) e⟩,fun b hb hm=>?_⟩
   rcases List.mem_append.1 hb with hb|hb
   ·exact hn3.2.2 b hb b ((k2 b).2 (.inr hm)) rfl
   ·exact k4 b hb hm
 have hS:∀b,St b→b<w.heap.size→(St b∨b∈Y)∧w.heap[b]? = w.heap[b]? := fun b hb _=>⟨.inl hb,rfl⟩
 have hK:∀j,σ.Kn j→σ.Kn j∧φ j=φ j:=fun j hj=>⟨hj,rfl⟩
 have old:∀m t,upd σ.hp i (some { r with cs:=pre++(fzL mid++post) }) m=some t→(m=i∧t={ r with cs:=pre++(fzL mid++post) })∨(m≠i∧σ.hp m=some t):=fun m t hm=>by
  by_cases e:m=i
  ·subst e;rw [zt] at hm;injection hm with hm;exact .inl ⟨rfl,hm.symm⟩
  ·rw [ze1 _ _ e] at hm;exact .inr ⟨e,hm⟩
 have get:∀m t,upd σ.hp i (some { r with cs:=pre++(fzL mid++post) }) m=some t→∃t',σ.hp m=some t'∧(∀b∈upd F i X m,b∈F m)∧t.cs.length=t'.cs.length:=fun m t hm=>by
  rcases old m t hm with ⟨rfl,rfl⟩|⟨e1,e3⟩
  ·exact⟨r,hr,fun b hb=>by rw [zt] at hb;exact (x2 b).2 (.inl hb),hlen⟩
  ·exact⟨t,e3,fun b hb=>by rw [ze1 _ _ e1] at hb;exact hb,rfl⟩
 refine⟨upd F i X,fun b=>St b∨b∈Y,h.dfr,h.len,fun t=>VR.mono hS (Nat.le_refl _) hK _ _ (h.tms t),fun m t hm=>?_,fun m t hm=>?_,fun m q t v hm hq hmq b hb hb'=>?_,fun m q t v b lo hm hq e hb=>?_,fun m q t v b lo lo' hm hq hmq e e'=>?_,fun m t b hm hb hst=>?_,fun m t b lo hm e hst=>?_,h.frm,fun m t b hm hb=>?_,fun m hm=>⟨(h.par m hm).1,fun t ht q hq=>?_⟩,fun m t b lo hm e hN=>?_,h.gnN,fun b hb hl=>?_⟩
 ·rcases old m t hm with ⟨rfl,rfl⟩|⟨e1,e3⟩
  ·rw [zt];exact⟨(h.row m r hr).1,x1 _ (fun b hb=>.inl hb) (fun b hb=>.inr hb)⟩
  ·rw [ze1 _ _ e1]
   exact⟨(h.row m t e3).1,(h.row m t e3).2.mono hS (Nat.le_refl _) hK (fun _ _=>rfl) (fun _ _ _ _ _ hB=>hB)⟩
 ·rcases old m t hm with ⟨rfl,rfl⟩|⟨e1,e3⟩
  ·rw [zt];exact x3
  ·rw [ze1 _ _ e1];exact h.nod m t e3
 ·obtain⟨t',g1,g2,_⟩:=get m t hm
  obtain⟨v',p1,p2,_⟩:=get q v hq
  exact h.dis m q t' v' g1 p1 hmq b (g2 b hb) (p2 b hb')
 ·obtain⟨t',g1,g2,_⟩:=get m t hm
  obtain⟨v',p1,p2,_⟩:=get q v hq
  exact h.bxF m q t' v' b lo g1 p1 e (p2 b hb)
 ·obtain⟨t',g1,_,g3⟩:=get m t hm
  obtain⟨v',p1,_,p3⟩:=get q v hq
  rw [g3,p3]
  exact h.bxd m q t' v' b lo lo' g1 p1 hmq e e'
 ·rcases hst with hst|hY
  ·obtain⟨t',g1,g2,_⟩:=get m t hm
   exact h.stF m t' b g1 (g2 b hb) hst
  ·rcases old m t hm with ⟨rfl,rfl⟩|⟨e1,e3⟩
   ·rw [zt] at hb;exact x4 b hb hY
   ·rw [ze1 _ _ e1] at hb;exact h.dis m i t r e3 hr e1 b hb ((x2 b).2 (.inr hY))
 ·obtain⟨t',g1,g2,_⟩:=get m t hm
  rcases hst with hst|hY
  ·exact h.stB m t' b lo g1 e hst
  ·exact h.bxF m i t' r b lo g1 hr e ((x2 b).2 (.inr hY))
 ·obtain⟨t',g1,g2,_⟩:=get m t hm;exact h.own m t' b g1 (g2 b hb)
 ·obtain⟨t',g1,_,g3⟩:=get m t ht
  exact (h.par m hm).2 t' g1 q (by rw [←g3];exact hq)
 ·obtain⟨t',g1,_,_⟩:=get m t hm;exact h.new m t' b lo g1 e hN
 ·rcases hb with hb|hY
  ·exact h.stS b hb hl
  ·exact .inr ((h.own i r b hr ((x2 b).2 (.inr hY))).resolve_right (by omega))
end
section
variable {tm:Nat→AV}{hp:Nat→Option Row}{gn L:Nat}{us:List Nat}
theorem zo22 {i k n:Nat}{T:TypeId}{b:Bool}{cs cs':List AC}{pre mid mid' post:List AC}(hr:hp i=some ⟨T,k,n,b,cs⟩)(hcs:cs=pre++(mid++post))(hm:fzL mid=mid')(he:pre++(mid'++post)=cs'):Gh ⟨tm,hp,gn,us,L⟩ ⟨tm,upd hp i (some ⟨T,k,n,b,cs'⟩),gn,us,L⟩:=fun C a w hs=>by
 obtain⟨φ,F,St,h⟩:=hs
 obtain⟨F',St',h'⟩:=h.freeze hr hcs
 subst hm he
 exact⟨φ,F',St',h'⟩
end
section
variable {ops:Array Oper}{Q:Exit→Act→World→Prop}{C:Ctx}{i:Nat}{r:List Nat}
variable {tm:Nat→AV}{hp:Nat→Option Row}{gn L:Nat}{us:List Nat}
theorem zd23 {ty:TypeId}{gd:Option (Nat×Bool)}{cas:Array Operand}{cts:Array TypeId}{ps:String}{af:Array Edge}{t:Nat}{fv:Operand}{f:FuncId}{caps:List AC}{args ins:List AV}{m k:Nat}{l:List AC}(hctr:Ctr Tryz.prog f ins [] (.c (.ro m k l)) [])(h:Walk Tryz.prog ops Q C false [] r ⟨upd tm t (.c (.ro m k l)),hp,gn,us,L⟩)(ht:Nat.blt t L=true:=by exact rfl)(hg:gw ops tm (⟨some t,.call ⟨.value fv,cas,cts⟩,ty,ps,af,gd⟩:Oper)=some true:=by exact rfl)(hfv:AS.ev ⟨tm,hp,gn,us,L⟩ fv=.c (.fn f caps):=by exact rfl)(hargs:callArgs ⟨tm,hp,gn,us,L⟩ ⟨.value fv,cas,cts⟩ caps=args:=by exact rfl)(hcv:args.map (cvV hp [])=ins:=by ((repeat' (first|rfl|exact zw4|refine ze4 ?_ ?_|refine zo10 ?_|refine cv_c ?_|refine zf4 ?_ ?_|(refine zw5 ?_;exact byc)|(refine zx5 ?_;exact byc)|refine zy5 ?_|(refine cvC_sl' (by rfl) (by rfl) (by rfl) (by rfl) ?_ ?_;(focus exact byc);(first|rfl|exact zh3 _))))<;>exact rfl))(hm:((args.flatMap snV).all fun z=>([]:List Nat).contains z)=true:=by exact rfl):WalkO Tryz.prog ops Q C false [] i (⟨some t,.call ⟨.value fv,cas,cts⟩,ty,ps,af,gd⟩:Oper) r ⟨tm,hp,gn,us,L⟩:=⟨fun hop=>by
 have e:callInf ⟨tm,hp,gn,us,L⟩ (args.flatMap snV) [] [] (100*(t+1)) (.c (.ro m k l)) []=⟨args.flatMap snV++[],[],[],.c (.ro m k l)⟩:=by
  unfold callInf;simp [backU,opV,opC]
 refine za17 (100*(t+1)) [] [] hop rfl rfl rfl ht hg hfv hargs (pars:=[]) rfl (by rw [hcv];exact hctr) (by simp) rfl (.inr hm) (nv:=.c (.ro m k l)) (nr:=[]) (by simp [opV,opC]) rfl (by rw [e];exact zr1) ?_
 simpa [keepH,backU,updL] using h⟩
end
end Go.Proofs.YtfemkmnkofgaaaaGreat
namespace Go.Proofs.YtfemkmnkofgaaaaGreat
open Go.RowKit Go.Shelf
set_option maxRecDepth 100000
end Go.Proofs.YtfemkmnkofgaaaaGreat
namespace Go.Proofs.YtfemkmnkofgaaaaGreat
open Go.RowKit Go.Shelf
set_option maxRecDepth 100000
end Go.Proofs.YtfemkmnkofgaaaaGreat
namespace Go.Proofs.YtfemkmnkofgaaaaGreat
open Go.RowKit
set_option maxRecDepth 100000
end Go.Proofs.YtfemkmnkofgaaaaGreat
namespace Go.Proofs.YtfemkmnkofgaaaaGreat
open Go.RowKit
end Go.Proofs.YtfemkmnkofgaaaaGreat
namespace Go.Proofs.YtfemkmnkofgaaaaGreat
open Go.RowKit
def clampI (n lo hi:Int):Int:=if n<lo then lo else if hi<n then hi else n
theorem zh18 (n lo hi:Int)(w:World)(h:lo≤hi):Calls Tryz.prog 93 #[.int .i64 n,.int .i64 lo,.int .i64 hi] w fun e w' =>
 e=.returned (.int .i64 (clampI n lo hi))∧w=w':=by
 by_cases h1:n<lo
 ·have e:clampI n lo hi=lo:=if_pos h1
  rw [e]
  clear e
  go_enter Tryz.func93,Tryz.ntmps93
  go_wp2
  go_ret
  exact⟨by first|rfl|exact ri (by omega),rfl⟩
 ·by_cases h2:hi<n
  ·have e:clampI n lo hi=hi:=by unfold clampI;rw [if_neg h1,if_pos h2]
   rw [e]
   clear e
   go_enter Tryz.func93,Tryz.ntmps93
   go_wp2
   go_ret
   exact⟨by first|exact ri (by omega)|(simp<;>omega),rfl⟩
  ·have e:clampI n lo hi=n:=by unfold clampI;rw [if_neg h1,if_neg h2]
   rw [e]
   clear e
   go_enter Tryz.func93,Tryz.ntmps93
   go_wp2
   go_ret
   exact⟨by first|exact ri (by omega)|(simp<;>omega),rfl⟩
theorem r3 {a b a' b':Int}{c:Bool}(h1:a=a')(h2:b=b'):Ending.returned (.tuple #[.int .i64 a,.int .i64 b,.bool c])=.returned (.tuple #[.int .i64 a',.int .i64 b',.bool c]):=by rw [h1,h2]
structure GIns where
 o:Nat
 n:Nat
 p:Nat
 ok:Bool
set_option maxRecDepth 100000
theorem zi18 {P:Program}{f:FuncId}{ins:List AV}{v:Value}{res:AV}(he:entB P f=true)(hv:∀w:World,VRF w (fun _=>False) φ0 K0 res v [])
 (hc:∀(w:World) (St:Nat→Prop) (φ:Nat→Lc) (K:Nat→Prop) (us:List Value),VRL w St φ K ins us→Calls P f us.toArray w fun e w'=>e=.returned v∧Below w.heap.size w w'):Ctr P f ins [] res []:=by
 refine⟨he,fun w St φ F us' hent=>?_⟩
 refine (hc w St φ _ us' hent.args).mono ?_
 rintro e w' ⟨rfl,hb⟩
 exact⟨_,_,v,fun _=>False,fun _=>[],[],⟨rfl,rfl⟩,rfl,⟨⟨hb.os,hb.tape,hb.output,hb.size,fun b hlt _=>.inl (hb.block b hlt)⟩,hv w',by simp,rfl,fun i cs hi=>by simp at hi,fun i hi=>by simp at hi,fun i hi=>by simp at hi,fun i j hi=>by simp at hi,fun i b lo hi=>by simp at hi,fun b hb=>by simp at hb,fun b hb=>hb.elim⟩⟩
theorem zn21 (n lo hi:Int)(h:lo≤hi):Ctr Tryz.prog 93 [.c (.v (.int .i64 n)),.c (.v (.int .i64 lo)),.c (.v (.int .i64 hi))] [] (.c (.v (.int .i64 (clampI n lo hi)))) [] :=
 zi18 (v:=.int .i64 (clampI n lo hi)) (by kernel_rfl) (fun w=>by simp only [VRF,CR];exact⟨trivial,rfl,trivial⟩) fun w St φ K us hv=>by
  simp only [VRL] at hv
  obtain⟨u1,us1,rfl,h1,u2,us2,rfl,h2,u3,us3,rfl,h3,rfl⟩:=hv
  simp only [VR,CR] at h1 h2 h3
  obtain⟨rfl,-⟩:=h1
  obtain⟨rfl,-⟩:=h2
  obtain⟨rfl,-⟩:=h3
  refine (zh18 n lo hi w h).mono ?_
  rintro e w' ⟨rfl,rfl⟩
  exact⟨rfl,Below.refl _ _⟩
theorem za14:∀(ks:List E) (a:Nat),(∀e∈ks,e.enc.length=1)→(acL ks).drop a=acL (ks.drop a)
 | _,0,_=>rfl
 | [],a+1,_=>rfl
 | e :: r,a+1,h=>by
  have h1:=h e List.mem_cons_self
  rw [←zw6] at h1
  show ((acE e++acL r).drop (a+1))=acL (r.drop a)
  obtain⟨c,hc⟩:=List.length_eq_one_iff.1 h1
  rw [hc]
  exact za14 r a fun e he=>h e (List.mem_cons_of_mem _ he)
theorem zb14:∀{ks:List E},(∀e∈ks,e.enc.length=1)→(acL ks).length=ks.length
 | [],_=>rfl
 | e :: r,h=>by
  have h1:=h e List.mem_cons_self
  rw [←zw6] at h1
  show (acE e++acL r).length=_
  rw [List.length_append,h1,zb14 fun e he=>h e (List.mem_cons_of_mem _ he),List.length_cons];omega
section
variable {ops:Array Oper}{Q:Exit→Act→World→Prop}{C:Ctx}{H:List (Nat×Oper×Inf)}{i:Nat}{r:List Nat}{dr:Bool}
variable {tm:Nat→AV}{hp:Nat→Option Row}{gn L:Nat}{us:List Nat}
theorem e_tl {ty:TypeId}{gd:Option (Nat×Bool)}{ps:String}{af:Array Edge}{t:Nat}{x lo:Operand}{ks:List E}{a:Nat}{z1:Int}{ev:Operand→AV}{hp:Nat→Option Row}{id:Nat}(hk:∀e∈ks,e.enc.length=1)(hx:ev x=.c (.ro ks.length 1 (acL ks)))(h1:ev lo=.c (.v (.int .i64 z1)))(e1:z1=(a:Int))(ha:a≤ks.length) :
 EffD Tryz.prog (⟨some t,.slice 25 x (some lo) none none,ty,ps,af,gd⟩:Oper) ev hp id=some (.c (.ro (ks.drop a).length 1 (acL (ks.drop a))),.nop):=by
 show (if isStr (ev x)=true then _ else dSlice Tryz.prog hp id 25 (ev x) (some (ev lo)) none)=_
 rw [hx,if_neg (by intro h;cases h),h1]
 unfold dSlice
 rw [Tryz.underlying25]
 have hs:(Tryz.prog.info? 3).map (·.size)=some 1:=by kernel_rfl
 simp only [hs]
 subst e1
 have b1:bnd 0 (some (.c (.v (.int .i64 (a:Int)))))=some a:=by simp [bnd]
 have b2:bnd ks.length none=some ks.length:=rfl
 rw [b1,b2]
 simp only
 rw [if_pos ⟨trivial,ha,Nat.le_refl _⟩,Nat.mul_one,Nat.mul_one,List.length_drop]
 unfold subL
 rw [za14 ks a hk,List.take_of_length_le (by rw [zb14 fun e he=>hk e (List.mem_of_mem_drop he),List.length_drop];omega)]
theorem o_tl {ty:TypeId}{gd:Option (Nat×Bool)}{ps:String}{af:Array Edge}{t:Nat}{x lo:Operand}{ks:List E}{z1:Int}(a:Nat)(hk:∀e∈ks,e.enc.length=1)(ha:a≤ks.length)(e1:z1=(a:Int))(h:Walk Tryz.prog ops Q C dr (keepH dr (i,(⟨some t,.slice 25 x (some lo) none none,ty,ps,af,gd⟩:Oper),⟨fpO (AS.ev ⟨tm,hp,gn,us,L⟩) (⟨some t,.slice 25 x (some lo) none none,ty,ps,af,gd⟩:Oper),[],[],.c (.ro (ks.drop a).length 1 (acL (ks.drop a)))⟩) H) r ⟨upd tm t (.c (.ro (ks.drop a).length 1 (acL (ks.drop a)))),hp,gn,us,L⟩)
 (ht:Nat.blt t L=true:=by exact rfl) (hg:gw ops tm (⟨some t,.slice 25 x (some lo) none none,ty,ps,af,gd⟩:Oper)=some true:=by exact rfl) (hx:AS.ev ⟨tm,hp,gn,us,L⟩ x=.c (.ro ks.length 1 (acL ks)):=by exact rfl) (h1:AS.ev ⟨tm,hp,gn,us,L⟩ lo=.c (.v (.int .i64 z1)):=by exact rfl)
 (hc:chk dr ops i (⟨some t,.slice 25 x (some lo) none none,ty,ps,af,gd⟩:Oper) ⟨fpO (AS.ev ⟨tm,hp,gn,us,L⟩) (⟨some t,.slice 25 x (some lo) none none,ty,ps,af,gd⟩:Oper),[],[],.c (.ro (ks.drop a).length 1 (acL (ks.drop a)))⟩ H=true:=by first|(with_reducible exact zr1)|kernel_rfl) :
 WalkO Tryz.prog ops Q C dr H i (⟨some t,.slice 25 x (some lo) none none,ty,ps,af,gd⟩:Oper) r ⟨tm,hp,gn,us,L⟩:=zo3 h ht hg (e_tl hk hx h1 e1 ha) hc
end
theorem zi15 {ks:List E}(at_:Int):ks.drop (clampI at_ 0 ks.length).toNat=ks.drop at_.toNat:=by
 unfold clampI
 split
 ·rw [show at_.toNat=0 by omega];rfl
 ·split
  ·rw [Int.toNat_natCast,List.drop_length,List.drop_eq_nil_of_le (by omega)]
  ·rfl
theorem zj15 {ks:List E}(hk:∀e∈ks,e.enc.length=1)(at_:Int):Ctr Tryz.prog 65 [.ag [.ro ks.length 1 (acL ks),.v (.int .i64 at_)]] [] (.c (.ro (ks.drop at_.toNat).length 1 (acL (ks.drop at_.toNat)))) []:=by
 have c1:=zn21 at_ 0 (ks.length:Int) (by omega)
 rw [←zi15]
 have hb:0≤clampI at_ 0 (ks.length:Int)∧clampI at_ 0 (ks.length:Int)≤ks.length:=by unfold clampI;split<;>(try split)<;>omega
 generalize clampI at_ 0 (ks.length:Int)=z at c1 hb ⊢
 obtain⟨a,rfl⟩:∃a:Nat,z=(a:Int):=⟨z.toNat,by omega⟩
 rw [Int.toNat_natCast]
 refine zm2 Tryz.func65 rfl rfl ?_
 repeat' (first|(apply d_wo;refine o_tl a hk (by omega) rfl ?_)|(apply f_wo;first|(apply f_as;refine zp2 (v:=.c _) ?_)|refine n_bo ?_)|(apply f_w;first|refine za1 ?_|refine zd ?_)|(apply d_wo;first|(apply d_as;refine zo3 ?_)|(apply d_fa;refine o_fa ?_)|(apply d_ld;refine zx4 ?_)|(apply d_ca;refine ze12 c1 ?_)|(apply d_bi;refine zp20 ?_))|(apply d_w;first|refine za1 ?_|refine zd ?_)|refine zc fun C=>?_|refine zq1 (by kernel_rfl) (by kernel_rfl) fun C=>?_|refine zp ?_)
 refine zo2 ?_
 refine ret0 rfl (zz21 (zu2 (by simp [clo,zn]) zx3)) ⟨?_,rfl⟩
 rfl
theorem HpOk.frame {l:List E}(h:HpOk l)(e:E):HpOk (frameF l e):=by
 unfold frameF
 split
 ·rename_i loc _ _ _ _ stk _ _ _ _ _ its
  have h1:∀(ks:List E) {l:List E},HpOk l→HpOk (letSlotsE l ks):=fun ks=>by
   induction ks with
   | nil=>intro l h;exact h
   | cons x r ih=>intro l h;exact ih (h.slot x)
  have h2:∀(ks:List E) {l:List E},HpOk l→HpOk (ks.foldl iterF l):=fun ks=>by
   induction ks with
   | nil=>intro l h;exact h
   | cons x r ih=>intro l h;exact ih (h.iter x)
  exact h2 _ (h1 _ (h.letAll _))
 ·exact h
set_option maxHeartbeats 4000000 in
theorem zk15 {R:List AC}(hR:cloL R=true){l:List E}(hl:HpOk l){e:E}(he:e.Ty Tryz.prog 60)(hsz:e.sz≤1048576):Ctr Tryz.prog 27 [.c (.pt 0 0),.ag (acE e)] [.ow 110 l.length 4 (owL l) :: R] (.tu []) [.ow 110 (frameF l e).length 4 (owL (frameF l e)) :: R]:=by
 obtain⟨x0,x1,x2A,x2c,loc,x3A,x3c,stk,x4A,x4c,lab,x5A,x5c,its,rfl,-,-,⟨h2,k2⟩,⟨h3,k3⟩,-,⟨h5,k5⟩,-⟩:=zd1 he
 simp only [E.sz,E.szL] at hsz
 rw [show frameF l (E.agg [.int .i64 x0,.int .i64 x1,.lst 1 3 x2A x2c loc,.lst 2 102 x3A x3c stk,.lst 5 148 x4A x4c lab,.lst 2 105 x5A x5c its])=its.foldl iterF (letSlotsE (letAllE l loc) stk) from rfl]
 have c1:=zv9 hR hl h2 k2 (by omega)
 have ok1:=hl.letAll loc
 have c2:=zh15 hR ok1 h3 k3 (by omega)
 have ok2:HpOk (letSlotsE (letAllE l loc) stk):=by
  have h1:∀(ks:List E) {l:List E},HpOk l→HpOk (letSlotsE l ks):=fun ks=>by
   induction ks with
   | nil=>intro l h;exact h
   | cons x r ih=>intro l h;exact ih (h.slot x)
  exact h1 _ ok1
 obtain⟨D,D0,Ds,Dl,Dok⟩:=zb3 (f:=iterF) its HpOk ok2 (fun a x h=>h.iter x)
 rw [←Dl]
 rw [←D0] at c2
 generalize letAllE l loc=l1 at c1 c2 ok1
 clear Dl D0 ok2
 have hcl0:=zc1 (T:=110) (n:=l.length) (k:=4) (l:=l) hR
 have hcl1:=zc1 (T:=110) (n:=l1.length) (k:=4) (l:=l1) hR
 refine zm2 Tryz.func27 rfl rfl ?_
 repeat' (first|(apply f_wo;first|(apply f_mv;refine zt1 (v:=.c _) ?_)|(apply f_fa;refine n_fa ?_)|(apply f_ld;refine zh2 ?_)|(apply f_ca;first|refine zb6 0 (c1) ?_ (hl:=zr4 (by rfl) hcl0)|refine zb6 0 (c2) ?_ (hl:=zr4 (by rfl) hcl1))|(apply f_bi;refine zi2 ?_)|refine n_bo ?_)|(apply f_w;first|refine za1 ?_|refine zd ?_)|refine zc fun C=>?_|refine zp ?_|refine zw ?_)
 refine zw1 (fun k:Nat=>⟨tmsF [(0,.c (.pt 0 0)),(15,.c (.ro its.length 2 (acL its))),(16,.c (.v (.int .i64 its.length))),(17,.c (.v (.int .i64 k)))],hpsF [(0,0,⟨0,0,0,true,.ow 110 (D k).length 4 (owL (D k)) :: R⟩)],1,[0],26⟩)
  (fun N k=>k+N=its.length) its.length 0 (by omega) ?_ ?_
 ·have hcl:=zc1 (T:=110) (n:=(D 0).length) (k:=4) (l:=D 0) hR
  (refine zm1 _ _ rfl rfl ?_ ?_<;>(repeat' (first|exact TmOk.nil|exact RwOk.nil|refine TmOk.cons ?_ ?_|refine RwOk.cons ?_ ?_|rfl|exact zr rfl (by assumption)|(refine rnV_id' rfl ?_;exact byc)|(refine zu1 ?_;first|rfl|omega|(rw [zy (by omega) (by omega)];omega))|(refine zr rfl ?_;exact byc)|exact zj2 rfl rfl|(refine zv1 (by rfl) (by rfl) ?_ ?_<;>exact byc)|(refine rw_rn' rfl rfl ?_;simp;done))))
 rintro N k hN
 try dsimp only
 repeat' (first|(apply f_wo;(apply zf3;refine zf1 ?_))|(apply f_w;first|refine za1 ?_|refine zd ?_)|refine zc fun C=>?_|refine zp ?_)
 refine zj1 (by rfl) (fun hk'=>?_) fun hk'=>?_
 ·have hlt:k<its.length:=by simpa using hk'
  obtain⟨x,hx⟩:∃x,its[k]? = some x:=⟨_,List.getElem?_eq_getElem hlt⟩
  have hHs:=Ds k x hx
  have hcl:=zc1 (T:=110) (n:=(D k).length) (k:=4) (l:=D k) hR
  have hcl2:=zc1 (T:=110) (n:=(D (k+1)).length) (k:=4) (l:=D (k+1)) hR
  have hxz:=E.szL_mem (List.mem_of_getElem? hx)
  obtain⟨kA,kc,ks,at_,rfl,⟨hks,hk1⟩,-⟩:=zs1 (h5 x (List.mem_of_getElem? hx))
  simp only [E.sz,E.szL] at hxz
  have cN:=zj15 hk1 at_
  have hd:(ks.drop at_.toNat).length≤1048576:=by rw [List.length_drop];omega
  have c8:Ctr Tryz.prog 28 [.c (.pt 0 0),.c (.ro (ks.drop at_.toNat).length 1 (acL (ks.drop at_.toNat)))] [.ow 110 (D k).length 4 (owL (D k)) :: R] (.tu []) [.ow 110 (D (k+1)).length 4 (owL (D (k+1))) :: R]:=by rw [←hHs];exact zv9 hR (Dok k) (fun e he=>hks e (List.mem_of_mem_drop he)) (fun e he=>hk1 e (List.mem_of_mem_drop he)) hd
  repeat' (first|(apply f_wo;first|(apply f_mv;refine zt1 (v:=.c _) ?_)|(apply f_ld;first|refine zu3 ?_|refine zf5 ?_)|(apply f_ca;first|refine zd23 cN ?_|refine zb6 0 (c8) ?_ (hl:=zr4 (by rfl) hcl))|(apply f_st;refine n_st ?_)|(apply f_ia;refine n_ix ?_)|(apply zm3;refine zh1 ?_)|refine n_al ?_)|(apply f_w;first|refine za1 ?_|refine zd ?_)|refine zc fun C=>?_|refine zp ?_|refine zw ?_|refine zl1 ?_)
  refine⟨N-1,k+1,by omega,by omega,?_⟩
  (refine zm1 _ _ rfl rfl ?_ ?_<;>(repeat' (first|exact TmOk.nil|exact RwOk.nil|refine TmOk.cons ?_ ?_|refine RwOk.cons ?_ ?_|rfl|exact zr rfl (by assumption)|(refine rnV_id' rfl ?_;exact byc)|(refine zu1 ?_;first|rfl|omega|(rw [zy (by omega) (by omega)];omega))|(refine zr rfl ?_;exact byc)|exact zj2 rfl rfl|(refine zv1 (by rfl) (by rfl) ?_ ?_<;>exact byc)|(refine rw_rn' rfl rfl ?_;simp;done))))
 ·obtain rfl:k=its.length:=by have h9:¬k<its.length:=(by simpa using hk');omega
  repeat' (refine zy1 ?_)
  refine retL (x:=.tu []) rfl rfl rfl (zc1 hR) rfl ⟨rfl,rfl⟩
def refF (a:List E):E→List E
 | .agg [_,.int _ z]=>letLE a z
 | _=>a
def tabF (a:List E):E→List E
 | .agg [.lst _ _ _ _ es]=>es.foldl refF a
 | _=>a
theorem HpOk.ref {l:List E}(h:HpOk l)(e:E):HpOk (refF l e):=by
 unfold refF
 split
 ·exact h.let_ _
 ·exact h
theorem HpOk.tab {l:List E}(h:HpOk l)(e:E):HpOk (tabF l e):=by
 have h1:∀(ks:List E) {l:List E},HpOk l→HpOk (ks.foldl refF l):=fun ks=>by
  induction ks with
  | nil=>intro l h;exact h
  | cons x r ih=>intro l h;exact ih (h.ref x)
 unfold tabF
 split
 ·exact h1 _ h
 ·exact h
def clrL (cells vars tabs frames:List E):List E:=tabs.foldl tabF (letAllE (frames.foldl frameF cells) vars)
def clearE (e:E):E:=match e with
 | .agg [.agg [.lst _ _ _ _ c],.lst _ _ _ _ v,.lst _ _ _ _ t,.lst _ _ _ _ f,r,n,b,u,s,q,x,p]=>.agg [heapE (clrL c v t f),.lst 1 3 none 0 [],.lst 1 65 none 0 [],.lst 6 60 none 0 [],r,n,b,u,s,q,x,p]
 | _=>e
end Go.Proofs.YtfemkmnkofgaaaaGreat
namespace Go.Proofs.YtfemkmnkofgaaaaGreat
open Go.RowKit
end Go.Proofs.YtfemkmnkofgaaaaGreat
namespace Go.Proofs.YtfemkmnkofgaaaaGreat
open Go.RowKit
end Go.Proofs.YtfemkmnkofgaaaaGreat
namespace Go.Proofs.YtfemkmnkofgaaaaGreat
open Go.RowKit Go.Shelf
end Go.Proofs.YtfemkmnkofgaaaaGreat
namespace Go.Proofs.YtfemkmnkofgaaaaGreat
open Go.RowKit
theorem zk11 {α:Type}{enc:α→List Value}{k:Nat}(hk:∀d,(enc d).length=k):∀(ds:List α) (m:Nat),(ds.take m).flatMap enc=(ds.flatMap enc).take (m*k)
 | [],m=>by simp
 | d :: ds,0=>by simp
 | d :: ds,m+1=>by
  rw [List.take_succ_cons,List.flatMap_cons,List.flatMap_cons,zk11 hk ds m,show (m+1)*k=(enc d).length+m*k by rw [hk,Nat.add_mul];omega,List.take_length_add_append]
theorem Own.take {α:Type}{w:World}{lo hi k n c:Nat}{A:Option Addr}{e:TypeId}{enc:α→List Value}{ds:List α}(hlen:∀d,(enc d).length=k)(h:Own w lo hi e k enc (.slice A n c) ds)(m:Nat)(hm:m≤n):Own w lo hi e k enc (.slice A m c) (ds.take m):=by
 obtain⟨⟨⟨hl,h⟩,hb⟩,hn⟩:=h.ow
 have e2:(ds.take m).length=m:=by simp;omega
 unfold Own
 rw [e2]
 refine⟨⟨by rw [zg13 hlen,e2],?_⟩,fun b hbb=>hb b (by cases A<;>exact hbb)⟩
 rcases h with ⟨hv,h0⟩|⟨g,cap,cur,hv,hg,hh,h1,h2,h3,h4⟩
 ·obtain rfl:m=0:=by omega
  injection hv with v1 v2 v3
  exact .inl ⟨by rw [v1,v3],rfl⟩
 ·injection hv with v1 v2 v3
  refine .inr ⟨g,cap,cur,by rw [v1,v3],hg,hh,by omega,h2,h3,?_⟩
  rw [zk11 hlen,←h4,List.take_take]
  congr 1
  have:=Nat.mul_le_mul_right k hm
  omega
end Go.Proofs.YtfemkmnkofgaaaaGreat
namespace Go.Proofs.YtfemkmnkofgaaaaGreat
open Go.RowKit
end Go.Proofs.YtfemkmnkofgaaaaGreat
namespace Go.Proofs.YtfemkmnkofgaaaaGreat
open Go.RowKit
set_option maxRecDepth 100000
theorem zl11 {l:List E}(hl:∀x∈l,x.Ty Tryz.prog 9):∀e∈l,∃s,e=.str s:=fun e he=>by
 obtain⟨s,rfl,-⟩:=(hl e he).str_ Tryz.underlying9
 exact⟨s,rfl⟩
theorem zj18 {e:E}(he:e.Ty Tryz.prog 40)(hsz:e.sz≤1048576):Ctr Tryz.prog 63 [.ag (acE e)] [] (.ag (owE e)) []:=by
 obtain⟨x0,x1A,x1c,l,rfl,gx0,⟨hl,hk⟩,-⟩:=zg2 he
 simp only [E.sz,E.szL] at hsz
 have hlen:l.length≤1048576:=by omega
 have fl:acL l=owL l:=zi3 l (zr3 fun e h=>by obtain⟨s,rfl⟩:=zl11 hl e h;rfl)
 refine zm2 Tryz.func63 rfl rfl ?_
 repeat' (first|(apply f_wo;first|(apply f_fa;refine n_fa ?_)|(apply f_ld;first|refine zh2 ?_|refine zf5 ?_)|(apply f_bi;refine zm17 ?_)|(apply f_st;refine n_st ?_)|refine n_al ?_|refine n_bo ?_)|(apply f_w;first|refine za1 ?_|refine zd ?_)|refine zc fun C=>?_|refine zp ?_)
 refine zo2 ?_
 refine ret0 (x:=.ag [.v (.string x0),.ow 9 l.length 1 (acL l)]) rfl (zj5 (zu2 rfl (zc2 (rw:=⟨9,1,l.length,false,acL l⟩) rfl rfl rfl (zn _) zx3))) ⟨?_,rfl⟩
 rw [fl];rfl
theorem zk18 {e:E}(he:e.Ty Tryz.prog 40)(hsz:e.sz≤1048576):Ctr Tryz.prog 53 [.ag (acE e)] [] (.ag (owE e)) []:=by
 obtain⟨x0,x1A,x1c,l,rfl,gx0,⟨hl,hk⟩,-⟩:=zg2 he
 simp only [E.sz,E.szL] at hsz
 have hlen:l.length≤1048576:=by omega
 have fl:acL l=owL l:=zi3 l (zr3 fun e h=>by obtain⟨s,rfl⟩:=zl11 hl e h;rfl)
 refine zm2 Tryz.func53 rfl rfl ?_
 repeat' (first|(apply f_wo;first|refine n_al ?_|refine n_bo ?_)|(apply f_w;first|refine za1 ?_|refine zd ?_)|(apply d_wo;first|(apply d_fa;refine o_fa ?_)|(apply d_ld;refine zx4 ?_)|(apply d_bi;refine zy8 ?_)|(apply d_st;refine o_st ?_)|refine o_bs ?_|refine zo3 ?_)|(apply d_w;first|refine za1 ?_|refine zd ?_)|refine zc fun C=>?_|refine zq1 (by kernel_rfl) (by kernel_rfl) fun C=>?_|refine zp ?_)
 refine zo2 ?_
 refine ret0 (x:=.ag [.v (.string x0),.ow 9 l.length 1 (acL l)]) rfl (zj5 (zu2 rfl (zc2 (rw:=⟨9,1,l.length,false,acL l⟩) rfl rfl rfl (zn _) zx3))) ⟨?_,rfl⟩
 rw [fl];rfl
end Go.Proofs.YtfemkmnkofgaaaaGreat
