/- T -/
import Derived.Test.YtomolhbkdhjofaaGreatDoorExAAF
set_option maxHeartbeats 0
set_option maxRecDepth 100000
namespace Go.Proofs.YtomolhbkdhjofaaGreatDoor
open Go.RowKit Go.Proofs.Tryz
section
variable {ops:Array Oper}{Q:Exit→Act→World→Prop}{C:Ctx}{i:Nat}{r:List Nat}
variable {tm:Nat→AV}{hp:Nat→Option Row}{gn L:Nat}{us:List Nat}
theorem e_rem {ty:TypeId}{gd:Option (Nat×Bool)}{ps:String}{af:Array Edge}{t:Nat}{x y:Operand}{U:TypeId}{z1 z2:Int}{ev:Operand→AV}(hx:ev x=.c (.v (.int .i64 z1)))(hy:ev y=.c (.v (.int .i64 z2)))(h0:z2≠0):EffD prog (⟨some t,.binOp .rem 3 x y U,ty,ps,af,gd⟩:Oper) ev hp 0=some (.c (.v (.int .i64 (z1.tmod z2))),.nop):=by
 show nop? (du _ _ _)=_
 rw [d6 rfl (by intro q hq;have hq':q=x∨q=y:=(by have h2:q∈[x,y]:=Array.mem_toList_iff.2 hq;simpa using h2);rcases hq' with rfl|rfl<;>first|(rw [hx];rfl)|(rw [hy];rfl))]
 unfold execOp
 dsimp only
 rw [hx,hy]
 have hd:Op.intDiv .rem .i64 z1 z2=pure (.int .i64 (z1.tmod z2)):=by unfold Op.intDiv;rw [if_neg h0]
 simp only [AV.val?,AC.val?,Option.getD_some,binOp,ne_eq,not_true_eq_false,if_false,hd]
 rfl
theorem n_rem {ty:TypeId}{gd:Option (Nat×Bool)}{ps:String}{af:Array Edge}{t:Nat}{x y:Operand}{U:TypeId}{z1 z2:Int}(h0:z2≠0)(h:Walk prog ops Q C false [] r ⟨upd tm t (.c (.v (.int .i64 (z1.tmod z2)))),hp,gn,us,L⟩)(ht:Nat.blt t L=true:=by exact rfl)(hg:gw ops tm (⟨some t,.binOp .rem 3 x y U,ty,ps,af,gd⟩:Oper)=some true:=by exact rfl)(hx:AS.ev ⟨tm,hp,gn,us,L⟩ x=.c (.v (.int .i64 z1)):=by exact rfl)(hy:AS.ev ⟨tm,hp,gn,us,L⟩ y=.c (.v (.int .i64 z2)):=by exact rfl):WalkO prog ops Q C false [] i (⟨some t,.binOp .rem 3 x y U,ty,ps,af,gd⟩:Oper) r ⟨tm,hp,gn,us,L⟩:=az h ht hg (e_rem hx hy h0)
end
theorem ry {x n:Int}(hx:0≤x)(hn:0<n):∃k:Nat,(k:Int)<n∧x.tmod n=(k:Int):=by
 refine⟨(x % n).toNat,?_,?_⟩
 ·have:=Int.emod_nonneg x (show n≠0 by omega);have:=Int.emod_lt_of_pos x hn;omega
 ·rw [Int.tmod_eq_emod_of_nonneg hx];have:=Int.emod_nonneg x (show n≠0 by omega);omega
theorem bp {cs:List AC}(h:Curs cs):bi cs=true:=by
 obtain⟨l,i,x,-,-,-,rfl⟩:=h
 simp [bi,clo,aG]
theorem cC {cs cs':List AC}(h:Curs cs)(h':Curs cs'):cs.length=cs'.length:=by
 obtain⟨l,i,x,-,-,-,rfl⟩:=h
 obtain⟨l',i',x',-,-,-,rfl⟩:=h'
 rfl
theorem dT {cs:List AC}(hc:Curs cs)(n:Int)(hn:0<n):∃(k:Nat) (cs':List AC),Curs cs'∧(k:Int)<n∧Ctr prog 41 [.c (.pt 0 0),.c (.v (.int .i64 n))] [cs] (.c (.v (.int .i64 (k:Int)))) [cs']:=by
 have cc:=bp hc
 obtain⟨x,cs1,h1,hx,c1⟩:=nh hc
 have cc1:=bp h1
 by_cases hs:n≤256
 ·obtain⟨k,hk,ek⟩:=ry hx.1 hn
  refine⟨k,cs1,h1,hk,av func41 rfl rfl ?_⟩
  repeat' (first|(apply ay;first|refine al ?_|refine ai ?_|refine bG ?_)|refine ak ?_|refine ab ?_|refine aa fun C=>?_|refine ac ?_)
  refine ae (by rfl) (fun hC=>absurd (of_decide_eq_true hC) omq) fun hC=>?_
  repeat' (first|(apply ay;first|refine al ?_|refine bG ?_)|refine ak ?_|refine ab ?_|refine aa fun C=>?_|refine ac ?_|refine aj ?_)
  refine ae (by rfl) (fun hC=>?_) fun hC=>absurd (of_decide_eq_false hC) omq
  repeat' (first|(apply ay;first|refine al ?_|refine aK 0 (c1) ?_ (hl:=bz (by rfl) cc))|(apply f_w;refine ak ?_)|refine aa fun C=>?_|refine ac ?_)
  refine n_rem (z2:=n) omq ?_
  rw [ek]
  repeat' (first|(apply ay;refine ai ?_)|refine ak ?_|refine ab ?_)
  refine am ?_
  exact dw rfl aH rfl cc1 (cC h1 hc) ⟨rfl,rfl⟩
 ·obtain⟨y,cs2,h2,hy,c2⟩:=nh h1
  obtain⟨z,cs3,h3,hz,c3⟩:=nh h2
  have cc2:=bp h2
  have cc3:=bp h3
  obtain⟨k,hk,ek⟩:=ry (x:=x*65536+y*256+z) omq hn
  refine⟨k,cs3,h3,hk,av func41 rfl rfl ?_⟩
  repeat' (first|(apply ay;first|refine al ?_|refine ai ?_|refine bG ?_)|refine ak ?_|refine ab ?_|refine aa fun C=>?_|refine ac ?_)
  refine ae (by rfl) (fun hC=>absurd (of_decide_eq_true hC) omq) fun hC=>?_
  repeat' (first|(apply ay;first|refine al ?_|refine bG ?_)|refine ak ?_|refine ab ?_|refine aa fun C=>?_|refine ac ?_|refine aj ?_)
  refine ae (by rfl) (fun hC=>absurd (of_decide_eq_true hC) omq) fun hC=>?_
  repeat' (first|(apply ay;first|refine al ?_|refine ai ?_|refine aK 0 (c1) ?_ (hl:=bz (by rfl) cc)|refine aK 0 (c2) ?_ (hl:=bz (by rfl) cc1)|refine aK 0 (c3) ?_ (hl:=bz (by rfl) cc2)|refine aw ?_|refine fB ?_)|refine ak ?_|refine ab ?_|refine aa fun C=>?_|refine ac ?_|refine aj ?_)
  refine n_rem (z2:=n) omq ?_
  rw [ek]
  repeat' (first|(apply ay;refine ai ?_)|refine ak ?_|refine ab ?_)
  refine am ?_
  exact dw rfl aH rfl cc3 (cC h3 hc) ⟨rfl,rfl⟩
theorem yN {cs:List AC}(hc:Curs cs)(n:Int)(hn:0<n):∃(b:Bool) (cs':List AC),Curs cs'∧Ctr prog 34 [.c (.pt 0 0),.c (.v (.int .i64 n))] [cs] (.c (.v (.bool b))) [cs']:=by
 have cc:=bp hc
 obtain⟨k,cs1,h1,hk,c1⟩:=dT hc n hn
 have cc1:=bp h1
 refine⟨((k:Int)==0),cs1,h1,av func34 rfl rfl ?_⟩
 repeat' (first|(apply ay;first|refine al ?_|refine ai ?_|refine aK 0 (c1) ?_ (hl:=bz (by rfl) cc)|refine ao ?_)|refine ak ?_|refine ab ?_|refine aa fun C=>?_|refine ac ?_)
 refine am ?_
 exact dw rfl aH rfl cc1 (cC h1 hc) ⟨rfl,rfl⟩
def zT (ns:List Int):List E:=ns.map fun n=>.int .i64 n
def qc (ns:List ByteArray):List E:=ns.map fun n=>.str n
theorem yO {ns:List Int}:∀e∈zT ns,e.enc.length=1:=fun e he=>by obtain⟨x,-,rfl⟩:=List.mem_map.1 he;rfl
theorem yP {ns:List ByteArray}:∀e∈qc ns,e.enc.length=1:=fun e he=>by obtain⟨x,-,rfl⟩:=List.mem_map.1 he;rfl
theorem rz {ns:List Int}:(zT ns).length=ns.length:=by simp [zT]
theorem rA {ns:List ByteArray}:(qc ns).length=ns.length:=by simp [qc]
theorem nk {cs:List AC}(hc:Curs cs)(ns:List Int)(hn:0<ns.length):∃(z:Int) (cs':List AC),Curs cs'∧z∈ns∧Ctr prog 42 [.c (.pt 0 0),.c (.ro (zT ns).length 1 (acL (zT ns)))] [cs] (.c (.v (.int .i64 z))) [cs']:=by
 have cc:=bp hc
 obtain⟨k,cs1,h1,hk,c1⟩:=dT hc ((zT ns).length:Nat) (by rw [rz];omega)
 have cc1:=bp h1
 have hk':k<ns.length:=by rw [rz] at hk;omega
 have henc:=yO (ns:=ns)
 obtain⟨z,hz⟩:∃z,ns[k]? = some z:=⟨_,List.getElem?_eq_getElem hk'⟩
 have he:(zT ns)[k]? = some (.int .i64 z):=by unfold zT;rw [List.getElem?_map,hz];rfl
 refine⟨z,cs1,h1,List.mem_of_getElem? hz,av func42 rfl rfl ?_⟩
 repeat' (first|(apply ay;first|refine al ?_|refine ai ?_|refine dO ?_|refine aK 0 (c1) ?_ (hl:=bz (by rfl) cc)|refine bE ?_|refine iv ?_)|refine ak ?_|refine ab ?_|refine aa fun C=>?_|refine ac ?_)
 refine am ?_
 exact dw rfl aH rfl cc1 (cC h1 hc) ⟨rfl,rfl⟩
theorem ll {cs:List AC}(hc:Curs cs)(ns:List ByteArray)(hn:0<ns.length):∃(z:ByteArray) (cs':List AC),Curs cs'∧z∈ns∧Ctr prog 35 [.c (.pt 0 0),.c (.ro (qc ns).length 1 (acL (qc ns)))] [cs] (.c (.v (.string z))) [cs']:=by
 have cc:=bp hc
 obtain⟨k,cs1,h1,hk,c1⟩:=dT hc ((qc ns).length:Nat) (by rw [rA];omega)
 have cc1:=bp h1
 have hk':k<ns.length:=by rw [rA] at hk;omega
 have henc:=yP (ns:=ns)
 obtain⟨z,hz⟩:∃z,ns[k]? = some z:=⟨_,List.getElem?_eq_getElem hk'⟩
 have he:(qc ns)[k]? = some (.str z):=by unfold qc;rw [List.getElem?_map,hz];rfl
 refine⟨z,cs1,h1,List.mem_of_getElem? hz,av func35 rfl rfl ?_⟩
 repeat' (first|(apply ay;first|refine al ?_|refine ai ?_|refine dO ?_|refine aK 0 (c1) ?_ (hl:=bz (by rfl) cc)|refine bE ?_|refine iv ?_)|refine ak ?_|refine ab ?_|refine aa fun C=>?_|refine ac ?_)
 refine am ?_
 exact dw rfl aH rfl cc1 (cC h1 hc) ⟨rfl,rfl⟩
structure ExtM (M:Nat→Prop)(w w':World)(St:Nat→Prop)(φ:Nat→Lc)(F:Nat→List Nat)(pars:List (List AC))(res:AV)(u:Value)(rows:List (List AC))(St':Nat→Prop)(F':Nat→List Nat)(G:List Nat):Prop where
 frm:Fc M (o9 φ pars) w w'
 res:VRF w' St' φ0 K0 res u G
 nodG:G.Nodup
 len:rows.length=pars.length
 row:∀i cs,rows[i]? = some cs→∃b lo vs,φ i=.box b lo∧CRL w' St' φ0 K0 cs vs (F' i)∧BoxAt w' b lo vs∧∃cs0,pars[i]? = some cs0∧cs.length=cs0.length
 nod:∀i,i<pars.length→(F' i).Nodup
 disG:∀i,i<pars.length→∀b∈F' i,b∉G
 dis:∀i j,i<pars.length→j<pars.length→i≠j→∀b∈F' i,b∉F' j
 bxF:∀i b lo,i<pars.length→φ i=.box b lo→b∉G∧∀j,j<pars.length→b∉F' j
 own:∀b,(b∈G∨∃i,i<pars.length∧b∈F' i)→(M b∨w.heap.size≤b)
 sta:∀b,St' b→(b<w.heap.size→St b∨M b)∧b∉G∧∀i,i<pars.length→b∉F' i∧∀lo,φ i≠.box b lo
structure EntU (w:World)(St:Nat→Prop)(φ:Nat→Lc)(F:Nat→List Nat)(ins:List AV)(us:List Value)(pars:List (List AC))(p:Nat)(T:TypeId)(k n:Nat)(cs:List AC)(A:List Nat):Prop where
 ent:Ent w St φ F ins us pars
 row:∃u vs fs,us[p]? = some u∧CRL w St φ0 K0 cs vs fs∧w.ownsRow 0 T k u n vs∧A=obl u++fs
 nod:A.Nodup
 st:∀b∈A,¬St b
 ap:∀b∈A,∀i,i<pars.length→b∉F i∧∀lo,φ i≠.box b lo
 gl:∀b,isG b→b∉A
section
variable {P:Program}{C:Ctx}{φ:Nat→Lc}{F:Nat→List Nat}{St:Nat→Prop}{σ:AS}{a:Act}{w w':World}{D:List Nat}{pars:List (List AC)}
end
section
variable {P:Program}{ops:Array Oper}{Q:Exit→Act→World→Prop}{C:Ctx}{σ:AS}{o:Oper}{i:Nat}
end
mutual
def fzC:AC→AC
 | .ow _ n k l=>.ro n k (fzL l)
 | .bx _ _=>.un
 | .v x=>.v x
 | .ro n k l=>.ro n k l
 | .sl i n=>.sl i n
 | .pt i o=>.pt i o
 | .rp l o=>.rp l o
 | .fn f c=>.fn f c
 | .un=>.un
 | .nn=>.nn
 | .mp l=>.mp l
def fzL:List AC→List AC
 | []=>[]
 | c :: r=>fzC c :: fzL r
end
theorem qe:∀l:List AC,(fzL l).length=l.length
 | []=>rfl
 | _ :: r=>by simp only [fzL,List.length_cons,qe r]
theorem wy:∀l m:List AC,fzL (l++m)=fzL l++fzL m
 | [],_=>rfl
 | _ :: r,m=>by simp only [List.cons_append,fzL,wy r m]
mutual
theorem zx2:∀e:E,fzL (owE e)=acE e
 | .int k n=>by simp only [owE,acE,fzL,fzC]
 | .bool b=>by simp only [owE,acE,fzL,fzC]
 | .str s=>by simp only [owE,acE,fzL,fzC]
 | .agg fs=>by simp only [owE,acE];exact np fs
 | .lst k T A c l=>by simp only [owE,acE,fzL,fzC,np l]
theorem np:∀l:List E,fzL (owL l)=acL l
 | []=>by simp only [owL,acL,fzL]
 | e :: r=>by simp only [owL,acL,wy,zx2 e,np r]
end
section
variable {C:Ctx}{φ:Nat→Lc}{F:Nat→List Nat}{St St':Nat→Prop}{K:Nat→Prop}{σ:AS}{a:Act}{w w':World}
theorem CRL.fz_of:∀(l:List AC) (us:List Value) (fs:List Nat),(∀e∈l,∀(u:Value) (fp:List Nat),(∀b∈fp,St' b)→CR w St φ K e u fp→CR w St' φ K (fzC e) u [])→(∀b∈fs,St' b)→CRL w St φ K l us fs→CRL w St' φ K (fzL l) us []
 | [],us,fs,_,_,h=>by simp only [CRL] at h;obtain⟨rfl,rfl⟩:=h;exact CRL.nil
 | c :: r,us,fs,hh,hf,h=>by
  simp only [CRL] at h
  obtain⟨u,us',f1,f2,rfl,rfl,g1,g2⟩:=h
  exact CRL.cons (f:=[]) (f':=[]) (hh c List.mem_cons_self u f1 (fun b hb=>hf b (List.mem_append_left _ hb)) g1) (CRL.fz_of r us' f2 (fun e he=>hh e (List.mem_cons_of_mem _ he)) (fun b hb=>hf b (List.mem_append_right _ hb)) g2)
theorem CR.fz (hS:∀b,St b→St' b):∀(c:AC) (u:Value) (fp:List Nat),(∀b∈fp,St' b)→CR w St φ K c u fp→CR w St' φ K (fzC c) u []:=by
 intro c
 induction c using AC.ind with
 | h1 x=>intro u fp _ h;simp only [CR,fzC] at h ⊢;exact⟨h.1,h.2.1,trivial⟩
 | h2 n k l ih=>intro u fp _ h;have h0:=h;simp only [CR] at h0;obtain⟨rfl,_⟩:=h0;exact CR.sub_ hS _ u [] h
 | h3 T n k l ih =>
  intro u fp hfp h
  have hlt:=CR.lt _ _ _ h
  simp only [CR] at h
  obtain⟨us,fs,h1,h2,rfl⟩:=h
  obtain⟨hl,h3⟩:=h2
  have hlen:(fzL l).length=n*k:=by rw [qe,←h1.len,hl]
  have hr:=CRL.fz_of (St':=St') l us fs ih (fun b hb=>hfp b (List.mem_append_right _ hb)) h1
  simp only [fzC,CR]
  rcases h3 with ⟨rfl,h0⟩|⟨b,cap,cur,rfl,-,hh,hnc,hcm,hsz,htk⟩
  ·exact⟨trivial,none,0,by rw [h0],⟨omq,by unfold maxLen;omega,fun _=>rfl⟩,hlen,fun hn=>by omega⟩
  ·refine⟨trivial,some ⟨b,0,none⟩,cap,rfl,⟨hnc,hcm,fun e=>by cases e⟩,hlen,fun _=>⟨b,0,us,rfl,hfp b (List.mem_append_left _ (by simp [obl,Value.ownBlock])),hlt b (List.mem_append_left _ (by simp [obl,Value.ownBlock])),fun q y hq=>?_,hr⟩⟩
   have hq2:cur[q]? = some y:=by
    rw [←htk] at hq
    rw [List.getElem?_take] at hq
    split at hq
    ·rwa [Array.getElem?_toList] at hq
    ·cases hq
   rw [Nat.zero_add]
   unfold World.cell?
   rw [hh]
   exact hq2
 | h4 i n=>intro u fp _ h;have h0:=h;simp only [CR] at h0;obtain⟨rfl,_⟩:=h0;exact CR.sub_ hS _ u [] h
 | h5 i o=>intro u fp _ h;have h0:=h;simp only [CR] at h0;obtain⟨rfl,_⟩:=h0;exact CR.sub_ hS _ u [] h
 | h6 l o ih=>intro u fp _ h;have h0:=h;simp only [CR] at h0;obtain⟨rfl,_⟩:=h0;exact CR.sub_ hS _ u [] h
 | h7 f c ih=>intro u fp _ h;have h0:=h;simp only [CR] at h0;obtain⟨rfl,_⟩:=h0;exact CR.sub_ hS _ u [] h
 | h9 T l ih=>intro u fp _ h;simp only [fzC,CR]
 | h8=>intro u fp _ h;simp only [fzC,CR]
 | hn=>intro u fp _ h;have h0:=h;simp only [CR] at h0;obtain⟨rfl,_⟩:=h0;exact CR.sub_ hS _ u [] h
 | hm l=>intro u fp _ h;have h0:=h;simp only [CR] at h0;obtain⟨rfl,_⟩:=h0;exact CR.sub_ hS _ u [] h
theorem SimF.freeze (h:SimF C φ F St σ a w){i:Nat}{r:Row}(hr:σ.hp i=some r){pre mid post:List AC}(hcs:r.cs=pre++(mid++post)) :
 ∃F' St',SimF C φ F' St' { σ with hp:=upd σ.hp i (some { r with cs:=pre++(fzL mid++post) }) } a w:=by
 have hlen:(pre++(fzL mid++post)).length=r.cs.length:=by rw [hcs];simp [qe]
 have key:∀(us:List Value) (fp:List Nat),CRL w St φ σ.Kn r.cs us fp→fp.Nodup→∃(X Y:List Nat),(∀St':Nat→Prop,(∀b,St b→St' b)→(∀b∈Y,St' b)→CRL w St' φ σ.Kn (pre++(fzL mid++post)) us X)∧(∀b,b∈fp↔b∈X∨b∈Y)∧X.Nodup∧∀b∈X,b∉Y:=by
  intro us fp hc hnd
  rw [hcs] at hc
  obtain⟨u1,u2,f1,f2,rfl,rfl,g1,g2⟩:=hc.split
  obtain⟨u3,u4,f3,f4,rfl,rfl,g3,g4⟩:=g2.split
  have h3:=List.nodup_append.1 hnd
  have h4:=List.nodup_append.1 h3.2.1
  refine⟨f1++f4,f3,fun St' s1 s2=>(g1.sub_ s1).app (CRL.app (f:=[]) (f':=f4) (CRL.fz_of mid u3 f3 (fun e _ u fp hf hc=>CR.fz s1 e u fp hf hc) s2 g3) (g4.sub_ s1)),fun b=>by simp only [List.mem_append];exact⟨fun h=>h.elim (fun h=>.inl (.inl h)) fun h=>h.elim .inr fun h=>.inl (.inr h),fun h=>h.elim (fun h=>h.elim .inl fun h=>.inr (.inr h)) fun h=>.inr (.inl h)⟩,List.nodup_append.2 ⟨h3.1,h4.2.1,fun p hp q hq e=>h3.2.2 p hp q (List.mem_append_right _ hq) e⟩,fun b hb hm=>?_⟩
  rcases List.mem_append.1 hb with hb|hb
  ·exact h3.2.2 b hb b (List.mem_append_left _ hm) rfl
  ·exact h4.2.2 b hm b hb rfl
 have hrow:=(h.row i r hr).2
 have hnd:=h.nod i r hr
 obtain⟨X,Y,x1,x2,x3,x4⟩:∃(X Y:List Nat),(∀St':Nat→Prop,(∀b,St b→St' b)→(∀b∈Y,St' b)→RowOk w St' φ σ.Kn { r with cs:=pre++(fzL mid++post) } X (φ i))∧(∀b,b∈F i↔b∈X∨b∈Y)∧X.Nodup∧∀b∈X,b∉Y:=by
  cases e:φ i with
  | box b lo =>
   rw [e] at hrow
   obtain⟨hb,us,g1,g2⟩:=hrow
   obtain⟨X,Y,k1,k2,k3,k4⟩:=key us (F i) g1 hnd
   exact⟨X,Y,fun St' s1 s2=>⟨hb,us,k1 St' s1 s2,g2⟩,k2,k3,k4⟩
  | slc v =>
   rw [e] at hrow
   obtain⟨hb,us,fs0,g1,g2,g3⟩:=hrow
   rw [g3] at hnd
   have hn3:=List.nodup_append.1 hnd
   obtain⟨X,Y,k1,k2,k3,k4⟩:=key us fs0 g1 hn3.2.1
   refine⟨obl v++X,Y,fun St' s1 s2=>⟨hb,us,X,k1 St' s1 s2,g2,rfl⟩,fun b=>by rw [g3,List.mem_append,List.mem_append,k2,or_assoc],List.nodup_append.2 ⟨hn3.1,k3,fun p hp q hq e=>hn3.2.2 p hp q ((k2 q).2 (.inl hq)) e⟩,fun b hb hm=>?_⟩
   rcases List.mem_append.1 hb with hb|hb
   ·exact hn3.2.2 b hb b ((k2 b).2 (.inr hm)) rfl
   ·exact k4 b hb hm
 have hS:∀b,St b→b<w.heap.size→(St b∨b∈Y)∧w.heap[b]? = w.heap[b]? := fun b hb _=>⟨.inl hb,rfl⟩
 have hK:∀j,σ.Kn j→σ.Kn j∧φ j=φ j:=fun j hj=>⟨hj,rfl⟩
 have old:∀m t,upd σ.hp i (some { r with cs:=pre++(fzL mid++post) }) m=some t→(m=i∧t={ r with cs:=pre++(fzL mid++post) })∨(m≠i∧σ.hp m=some t):=fun m t hm=>by
  by_cases e:m=i
  ·subst e;rw [aJ] at hm;injection hm with hm;exact .inl ⟨rfl,hm.symm⟩
  ·rw [aX _ _ e] at hm;exact .inr ⟨e,hm⟩
 have get:∀m t,upd σ.hp i (some { r with cs:=pre++(fzL mid++post) }) m=some t→∃t',σ.hp m=some t'∧(∀b∈upd F i X m,b∈F m)∧t.cs.length=t'.cs.length:=fun m t hm=>by
  rcases old m t hm with ⟨rfl,rfl⟩|⟨e1,e3⟩
  ·exact⟨r,hr,fun b hb=>by rw [aJ] at hb;exact (x2 b).2 (.inl hb),hlen⟩
  ·exact⟨t,e3,fun b hb=>by rw [aX _ _ e1] at hb;exact hb,rfl⟩
 refine⟨upd F i X,fun b=>St b∨b∈Y,h.dfr,h.len,fun t=>VR.mono hS (Nat.le_refl _) hK _ _ (h.tms t),fun m t hm=>?_,fun m t hm=>?_,fun m q t v hm hq hmq b hb hb'=>?_,fun m q t v b lo hm hq e hb=>?_,fun m q t v b lo lo' hm hq hmq e e'=>?_,fun m t b hm hb hst=>?_,fun m t b lo hm e hst=>?_,h.frm,fun m t b hm hb=>?_,fun m hm=>⟨(h.par m hm).1,fun t ht q hq=>?_⟩,fun m t b lo hm e hN=>?_,h.gnN,fun b hb hl=>?_⟩
 ·rcases old m t hm with ⟨rfl,rfl⟩|⟨e1,e3⟩
  ·rw [aJ];exact⟨(h.row m r hr).1,x1 _ (fun b hb=>.inl hb) (fun b hb=>.inr hb)⟩
  ·rw [aX _ _ e1]
   exact⟨(h.row m t e3).1,(h.row m t e3).2.mono hS (Nat.le_refl _) hK (fun _ _=>rfl) (fun _ _ _ _ _ hB=>hB)⟩
 ·rcases old m t hm with ⟨rfl,rfl⟩|⟨e1,e3⟩
  ·rw [aJ];exact x3
  ·rw [aX _ _ e1];exact h.nod m t e3
 ·obtain⟨t',g1,g2,_⟩:=get m t hm
  obtain⟨v',p1,p2,_⟩:=get q v hq
  exact h.dis m q t' v' g1 p1 hmq b (g2 b hb) (p2 b hb')
 ·obtain⟨t',g1,g2,_⟩:=get m t hm
  obtain⟨v',p1,p2,_⟩:=get q v hq
  exact h.bxF m q t' v' b lo g1 p1 e (p2 b hb)
 ·obtain⟨t',g1,_,g3⟩:=get m t hm
  obtain⟨v',p1,_,p3⟩:=get q v hq
  rw [g3,p3]
  exact h.bxd m q t' v' b lo lo' g1 p1 hmq e e'
 ·rcases hst with hst|hY
  ·obtain⟨t',g1,g2,_⟩:=get m t hm
   exact h.stF m t' b g1 (g2 b hb) hst
  ·rcases old m t hm with ⟨rfl,rfl⟩|⟨e1,e3⟩
   ·rw [aJ] at hb;exact x4 b hb hY
   ·rw [aX _ _ e1] at hb;exact h.dis m i t r e3 hr e1 b hb ((x2 b).2 (.inr hY))
 ·obtain⟨t',g1,g2,_⟩:=get m t hm
  rcases hst with hst|hY
  ·exact h.stB m t' b lo g1 e hst
  ·exact h.bxF m i t' r b lo g1 hr e ((x2 b).2 (.inr hY))
 ·obtain⟨t',g1,g2,_⟩:=get m t hm;exact h.own m t' b g1 (g2 b hb)
 ·obtain⟨t',g1,_,g3⟩:=get m t ht
  exact (h.par m hm).2 t' g1 q (by rw [←g3];exact hq)
 ·obtain⟨t',g1,_,_⟩:=get m t hm;exact h.new m t' b lo g1 e hN
 ·rcases hb with hb|hY
  ·exact h.stS b hb hl
  ·exact .inr ((h.own i r b hr ((x2 b).2 (.inr hY))).resolve_right omq)
end
section
variable {tm:Nat→AV}{hp:Nat→Option Row}{gn L:Nat}{us:List Nat}
end
section
variable {ops:Array Oper}{Q:Exit→Act→World→Prop}{C:Ctx}{i:Nat}{r:List Nat}
variable {tm:Nat→AV}{hp:Nat→Option Row}{gn L:Nat}{us:List Nat}
end
section
variable {ops:Array Oper}{Q:Exit→Act→World→Prop}{C:Ctx}{i:Nat}{r:List Nat}
variable {tm:Nat→AV}{hp:Nat→Option Row}{gn L:Nat}{us:List Nat}
class BitB (b:BinOp):Prop where
 h:b=.and∨b=.or∨b=.xor
instance:BitB .and:=⟨.inl rfl⟩
instance:BitB .or:=⟨.inr (.inl rfl)⟩
instance:BitB .xor:=⟨.inr (.inr rfl)⟩
end
theorem r3 {a b a' b':Int}{c:Bool}(h1:a=a')(h2:b=b'):Ending.returned (.tuple #[.int .i64 a,.int .i64 b,.bool c])=.returned (.tuple #[.int .i64 a',.int .i64 b',.bool c]):=by rw [h1,h2]
structure GIns where
 o:Nat
 n:Nat
 p:Nat
 ok:Bool
end Go.Proofs.YtomolhbkdhjofaaGreatDoor
-- BIT
namespace Go.Proofs.YtomolhbkdhjofaaGreatDoor
open Go.RowKit Go.Proofs.Tryz
end Go.Proofs.YtomolhbkdhjofaaGreatDoor
namespace Go.Proofs.YtomolhbkdhjofaaGreatDoor
open Go.RowKit Go.Proofs.Tryz
section
variable {C:Ctx}{φ:Nat→Lc}{F:Nat→List Nat}{St:Nat→Prop}{σ:AS}{a:Act}{w:World}
theorem SimF.freezeS (h:SimF C φ F St σ a w){j t n k:Nat}{T:TypeId}{cs:List AC}(hr:σ.hp j=some ⟨T,k,n,false,cs⟩)(ht:σ.tm t=.c (.sl j n)) :
 ∃St',SimF C φ F St' { σ with tm:=upd σ.tm t (.c (.ro n k (fzL cs))),hp:=upd σ.hp j none } a w:=by
 have hd:=h.drop j
 have hfree:∀b∈F j,Free C φ F St { σ with hp:=upd σ.hp j none } b:=fun b hb=>h.free hr hb
 have hv:=h.tms t
 rw [ht] at hv
 simp only [VR,CR] at hv
 obtain⟨-,-,hφ,-⟩:=hv
 have hrow:=(h.row j _ hr).2
 rw [hφ] at hrow
 obtain⟨_,vs,fs,g1,g2,g3⟩:=hrow
 have hS:∀b,St b→b<w.heap.size→(St b∨b∈F j)∧w.heap[b]? = w.heap[b]? := fun b hb _=>⟨.inl hb,rfl⟩
 have hK:∀i,σ.Kn i→σ.Kn i∧φ i=φ i:=fun i hi=>⟨hi,rfl⟩
 have hro:=CR.fz (St':=fun b=>St b∨b∈F j) (fun b hb=>.inl hb) (.ow T n k cs) (a.tmps.getD t undef) (F j) (fun b hb=>.inr hb) (show CR w St φ σ.Kn (.ow T n k cs) _ (F j) by simp only [CR];exact⟨vs,fs,g1,g2,g3⟩)
 refine⟨fun b=>St b∨b∈F j,hd.dfr,hd.len,fun t'=>?_,fun i r hi=>⟨(hd.row i r hi).1,(hd.row i r hi).2.mono hS (Nat.le_refl _) hK (fun _ _=>rfl) (fun _ _ _ _ _ hB=>hB)⟩,hd.nod,hd.dis,hd.bxF,hd.bxd,fun i r b hi hb hs=>?_,fun i r b lo hi e hs=>?_,hd.frm,hd.own,hd.par,hd.new,hd.gnN,fun b hs hl=>?_⟩
 ·show VR w _ φ σ.Kn (upd σ.tm t (.c (.ro n k (fzL cs))) t') _
  by_cases e:t'=t
  ·subst e;rw [aJ];simp only [VR];exact hro
  ·rw [aX _ _ e];exact VR.mono hS (Nat.le_refl _) hK _ _ (h.tms t')
 ·rcases hs with hs|hs
  ·exact hd.stF i r b hi hb hs
  ·exact ((hfree b hs).1 i r hi).1 hb
 ·rcases hs with hs|hs
  ·exact hd.stB i r b lo hi e hs
  ·exact ((hfree b hs).1 i r hi).2 lo e
 ·rcases hs with hs|hs
  ·exact hd.stS b hs hl
  ·exact .inr ((hfree b hs).2.2.resolve_right omq)
end
theorem zz4 {tm:Nat→AV}{hp:Nat→Option Row}{gn L:Nat}{us:List Nat}{j t n k:Nat}{T:TypeId}{cs cs':List AC}(ht:tm t=.c (.sl j n))(hr:hp j=some ⟨T,k,n,false,cs⟩)(hc:fzL cs=cs'):Gh ⟨tm,hp,gn,us,L⟩ ⟨upd tm t (.c (.ro n k cs')),upd hp j none,gn,us,L⟩:=fun C a w hs=>by
 obtain⟨φ,F,St,h⟩:=hs
 obtain⟨St',h'⟩:=h.freezeS hr ht
 subst hc
 exact⟨φ,F,St',h'⟩
section
variable {ops:Array Oper}{Q:Exit→Act→World→Prop}{C:Ctx}{i:Nat}{r:List Nat}
variable {tm:Nat→AV}{hp:Nat→Option Row}{gn L:Nat}{us:List Nat}
theorem n_caG {ty:TypeId}{gd:Option (Nat×Bool)}{cas:Array Operand}{cts:Array TypeId}{ps:String}{af:Array Edge}{t:Nat}{fv:Operand}{f:FuncId}{caps:List AC}{args ins:List AV}{res nv:AV}{nr:List (Nat×Row)}(hctr:Ctr prog f ins [] res [])(h:Walk prog ops Q C false [] r ⟨upd tm t nv,eW hp (nr.map (fun p=>(p.1,some p.2))),gn,nr.map (·.1)++us,L⟩)(ht:Nat.blt t L=true:=by exact rfl)(hg:gw ops tm (⟨some t,.call ⟨.value fv,cas,cts⟩,ty,ps,af,gd⟩:Oper)=some true:=by exact rfl)(hfv:AS.ev ⟨tm,hp,gn,us,L⟩ fv=.c (.fn f caps):=by exact rfl)(hargs:bl ⟨tm,hp,gn,us,L⟩ ⟨.value fv,cas,cts⟩ caps=args:=by exact rfl)(hcv:args.map (cvV hp [])=ins:=by exact wH)(hm:((args.flatMap snV).all fun z=>([]:List Nat).contains z)=true:=by exact rfl)(hopn:opV (100*(t+1)) res=(nv,nr):=by exact rfl)(hf:(nr.all fun p=>Nat.ble gn p.1&&!us.contains p.1)=true:=by exact rfl):WalkO prog ops Q C false [] i (⟨some t,.call ⟨.value fv,cas,cts⟩,ty,ps,af,gd⟩:Oper) r ⟨tm,hp,gn,us,L⟩:=⟨fun hop=>by
 refine qx (100*(t+1)) [] [] hop rfl rfl rfl ht hg hfv hargs (pars:=[]) rfl (by rw [hcv];exact hctr) (by simp) rfl (.inr hm) hopn hf (by exact bg) ?_
 simpa [bB,eh] using h⟩
end
theorem sO {α:Type}{P:List AC→Prop}{R:List AC→α→List AC→Prop}(step:∀cs,P cs→∃(x:α) (cs':List AC),P cs'∧R cs x cs'){cs:List AC}(h:P cs):∃(S:Nat→List AC) (X:Nat→α),S 0=cs∧∀k,P (S k)∧R (S k) (X k) (S (k+1)):=by
 let f:{c:List AC // P c}→{c:List AC // P c}:=fun s=>⟨Classical.choose (Classical.choose_spec (step s.1 s.2)),(Classical.choose_spec (Classical.choose_spec (step s.1 s.2))).1⟩
 let S:Nat→{c:List AC // P c}:=fun k=>Nat.rec ⟨cs,h⟩ (fun _ s=>f s) k
 exact⟨fun k=>(S k).1,fun k=>Classical.choose (step (S k).1 (S k).2),rfl,fun k=>⟨(S k).2,(Classical.choose_spec (Classical.choose_spec (step (S k).1 (S k).2))).2⟩⟩
structure NewB (w w':World)(T:TypeId)(cells:List AC)(b lo:Nat)(vs:List Value)(fs:List Nat):Prop where
 crl:∀(St:Nat→Prop) (φ:Nat→Lc) (K:Nat→Prop),CRL w' St φ K cells vs fs
 box:BoxAt w' b lo vs
 nod:fs.Nodup
 nin:b∉fs
 new:w.heap.size≤b
 fnw:∀x∈fs,w.heap.size≤x
 stp:Stp none w w'
section
variable {ops:Array Oper}{Q:Exit→Act→World→Prop}{C:Ctx}{i:Nat}{r:List Nat}
variable {tm:Nat→AV}{hp:Nat→Option Row}{gn L:Nat}{us:List Nat}
end
end Go.Proofs.YtomolhbkdhjofaaGreatDoor
