/- T -/
import Derived.Test.YtmnneflenebgmaaGreatCnOAL
set_option maxHeartbeats 0
set_option maxRecDepth 100000
namespace Go.Proofs.YtmnneflenebgmaaGreat
open Go.RowKit Go.Proofs.Tryz
def TyL (T:TypeId)(k:Nat)(s:List E):Prop:=(∀x∈s,x.Ty prog T)∧(∀x∈s,x.enc.length=k)
theorem TyL.snoc {T:TypeId}{k:Nat}{s:List E}(h:TyL T k s){x:E}(hx:x.Ty prog T)(hk:x.enc.length=k):TyL T k (s++[x]):=by
 refine⟨fun y hy=>?_,fun y hy=>?_⟩
 ·rcases List.mem_append.1 hy with hy|hy
  ·exact h.1 y hy
  ·rw [List.mem_singleton] at hy;subst hy;exact hx
 ·rcases List.mem_append.1 hy with hy|hy
  ·exact h.2 y hy
  ·rw [List.mem_singleton] at hy;subst hy;exact hk
theorem TyL.nil {T:TypeId}{k:Nat}:TyL T k []:=⟨fun x hx=>absurd hx List.not_mem_nil,fun x hx=>absurd hx List.not_mem_nil⟩
open Classical in
noncomputable def nd (T:TypeId)(k B:Nat)(s:List E):Nat:=if TyL T k s then s.length else B+1
theorem yE {T:TypeId}{k B:Nat}{s:List E}(h:nd T k B s≤B):TyL T k s∧s.length≤B:=by
 unfold nd at h
 split at h
 ·exact⟨‹_›,h⟩
 ·omega
theorem kV {T:TypeId}{k B:Nat}{s:List E}(h:TyL T k s):nd T k B s=s.length:=by unfold nd;rw [if_pos h]
theorem yF {T:TypeId}{k B:Nat}{step:List E→E→List E}{ok:E→Prop}(h:∀s e,ok e→TyL T k s→TyL T k (step s e)∧(step s e).length≤s.length+1)(h':∀s e,TyL T k (step s e)→TyL T k s)(s:List E)(e:E)(he:ok e):nd T k B (step s e)≤nd T k B s+1:=by
 by_cases hs:TyL T k s
 ·obtain⟨h1,h2⟩:=h s e he hs
  rw [kV hs,kV h1];exact h2
 ·have h1:¬TyL T k (step s e):=fun hh=>hs (h' s e hh)
  unfold nd
  rw [if_neg hs,if_neg h1]
  omega
theorem TyL.left {T:TypeId}{k:Nat}{s t:List E}(h:TyL T k (s++t)):TyL T k s:=⟨fun x hx=>h.1 x (List.mem_append_left _ hx),fun x hx=>h.2 x (List.mem_append_left _ hx)⟩
theorem zF {b:ByteArray}(h:b.size≤9223372036854775807):(E.str b).Ty prog 9:=by
 simp only [E.Ty]
 exact⟨underlying9,h⟩
theorem qg {e:E}(he:e.Ty prog 70):(zB e).size≤9223372036854775807:=by
 obtain⟨k0,n0,s0,xA,xc,l,rfl,-,-,h,-⟩:=aB he
 exact h
theorem rq {s:List E}{e:E}(he:e.Ty prog 70)(hs:TyL 9 1 s):TyL 9 1 (m4 s e)∧(m4 s e).length≤s.length+1:=by
 refine⟨?_,vM s e⟩
 unfold m4
 split
 ·split
  ·exact hs
  ·exact hs.snoc (zF (qg he)) rfl
 ·exact hs
theorem jf {T:TypeId}{n k:Nat}{l:List AC}(h:bf l=true):bf [.ow T n k l]=true:=by simp [bf,clo,h]
theorem Prt.T_ty {x:Prt}(h:x.Ok):∀z∈x.T,TyX 1048576 z:=by
 intro z hz
 unfold Prt.T at hz
 rcases List.mem_append.1 hz with hz|hz
 ·obtain⟨y,hy,hzy⟩:=List.mem_flatMap.1 hz
  exact p8 ⟨h.wh y hy,h.wz y hy⟩ z hzy
 ·rw [pZ] at hz
  obtain⟨y,hy,hzy⟩:=List.mem_flatMap.1 hz
  obtain⟨t,ht,hyt⟩:=List.mem_flatMap.1 hy
  have htz:=E.szL_mem ht
  have h9:=h.lz
  exact vW (p7 ⟨h.l t ht,omq⟩ y hyt) z hzy
theorem wi {rs fs:List E}(h:PrgOk rs fs):∀z∈l0 rs fs,TyX 1048576 z:=by
 intro z hz
 rw [l8] at hz
 obtain⟨x,hx,hzx⟩:=List.mem_flatMap.1 hz
 exact Prt.T_ty (qe h x hx) z hzx
theorem kW {k n:Int}{s:ByteArray}(hk:(Lit.int .i64 k).wf=true)(hn:(Lit.int .i64 n).wf=true)(hs:s.size≤9223372036854775807):(yv k n s).Ty prog 36 :=
 E.Ty.mk_agg underlying36 (E.TyF.mk_cons (by simp only [E.Ty];exact⟨underlying3,hk⟩) (E.TyF.mk_cons (by simp only [E.Ty];exact⟨underlying3,hn⟩) (E.TyF.mk_cons (zF hs) E.TyF.mk_nil)))
theorem nf (n:Int):Ctr prog 47 [.c (.v (.int .i64 n))] [] (.ag [.v (.int .i64 1),.v (.int .i64 n),.v (.string ⟨#[]⟩)]) []:=by
 refine av func47 rfl rfl ?_
 repeat' (first|(apply ay;first|refine ao ?_|refine cG ?_|refine dn ?_|refine aS ?_)|refine al ?_|refine ab ?_|refine aa fun C=>?_|refine ae ?_)
 refine am ?_;refine bi rfl (cq (bC rfl (bC rfl (bC rfl bj)))) ⟨?_,rfl⟩
 rfl
theorem zm4 (s:ByteArray):Ctr prog 50 [.c (.v (.string s))] [] (.ag [.v (.int .i64 2),.v (.int .i64 0),.v (.string s)]) []:=by
 refine av func50 rfl rfl ?_
 repeat' (first|(apply ay;first|refine ao ?_|refine cG ?_|refine dn ?_|refine aS ?_)|refine al ?_|refine ab ?_|refine aa fun C=>?_|refine ae ?_)
 refine am ?_;refine bi rfl (cq (bC rfl (bC rfl (bC rfl bj)))) ⟨?_,rfl⟩
 rfl
theorem zo2 {e:E}(he:e.Ty prog 70):(Lit.int .i64 (numX e)).wf=true:=by
 obtain⟨k0,n0,s0,xA,xc,l,rfl,-,h,-⟩:=aB he
 exact h
theorem ng {s:List E}(hs:TyL 36 3 s){k n:Int}{b:ByteArray}(h:(yv k n b).Ty prog 36):TyL 36 3 (l4 s k n b):=by
 unfold l4
 split
 ·exact hs
 ·exact hs.snoc h rfl
theorem oK {s:List E}{k n:Int}{b:ByteArray}(h:TyL 36 3 (l4 s k n b)):TyL 36 3 s:=by
 unfold l4 at h
 split at h
 ·exact h
 ·exact h.left
theorem yG {s:List E}{e:E}(he:e.Ty prog 70)(hs:TyL 36 3 s):TyL 36 3 (iK s e)∧(iK s e).length≤s.length+1:=by
 refine⟨?_,vL s e⟩
 unfold iK
 split
 ·exact ng hs (kW (by rfl) (zo2 he) (by decide))
 ·split
  ·exact ng hs (kW (by rfl) (by rfl) (qg he))
  ·exact hs
theorem sN {s:List E}{e:E}(h:TyL 36 3 (iK s e)):TyL 36 3 s:=by
 unfold iK at h
 split at h
 ·exact oK h
 ·split at h
  ·exact oK h
  ·exact h
def rowC (s:List E):List AC:=[.ow 36 s.length 3 (owL s)]
theorem wj {s:List E}(hs:TyL 36 3 s)(hl:s.length≤1048580){e:E}(he:e.Ty prog 70):Ctr prog 49 [.ag (acE e),.c (.pt 0 0)] [rowC s] (.tu []) [rowC (iK s e)]:=by
 obtain⟨k0,n0,s0,xA,xc,l,rfl,-⟩:=aB he
 have cN:=nf n0
 have cT:=zm4 s0
 have e1:iK s (.agg [.int .i64 k0,.int .i64 n0,.str s0,.lst 4 70 xA xc l])=if k0=1 then l4 s 1 n0 ⟨#[]⟩ else if k0=2 then l4 s 2 0 s0 else s:=rfl
 rw [e1]
 unfold rowC
 by_cases h1:k0=1
 ·subst h1
  rw [if_pos rfl]
  have cH:=zE hs.1 hs.2 omq 1 n0 ⟨#[]⟩
  unfold l4
  cases hb:s.any (isV 1 n0 ⟨#[]⟩) with
  | true =>
   rw [hb] at cH
   rw [if_pos rfl]
   refine av func49 rfl rfl ?_
   refine bH (gW 900 (i:=0) (pre:=[]) (post:=[]) rfl rfl rfl) ?_
   repeat' (first|(apply ay;first|refine bd ?_|refine aL ?_|refine gm cN ?_|refine cG ?_|refine aq ?_|refine dn ?_|refine bL ?_)|refine al ?_|refine ab ?_|refine aa fun C=>?_|refine ae ?_)
   refine aE rfl ?_
   refine ai ?_
   repeat' (first|(apply ay;first|refine bO ?_|(refine aU ?_ ?_<;>intro hG<;>(try cases hG))|refine bd ?_|refine aL ?_|refine bu ?_|refine aI cH ?_|refine aq ?_|refine bF ?_|refine aF ?_)|refine al ?_|refine ab ?_|refine aa fun C=>?_|refine ae ?_)
   refine aE rfl ?_
   refine bH (dN (i:=0) (j:=900) rfl rfl rfl (pre:=[]) (post:=[]) rfl) ?_
   refine ai ?_
   exact eo (x:=.tu []) rfl rfl rfl (jf (ba _)) rfl ⟨rfl,rfl⟩
  | false =>
   rw [hb] at cH
   rw [if_neg (by simp)]
   refine av func49 rfl rfl ?_
   refine bH (gW 900 (i:=0) (pre:=[]) (post:=[]) rfl rfl rfl) ?_
   repeat' (first|((refine pe (dN (i:=0) (j:=30) rfl rfl rfl (pre:=[]) (post:=[]) rfl) ?_))|(apply ay;first|refine bO ?_|(refine aU ?_ ?_<;>intro hG<;>(try cases hG))|refine bd ?_|refine aL ?_|refine bu ?_|refine gm cN ?_|refine aI cH ?_|refine ll ?_|refine cG ?_|refine aq ?_|refine bF ?_|refine aF ?_|refine dn ?_|refine bL ?_|refine gh ?_)|refine al ?_|refine ab ?_|refine aa fun C=>?_|refine ae ?_|refine ai ?_|refine az rfl ?_|refine aE rfl ?_)
   refine eo (x:=.tu []) rfl rfl rfl (jf (aZ (ba _) rfl)) rfl ⟨rfl,?_⟩
   rw [ff,List.length_append];rfl
 ·rw [if_neg h1]
  by_cases h2:k0=2
  ·subst h2
   rw [if_pos rfl]
   have cH:=zE hs.1 hs.2 omq 2 0 s0
   unfold l4
   cases hb:s.any (isV 2 0 s0) with
   | true =>
    rw [hb] at cH
    rw [if_pos rfl]
    refine av func49 rfl rfl ?_
    refine bH (gW 900 (i:=0) (pre:=[]) (post:=[]) rfl rfl rfl) ?_
    repeat' (first|(apply ay;first|refine bd ?_|refine aL ?_|refine gm cN ?_|refine cG ?_|refine aq ?_|refine dn ?_|refine bL ?_)|refine al ?_|refine ab ?_|refine aa fun C=>?_|refine ae ?_)
    refine az rfl ?_
    repeat' (first|(apply ay;first|(refine aU ?_ ?_<;>intro hG<;>(try cases hG))|refine bd ?_|refine aL ?_|refine bu ?_|refine gm cT ?_|refine aI cH ?_|refine cG ?_|refine aq ?_|refine bF ?_|refine aF ?_)|refine al ?_|refine ab ?_|refine aa fun C=>?_|refine ae ?_)
    refine aE rfl ?_
    refine bH (dN (i:=0) (j:=900) rfl rfl rfl (pre:=[]) (post:=[]) rfl) ?_
    refine ai ?_
    exact eo (x:=.tu []) rfl rfl rfl (jf (ba _)) rfl ⟨rfl,rfl⟩
   | false =>
    rw [hb] at cH
    rw [if_neg (by simp)]
    refine av func49 rfl rfl ?_
    refine bH (gW 900 (i:=0) (pre:=[]) (post:=[]) rfl rfl rfl) ?_
    repeat' (first|((refine pe (dN (i:=0) (j:=30) rfl rfl rfl (pre:=[]) (post:=[]) rfl) ?_))|(apply ay;first|(refine aU ?_ ?_<;>intro hG<;>(try cases hG))|refine bd ?_|refine aL ?_|refine bu ?_|refine gm cN ?_|refine gm cT ?_|refine aI cH ?_|refine ll ?_|refine cG ?_|refine aq ?_|refine bF ?_|refine aF ?_|refine dn ?_|refine bL ?_|refine gh ?_)|refine al ?_|refine ab ?_|refine aa fun C=>?_|refine ae ?_|refine az rfl ?_)
    refine eo (x:=.tu []) rfl rfl rfl (jf (aZ (ba _) rfl)) rfl ⟨rfl,?_⟩
    rw [ff,List.length_append];rfl
  ·rw [if_neg h2]
   have g1:(k0==1)=false:=by simpa using h1
   have g2:(k0==2)=false:=by simpa using h2
   refine av func49 rfl rfl ?_
   refine bH (gW 900 (i:=0) (pre:=[]) (post:=[]) rfl rfl rfl) ?_
   repeat' (first|(apply ay;first|refine bd ?_|refine aL ?_|refine gm cN ?_|refine cG ?_|refine aq ?_|refine dn ?_|refine bL ?_)|refine al ?_|refine ab ?_|refine aa fun C=>?_|refine ae ?_)
   refine aj (by rfl) (fun hC=>by rw [g2] at hC;cases hC) fun hC=>?_
   refine ai ?_
   repeat' (first|(apply ay;first|refine bO ?_|(refine aU ?_ ?_<;>intro hG<;>(try cases hG))|refine bd ?_|refine aL ?_|refine bu ?_|refine aq ?_|refine aF ?_)|refine al ?_|refine ab ?_|refine aa fun C=>?_|refine ae ?_)
   all_goals first
    | (exfalso;simp_all;done)
    | (refine aj (by rfl) (fun hC=>by exfalso;simp_all) fun hC=>?_
       refine bH (dN (i:=0) (j:=900) rfl rfl rfl (pre:=[]) (post:=[]) rfl) ?_
       refine ai ?_
       exact eo (x:=.tu []) rfl rfl rfl (jf (ba _)) rfl ⟨rfl,rfl⟩)
theorem sO:Tell 49 [.pt 0 0] rowC iK (nd 36 3 1048580) (fun _=>1) 1048580 (fun e=>e.Ty prog 70) :=
 ⟨zr3,fun s=>jf (ba _),fun _ _=>rfl,yF (fun s e he hs=>yG he hs) (fun s e h=>sN h),fun s e he hB=>by
  have hB':nd 36 3 1048580 s≤1048580:=by omega
  obtain⟨h1,h2⟩:=yE hB'
  exact wj h1 h2 he⟩
def wm (e:E):List E:=match e with | .agg [.lst _ _ _ _ rs,.lst _ _ _ _ fs]=>if eX rs fs=true then wF rs fs else []|_=>[]
theorem qh:TyL 36 3 kU:=by
 refine⟨fun x hx=>?_,fun x hx=>?_⟩
 ·simp only [kU,List.mem_cons,List.not_mem_nil,or_false] at hx
  rcases hx with rfl|rfl|rfl<;>exact kW (by rfl) (by rfl) (by decide)
 ·simp only [kU,List.mem_cons,List.not_mem_nil,or_false] at hx
  rcases hx with rfl|rfl|rfl<;>rfl
theorem lB {e:E}(he:e.Ty prog 27)(hz:e.sz≤1048576):Ctr prog 13 [.ag (acE e)] [] (.c (.ow 36 (wm e).length 3 (owL (wm e)))) []:=by
 have cp:=oJ he hz
 obtain⟨rA,rc,rs,fA,fc,fs,rfl,hp⟩:=v6 he hz
 rw [show wm (.agg [.lst 6 87 rA rc rs,.lst 3 89 fA fc fs])=if eX rs fs=true then wF rs fs else [] from rfl]
 replace cp:Ctr prog 39 [.ag [.ro rs.length 6 (acL rs),.ro fs.length 3 (acL fs)]] [] (.c (.v (.bool (eX rs fs)))) []:=cp
 show Ctr _ _ [.ag [.ro rs.length 6 (acL rs),.ro fs.length 3 (acL fs)]] _ _ _
 cases hb:eX rs fs with
 | false =>
  rw [hb] at cp
  rw [if_neg (by simp)]
  refine av func13 rfl rfl ?_
  repeat' (first|(apply ay;first|refine ak ?_|refine bu ?_|refine aI cp ?_|refine bF ?_|refine bL ?_)|refine al ?_|refine ab ?_|refine aa fun C=>?_|refine ae ?_|refine az rfl ?_)
  refine bH (qB 90000 (t:=2) 36 3 rfl rfl) ?_
  refine am ?_;refine bi rfl (nK (bZ rfl rfl rfl cls0 bj)) ⟨?_,rfl⟩
  rfl
 | true =>
  rw [hb] at cp
  rw [if_pos rfl]
  have hlen:=mZ rs fs
  have hpz:=hp.z
  have cE:=sF sO hp (fun z hz=>(wi hp z hz).1) kU (by rw [kV qh,yx];show 3+_≤_;omega)
  rw [show (l0 rs fs).foldl iK kU=wF rs fs from rfl] at cE
  unfold rowC at cE
  have c0:=nf 0
  have c1:=nf 1
  refine av func13 rfl rfl ?_
  repeat' (first|(apply ay;first|refine ak ?_|refine bu ?_|refine aI cp ?_|refine bF ?_|refine bL ?_)|refine al ?_|refine ab ?_|refine aa fun C=>?_|refine ae ?_)
  refine aE rfl ?_
  refine ai ?_
  refine ae ?_
  refine aa fun C=>?_
  repeat' (first|(apply ay;first|(apply f_as;first|refine ak ?_|refine aS ?_)|refine bI ?_|refine bu ?_|refine n_ld ?_|refine aI c0 ?_|refine gm c0 ?_|refine aI c1 ?_|refine gm c1 ?_|refine cG ?_|refine n_sto ?_|(apply f_no;first|refine bF ?_|refine aS ?_)|refine dn ?_|refine bL ?_|refine gh ?_|refine aS ?_)|refine al ?_|refine ab ?_)
  refine bH (dN (i:=3) (j:=10) rfl rfl rfl (pre:=[]) (post:=[]) rfl) ?_
  refine ae ?_
  refine aa fun C=>?_
  repeat' (first|(apply ay;first|(apply f_as;first|refine ak ?_|refine aS ?_)|refine bI ?_|refine bu ?_|refine n_ld ?_|refine be 3 (cE) ?_|refine cG ?_|refine n_sto ?_|(apply f_no;first|refine bF ?_|refine aS ?_)|refine dn ?_|refine bL ?_|refine gh ?_|refine aS ?_)|refine al ?_|refine ab ?_)
  refine bH (gW 902 (i:=3) rfl rfl (pre:=[]) (post:=[]) rfl) ?_
  repeat' (first|(apply ay;first|refine ak ?_|refine aS ?_)|refine al ?_|refine ab ?_|refine aa fun C=>?_|refine ae ?_)
  refine am ?_;refine bi rfl (nK (bZ rfl rfl rfl cls0 bj)) ⟨?_,rfl⟩
  rfl
structure NewA (w w':World)(T:TypeId)(cells:List AC)(b lo:Nat)(vs:List Value)(fs:List Nat):Prop where
 crl:∀(St:Nat→Prop) (φ:Nat→Lc) (K:Nat→Prop),CRL w' St φ K cells vs fs
 box:BoxAt w' b lo vs
 nod:fs.Nodup
 nin:b∉fs
 new:w.heap.size≤b
 fnw:∀x∈fs,w.heap.size≤x
 stp:Stp none w w'
theorem sP {P:Program}{f:FuncId}{fn:Func}{c:Code}{cs:List AC}{u0:Value}{St0:Nat→Prop}{φ1:Nat→Lc}{K1:Nat→Prop}{T:TypeId}{cells:List AC}{w:World}{d:Nat}(hf:P.funcs[f]? = some fn)(hb:fn.body=some c)(hres:fn.results=#[.tmp d])(hcl:bf cells=true)(hro:dm cells=true)
 (h:AWp P c (fun e σ=>(e=.normal∨e=.ret)∧∃i,σ.tm d=.c (.pt i 0)∧σ.hp i=some ⟨T,0,0,true,cells⟩) (σ0 [.ag cs] [] fn.ntmps)) (hargs:VR w St0 φ1 K1 (.ag cs) u0) (hcs:bf cs=true) (gl:GlobOk w) :
 Calls P f #[u0] w fun e w'=>∃b lo vs fs,e=.returned (.pointer (some ⟨b,lo,none⟩))∧NewA w w' T cells b lo vs fs:=by
 have hE:Ent w St0 φ0 (fun _=>[]) [.ag cs] [u0] [] :=
  ⟨by
   simp only [VR] at hargs
   obtain⟨us,e,h1⟩:=hargs
   exact VRL_cons (by simp only [VR];exact⟨us,e,CRL.clo_ hcs h1⟩) VRL_nil,fun i cs hi=>by simp at hi,fun i hi=>absurd hi (Nat.not_lt_zero i),fun i j hi=>absurd hi (Nat.not_lt_zero i),fun i j b lo hi=>absurd hi (Nat.not_lt_zero i),fun i j b lo lo' ci cj hi=>by simp at hi,fun i b hi=>absurd hi (Nat.not_lt_zero i),fun i b lo hi=>absurd hi (Nat.not_lt_zero i),gl,fun b _=>⟨fun ⟨i,hi,_⟩=>absurd hi (Nat.not_lt_zero i),fun o ⟨i,lo,cs,hi,_⟩=>by simp at hi⟩⟩
 have hs:=hE.sim fn.ntmps
 refine calls_of_wp hf hb (wp_mono (h _ _ _ ⟨_,_,_,hs⟩) ?_)
 rintro e a' w' ⟨σ',⟨he,i,h1,h2⟩,φ',F',St',hsim⟩
 have key:a'.defers=[]∧∃v,(results fn a'.tmps).run P w'=.ok v w'∧∃b lo vs fs,Ending.returned v=.returned (.pointer (some ⟨b,lo,none⟩))∧NewA w w' T cells b lo vs fs:=by
  obtain⟨hk,hrow⟩:=hsim.row i _ h2
  have hv:=hsim.tms d
  rw [h1] at hv
  simp only [VR,CR] at hv
  obtain⟨-,-,hv⟩:=hv
  rcases hv with ⟨b,lo,e1,e2⟩|⟨b,n,cp,e1,e2⟩
  ·rw [e1] at hrow
   obtain⟨-,vs,g1,g2⟩:=hrow
   have hl:wy P σ'.hp σ'.tm fn.results.toList=some [σ'.tm d]:=by rw [hres];rfl
   obtain⟨ws,r1,r2⟩:=mi (P:=P) hsim _ _ hl
   obtain⟨v,r3,r4⟩:=nC r2
   have hv2:v=.pointer (some ⟨b,lo,none⟩):=by
    have r5:VR w' St' φ' σ'.Kn (σ'.tm d) v:=r4
    rw [h1] at r5
    simp only [VR,CR] at r5
    obtain⟨-,-,⟨b',lo',q1,q2⟩|⟨b',n',c',q1,q2⟩⟩:=r5
    ·rw [e1] at q1
     injection q1 with q1 q3
     subst q1 q3
     exact q2
    ·rw [e1] at q1;cases q1
   refine⟨hsim.dfr,v,?_,b,lo,vs,F' i,by rw [hv2],⟨fun St φ K=>CRL.clo_ hcl (CRL.rofr_ hro g1),g2,hsim.nod i _ h2,hsim.bxF i i _ _ b lo h2 h2 e1,hsim.new i _ b lo h2 e1 (Nat.zero_le _),fun x hx=>(hsim.own i _ x h2 hx).resolve_left fun ⟨j,hj,_⟩=>absurd hj (Nat.not_lt_zero j),?_⟩⟩
   ·have:(fun|ResultVar.tmp t=>pure (a'.tmps.getD t undef)|ResultVar.cell a t=>(do loadVar t (←asAddr (a'.tmps.getD a undef)):Sem Value))=j7 a'.tmps:=by funext z;cases z<;>rfl
    have hres2:results fn a'.tmps=(fn.results.mapM (j7 a'.tmps) >>= fun vs=>pure (if h:vs.size=1 then vs[0] else .tuple vs)):=by rw [←this];rfl
    simp [hres2,Array.mapM_eq_mapM_toList,r1,←r3]
   ·have hfr:=hsim.frm
    refine⟨hfr.os,hfr.tape,hfr.output,hfr.size,fun j hj _=>?_⟩
    have hlk:=hfr.blk j hj (fun ⟨q,hq,_⟩=>absurd hq (Nat.not_lt_zero q))
    rcases hlk with hlk|⟨c1,c2,e3,x1,x2,x3,x4⟩
    ·exact hlk
    ·have hc:c2=c1:=Array.ext_getElem? fun o=>x4 o fun ⟨q,lo,cs,hq,_⟩=>by simp at hq
     rw [hc] at x2
     exact x2.trans x1.symm
  ·rw [e1] at hrow
   exact absurd hrow.1 (by simp)
 rcases he with rfl|rfl<;>exact key
section
variable {ops:Array Oper}{Q:Exit→Act→World→Prop}{C:Ctx}{i:Nat}{r:List Nat}
variable {tm:Nat→AV}{hp:Nat→Option Row}{gn L:Nat}{us:List Nat}
theorem zn4 {ty cT:TypeId}{gd:Option (Nat×Bool)}{ps:String}{af:Array Edge}{t:Nat}{xo fv:Operand}{cs:List AC}{f:FuncId}{T:TypeId}{cells:List AC}
 (hent:zT prog f=true) (hnew:∀(w:World) (St:Nat→Prop) (φ:Nat→Lc) (K:Nat→Prop) (u:Value),GlobOk w→VR w St φ K (.ag cs) u→Calls prog f #[u] w fun e w'=>∃b lo vs fs,e=.returned (.pointer (some ⟨b,lo,none⟩))∧NewA w w' T cells b lo vs fs)
 (h:Walk prog ops Q C false [] r ⟨upd tm t (.c (.pt t 0)),upd hp t (some ⟨T,0,0,true,cells⟩),gn,t :: us,L⟩)
 (ht:Nat.blt t L=true:=by exact rfl) (hg:gw ops tm (⟨some t,.call ⟨.value fv,#[xo],#[cT]⟩,ty,ps,af,gd⟩:Oper)=some true:=by exact rfl) (hf:(Nat.ble gn t&&!us.contains t)=true:=by exact rfl)
 (hfv:AS.ev ⟨tm,hp,gn,us,L⟩ fv=.c (.fn f []):=by exact rfl) (hx:AS.ev ⟨tm,hp,gn,us,L⟩ xo=.ag cs:=by exact rfl) :
 WalkO prog ops Q C false [] i (⟨some t,.call ⟨.value fv,#[xo],#[cT]⟩,ty,ps,af,gd⟩:Oper) r ⟨tm,hp,gn,us,L⟩:=⟨fun hop=>by
 simp only [Bool.and_eq_true,Nat.ble_eq,Bool.not_eq_true'] at hf
 have hnu:t∉us:=fun hm=>by have:=hf.2;simp at this;exact this hm
 refine⟨_,⟨[],[(t,some ⟨T,0,0,true,cells⟩)],[t],.c (.pt t 0)⟩,hop,?_,fun m hm=>?_,eB (by exact bB),?_⟩
 ·intro τ a w ha hsim K hK
  obtain⟨φ,F,St,hsim⟩:=hsim
  have e1:τ.ev xo=.ag cs:=by rw [ha.ev xo (by simp [Op.operands,Call.operands])];exact hx
  have e2:τ.ev fv=.c (.fn f []):=by rw [ha.ev fv (by simp [Op.operands,Call.operands])];exact hfv
  have v1:=hsim.ev xo
  have v2:=hsim.ev fv
  rw [e1] at v1
  rw [e2] at v2
  simp only [VR,CR] at v2
  obtain⟨-,us2,hfu,hcaps⟩:=v2
  obtain⟨rfl,-⟩:us2=[]∧True:=by simp only [CRL] at hcaps;exact⟨hcaps.1,trivial⟩
  unfold wpOp
  rw [hop]
  have hw:=o9 hsim (b:=true) (by rw [ha.gw];exact hg)
  simp only [hw,if_true]
  refine .inl ?_
  unfold Oper.wp
  have hrun:(execOp a.eval (⟨some t,.call ⟨.value fv,#[xo],#[cT]⟩,ty,ps,af,gd⟩:Oper)).run prog w=.ok (.enter f #[a.eval xo]) w:=by
   have h1:(resolve a.eval ⟨.value fv,#[xo],#[cT]⟩ ty).run prog w=.ok { target:=.fn (.func f) #[],args:=#[a.eval xo] } w:=by
    unfold resolve;simp only [hfu,Deferred.ofValue,Sem.run_pure]
    simp
   have h2:execOp a.eval (⟨some t,.call ⟨.value fv,#[xo],#[cT]⟩,ty,ps,af,gd⟩:Oper)=(do let d ←resolve a.eval ⟨.value fv,#[xo],#[cT]⟩ ty;invoke d.target d.args):=by unfold execOp;rfl
   rw [h2,Sem.run_bind,h1]
   simp only [Result.andThen_ok,invoke]
   exact jj hent _ _
  rw [hrun,Oper.upon_enter]
  refine (hnew w _ _ _ _ hsim.gl v1).mono ?_
  rintro e w' ⟨b,lo,vs,fs,rfl,hN⟩
  have s1:=hsim.newRow (i:=t) (by rw [ha.gn];exact hf.1) (ha.us t (by simp)) (b0:=none) hN.stp (fun b hb=>by cases hb) (r:=⟨T,0,0,true,cells⟩) (L:=.box b lo) (fp:=fs) (fun St' φ' _ _=>⟨rfl,vs,hN.crl _ _ _,hN.box⟩) hN.nod (fun x hx=>.inl (hN.fnw x hx)) (fun b' lo' e=>by injection e with e1 e2;subst e1;exact⟨hN.new,hN.nin⟩)
  exact hK _ _ ⟨_,_,_,s1.put (some t) (x:=.c (.pt t 0)) (u:=.pointer (some ⟨b,lo,none⟩)) (by simp only [VR,CR];exact⟨trivial,.inr List.mem_cons_self,.inl ⟨b,lo,by rw [aX],rfl⟩⟩)⟩
 ·have:m=t:=by simpa using hm
  subst this
  exact hnu
 ·refine cY ?_
  show Walk prog ops Q C false [] r (AS.put _ (some t) _)
  rw [eN (by exact em ht)];exact h⟩
end
end Go.Proofs.YtmnneflenebgmaaGreat
