/- T -/
import Derived.Test.YtmnneflenebgmaaGreatCnOAM
set_option maxHeartbeats 0
set_option maxRecDepth 100000
namespace Go.Proofs.YtmnneflenebgmaaGreat
open Go.RowKit Go.Proofs.Tryz
abbrev KP:=List E×List E
def jV (p:KP):List AC:=[.ow 36 p.1.length 3 (owL p.1),.ow 9 p.2.length 1 (owL p.2)]
theorem bK (p:KP):bf (jV p)=true:=by simp [jV,bf,clo,ba]
def kS (p:KP)(e:E):KP:=(m6 p.1 e,m4 p.2 e)
def KOk (n:Nat)(p:KP):Prop:=TyL 36 3 p.1∧TyL 9 1 p.2∧p.1.length+n≤1048580∧p.2.length+n≤1048580
theorem KOk.le {m n:Nat}{p:KP}(h:KOk m p)(hmn:n≤m):KOk n p:=⟨h.1,h.2.1,by have:=h.2.2.1;omega,by have:=h.2.2.2;omega⟩
theorem wfI {z:Int}(h:I64 z):(Lit.int .i64 z).wf=true:=by
 unfold I64 at h
 simp [Lit.wf,IntKind.min,IntKind.max,IntKind.bits,IntKind.signed]
 omega
theorem I64_wf {z:Int}(h:(Lit.int .i64 z).wf=true):I64 z:=by
 simp [Lit.wf,IntKind.min,IntKind.max,IntKind.bits,IntKind.signed] at h
 unfold I64
 omega
theorem zp2 (n:Int):(Lit.int .i64 (gc n)).wf=true:=wfI (vK n)
theorem yH {T T':TypeId}{n k n' k':Nat}{a b:List AC}(h1:bf a=true)(h2:bf b=true):bf [.ow T n k a,.ow T' n' k' b]=true:=by simp [bf,clo,h1,h2]
theorem yI {s:List E}{e:E}(he:e.Ty prog 70)(hs:TyL 36 3 s):TyL 36 3 (m6 s e):=by
 unfold m6
 split
 ·exact ng hs (kW (by rfl) (zp2 _) (by decide))
 ·split
  ·exact ng hs (kW (by rfl) (by rfl) (qg he))
  ·exact hs
theorem KOk.step {n:Nat}{p:KP}{e:E}(h:KOk (n+1) p)(he:e.Ty prog 70):KOk n (kS p e):=by
 obtain⟨h1,h2,h3,h4⟩:=h
 have g1:=vP p.1 e
 have g2:=(rq he h2).2
 exact⟨yI he h1,(rq he h2).1,by show (m6 p.1 e).length+n≤_;omega,by show (m4 p.2 e).length+n≤_;omega⟩
theorem KOk.fold:∀(l:List E) {n:Nat} {p:KP},(∀x∈l,x.Ty prog 70)→KOk (l.length+n) p→KOk n (l.foldl kS p)
 | [],n,p,_,h=>by rwa [List.length_nil,Nat.zero_add] at h
 | x :: r,n,p,hl,h=>by
  rw [List.foldl_cons]
  refine KOk.fold r (fun y hy=>hl y (List.mem_cons_of_mem _ hy)) (KOk.step ?_ (hl x List.mem_cons_self))
  rw [List.length_cons] at h
  exact h.le omq
theorem KOk.upto {f:E→List E}{l:List E}{k:Nat}{x:E}{p:KP}(hx:l[k]? = some x)(hl:∀y∈l.flatMap f,y.Ty prog 70)(h:KOk (l.flatMap f).length p):KOk (f x).length (upto kS f l p k):=by
 have h1:=sB (f:=f) hx
 unfold Go.Proofs.YtmnneflenebgmaaGreat.upto
 refine KOk.fold _ (fun y hy=>?_) (h.le h1)
 obtain⟨z,hz,hyz⟩:=List.mem_flatMap.1 hy
 exact hl y (List.mem_flatMap.2 ⟨z,List.mem_of_mem_take hz,hyz⟩)
theorem ma {p:KP}(hs:TyL 36 3 p.1)(hl:p.1.length≤1048580)(k n:Int)(s:ByteArray):Ctr prog 157 [.c (.pt 0 0),.ag [.v (.int .i64 k),.v (.int .i64 n),.v (.string s)]] [jV p] (.tu []) [jV (l4 p.1 k n s,p.2)]:=by
 obtain⟨c,r⟩:=p
 dsimp only at hs hl ⊢
 have cA:=zh2 hs.1 hs.2 omq k n s
 have hI:=fa (isV k n s) c
 unfold jV l4
 dsimp only
 cases hb:c.any (isV k n s) with
 | true =>
  rw [hb] at hI
  rw [if_pos rfl]
  refine av func157 rfl rfl ?_
  refine bH (gW 900 (i:=0) (pre:=[]) (post:=[_]) rfl rfl rfl) ?_
  repeat' (first|(apply ay;refine bL ?_)|refine al ?_|refine ab ?_|(apply fH;first|(apply gg;refine bg ?_)|refine gX ?_|refine dJ ?_|refine rN ?_|refine fO cA ?_|(apply lL;refine bg ?_)|refine bg ?_)|refine al ?_|refine ab ?_|refine aa fun C=>?_|refine ar (by kernel_rfl) (by kernel_rfl) fun C=>?_|refine ae ?_)
  refine aj (by rfl) (fun hC=>by exfalso;simp only [decide_eq_true_iff] at hC hI;omega) fun hC=>?_
  refine bH (dN (i:=0) (j:=900) rfl rfl rfl (pre:=[]) (post:=[_]) rfl) ?_
  refine ai ?_
  exact eo (x:=.tu []) rfl rfl rfl (bK (c,r)) rfl ⟨rfl,rfl⟩
 | false =>
  rw [hb] at hI
  rw [if_neg (by simp)]
  refine av func157 rfl rfl ?_
  refine bH (gW 900 (i:=0) (pre:=[]) (post:=[_]) rfl rfl rfl) ?_
  repeat' (first|(apply ay;refine bL ?_)|refine al ?_|refine ab ?_|(apply fH;first|(apply gg;refine bg ?_)|refine gX ?_|refine dJ ?_|refine rN ?_|refine fO cA ?_|(apply lL;refine bg ?_)|refine bg ?_)|refine al ?_|refine ab ?_|refine aa fun C=>?_|refine ar (by kernel_rfl) (by kernel_rfl) fun C=>?_|refine ae ?_)
  refine aj (by rfl) (fun hC=>?_) fun hC=>by exfalso;simp only [decide_eq_false_iff_not] at hC hI;omega
  repeat' (first|((refine pe (dN (i:=0) (j:=18) rfl rfl rfl (pre:=[]) (post:=[_]) rfl) ?_))|(apply fH;first|(apply gg;refine bg ?_)|refine gX ?_|refine dJ ?_|refine rN ?_|refine o_app ?_|refine o_st ?_|refine o_bs ?_|refine bg ?_)|refine al ?_|refine ab ?_|refine ar (by kernel_rfl) (by kernel_rfl) fun C=>?_)
  refine eo (x:=.tu []) rfl rfl rfl ?_ rfl ⟨rfl,?_⟩
  ·exact yH (aZ (ba _) rfl) (ba _)
  ·rw [ff,List.length_append];rfl
theorem kX:∀(n:Nat) (e:E),e.Ty prog 70→e.sz<n→n≤1048577→∀p:KP,KOk (eC e).length p→Ctr prog 109 [.c (.pt 0 0),.ag (acE e)] [jV p] (.tu []) [jV ((eC e).foldl kS p)]
 | 0,_,_,hz,_,_,_=>absurd hz (Nat.not_lt_zero _)
 | n+1,e,he,hsz,hn,p,hp=>by
  have hpre:=oB e
  have hall:=p8 (N:=1048576) ⟨he,omq⟩
  rw [hpre] at hp hall ⊢
  rw [List.length_cons] at hp
  rw [List.foldl_cons]
  have hp1:=hp.step he
  have hl1:∀y∈(iI e).flatMap eC,y.Ty prog 70:=fun y hy=>(hall y (List.mem_cons_of_mem _ hy)).1
  clear hall hpre
  obtain⟨k0,n0,s0,xA,xc,l,rfl,-,hnw,-,⟨hl,hk⟩,-⟩:=aB he
  simp only [E.sz,E.szL] at hsz
  replace hp1:KOk (l.flatMap eC).length (kS p (.agg [.int .i64 k0,.int .i64 n0,.str s0,.lst 4 70 xA xc l])):=hp1
  replace hl1:∀y∈l.flatMap eC,y.Ty prog 70:=hl1
  show Ctr _ _ _ _ _ [jV ((l.flatMap eC).foldl kS (kS p (.agg [.int .i64 k0,.int .i64 n0,.str s0,.lst 4 70 xA xc l])))]
  rw [←ej]
  obtain⟨q,hq⟩:∃q,kS p (.agg [.int .i64 k0,.int .i64 n0,.str s0,.lst 4 70 xA xc l])=q:=⟨_,rfl⟩
  have hq1:q=(if k0=1 then l4 p.1 1 (gc n0) ⟨#[]⟩ else if k0=2 then l4 p.1 2 0 s0 else p.1,if k0=10∨k0=18 then (if jE p.2 s0=true then p.2 else p.2++[.str s0]) else p.2):=hq.symm
  rw [hq] at hp1 ⊢
  refine av func109 rfl rfl ?_
  repeat' (first|(apply ay;refine bL ?_)|refine al ?_|refine ab ?_|refine aa fun C=>?_|refine jL ?_)
  refine qD ⟨dA [(0,.c (.pt 0 0)),(3,.c (.pt 3 0))],dq [(0,0,⟨0,0,0,true,jV q⟩),(3,3,⟨70,0,0,true,[.v (.int .i64 k0),.v (.int .i64 n0),.v (.string s0),.ro l.length 4 (acL l)]⟩)],1,[0,3],57⟩ ?_ ?_
  ·have cI:=pY (I64_wf hnw)
   have cT:=yt s0
   have cC1:=ma hp.1 (by have:=hp.2.2.1;omega) 1 (gc n0) ⟨#[]⟩
   have cC2:=ma hp.1 (by have:=hp.2.2.1;omega) 2 0 s0
   have cO:=zi2 hp.2.1.1 hp.2.1.2 (by have:=hp.2.2.2;omega) s0
   have hI:=fa (fun e=>s0.toList==(jt e).toList) p.2
   replace hI:decide (gf (fun e=>s0.toList==(jt e).toList) p.2 ≥ 0)=jE p.2 s0:=hI
   have hrl:p.2.length≤1048580:=by have:=hp.2.2.2;omega
   clear hp hp1 hq hl1
   by_cases k1:k0=1
   ·subst k1
    rw [if_pos rfl,if_neg (by decide)] at hq1
    subst hq1
    repeat' (first|(apply ay;refine be 0 cC1 ?_ (hl:=cW (by rfl) (bK _)))|(apply ay;first|refine ao ?_|refine ak ?_|refine bd ?_|refine aL ?_|refine gm cI ?_|refine aq ?_)|refine al ?_|refine ab ?_|refine aa fun C=>?_|refine ae ?_|refine ah ?_|refine az rfl ?_)
    refine aC _ _ rfl rfl ?_ (RwOk.cons (aK rfl (bK _)) ?_)
    ·(repeat' (first|exact TmOk.nil|exact RwOk.nil|refine TmOk.cons ?_ ?_|refine RwOk.cons ?_ ?_|rfl|(refine rnV_id' rfl ?_;exact byc)|(refine bv ?_;first|rfl|omega|(rw [aW omq omq];omega))|(refine aK rfl ?_;exact byc)|exact cb rfl rfl|(refine rw_mid (by rfl) (by rfl) ?_ ?_<;>exact byc)|(refine rw_rn' rfl rfl ?_;simp;done)))
    ·(repeat' (first|exact TmOk.nil|exact RwOk.nil|refine TmOk.cons ?_ ?_|refine RwOk.cons ?_ ?_|rfl|(refine rnV_id' rfl ?_;exact byc)|(refine bv ?_;first|rfl|omega|(rw [aW omq omq];omega))|(refine aK rfl ?_;exact byc)|exact cb rfl rfl|(refine rw_mid (by rfl) (by rfl) ?_ ?_<;>exact byc)|(refine rw_rn' rfl rfl ?_;simp;done)))
   by_cases k2:k0=2
   ·subst k2
    rw [if_neg (by decide),if_pos rfl,if_neg (by decide)] at hq1
    subst hq1
    repeat' (first|(apply ay;refine be 0 cC2 ?_ (hl:=cW (by rfl) (bK _)))|(apply ay;first|refine ao ?_|refine ak ?_|refine bd ?_|refine aL ?_|refine gm cT ?_|refine aq ?_)|refine al ?_|refine ab ?_|refine aa fun C=>?_|refine ae ?_|refine ah ?_|refine az rfl ?_|refine aE rfl ?_)
    refine aC _ _ rfl rfl ?_ (RwOk.cons (aK rfl (bK _)) ?_)
    ·(repeat' (first|exact TmOk.nil|exact RwOk.nil|refine TmOk.cons ?_ ?_|refine RwOk.cons ?_ ?_|rfl|(refine rnV_id' rfl ?_;exact byc)|(refine bv ?_;first|rfl|omega|(rw [aW omq omq];omega))|(refine aK rfl ?_;exact byc)|exact cb rfl rfl|(refine rw_mid (by rfl) (by rfl) ?_ ?_<;>exact byc)|(refine rw_rn' rfl rfl ?_;simp;done)))
    ·(repeat' (first|exact TmOk.nil|exact RwOk.nil|refine TmOk.cons ?_ ?_|refine RwOk.cons ?_ ?_|rfl|(refine rnV_id' rfl ?_;exact byc)|(refine bv ?_;first|rfl|omega|(rw [aW omq omq];omega))|(refine aK rfl ?_;exact byc)|exact cb rfl rfl|(refine rw_mid (by rfl) (by rfl) ?_ ?_<;>exact byc)|(refine rw_rn' rfl rfl ?_;simp;done)))
   rw [if_neg k1,if_neg k2] at hq1
   by_cases k3:k0=10∨k0=18
   ·rw [if_pos k3] at hq1
    obtain⟨c,r⟩:=p
    dsimp only at *
    cases hb:jE r s0 with
    | true =>
     rw [hb] at hI
     rw [if_pos hb] at hq1
     subst hq1
     unfold jV
     dsimp only
     rcases k3 with rfl|rfl
     all_goals
      refine bH (gW 900 (i:=0) (pre:=[_]) (post:=[]) rfl rfl rfl) ?_
      repeat' (first|(apply ay;first|refine ak ?_|refine bd ?_|refine aL ?_|refine aq ?_)|refine al ?_|refine ab ?_|refine aa fun C=>?_|refine ae ?_|refine ah ?_)
      repeat' (first|refine aE rfl ?_|refine az rfl ?_|refine ai ?_)
      repeat' (first|(apply ay;first|refine ak ?_|refine aq ?_)|refine al ?_|refine ab ?_|(apply fH;first|(apply gg;refine bg ?_)|refine gX ?_|refine dJ ?_|refine fO cO ?_|(apply lL;refine bg ?_)|refine bg ?_)|refine al ?_|refine ab ?_|refine aa fun C=>?_|refine ar (by kernel_rfl) (by kernel_rfl) fun C=>?_|refine ae ?_|refine ai ?_|refine az rfl ?_|refine aE rfl ?_)
      refine aj (by rfl) (fun hC=>by exfalso;simp only [decide_eq_true_iff] at hC hI;omega) fun hC=>?_
      repeat' (refine ai ?_)
      refine (dN (i:=0) (j:=900) rfl rfl rfl (pre:=[_]) (post:=[]) rfl).trans ?_
      refine aC _ _ rfl rfl ?_ (RwOk.cons (aK rfl (bK (c,r))) ?_)
      ·(repeat' (first|exact TmOk.nil|exact RwOk.nil|refine TmOk.cons ?_ ?_|refine RwOk.cons ?_ ?_|rfl|(refine rnV_id' rfl ?_;exact byc)|(refine bv ?_;first|rfl|omega|(rw [aW omq omq];omega))|(refine aK rfl ?_;exact byc)|exact cb rfl rfl|(refine rw_mid (by rfl) (by rfl) ?_ ?_<;>exact byc)|(refine rw_rn' rfl rfl ?_;simp;done)))
      ·(repeat' (first|exact TmOk.nil|exact RwOk.nil|refine TmOk.cons ?_ ?_|refine RwOk.cons ?_ ?_|rfl|(refine rnV_id' rfl ?_;exact byc)|(refine bv ?_;first|rfl|omega|(rw [aW omq omq];omega))|(refine aK rfl ?_;exact byc)|exact cb rfl rfl|(refine rw_mid (by rfl) (by rfl) ?_ ?_<;>exact byc)|(refine rw_rn' rfl rfl ?_;simp;done)))
    | false =>
     rw [hb] at hI
     rw [if_neg (by rw [hb];simp)] at hq1
     subst hq1
     unfold jV
     dsimp only
     rcases k3 with rfl|rfl
     all_goals
      refine bH (gW 900 (i:=0) (pre:=[_]) (post:=[]) rfl rfl rfl) ?_
      repeat' (first|(apply ay;first|refine ak ?_|refine bd ?_|refine aL ?_|refine aq ?_)|refine al ?_|refine ab ?_|(apply fH;first|(apply gg;refine bg ?_)|refine gX ?_|refine dJ ?_|refine fO cO ?_|(apply lL;refine bg ?_)|refine bg ?_)|refine al ?_|refine ab ?_|refine aa fun C=>?_|refine ar (by kernel_rfl) (by kernel_rfl) fun C=>?_|refine ae ?_|refine ah ?_|refine ai ?_|refine az rfl ?_|refine aE rfl ?_)
      refine aj (by rfl) (fun hC=>?_) fun hC=>by exfalso;simp only [decide_eq_false_iff_not] at hC hI;omega
      repeat' (first|(apply fH;first|(apply gg;refine bg ?_)|refine gX ?_|refine dJ ?_|refine o_app ?_|refine o_st ?_|refine o_bs ?_|refine bg ?_)|refine al ?_|refine ab ?_|refine ar (by kernel_rfl) (by kernel_rfl) fun C=>?_)
      refine (dN (i:=0) (j:=40) rfl rfl rfl (pre:=[_]) (post:=[]) rfl).trans ?_
      refine aC _ _ rfl rfl ?_ (RwOk.cons (lj (r:=⟨0,0,0,true,[.ow 36 c.length 3 (owL c),.ow 9 (r.length+1) 1 (owL r++[.v (.string s0)])]⟩) rfl (by rw [ff,List.length_append];rfl) (bK (c,r++[E.str s0]))) ?_)
      ·(repeat' (first|exact TmOk.nil|exact RwOk.nil|refine TmOk.cons ?_ ?_|refine RwOk.cons ?_ ?_|rfl|(refine rnV_id' rfl ?_;exact byc)|(refine bv ?_;first|rfl|omega|(rw [aW omq omq];omega))|(refine aK rfl ?_;exact byc)|exact cb rfl rfl|(refine rw_mid (by rfl) (by rfl) ?_ ?_<;>exact byc)|(refine rw_rn' rfl rfl ?_;simp;done)))
      ·(repeat' (first|exact TmOk.nil|exact RwOk.nil|refine TmOk.cons ?_ ?_|refine RwOk.cons ?_ ?_|rfl|(refine rnV_id' rfl ?_;exact byc)|(refine bv ?_;first|rfl|omega|(rw [aW omq omq];omega))|(refine aK rfl ?_;exact byc)|exact cb rfl rfl|(refine rw_mid (by rfl) (by rfl) ?_ ?_<;>exact byc)|(refine rw_rn' rfl rfl ?_;simp;done)))
   ·rw [if_neg k3] at hq1
    subst hq1
    have g1:(k0==1)=false:=by simpa using k1
    have g2:(k0==2)=false:=by simpa using k2
    have g3:(k0==10)=false:=by simpa using fun h=>k3 (.inl h)
    have g4:(k0==18)=false:=by simpa using fun h=>k3 (.inr h)
    repeat' (first|(apply ay;first|refine ao ?_|refine ak ?_|refine bd ?_|refine aL ?_|refine aq ?_)|refine al ?_|refine ab ?_|(apply fH;first|(apply gg;refine bg ?_)|refine gX ?_|(apply d_ld;first|refine dJ ?_|refine bg ?_)|refine bg ?_)|(apply d_w;refine al ?_)|refine aa fun C=>?_|refine ar (by kernel_rfl) (by kernel_rfl) fun C=>?_|refine ae ?_|refine ah ?_|refine ai ?_|(refine aj (by rfl) ?_ ?_<;>intro hC<;>(try cases hC)))
    all_goals first
     | (exfalso;simp_all;done)
     | (refine aC _ _ rfl rfl ?_ (RwOk.cons (aK rfl (bK _)) ?_)
        ·(repeat' (first|exact TmOk.nil|exact RwOk.nil|refine TmOk.cons ?_ ?_|refine RwOk.cons ?_ ?_|rfl|(refine rnV_id' rfl ?_;exact byc)|(refine bv ?_;first|rfl|omega|(rw [aW omq omq];omega))|(refine aK rfl ?_;exact byc)|exact cb rfl rfl|(refine rw_mid (by rfl) (by rfl) ?_ ?_<;>exact byc)|(refine rw_rn' rfl rfl ?_;simp;done)))
        ·(repeat' (first|exact TmOk.nil|exact RwOk.nil|refine TmOk.cons ?_ ?_|refine RwOk.cons ?_ ?_|rfl|(refine rnV_id' rfl ?_;exact byc)|(refine bv ?_;first|rfl|omega|(rw [aW omq omq];omega))|(refine aK rfl ?_;exact byc)|exact cb rfl rfl|(refine rw_mid (by rfl) (by rfl) ?_ ?_<;>exact byc)|(refine rw_rn' rfl rfl ?_;simp;done))))
  ·repeat' (first|(apply ay;refine ak ?_)|refine al ?_|refine ab ?_|refine aa fun C=>?_|refine ae ?_|refine ah ?_)
   refine aP (fun k:Nat=>⟨dA [(0,.c (.pt 0 0)),(3,.c (.pt 3 0)),(4,.c (.v (.int .i64 k)))],dq [(0,0,⟨0,0,0,true,jV (upto kS eC l q k)⟩),(3,3,⟨70,0,0,true,[.v (.int .i64 k0),.v (.int .i64 n0),.v (.string s0),.ro l.length 4 (acL l)]⟩)],1,[0,3],57⟩)
    (fun N k=>k+N=l.length) l.length 0 omq ?_ ?_
   ·refine aC _ _ rfl rfl ?_ (RwOk.cons (aK rfl (bK _)) ?_)
    ·(repeat' (first|exact TmOk.nil|exact RwOk.nil|refine TmOk.cons ?_ ?_|refine RwOk.cons ?_ ?_|rfl|(refine rnV_id' rfl ?_;exact byc)|(refine bv ?_;first|rfl|omega|(rw [aW omq omq];omega))|(refine aK rfl ?_;exact byc)|exact cb rfl rfl|(refine rw_mid (by rfl) (by rfl) ?_ ?_<;>exact byc)|(refine rw_rn' rfl rfl ?_;simp;done)))
    ·(repeat' (first|exact TmOk.nil|exact RwOk.nil|refine TmOk.cons ?_ ?_|refine RwOk.cons ?_ ?_|rfl|(refine rnV_id' rfl ?_;exact byc)|(refine bv ?_;first|rfl|omega|(rw [aW omq omq];omega))|(refine aK rfl ?_;exact byc)|exact cb rfl rfl|(refine rw_mid (by rfl) (by rfl) ?_ ?_<;>exact byc)|(refine rw_rn' rfl rfl ?_;simp;done)))
   rintro N k hN
   try dsimp only
   repeat' (first|(apply ay;first|refine ao ?_|refine bd ?_|refine aL ?_|refine aY ?_|refine aO ?_)|refine al ?_|refine ab ?_|refine aa fun C=>?_|refine ae ?_)
   refine aj (by rfl) (fun hk1=>?_) fun hk1=>?_
   ·have hk':k<l.length:=by simpa using hk1
    obtain⟨x,hx⟩:∃x,l[k]? = some x:=⟨_,List.getElem?_eq_getElem hk'⟩
    have hxm:=List.mem_of_getElem? hx
    have hxt:=hl x hxm
    have hxz:=E.szL_mem hxm
    have cx:=kX n x hxt omq omq (upto kS eC l q k) (hp1.upto hx hl1)
    rw [←dG hx] at cx
    obtain⟨y0,y1,y2,yA,yc,yl,rfl,-⟩:=aB hxt
    repeat' (first|(apply ay;refine be 0 cx ?_ (hl:=cW (by rfl) (bK _)))|(apply ay;first|refine ao ?_|refine ak ?_|refine bd ?_|refine aL ?_|refine bI ?_|refine dE ?_|refine aD ?_)|refine al ?_|refine ab ?_|refine aa fun C=>?_|refine ae ?_|refine ah ?_|refine ai ?_)
    refine⟨N-1,k+1,omq,omq,?_⟩
    refine aC _ _ rfl rfl ?_ (RwOk.cons (aK rfl (bK _)) ?_)
    ·(repeat' (first|exact TmOk.nil|exact RwOk.nil|refine TmOk.cons ?_ ?_|refine RwOk.cons ?_ ?_|rfl|(refine rnV_id' rfl ?_;exact byc)|(refine bv ?_;first|rfl|omega|(rw [aW omq omq];omega))|(refine aK rfl ?_;exact byc)|exact cb rfl rfl|(refine rw_mid (by rfl) (by rfl) ?_ ?_<;>exact byc)|(refine rw_rn' rfl rfl ?_;simp;done)))
    ·(repeat' (first|exact TmOk.nil|exact RwOk.nil|refine TmOk.cons ?_ ?_|refine RwOk.cons ?_ ?_|rfl|(refine rnV_id' rfl ?_;exact byc)|(refine bv ?_;first|rfl|omega|(rw [aW omq omq];omega))|(refine aK rfl ?_;exact byc)|exact cb rfl rfl|(refine rw_mid (by rfl) (by rfl) ?_ ?_<;>exact byc)|(refine rw_rn' rfl rfl ?_;simp;done)))
   ·have hk':¬k<l.length:=by simpa using hk1
    obtain rfl:k=l.length:=by omega
    repeat' (refine au ?_)
    exact eo (x:=.tu []) rfl rfl rfl (bK _) rfl ⟨rfl,rfl⟩
theorem zq2 {N:Nat}{y:E}(h:TyS N y):∀z∈oU y,TyX N z:=by
 intro z hz
 obtain⟨t,ht,hzt⟩:=List.mem_flatMap.1 (show z∈(mY y).flatMap oT from hz)
 exact vW (p7 h t ht) z hzt
theorem fF:∀(n:Nat) (l:List E),(∀y∈l,y.Ty prog 106)→(∀y∈l,y.enc.length=6)→l.length+E.szL l<n→n≤1048578→∀p:KP,KOk (lc l).length p→Ctr prog 108 [.c (.pt 0 0),.c (.ro l.length 6 (acL l))] [jV p] (.tu []) [jV ((lc l).foldl kS p)]
 | 0,_,_,_,hz,_,_,_=>absurd hz (Nat.not_lt_zero _)
 | n+1,l,hl,hk,hsz,hn,p,hp=>by
  have hty:∀y∈l.flatMap oU,y.Ty prog 70:=fun y hy=>by
   obtain⟨t,ht,hyt⟩:=List.mem_flatMap.1 hy
   have:=E.szL_mem ht
   exact (zq2 (N:=1048578) ⟨hl t ht,omq⟩ y hyt).1
  unfold lc at hp ⊢
  rw [←ej]
  refine av func108 rfl rfl ?_
  repeat' (first|(apply ay;refine ak ?_)|refine al ?_|refine ab ?_|refine aa fun C=>?_|refine ae ?_|refine ah ?_)
  refine aP (fun k:Nat=>⟨dA [(0,.c (.pt 0 0)),(1,.c (.ro l.length 6 (acL l))),(4,.c (.v (.int .i64 k)))],dq [(0,0,⟨0,0,0,true,jV (upto kS oU l p k)⟩)],1,[0],46⟩)
   (fun N k=>k+N=l.length) l.length 0 omq ?_ ?_
  ·refine aC _ _ rfl rfl ?_ (RwOk.cons (aK rfl (bK _)) RwOk.nil)
   (repeat' (first|exact TmOk.nil|exact RwOk.nil|refine TmOk.cons ?_ ?_|refine RwOk.cons ?_ ?_|rfl|(refine rnV_id' rfl ?_;exact byc)|(refine bv ?_;first|rfl|omega|(rw [aW omq omq];omega))|(refine aK rfl ?_;exact byc)|exact cb rfl rfl|(refine rw_mid (by rfl) (by rfl) ?_ ?_<;>exact byc)|(refine rw_rn' rfl rfl ?_;simp;done)))
  rintro N k hN
  try dsimp only
  repeat' (first|(apply ay;first|refine ao ?_|refine aY ?_|refine aO ?_)|refine al ?_|refine ab ?_|refine aa fun C=>?_|refine ae ?_)
  refine aj (by rfl) (fun hk1=>?_) fun hk1=>?_
  ·have hk':k<l.length:=by simpa using hk1
   obtain⟨x,hx⟩:∃x,l[k]? = some x:=⟨_,List.getElem?_eq_getElem hk'⟩
   have hxm:=List.mem_of_getElem? hx
   have hxt:=hl x hxm
   have hxz:=E.szL_mem hxm
   have hxk:=hp.upto hx hty
   have hxty:∀y∈oU x,y.Ty prog 70:=fun y hy=>hty y (List.mem_flatMap.2 ⟨x,hxm,hy⟩)
   have hsu:upto kS oU l p (k+1)=(oU x).foldl kS (upto kS oU l p k):=dG hx
   obtain⟨p2,e2⟩:∃p2,upto kS oU l p k=p2:=⟨_,rfl⟩
   rw [e2] at hxk hsu ⊢
   have hter:=oD x
   rw [hter] at hxk hxty hsu
   obtain⟨z0,z1,z2,zA,zc,zx,yA,yc,ya,wA,wc,yb,rfl,-,-,-,⟨hzx,hzk⟩,⟨ha,hka⟩,⟨hb,hkb⟩,-⟩:=aQ hxt
   have hkd:(nj (.agg [.int .i64 z0,.str z1,.str z2,.lst 4 70 zA zc zx,.lst 6 106 yA yc ya,.lst 6 106 wA wc yb])).flatMap oU=lc ya++lc yb:=List.flatMap_append
   have how:oT (.agg [.int .i64 z0,.str z1,.str z2,.lst 4 70 zA zc zx,.lst 6 106 yA yc ya,.lst 6 106 wA wc yb])=zx.flatMap eC:=rfl
   rw [hkd,how] at hxk hxty hsu
   simp only [E.sz,E.szL] at hxz
   rw [List.length_append,List.length_append] at hxk
   rw [List.foldl_append,List.foldl_append] at hsu
   have hk3:KOk ((lc ya).length+(lc yb).length) ((zx.flatMap eC).foldl kS p2):=KOk.fold _ (fun y hy=>hxty y (List.mem_append_left _ hy)) hxk
   obtain⟨p3,e3⟩:∃p3,(zx.flatMap eC).foldl kS p2=p3:=⟨_,rfl⟩
   rw [e3] at hk3 hsu
   have hk4:KOk (lc yb).length ((lc ya).foldl kS p3):=KOk.fold _ (fun y hy=>hxty y (List.mem_append_right _ (List.mem_append_left _ hy))) hk3
   have cA:=fF n ya ha hka omq omq p3 (hk3.le omq)
   obtain⟨p4,e4⟩:∃p4,(lc ya).foldl kS p3=p4:=⟨_,rfl⟩
   rw [e4] at hk4 hsu cA
   have cB:=fF n yb hb hkb omq omq p4 hk4
   rw [←hsu] at cB
   have hkx:KOk (zx.flatMap eC).length p2:=hxk.le omq
   have htx:∀y∈zx.flatMap eC,y.Ty prog 70:=fun y hy=>hxty y (List.mem_append_left _ hy)
   have e5:upto kS eC zx p2 zx.length=p3:=by rw [ej,e3]
   clear hter hkd how hxty hsu hxk hk3 hk4 e4 hty hp
   repeat' (first|(apply ay;refine ak ?_)|refine al ?_|refine ab ?_|refine aa fun C=>?_|refine ae ?_|refine ah ?_|refine ai ?_)
   refine aP (fun j:Nat=>⟨dA [(0,.c (.pt 0 0)),(1,.c (.ro l.length 6 (acL l))),(4,.c (.v (.int .i64 k))),(5,.c (.v (.int .i64 j)))],dq [(0,0,⟨0,0,0,true,jV (upto kS eC zx p2 j)⟩)],1,[0],46⟩)
    (fun M j=>j+M=zx.length) zx.length 0 omq ?_ ?_
   ·refine aC _ _ rfl rfl ?_ (RwOk.cons (aK rfl (bK _)) RwOk.nil)
    (repeat' (first|exact TmOk.nil|exact RwOk.nil|refine TmOk.cons ?_ ?_|refine RwOk.cons ?_ ?_|rfl|(refine rnV_id' rfl ?_;exact byc)|(refine bv ?_;first|rfl|omega|(rw [aW omq omq];omega))|(refine aK rfl ?_;exact byc)|exact cb rfl rfl|(refine rw_mid (by rfl) (by rfl) ?_ ?_<;>exact byc)|(refine rw_rn' rfl rfl ?_;simp;done)))
   rintro M j hM
   try dsimp only
   repeat' (first|(apply ay;first|refine ao ?_|refine gO ?_|refine aY ?_|refine dE ?_|refine aO ?_|refine aS ?_)|refine al ?_|refine ab ?_|refine aa fun C=>?_|refine ae ?_)
   refine aj (by rfl) (fun hj1=>?_) fun hj1=>?_
   ·have hj':j<zx.length:=by simpa using hj1
    obtain⟨x,hx2⟩:∃x,zx[j]? = some x:=⟨_,List.getElem?_eq_getElem hj'⟩
    have hxm2:=List.mem_of_getElem? hx2
    have hxt2:=hzx x hxm2
    have hxz2:=E.szL_mem hxm2
    have cx:=kX (x.sz+1) x hxt2 omq omq (upto kS eC zx p2 j) (hkx.upto hx2 htx)
    rw [←dG hx2] at cx
    obtain⟨y0,y1,y2,yA',yc',yl,rfl,-⟩:=aB hxt2
    repeat' (first|(apply ay;refine be 0 cx ?_ (hl:=cW (by rfl) (bK _)))|(apply ay;first|refine ao ?_|refine ak ?_|refine gO ?_|refine bI ?_|refine dE ?_|refine aD ?_|refine aS ?_)|refine al ?_|refine ab ?_|refine aa fun C=>?_|refine ae ?_|refine ah ?_|refine ai ?_)
    refine⟨M-1,j+1,omq,omq,?_⟩
    refine aC _ _ rfl rfl ?_ (RwOk.cons (aK rfl (bK _)) RwOk.nil)
    (repeat' (first|exact TmOk.nil|exact RwOk.nil|refine TmOk.cons ?_ ?_|refine RwOk.cons ?_ ?_|rfl|(refine rnV_id' rfl ?_;exact byc)|(refine bv ?_;first|rfl|omega|(rw [aW omq omq];omega))|(refine aK rfl ?_;exact byc)|exact cb rfl rfl|(refine rw_mid (by rfl) (by rfl) ?_ ?_<;>exact byc)|(refine rw_rn' rfl rfl ?_;simp;done)))
   ·have hj':¬j<zx.length:=by simpa using hj1
    obtain rfl:j=zx.length:=by omega
    rw [e5]
    repeat' (first|(apply ay;refine be 0 cA ?_ (hl:=cW (by rfl) (bK _)))|(apply ay;refine be 0 cB ?_ (hl:=cW (by rfl) (bK _)))|(apply ay;first|refine ao ?_|refine ak ?_|refine gO ?_|refine dE ?_|refine aD ?_|refine aS ?_)|refine al ?_|refine ab ?_|refine aa fun C=>?_|refine ae ?_|refine au ?_)
    refine⟨N-1,k+1,omq,omq,?_⟩
    refine aC _ _ rfl rfl ?_ (RwOk.cons (aK rfl (bK _)) RwOk.nil)
    (repeat' (first|exact TmOk.nil|exact RwOk.nil|refine TmOk.cons ?_ ?_|refine RwOk.cons ?_ ?_|rfl|(refine rnV_id' rfl ?_;exact byc)|(refine bv ?_;first|rfl|omega|(rw [aW omq omq];omega))|(refine aK rfl ?_;exact byc)|exact cb rfl rfl|(refine rw_mid (by rfl) (by rfl) ?_ ?_<;>exact byc)|(refine rw_rn' rfl rfl ?_;simp;done)))
  ·have hk':¬k<l.length:=by simpa using hk1
   obtain rfl:k=l.length:=by omega
   repeat' (refine au ?_)
   exact eo (x:=.tu []) rfl rfl rfl (bK _) rfl ⟨rfl,rfl⟩
def QnH (K:Act→World→Prop)(Q:Exit→Act→World→Prop):Exit→Act→World→Prop
 | .normal,a,w=>K a w
 | .exit l,a,w=>Q (.exit l) a w
 | .goto l,a,w=>Q (.goto l) a w
 | .ret,a,w=>Q .ret a w
 | .panic c,a,w=>Q (.panic c) a w
 | .outgrown,a,w=>Q .outgrown a w
section
variable {P:Program}{ops:Array Oper}{Q:Exit→Act→World→Prop}{C:Ctx}
theorem zo4 {o:Oper}{a:Act}{w:World}{K K':Act→World→Prop}(hh:o.wp P a w K (QnH K' Q)):o.wp P a w K Q:=by
 unfold Oper.wp at *
 generalize (execOp a.eval o).run P w=r at *
 cases r with
 | ok n w' =>
  cases n<;>simp only [Oper.upon] at hh ⊢ <;>
   first
    | exact hh
    | exact Calls.mono hh (fun e w'' he=>by cases e<;>exact he)
 | halt x w'=>cases x<;>simp only [Oper.upon] at hh ⊢<;>exact hh
theorem mb {l2:List Nat}:∀(l1:List Nat) (a:Act) (w:World),wpOps P ops (QnH (wpOps P ops Q l2) Q) l1 a w→wpOps P ops Q (l1++l2) a w
 | [],_,_,h=>h
 | i :: r,a,w,h=>by
  rw [List.cons_append,wpOps_cons]
  rw [wpOps_cons] at h
  have h2:=wpOp_mono (fun a w h=>mb r a w h) h
  unfold wpOp at h2 ⊢
  split
  ·rename_i ho
   simp only [ho] at h2
   exact h2
  ·rename_i o ho
   simp only [ho] at h2
   split
   ·rename_i hw
    simp only [hw,if_true] at h2
    exact h2.imp zo4 id
   ·rename_i hw
    simp only [hw] at h2
    exact h2
theorem oL {L:List Nat}{σ:AS}(hL:L.Pairwise (·< ·))(h:Walk P ops Q C false [] L σ){a:Act}{w:World}(hs:Sim C σ a w):wpOps P ops Q L a w:=by
 obtain⟨inf,_,h2,-⟩:=iQ hL (fun h hh=>absurd hh List.not_mem_nil) (fun h hh=>absurd hh List.not_mem_nil) List.Pairwise.nil h
 exact kh h2 hs
end
theorem oM {Q:Exit→AS→Prop}{P:Program}{id:Nat}{ops:Array Oper}{σ:AS}(l1 l2:List Nat)(hl:List.range ops.size=l1++l2)(h:∀C,Walk P ops (QnH (wpOps P ops (fun e a w=>∃σ',Q e σ'∧Sim C σ' a w) l2) (fun e a w=>∃σ',Q e σ'∧Sim C σ' a w)) C false [] l1 σ):AWp P (.region id ops false) Q σ:=fun C a w hs=>by
 refine wp_region ?_
 rw [hl]
 have hp:=gk ops.size
 rw [hl] at hp
 exact mb l1 a w (oL (List.pairwise_append.1 hp).1 (h C) hs)
theorem wn {Q:Exit→AS→Prop}{P:Program}{ops:Array Oper}{C:Ctx}{l2:List Nat}{σ σ':AS}(hg:Gh σ σ')(hL:l2.Pairwise (·< ·))(h:Walk P ops (fun e a w=>∃σ',Q e σ'∧Sim C σ' a w) C false [] l2 σ'):Walk P ops (QnH (wpOps P ops (fun e a w=>∃σ',Q e σ'∧Sim C σ' a w) l2) (fun e a w=>∃σ',Q e σ'∧Sim C σ' a w)) C false [] [] σ:=fun a w hs=>oL hL h (hg C a w hs)
end Go.Proofs.YtmnneflenebgmaaGreat
