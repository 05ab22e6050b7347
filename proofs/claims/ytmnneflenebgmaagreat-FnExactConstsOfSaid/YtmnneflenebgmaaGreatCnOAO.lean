/- T -/
import Derived.Test.YtmnneflenebgmaaGreatCnOAN
set_option maxHeartbeats 0
set_option maxRecDepth 100000
namespace Go.Proofs.YtmnneflenebgmaaGreat
open Go.RowKit Go.Proofs.Tryz
theorem wo (p:KP):dm (jV p)=true:=by simp [jV,dm,j6,de]
theorem rr {rs fs:List E}(h:PrgOk rs fs):∀y∈l0 rs fs,y.Ty prog 70:=fun y hy=>(wi h y hy).1
theorem oN:∀(l:List E) (p:KP),(l.foldl kS p).1=l.foldl m6 p.1
 | [],p=>rfl
 | x :: r,p=>by rw [List.foldl_cons,List.foldl_cons,oN r];rfl
theorem oO:∀(l:List E) (p:KP),(l.foldl kS p).2=l.foldl m4 p.2
 | [],p=>rfl
 | x :: r,p=>by rw [List.foldl_cons,List.foldl_cons,oO r];rfl
theorem sQ {rs fs:List E}(hp:PrgOk rs fs)(w:World)(St:Nat→Prop)(φ:Nat→Lc)(K:Nat→Prop)(u:Value)(gl:GlobOk w)(hv:VR w St φ K (.ag [.ro rs.length 6 (acL rs),.ro fs.length 3 (acL fs)]) u) :
 Calls prog 54 #[u] w fun e w'=>∃b lo vs fs',e=.returned (.pointer (some ⟨b,lo,none⟩))∧NewA w w' 75 (jV ((l0 rs fs).foldl kS (kU,[]))) b lo vs fs':=by
 have hpz:=hp.z
 have hfk:=hp.fk
 have hrk:=hp.rk
 have hxl:=mZ rs fs
 have hty:=rr hp
 have hK0:KOk (l0 rs fs).length (kU,[]):=⟨qh,TyL.nil,by show 3+_≤_;omega,by show 0+_≤_;omega⟩
 have hpo:∀x∈jx rs fs,x.Ok:=qe hp
 have c0:Ctr prog 107 [.c (.v (.int .i64 0))] [] (.ag [.v (.int .i64 1),.v (.int .i64 0),.v (.string ⟨#[]⟩)]) []:=pY (n:=0) (by unfold I64;omega)
 have c1:Ctr prog 107 [.c (.v (.int .i64 1))] [] (.ag [.v (.int .i64 1),.v (.int .i64 1),.v (.string ⟨#[]⟩)]) []:=pY (n:=1) (by unfold I64;omega)
 unfold l0 at hK0 hty ⊢
 rw [List.length_append] at hK0
 rw [List.foldl_append]
 have hK1:KOk (rs.flatMap ruX).length ((fs.flatMap fnX).foldl kS (kU,[])):=KOk.fold _ (fun y hy=>hty y (List.mem_append_left _ hy)) hK0
 have hKf:KOk (fs.flatMap fnX).length (kU,[]):=hK0.le omq
 have htf:∀y∈fs.flatMap fnX,y.Ty prog 70:=fun y hy=>hty y (List.mem_append_left _ hy)
 have htr:∀y∈rs.flatMap ruX,y.Ty prog 70:=fun y hy=>hty y (List.mem_append_right _ hy)
 obtain⟨p1,e1⟩:∃p1,(fs.flatMap fnX).foldl kS (kU,[])=p1:=⟨_,rfl⟩
 have eu:upto kS fnX fs (kU,[]) fs.length=p1:=by rw [ej,e1]
 rw [e1] at hK1 ⊢
 rw [←ej]
 refine sP func54 rfl rfl (bK _) (wo _) ?_ hv (by simp [bf,clo,aH]) gl
 clear hv gl hty hK0
 repeat' (first|(apply ay;first|refine ak ?_|refine gm c0 ?_|refine gm c1 ?_|refine bL ?_|refine gh ?_|refine aS ?_)|refine al ?_|refine ab ?_|refine aa fun C=>?_|refine ae ?_|refine ah ?_)
 refine aP (fun k:Nat=>⟨dA [(1,.c (.pt 1 0)),(3,.c (.pt 11 0)),(4,.c (.v (.int .i64 k)))],dq [(1,1,⟨27,0,0,true,[.ro rs.length 6 (acL rs),.ro fs.length 3 (acL fs)]⟩),(11,11,⟨75,0,0,true,jV (upto kS fnX fs (kU,[]) k)⟩)],0,[1,11],58⟩)
  (fun N k=>k+N=fs.length) fs.length 0 omq ?_ ?_
 ·refine (dN (i:=11) (j:=9) rfl rfl rfl (pre:=[]) (post:=[_]) rfl).trans ?_
  refine (dZ 990 (i:=11) 9 1 rfl rfl (pre:=[_]) (post:=[]) rfl).trans ?_
  refine (dN (i:=11) (j:=990) rfl rfl rfl (pre:=[_]) (post:=[]) rfl).trans ?_
  refine aC _ _ rfl rfl ?_ (RwOk.cons ?_ (RwOk.cons (aK rfl (bK (kU,[]))) RwOk.nil))
  ·(repeat' (first|exact TmOk.nil|exact RwOk.nil|refine TmOk.cons ?_ ?_|refine RwOk.cons ?_ ?_|rfl|(refine rnV_id' rfl ?_;exact byc)|(refine bv ?_;first|rfl|omega|(rw [aW omq omq];omega))|(refine aK rfl ?_;exact byc)|exact cb rfl rfl|(refine rw_mid (by rfl) (by rfl) ?_ ?_<;>exact byc)|(refine rw_rn' rfl rfl ?_;simp;done)))
  ·refine aK rfl ?_;simp [bf,clo,aH]
 rintro N k hN
 try dsimp only
 repeat' (first|(apply ay;first|refine ao ?_|refine bd ?_|refine aL ?_|refine aY ?_|refine aO ?_)|refine al ?_|refine ab ?_|refine aa fun C=>?_|refine ae ?_)
 refine aj (by rfl) (fun hk1=>?_) fun hk1=>?_
 ·have hk':k<fs.length:=by simpa using hk1
  obtain⟨x,hx⟩:∃x,fs[k]? = some x:=⟨_,List.getElem?_eq_getElem hk'⟩
  have hxm:=List.mem_of_getElem? hx
  have hxt:=hp.f x hxm
  have hpx:=hpo (fnP x) (List.mem_append_left _ (List.mem_map.2 ⟨x,hxm,rfl⟩))
  have hkx:=hKf.upto hx htf
  have hsu:upto kS fnX fs (kU,[]) (k+1)=(fnX x).foldl kS (upto kS fnX fs (kU,[]) k):=dG hx
  obtain⟨x0,x1A,x1c,x1l,x2A,x2c,body,rfl,-⟩:=bN hxt
  have cB:=fF (body.length+E.szL body+1) body hpx.l hpx.lk omq (by have:=hpx.lz;show body.length+E.szL body+1≤_;have h9:body.length+E.szL body≤1048576:=this;omega) (upto kS fnX fs (kU,[]) k) hkx
  replace cB:Ctr prog 108 [.c (.pt 0 0),.c (.ro body.length 6 (acL body))] [jV (upto kS fnX fs (kU,[]) k)] (.tu []) [jV (upto kS fnX fs (kU,[]) (k+1))]:=by rw [hsu];exact cB
  repeat' (first|(apply ay;refine be 11 cB ?_ (hl:=cW (by rfl) (bK _)))|(apply ay;first|refine ao ?_|refine ak ?_|refine bd ?_|refine gO ?_|refine aL ?_|refine dC ?_|refine dE ?_|refine aD ?_)|refine al ?_|refine ab ?_|refine aa fun C=>?_|refine ae ?_|refine ah ?_|refine ai ?_)
  refine⟨N-1,k+1,omq,omq,?_⟩
  refine aC _ _ rfl rfl ?_ (RwOk.cons ?_ (RwOk.cons (aK rfl (bK _)) RwOk.nil))
  ·(repeat' (first|exact TmOk.nil|exact RwOk.nil|refine TmOk.cons ?_ ?_|refine RwOk.cons ?_ ?_|rfl|(refine rnV_id' rfl ?_;exact byc)|(refine bv ?_;first|rfl|omega|(rw [aW omq omq];omega))|(refine aK rfl ?_;exact byc)|exact cb rfl rfl|(refine rw_mid (by rfl) (by rfl) ?_ ?_<;>exact byc)|(refine rw_rn' rfl rfl ?_;simp;done)))
  ·refine aK rfl ?_;simp [bf,clo,aH]
 ·have hk':¬k<fs.length:=by simpa using hk1
  obtain rfl:k=fs.length:=by omega
  rw [eu]
  repeat' (first|(apply ay;refine ak ?_)|refine al ?_|refine ab ?_|refine aa fun C=>?_|refine ae ?_|refine ah ?_|refine au ?_)
  refine aP (fun k:Nat=>⟨dA [(1,.c (.pt 1 0)),(3,.c (.pt 11 0)),(5,.c (.v (.int .i64 k)))],dq [(1,1,⟨27,0,0,true,[.ro rs.length 6 (acL rs),.ro fs.length 3 (acL fs)]⟩),(11,11,⟨75,0,0,true,jV (upto kS ruX rs p1 k)⟩)],0,[1,11],58⟩)
   (fun N k=>k+N=rs.length) rs.length 0 omq ?_ ?_
  ·refine aC _ _ rfl rfl ?_ (RwOk.cons ?_ (RwOk.cons (aK rfl (bK _)) RwOk.nil))
   ·(repeat' (first|exact TmOk.nil|exact RwOk.nil|refine TmOk.cons ?_ ?_|refine RwOk.cons ?_ ?_|rfl|(refine rnV_id' rfl ?_;exact byc)|(refine bv ?_;first|rfl|omega|(rw [aW omq omq];omega))|(refine aK rfl ?_;exact byc)|exact cb rfl rfl|(refine rw_mid (by rfl) (by rfl) ?_ ?_<;>exact byc)|(refine rw_rn' rfl rfl ?_;simp;done)))
   ·refine aK rfl ?_;simp [bf,clo,aH]
  rintro M j hM
  try dsimp only
  repeat' (first|(apply ay;first|refine ao ?_|refine bd ?_|refine aL ?_|refine aY ?_|refine aO ?_)|refine al ?_|refine ab ?_|refine aa fun C=>?_|refine ae ?_)
  refine aj (by rfl) (fun hj1=>?_) fun hj1=>?_
  ·have hj':j<rs.length:=by simpa using hj1
   obtain⟨x,hx⟩:∃x,rs[j]? = some x:=⟨_,List.getElem?_eq_getElem hj'⟩
   have hxm:=List.mem_of_getElem? hx
   have hxt:=hp.r x hxm
   have hpx:=hpo (ruP x) (List.mem_append_right _ (List.mem_map.2 ⟨x,hxm,rfl⟩))
   have hkx:=hK1.upto hx htr
   have htx:∀y∈ruX x,y.Ty prog 70:=fun y hy=>htr y (List.mem_flatMap.2 ⟨x,hxm,hy⟩)
   have hsu:upto kS ruX rs p1 (j+1)=(ruX x).foldl kS (upto kS ruX rs p1 j):=dG hx
   obtain⟨x0,x1,x2,x3,x4A,x4c,x4l,x5A,x5c,body,rfl,-⟩:=bJ hxt
   have hlz:body.length+E.szL body≤1048576:=hpx.lz
   have hbl:∀e∈body,e.Ty prog 106:=hpx.l
   have hbk:∀e∈body,e.enc.length=6:=hpx.lk
   obtain⟨p2,e2⟩:∃p2,upto kS ruX rs p1 j=p2:=⟨_,rfl⟩
   rw [e2] at hkx hsu ⊢
   by_cases h4:x0=4
   ·subst h4
    have hru:ruX (.agg [.int .i64 4,(.agg [.int .i64 x1,.int .i64 x2,.str x3,.lst 4 70 x4A x4c x4l]),.lst 6 106 x5A x5c body])=eC (.agg [.int .i64 x1,.int .i64 x2,.str x3,.lst 4 70 x4A x4c x4l])++lc body:=by
     unfold ruX
     dsimp only
     rw [if_pos rfl]
    have hPt:(E.agg [.int .i64 x1,.int .i64 x2,.str x3,.lst 4 70 x4A x4c x4l]).Ty prog 70:=hpx.wh _ List.mem_cons_self
    have hPz:(E.agg [.int .i64 x1,.int .i64 x2,.str x3,.lst 4 70 x4A x4c x4l]).sz≤1048576:=hpx.wz _ List.mem_cons_self
    rw [hru] at hkx hsu htx
    rw [List.length_append] at hkx
    rw [List.foldl_append] at hsu
    have cE:=kX ((E.agg [.int .i64 x1,.int .i64 x2,.str x3,.lst 4 70 x4A x4c x4l]).sz+1) _ hPt omq omq p2 (hkx.le omq)
    have hk3:KOk (lc body).length ((eC (.agg [.int .i64 x1,.int .i64 x2,.str x3,.lst 4 70 x4A x4c x4l])).foldl kS p2):=KOk.fold _ (fun y hy=>htx y (List.mem_append_left _ hy)) hkx
    obtain⟨p3,e3⟩:∃p3,(eC (.agg [.int .i64 x1,.int .i64 x2,.str x3,.lst 4 70 x4A x4c x4l])).foldl kS p2=p3:=⟨_,rfl⟩
    rw [e3] at hk3 hsu cE
    have cB:=fF (body.length+E.szL body+1) body hbl hbk omq omq p3 hk3
    rw [←hsu] at cB
    repeat' (first|(apply ay;refine be 11 cE ?_ (hl:=cW (by rfl) (bK _)))|(apply ay;refine be 11 cB ?_ (hl:=cW (by rfl) (bK _)))|(apply ay;first|refine ao ?_|refine ak ?_|refine bd ?_|refine gO ?_|refine aL ?_|refine dC ?_|refine dE ?_|refine aq ?_|refine aD ?_|refine aS ?_)|refine al ?_|refine ab ?_|refine aa fun C=>?_|refine ae ?_|refine ah ?_|refine ai ?_|refine az rfl ?_)
    refine⟨M-1,j+1,omq,omq,?_⟩
    refine aC _ _ rfl rfl ?_ (RwOk.cons ?_ (RwOk.cons (aK rfl (bK _)) RwOk.nil))
    ·(repeat' (first|exact TmOk.nil|exact RwOk.nil|refine TmOk.cons ?_ ?_|refine RwOk.cons ?_ ?_|rfl|(refine rnV_id' rfl ?_;exact byc)|(refine bv ?_;first|rfl|omega|(rw [aW omq omq];omega))|(refine aK rfl ?_;exact byc)|exact cb rfl rfl|(refine rw_mid (by rfl) (by rfl) ?_ ?_<;>exact byc)|(refine rw_rn' rfl rfl ?_;simp;done)))
    ·refine aK rfl ?_;simp [bf,clo,aH]
   ·have hb4:(x0==4)=false:=by simpa using h4
    have hru:ruX (.agg [.int .i64 x0,(.agg [.int .i64 x1,.int .i64 x2,.str x3,.lst 4 70 x4A x4c x4l]),.lst 6 106 x5A x5c body])=lc body:=by
     unfold ruX
     dsimp only
     rw [if_neg h4];rfl
    rw [hru] at hkx hsu
    have cB:=fF (body.length+E.szL body+1) body hbl hbk omq omq p2 hkx
    rw [←hsu] at cB
    repeat' (first|(apply ay;first|refine ao ?_|refine bd ?_|refine gO ?_|refine aL ?_|refine dC ?_|refine dE ?_|refine aq ?_)|refine al ?_|refine ab ?_|refine aa fun C=>?_|refine ae ?_|refine ah ?_|refine ai ?_)
    refine aj (by rfl) (fun hc=>by rw [hb4] at hc;cases hc) fun hc=>?_
    repeat' (first|(apply ay;refine be 11 cB ?_ (hl:=cW (by rfl) (bK _)))|(apply ay;first|refine ao ?_|refine ak ?_|refine bd ?_|refine gO ?_|refine aL ?_|refine dC ?_|refine dE ?_|refine aD ?_)|refine al ?_|refine ab ?_|refine aa fun C=>?_|refine ai ?_)
    refine⟨M-1,j+1,omq,omq,?_⟩
    refine aC _ _ rfl rfl ?_ (RwOk.cons ?_ (RwOk.cons (aK rfl (bK _)) RwOk.nil))
    ·(repeat' (first|exact TmOk.nil|exact RwOk.nil|refine TmOk.cons ?_ ?_|refine RwOk.cons ?_ ?_|rfl|(refine rnV_id' rfl ?_;exact byc)|(refine bv ?_;first|rfl|omega|(rw [aW omq omq];omega))|(refine aK rfl ?_;exact byc)|exact cb rfl rfl|(refine rw_mid (by rfl) (by rfl) ?_ ?_<;>exact byc)|(refine rw_rn' rfl rfl ?_;simp;done)))
    ·refine aK rfl ?_;simp [bf,clo,aH]
  ·have hj':¬j<rs.length:=by simpa using hj1
   obtain rfl:j=rs.length:=by omega
   repeat' (first|(apply ay;first|refine ao ?_|refine ak ?_)|refine al ?_|refine ab ?_|refine aa fun C=>?_|refine ae ?_|refine au ?_)
   refine am ?_
   exact⟨.inr rfl,11,rfl,rfl⟩
theorem zG {rs fs:List E}(h:eX rs fs=true):(l0 rs fs).foldl kS (kU,[])=(wF rs fs,rexL rs fs):=by
 refine Prod.ext ?_ ?_
 ·rw [oN];exact ze4 h
 ·rw [oO];rfl
theorem wq {rs fs:List E}(hp:PrgOk rs fs)(h:eX rs fs=true):TyL 36 3 (wF rs fs)∧(wF rs fs).length≤1048580:=by
 have hxl:=mZ rs fs
 have hpz:=hp.z
 have hK:KOk 0 ((l0 rs fs).foldl kS (kU,[])):=KOk.fold _ (rr hp) (show KOk _ _ from ⟨qh,TyL.nil,by show 3+_≤_;omega,by show 0+_≤_;omega⟩)
 rw [zG h] at hK
 exact⟨hK.1,hK.2.2.1⟩
theorem lC {e:E}(he:e.Ty prog 27)(hz:e.sz≤1048576):Ctr prog 16 [.ag (acE e)] [] (.c (.ow 36 (wm e).length 3 (owL (wm e)))) []:=by
 have cp:=oy he hz
 obtain⟨rA,rc,rs,fA,fc,fs,rfl,hp⟩:=v6 he hz
 rw [show wm (.agg [.lst 6 87 rA rc rs,.lst 3 89 fA fc fs])=if eX rs fs=true then wF rs fs else [] from rfl]
 replace cp:Ctr prog 21 [.ag [.ro rs.length 6 (acL rs),.ro fs.length 3 (acL fs)]] [] (.c (.v (.bool (eX rs fs)))) []:=cp
 show Ctr _ _ [.ag [.ro rs.length 6 (acL rs),.ro fs.length 3 (acL fs)]] _ _ _
 cases hb:eX rs fs with
 | false =>
  rw [hb] at cp
  rw [if_neg (by simp)]
  refine av func16 rfl rfl ?_
  repeat' (first|(apply ay;first|refine ak ?_|refine bu ?_|refine aI cp ?_|refine bF ?_|refine bL ?_|refine gh ?_)|refine al ?_|refine ab ?_|refine aa fun C=>?_|refine ae ?_|refine az rfl ?_)
  refine am ?_;refine bi rfl (nK (bZ rfl rfl rfl cls0 bj)) ⟨?_,rfl⟩
  rfl
 | true =>
  rw [hb] at cp
  rw [if_pos rfl]
  have cN:=fun w St φ K u gl hv=>sQ hp w St φ K u gl hv
  rw [zG hb] at cN
  unfold jV at cN
  dsimp only at cN
  refine av func16 rfl rfl ?_
  repeat' (first|(apply ay;first|refine ak ?_|refine bu ?_|refine aI cp ?_|refine bF ?_|refine bL ?_)|refine al ?_|refine ab ?_|refine aa fun C=>?_|refine ae ?_)
  refine aE rfl ?_
  refine ai ?_
  refine ae ?_
  refine oM [0,1] [2,3,4,5] rfl fun C=>?_
  repeat' (first|(apply ay;refine zn4 (by kernel_rfl) cN ?_)|(apply ay;first|(apply f_as;first|refine ak ?_|refine aS ?_)|refine bd ?_|refine gO ?_|refine bI ?_|refine bu ?_|refine n_ld ?_|(apply f_no;first|refine bF ?_|refine aS ?_)|refine bL ?_|refine gh ?_|refine aS ?_)|refine al ?_|refine ab ?_)
  refine wn (gW 900 (i:=8) rfl rfl (pre:=[]) (post:=[_]) rfl) (by decide) ?_
  repeat' (first|(apply ay;first|refine ak ?_|refine bd ?_|refine aS ?_)|refine al ?_|refine ab ?_)
  refine am ?_;refine bi rfl (nK (bZ rfl rfl rfl cls0 bj)) ⟨?_,rfl⟩
  rfl
theorem rt {step:List E→E→List E}{q:E→Prop}:∀(L:List E) (s:List E),(∀s,∀e∈L,(∀x∈s,q x)→∀x∈step s e,q x)→(∀x∈s,q x)→∀x∈L.foldl step s,q x
 | [],_,_,h=>h
 | e :: r,s,hs,h=>rt r (step s e) (fun s e he=>hs s e (List.mem_cons_of_mem _ he)) (hs s e List.mem_cons_self h)
theorem zr2 {l:List E}{B:Nat}(h:∀x∈l,x.sz≤B):E.szL l≤l.length*B:=by
 induction l with
 | nil=>exact Nat.zero_le _
 | cons x r ih =>
  have h1:=h x List.mem_cons_self
  have h2:=ih fun y hy=>h y (List.mem_cons_of_mem _ hy)
  rw [E.szL,List.length_cons,Nat.succ_mul]
  omega
theorem wu {e:E}(h:jF e=true)(hk:eQ e=2∨eQ e=10∨eQ e=18):(zB e).size≤200:=by
 unfold jF at h
 split at h
 ·rename_i k _ n s _ _ _ _ l
  have hk:k=2∨k=10∨k=18:=hk
  show s.size≤200
  rcases hk with rfl|rfl|rfl
  ·rw [fY,if_neg (by decide),Bool.and_eq_true,if_pos rfl,Bool.and_eq_true] at h
   have:=h.2.1
   unfold gY at this
   simp only [Bool.and_eq_true,decide_eq_true_iff] at this
   exact this.1
  ·rw [fY,if_neg (by decide),Bool.and_eq_true,if_neg (by decide),if_neg (by decide),if_neg (by decide),if_neg (by decide),if_neg (by decide),if_pos rfl,Bool.and_eq_true] at h
   have:=h.2.2
   unfold oS at this
   simp only [Bool.and_eq_true,decide_eq_true_iff] at this
   exact this.2
  ·rw [fY,if_neg (by decide),Bool.and_eq_true,if_neg (by decide),if_neg (by decide),if_neg (by decide),if_neg (by decide),if_neg (by decide),if_neg (by decide),if_pos rfl,Bool.and_eq_true] at h
   have:=h.2.2
   unfold oS at this
   simp only [Bool.and_eq_true,decide_eq_true_iff] at this
   exact this.2
 ·cases h
theorem zs2 {rs fs:List E}(h:eX rs fs=true):∀x∈wF rs fs,x.sz≤200:=by
 have hh:=vO h
 refine rt _ _ (fun s e he hs x hx=>?_) fun x hx=>?_
 ·unfold iK at hx
  split at hx
  ·unfold l4 at hx
   split at hx
   ·exact hs x hx
   ·rcases List.mem_append.1 hx with hx|hx
    ·exact hs x hx
    ·rw [List.mem_singleton] at hx;subst hx
     simp only [yv,E.sz,E.szL];decide
  ·split at hx
   ·rename_i h2
    have:=wu (hh e he) (.inl h2)
    unfold l4 at hx
    split at hx
    ·exact hs x hx
    ·rcases List.mem_append.1 hx with hx|hx
     ·exact hs x hx
     ·rw [List.mem_singleton] at hx;subst hx
      simp only [yv,E.sz,E.szL];omega
   ·exact hs x hx
 ·simp only [kU,List.mem_cons,List.not_mem_nil,or_false] at hx
  rcases hx with rfl|rfl|rfl<;>(simp only [yv,E.sz,E.szL];decide)
theorem ru {e:E}(he:e.Ty prog 27)(hz:e.sz≤1048576):TyL 36 3 (wm e)∧(wm e).length≤1048580∧∀x∈wm e,x.sz≤200:=by
 obtain⟨rA,rc,rs,fA,fc,fs,rfl,hp⟩:=v6 he hz
 rw [show wm (.agg [.lst 6 87 rA rc rs,.lst 3 89 fA fc fs])=if eX rs fs=true then wF rs fs else [] from rfl]
 split
 ·rename_i hb
  exact⟨(wq hp hb).1,(wq hp hb).2,zs2 hb⟩
 ·exact⟨TyL.nil,Nat.zero_le _,fun x hx=>absurd hx List.not_mem_nil⟩
def yJ (e:E):E:=.lst 3 36 none 0 (wm e)
theorem zt2 {e:E}(he:e.Ty prog 27)(hz:e.sz≤1048576):(yJ e).Ty prog 29:=by
 obtain⟨h,-⟩:=ru he hz
 exact E.Ty.mk_lst underlying29 (by kernel_rfl) h.1 h.2
theorem zu2 {e:E}(he:e.Ty prog 27)(hz:e.sz≤1048576):(yJ e).sz≤1073741824:=by
 obtain⟨-,h1,h2⟩:=ru he hz
 have:=zr2 h2
 unfold yJ
 simp only [E.sz];omega
noncomputable def wv (p:E):E:=ug (fun q:E=>(q.Ty prog 27∧q.d=p)) (fun q=>(yJ q).d) p
noncomputable def dX (p:E):E:=(wv p)
theorem oP {f:FuncId}(hf:∀{p:E} (_:p.Ty prog 27) (_:p.sz≤1048576),Ctr prog f [avI p] [] (avO (yJ p)) []){p:E}(hp:p.Ty prog 27)(w:World)(ip:p.In w)(zp:p.sz≤1048576) :
 Calls prog f #[p.val] w fun r w'=>∃x:E,r=.returned (x.val)∧x.d=dX p.d∧x.Ty prog 29∧x.Ho w' w.heap.size w'.heap.size∧x.fp.Nodup∧Below w.heap.size w w':=by
 obtain⟨q,hq,hl⟩:=xe (R:=fun q:E=>(q.Ty prog 27∧q.d=p.d)) (f:=fun q=>(yJ q).d) (z:=p.d) (a:=p) ⟨hp,rfl⟩
 obtain⟨tp,dp⟩:=hq
 try dsimp only at hl tp dp
 have hc:=hf tp (by rw [←E.sz_d,dp,E.sz_d];exact zp)
 rw [xf tp hp dp] at hc
 have hP:wv p.d=(yJ q).d:=hl
 have hr0:dX p.d=(yJ q).d:=by unfold dX;rw [hP]
 rw [hr0]
 exact z6 (t:=29) (D:=yJ q) hc (zt2 tp (by rw [←E.sz_d,dp,E.sz_d];exact zp)) (us:=[p.val]) (VRL_cons (zg3 hp ip) VRL_nil)
theorem kY {p:E}(zp:p.sz≤1048576) :(dX p).sz≤1073741824:=by
 unfold dX wv
 refine rK (fun r:E=>(r).sz≤1073741824) (fun q hq=>?_) (by show E.sz p≤_;omega)
 show E.sz (E.d _)≤_
 rw [E.sz_d]
 obtain⟨tp,dp⟩:=hq
 exact zu2 tp (by rw [←E.sz_d,dp];exact zp)
theorem lD {p:E}(hp:p.Ty prog 27)(w:World)(ip:p.In w)(zp:p.sz≤1048576) :
 Calls prog 16 #[p.val] w fun r w'=>∃x:E,r=.returned (x.val)∧Hid (x.d=dX p.d)∧x.Ty prog 29∧x.Re w' w.heap.size w'.heap.size∧Below w.heap.size w w' :=
 (oP (f:=16) (fun hp zp=>by have hcc:=lC hp zp;obtain⟨pF,rfl,-⟩:=hp.agg_ underlying27;exact hcc) hp w ip zp).mono fun _ _ ⟨x,h1,h2,h3,h4,h5,h6⟩=>⟨x,h1,h2,h3,h4.re,h6⟩
theorem gS {p:E}(hp:p.Ty prog 27)(w:World)(ip:p.In w)(zp:p.sz≤1048576) :
 Calls prog 13 #[p.val] w fun r w'=>∃x:E,r=.returned (x.val)∧Hid (x.d=dX p.d)∧x.Ty prog 29∧x.Ho w' w.heap.size w'.heap.size∧x.fp.Nodup∧Below w.heap.size w w' :=
 (oP (f:=13) (fun hp zp=>by have hcc:=lB hp zp;obtain⟨pF,rfl,-⟩:=hp.agg_ underlying27;exact hcc) hp w ip zp).mono fun _ _ ⟨x,h1,h2,h3,h4,h5,h6⟩=>⟨x,h1,h2,h3,h4,h5,h6⟩
end Go.Proofs.YtmnneflenebgmaaGreat
