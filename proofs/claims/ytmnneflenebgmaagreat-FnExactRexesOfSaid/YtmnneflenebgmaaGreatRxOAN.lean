/- T -/
import Derived.Test.YtmnneflenebgmaaGreatRxOAM
set_option maxHeartbeats 0
set_option maxRecDepth 100000
namespace Go.Proofs.YtmnneflenebgmaaGreat
open Go.RowKit Go.Proofs.Tryz
theorem wd (p:KP):dk (jU p)=true:=by simp [jU,dk,j5,db]
theorem q9 {rs fs:List E}(h:PrgOk rs fs):∀y∈lT rs fs,y.Ty prog 70:=fun y hy=>(v6 h y hy).1
theorem oG:∀(l:List E) (p:KP),(l.foldl kS p).1=l.foldl mV p.1
 | [],p=>rfl
 | x :: r,p=>by rw [List.foldl_cons,List.foldl_cons,oG r];rfl
theorem oH:∀(l:List E) (p:KP),(l.foldl kS p).2=l.foldl gQ p.2
 | [],p=>rfl
 | x :: r,p=>by rw [List.foldl_cons,List.foldl_cons,oH r];rfl
theorem sF {rs fs:List E}(hp:PrgOk rs fs)(w:World)(St:Nat→Prop)(φ:Nat→Lc)(K:Nat→Prop)(u:Value)(gl:GlobOk w)(hv:VR w St φ K (.ag [.ro rs.length 6 (acL rs),.ro fs.length 3 (acL fs)]) u) :
 Calls prog 54 #[u] w fun e w'=>∃b lo vs fs',e=.returned (.pointer (some ⟨b,lo,none⟩))∧NewA w w' 75 (jU ((lT rs fs).foldl kS (lU,[]))) b lo vs fs':=by
 have hpz:=hp.z
 have hfk:=hp.fk
 have hrk:=hp.rk
 have hxl:=mS rs fs
 have hty:=q9 hp
 have hK0:KOk (lT rs fs).length (lU,[]):=⟨wa,TyL.nil,by show 3+_≤_;omega,by show 0+_≤_;omega⟩
 have hpo:∀x∈jy rs fs,x.Ok:=pY hp
 have c0:Ctr prog 107 [.c (.v (.int .i64 0))] [] (.ag [.v (.int .i64 1),.v (.int .i64 0),.v (.string ⟨#[]⟩)]) []:=pR (n:=0) (by unfold I64;omega)
 have c1:Ctr prog 107 [.c (.v (.int .i64 1))] [] (.ag [.v (.int .i64 1),.v (.int .i64 1),.v (.string ⟨#[]⟩)]) []:=pR (n:=1) (by unfold I64;omega)
 unfold lT at hK0 hty ⊢
 rw [List.length_append] at hK0
 rw [List.foldl_append]
 have hK1:KOk (rs.flatMap ruX).length ((fs.flatMap fnX).foldl kS (lU,[])):=KOk.fold _ (fun y hy=>hty y (List.mem_append_left _ hy)) hK0
 have hKf:KOk (fs.flatMap fnX).length (lU,[]):=hK0.le omq
 have htf:∀y∈fs.flatMap fnX,y.Ty prog 70:=fun y hy=>hty y (List.mem_append_left _ hy)
 have htr:∀y∈rs.flatMap ruX,y.Ty prog 70:=fun y hy=>hty y (List.mem_append_right _ hy)
 obtain⟨p1,e1⟩:∃p1,(fs.flatMap fnX).foldl kS (lU,[])=p1:=⟨_,rfl⟩
 have eu:upto kS fnX fs (lU,[]) fs.length=p1:=by rw [eh,e1]
 rw [e1] at hK1 ⊢
 rw [←eh]
 refine sE func54 rfl rfl (bI _) (wd _) ?_ hv (by simp [ba,clo,aG]) gl
 clear hv gl hty hK0
 repeat' (first|(apply ay;first|refine ak ?_|refine nJ c0 ?_|refine nJ c1 ?_|refine bN ?_|refine gG ?_|refine aU ?_)|refine al ?_|refine ab ?_|refine aa fun C=>?_|refine ae ?_|refine ah ?_)
 refine aP (fun k:Nat=>⟨dy [(1,.c (.pt 1 0)),(3,.c (.pt 11 0)),(4,.c (.v (.int .i64 k)))],dn [(1,1,⟨27,0,0,true,[.ro rs.length 6 (acL rs),.ro fs.length 3 (acL fs)]⟩),(11,11,⟨75,0,0,true,jU (upto kS fnX fs (lU,[]) k)⟩)],0,[1,11],58⟩)
  (fun N k=>k+N=fs.length) fs.length 0 omq ?_ ?_
 ·refine (dY (i:=11) (j:=9) rfl rfl rfl (pre:=[]) (post:=[_]) rfl).trans ?_
  refine (dR 990 (i:=11) 9 1 rfl rfl (pre:=[_]) (post:=[]) rfl).trans ?_
  refine (dY (i:=11) (j:=990) rfl rfl rfl (pre:=[_]) (post:=[]) rfl).trans ?_
  refine aD _ _ rfl rfl ?_ (RwOk.cons ?_ (RwOk.cons (aJ rfl (bI (lU,[]))) RwOk.nil))
  ·(repeat' (first|exact TmOk.nil|exact RwOk.nil|refine TmOk.cons ?_ ?_|refine RwOk.cons ?_ ?_|rfl|(refine rnV_id' rfl ?_;exact byc)|(refine bu ?_;first|rfl|omega|(rw [aW omq omq];omega))|(refine aJ rfl ?_;exact byc)|exact cb rfl rfl|(refine rw_mid (by rfl) (by rfl) ?_ ?_<;>exact byc)|(refine rw_rn' rfl rfl ?_;simp;done)))
  ·refine aJ rfl ?_;simp [ba,clo,aG]
 rintro N k hN
 try dsimp only
 repeat' (first|(apply ay;first|refine ao ?_|refine be ?_|refine aL ?_|refine aY ?_|refine aN ?_)|refine al ?_|refine ab ?_|refine aa fun C=>?_|refine ae ?_)
 refine aj (by rfl) (fun hk1=>?_) fun hk1=>?_
 ·have hk':k<fs.length:=by simpa using hk1
  obtain⟨x,hx⟩:∃x,fs[k]? = some x:=⟨_,List.getElem?_eq_getElem hk'⟩
  have hxm:=List.mem_of_getElem? hx
  have hxt:=hp.f x hxm
  have hpx:=hpo (fnP x) (List.mem_append_left _ (List.mem_map.2 ⟨x,hxm,rfl⟩))
  have hkx:=hKf.upto hx htf
  have hsu:upto kS fnX fs (lU,[]) (k+1)=(fnX x).foldl kS (upto kS fnX fs (lU,[]) k):=dF hx
  obtain⟨x0,x1A,x1c,x1l,x2A,x2c,body,rfl,-⟩:=bM hxt
  have cB:=fx (body.length+E.szL body+1) body hpx.l hpx.lk omq (by have:=hpx.lz;show body.length+E.szL body+1≤_;have h9:body.length+E.szL body≤1048576:=this;omega) (upto kS fnX fs (lU,[]) k) hkx
  replace cB:Ctr prog 108 [.c (.pt 0 0),.c (.ro body.length 6 (acL body))] [jU (upto kS fnX fs (lU,[]) k)] (.tu []) [jU (upto kS fnX fs (lU,[]) (k+1))]:=by rw [hsu];exact cB
  repeat' (first|(apply ay;refine bd 11 cB ?_ (hl:=cV (by rfl) (bI _)))|(apply ay;first|refine ao ?_|refine ak ?_|refine be ?_|refine gO ?_|refine aL ?_|refine de ?_|refine dD ?_|refine aC ?_)|refine al ?_|refine ab ?_|refine aa fun C=>?_|refine ae ?_|refine ah ?_|refine ai ?_)
  refine⟨N-1,k+1,omq,omq,?_⟩
  refine aD _ _ rfl rfl ?_ (RwOk.cons ?_ (RwOk.cons (aJ rfl (bI _)) RwOk.nil))
  ·(repeat' (first|exact TmOk.nil|exact RwOk.nil|refine TmOk.cons ?_ ?_|refine RwOk.cons ?_ ?_|rfl|(refine rnV_id' rfl ?_;exact byc)|(refine bu ?_;first|rfl|omega|(rw [aW omq omq];omega))|(refine aJ rfl ?_;exact byc)|exact cb rfl rfl|(refine rw_mid (by rfl) (by rfl) ?_ ?_<;>exact byc)|(refine rw_rn' rfl rfl ?_;simp;done)))
  ·refine aJ rfl ?_;simp [ba,clo,aG]
 ·have hk':¬k<fs.length:=by simpa using hk1
  obtain rfl:k=fs.length:=by omega
  rw [eu]
  repeat' (first|(apply ay;refine ak ?_)|refine al ?_|refine ab ?_|refine aa fun C=>?_|refine ae ?_|refine ah ?_|refine au ?_)
  refine aP (fun k:Nat=>⟨dy [(1,.c (.pt 1 0)),(3,.c (.pt 11 0)),(5,.c (.v (.int .i64 k)))],dn [(1,1,⟨27,0,0,true,[.ro rs.length 6 (acL rs),.ro fs.length 3 (acL fs)]⟩),(11,11,⟨75,0,0,true,jU (upto kS ruX rs p1 k)⟩)],0,[1,11],58⟩)
   (fun N k=>k+N=rs.length) rs.length 0 omq ?_ ?_
  ·refine aD _ _ rfl rfl ?_ (RwOk.cons ?_ (RwOk.cons (aJ rfl (bI _)) RwOk.nil))
   ·(repeat' (first|exact TmOk.nil|exact RwOk.nil|refine TmOk.cons ?_ ?_|refine RwOk.cons ?_ ?_|rfl|(refine rnV_id' rfl ?_;exact byc)|(refine bu ?_;first|rfl|omega|(rw [aW omq omq];omega))|(refine aJ rfl ?_;exact byc)|exact cb rfl rfl|(refine rw_mid (by rfl) (by rfl) ?_ ?_<;>exact byc)|(refine rw_rn' rfl rfl ?_;simp;done)))
   ·refine aJ rfl ?_;simp [ba,clo,aG]
  rintro M j hM
  try dsimp only
  repeat' (first|(apply ay;first|refine ao ?_|refine be ?_|refine aL ?_|refine aY ?_|refine aN ?_)|refine al ?_|refine ab ?_|refine aa fun C=>?_|refine ae ?_)
  refine aj (by rfl) (fun hj1=>?_) fun hj1=>?_
  ·have hj':j<rs.length:=by simpa using hj1
   obtain⟨x,hx⟩:∃x,rs[j]? = some x:=⟨_,List.getElem?_eq_getElem hj'⟩
   have hxm:=List.mem_of_getElem? hx
   have hxt:=hp.r x hxm
   have hpx:=hpo (ruP x) (List.mem_append_right _ (List.mem_map.2 ⟨x,hxm,rfl⟩))
   have hkx:=hK1.upto hx htr
   have htx:∀y∈ruX x,y.Ty prog 70:=fun y hy=>htr y (List.mem_flatMap.2 ⟨x,hxm,hy⟩)
   have hsu:upto kS ruX rs p1 (j+1)=(ruX x).foldl kS (upto kS ruX rs p1 j):=dF hx
   obtain⟨x0,x1,x2,x3,x4A,x4c,x4l,x5A,x5c,body,rfl,-⟩:=bH hxt
   have hlz:body.length+E.szL body≤1048576:=hpx.lz
   have hbl:∀e∈body,e.Ty prog 106:=hpx.l
   have hbk:∀e∈body,e.enc.length=6:=hpx.lk
   obtain⟨p2,e2⟩:∃p2,upto kS ruX rs p1 j=p2:=⟨_,rfl⟩
   rw [e2] at hkx hsu ⊢
   by_cases h4:x0=4
   ·subst h4
    have hru:ruX (.agg [.int .i64 4,(.agg [.int .i64 x1,.int .i64 x2,.str x3,.lst 4 70 x4A x4c x4l]),.lst 6 106 x5A x5c body])=ew (.agg [.int .i64 x1,.int .i64 x2,.str x3,.lst 4 70 x4A x4c x4l])++kU body:=by
     unfold ruX
     dsimp only
     rw [if_pos rfl]
    have hPt:(E.agg [.int .i64 x1,.int .i64 x2,.str x3,.lst 4 70 x4A x4c x4l]).Ty prog 70:=hpx.wh _ List.mem_cons_self
    have hPz:(E.agg [.int .i64 x1,.int .i64 x2,.str x3,.lst 4 70 x4A x4c x4l]).sz≤1048576:=hpx.wz _ List.mem_cons_self
    rw [hru] at hkx hsu htx
    rw [List.length_append] at hkx
    rw [List.foldl_append] at hsu
    have cE:=kR ((E.agg [.int .i64 x1,.int .i64 x2,.str x3,.lst 4 70 x4A x4c x4l]).sz+1) _ hPt omq omq p2 (hkx.le omq)
    have hk3:KOk (kU body).length ((ew (.agg [.int .i64 x1,.int .i64 x2,.str x3,.lst 4 70 x4A x4c x4l])).foldl kS p2):=KOk.fold _ (fun y hy=>htx y (List.mem_append_left _ hy)) hkx
    obtain⟨p3,e3⟩:∃p3,(ew (.agg [.int .i64 x1,.int .i64 x2,.str x3,.lst 4 70 x4A x4c x4l])).foldl kS p2=p3:=⟨_,rfl⟩
    rw [e3] at hk3 hsu cE
    have cB:=fx (body.length+E.szL body+1) body hbl hbk omq omq p3 hk3
    rw [←hsu] at cB
    repeat' (first|(apply ay;refine bd 11 cE ?_ (hl:=cV (by rfl) (bI _)))|(apply ay;refine bd 11 cB ?_ (hl:=cV (by rfl) (bI _)))|(apply ay;first|refine ao ?_|refine ak ?_|refine be ?_|refine gO ?_|refine aL ?_|refine de ?_|refine dD ?_|refine aq ?_|refine aC ?_|refine aU ?_)|refine al ?_|refine ab ?_|refine aa fun C=>?_|refine ae ?_|refine ah ?_|refine ai ?_|refine az rfl ?_)
    refine⟨M-1,j+1,omq,omq,?_⟩
    refine aD _ _ rfl rfl ?_ (RwOk.cons ?_ (RwOk.cons (aJ rfl (bI _)) RwOk.nil))
    ·(repeat' (first|exact TmOk.nil|exact RwOk.nil|refine TmOk.cons ?_ ?_|refine RwOk.cons ?_ ?_|rfl|(refine rnV_id' rfl ?_;exact byc)|(refine bu ?_;first|rfl|omega|(rw [aW omq omq];omega))|(refine aJ rfl ?_;exact byc)|exact cb rfl rfl|(refine rw_mid (by rfl) (by rfl) ?_ ?_<;>exact byc)|(refine rw_rn' rfl rfl ?_;simp;done)))
    ·refine aJ rfl ?_;simp [ba,clo,aG]
   ·have hb4:(x0==4)=false:=by simpa using h4
    have hru:ruX (.agg [.int .i64 x0,(.agg [.int .i64 x1,.int .i64 x2,.str x3,.lst 4 70 x4A x4c x4l]),.lst 6 106 x5A x5c body])=kU body:=by
     unfold ruX
     dsimp only
     rw [if_neg h4];rfl
    rw [hru] at hkx hsu
    have cB:=fx (body.length+E.szL body+1) body hbl hbk omq omq p2 hkx
    rw [←hsu] at cB
    repeat' (first|(apply ay;first|refine ao ?_|refine be ?_|refine gO ?_|refine aL ?_|refine de ?_|refine dD ?_|refine aq ?_)|refine al ?_|refine ab ?_|refine aa fun C=>?_|refine ae ?_|refine ah ?_|refine ai ?_)
    refine aj (by rfl) (fun hc=>by rw [hb4] at hc;cases hc) fun hc=>?_
    repeat' (first|(apply ay;refine bd 11 cB ?_ (hl:=cV (by rfl) (bI _)))|(apply ay;first|refine ao ?_|refine ak ?_|refine be ?_|refine gO ?_|refine aL ?_|refine de ?_|refine dD ?_|refine aC ?_)|refine al ?_|refine ab ?_|refine aa fun C=>?_|refine ai ?_)
    refine⟨M-1,j+1,omq,omq,?_⟩
    refine aD _ _ rfl rfl ?_ (RwOk.cons ?_ (RwOk.cons (aJ rfl (bI _)) RwOk.nil))
    ·(repeat' (first|exact TmOk.nil|exact RwOk.nil|refine TmOk.cons ?_ ?_|refine RwOk.cons ?_ ?_|rfl|(refine rnV_id' rfl ?_;exact byc)|(refine bu ?_;first|rfl|omega|(rw [aW omq omq];omega))|(refine aJ rfl ?_;exact byc)|exact cb rfl rfl|(refine rw_mid (by rfl) (by rfl) ?_ ?_<;>exact byc)|(refine rw_rn' rfl rfl ?_;simp;done)))
    ·refine aJ rfl ?_;simp [ba,clo,aG]
  ·have hj':¬j<rs.length:=by simpa using hj1
   obtain rfl:j=rs.length:=by omega
   repeat' (first|(apply ay;first|refine ao ?_|refine ak ?_)|refine al ?_|refine ab ?_|refine aa fun C=>?_|refine ae ?_|refine au ?_)
   refine am ?_
   exact⟨.inr rfl,11,rfl,rfl⟩
theorem zn2 (T:TypeId)(n k:Nat)(l:List E):fzL [.ow T n k (owL l)]=[.ro n k (acL l)]:=by simp only [fzL,fzC,mq]
theorem zk4 {l:List E}(h:TyL 9 1 l):acL l=owL l:=by
 have h1:=h.1
 clear h
 induction l with
 | nil=>rfl
 | cons x r ih =>
  obtain⟨b,rfl,-⟩:=(h1 x List.mem_cons_self).str_ underlying9
  rw [acL,owL,ih fun y hy=>h1 y (List.mem_cons_of_mem _ hy)]
  rfl
theorem zvQ {rs fs:List E}(h:eW rs fs=true):(lT rs fs).foldl kS (lU,[])=(conL rs fs,ym rs fs):=by
 refine Prod.ext ?_ ?_
 ·rw [oG];exact zb4 h
 ·rw [oH];rfl
theorem p7 {rs fs:List E}(hp:PrgOk rs fs)(h:eW rs fs=true):TyL 9 1 (ym rs fs)∧(ym rs fs).length≤1048580:=by
 have hxl:=mS rs fs
 have hpz:=hp.z
 have hK:KOk 0 ((lT rs fs).foldl kS (lU,[])):=KOk.fold _ (q9 hp) (show KOk _ _ from ⟨wa,TyL.nil,by show 3+_≤_;omega,by show 0+_≤_;omega⟩)
 rw [zvQ h] at hK
 exact⟨hK.2.1,hK.2.2.2⟩
theorem m5 {e:E}(he:e.Ty prog 27)(hz:e.sz≤1048576):Ctr prog 18 [.ag (acE e)] [] (.c (.ow 9 (v7 e).length 1 (owL (v7 e)))) []:=by
 have cp:=oq he hz
 obtain⟨rA,rc,rs,fA,fc,fs,rfl,hp⟩:=vS he hz
 rw [show v7 (.agg [.lst 6 87 rA rc rs,.lst 3 89 fA fc fs])=if eW rs fs=true then ym rs fs else [] from rfl]
 replace cp:Ctr prog 21 [.ag [.ro rs.length 6 (acL rs),.ro fs.length 3 (acL fs)]] [] (.c (.v (.bool (eW rs fs)))) []:=cp
 show Ctr _ _ [.ag [.ro rs.length 6 (acL rs),.ro fs.length 3 (acL fs)]] _ _ _
 cases hb:eW rs fs with
 | false =>
  rw [hb] at cp
  rw [if_neg (by simp)]
  refine av func18 rfl rfl ?_
  repeat' (first|(apply ay;first|refine ak ?_|refine bz ?_|refine aI cp ?_|refine bF ?_|refine bN ?_|refine gG ?_)|refine al ?_|refine ab ?_|refine aa fun C=>?_|refine ae ?_|refine az rfl ?_)
  refine am ?_;refine bi rfl (nE (bZ rfl rfl rfl cls0 bq)) ⟨?_,rfl⟩
  rfl
 | true =>
  rw [hb] at cp
  rw [if_pos rfl]
  have cN:=fun w St φ K u gl hv=>sF hp w St φ K u gl hv
  obtain⟨hrt,hrl⟩:=p7 hp hb
  rw [zvQ hb] at cN
  unfold jU at cN
  dsimp only at cN
  rw [←zk4 hrt]
  refine av func18 rfl rfl ?_
  repeat' (first|(apply ay;first|refine ak ?_|refine bz ?_|refine aI cp ?_|refine bF ?_|refine bN ?_)|refine al ?_|refine ab ?_|refine aa fun C=>?_|refine ae ?_)
  refine aF rfl ?_
  refine ai ?_
  refine ae ?_
  refine oF [0,1,2] [3,4,5,6,7] rfl fun C=>?_
  repeat' (first|(apply ay;refine zi4 (by kernel_rfl) cN ?_)|(apply ay;first|(apply f_as;first|refine ak ?_|refine aU ?_)|refine be ?_|refine gO ?_|refine aL ?_|refine de ?_|refine bG ?_|refine bz ?_|refine n_ld ?_|(apply f_bi;first|refine iU ?_|refine iU (hnu:=bytC_noUn _) ?_|refine n_app0 ?_|refine n_app0 (hnu:=bytC_noUn _) ?_|refine aU ?_)|(apply f_no;first|refine bF ?_|refine aU ?_)|refine bN ?_|refine gG ?_|refine aU ?_)|refine al ?_|refine ab ?_)
  refine wb (g_frz (i:=9) rfl (pre:=[_]) (post:=[]) rfl (zn2 _ _ _ _) rfl) (by decide) ?_
  repeat' (first|(apply ay;first|refine ak ?_|refine be ?_|refine aL ?_|refine iU ?_|refine aU ?_)|refine al ?_|refine ab ?_)
  refine am ?_;refine bi rfl (nE (bZ rfl rfl rfl cls0 bq)) ⟨?_,rfl⟩
  rfl
theorem rf {step:List E→E→List E}{q:E→Prop}:∀(L:List E) (s:List E),(∀s,∀e∈L,(∀x∈s,q x)→∀x∈step s e,q x)→(∀x∈s,q x)→∀x∈L.foldl step s,q x
 | [],_,_,h=>h
 | e :: r,s,hs,h=>rf r (step s e) (fun s e he=>hs s e (List.mem_cons_of_mem _ he)) (hs s e List.mem_cons_self h)
theorem zo2 {l:List E}{B:Nat}(h:∀x∈l,x.sz≤B):E.szL l≤l.length*B:=by
 induction l with
 | nil=>exact Nat.zero_le _
 | cons x r ih =>
  have h1:=h x List.mem_cons_self
  have h2:=ih fun y hy=>h y (List.mem_cons_of_mem _ hy)
  rw [E.szL,List.length_cons,Nat.succ_mul]
  omega
theorem we {e:E}(h:jF e=true)(hk:eP e=2∨eP e=10∨eP e=18):(zqQ e).size≤200:=by
 unfold jF at h
 split at h
 ·rename_i k _ n s _ _ _ _ l
  have hk:k=2∨k=10∨k=18:=hk
  show s.size≤200
  rcases hk with rfl|rfl|rfl
  ·rw [fW,if_neg (by decide),Bool.and_eq_true,if_pos rfl,Bool.and_eq_true] at h
   have:=h.2.1
   unfold gW at this
   simp only [Bool.and_eq_true,decide_eq_true_iff] at this
   exact this.1
  ·rw [fW,if_neg (by decide),Bool.and_eq_true,if_neg (by decide),if_neg (by decide),if_neg (by decide),if_neg (by decide),if_neg (by decide),if_pos rfl,Bool.and_eq_true] at h
   have:=h.2.2
   unfold oL at this
   simp only [Bool.and_eq_true,decide_eq_true_iff] at this
   exact this.2
  ·rw [fW,if_neg (by decide),Bool.and_eq_true,if_neg (by decide),if_neg (by decide),if_neg (by decide),if_neg (by decide),if_neg (by decide),if_neg (by decide),if_pos rfl,Bool.and_eq_true] at h
   have:=h.2.2
   unfold oL at this
   simp only [Bool.and_eq_true,decide_eq_true_iff] at this
   exact this.2
 ·cases h
theorem zp2 {rs fs:List E}(h:eW rs fs=true):∀x∈ym rs fs,x.sz≤200:=by
 have hh:=vG h
 refine rf _ _ (fun s e he hs x hx=>?_) fun x hx=>absurd hx List.not_mem_nil
 unfold gQ at hx
 split at hx
 ·rename_i h2
  have:=we (hh e he) (.inr h2)
  split at hx
  ·exact hs x hx
  ·rcases List.mem_append.1 hx with hx|hx
   ·exact hs x hx
   ·rw [List.mem_singleton] at hx;subst hx
    simp only [E.sz];exact this
 ·exact hs x hx
theorem rg {e:E}(he:e.Ty prog 27)(hz:e.sz≤1048576):TyL 9 1 (v7 e)∧(v7 e).length≤1048580∧∀x∈v7 e,x.sz≤200:=by
 obtain⟨rA,rc,rs,fA,fc,fs,rfl,hp⟩:=vS he hz
 rw [show v7 (.agg [.lst 6 87 rA rc rs,.lst 3 89 fA fc fs])=if eW rs fs=true then ym rs fs else [] from rfl]
 split
 ·rename_i hb
  exact⟨(p7 hp hb).1,(p7 hp hb).2,zp2 hb⟩
 ·exact⟨TyL.nil,Nat.zero_le _,fun x hx=>absurd hx List.not_mem_nil⟩
def yC (e:E):E:=.lst 1 9 none 0 (v7 e)
theorem zq2 {e:E}(he:e.Ty prog 27)(hz:e.sz≤1048576):(yC e).Ty prog 31:=by
 obtain⟨h,-⟩:=rg he hz
 exact E.Ty.mk_lst underlying31 (by kernel_rfl) h.1 h.2
theorem zr2 {e:E}(he:e.Ty prog 27)(hz:e.sz≤1048576):(yC e).sz≤1073741824:=by
 obtain⟨-,h1,h2⟩:=rg he hz
 have:=zo2 h2
 unfold yC
 simp only [E.sz];omega
noncomputable def wg (p:E):E:=tW (fun q:E=>(q.Ty prog 27∧q.d=p)) (fun q=>(yC q).d) p
noncomputable def dW (p:E):E:=(wg p)
theorem oI {f:FuncId}(hf:∀{p:E} (_:p.Ty prog 27) (_:p.sz≤1048576),Ctr prog f [avI p] [] (avO (yC p)) []){p:E}(hp:p.Ty prog 27)(w:World)(ip:p.In w)(zp:p.sz≤1048576) :
 Calls prog f #[p.val] w fun r w'=>∃x:E,r=.returned (x.val)∧x.d=dW p.d∧x.Ty prog 31∧x.Ho w' w.heap.size w'.heap.size∧x.fp.Nodup∧Below w.heap.size w w':=by
 obtain⟨q,hq,hl⟩:=wW (R:=fun q:E=>(q.Ty prog 27∧q.d=p.d)) (f:=fun q=>(yC q).d) (z:=p.d) (a:=p) ⟨hp,rfl⟩
 obtain⟨tp,dp⟩:=hq
 try dsimp only at hl tp dp
 have hc:=hf tp (by rw [←E.sz_d,dp,E.sz_d];exact zp)
 rw [wX tp hp dp] at hc
 have hP:wg p.d=(yC q).d:=hl
 have hr0:dW p.d=(yC q).d:=by unfold dW;rw [hP]
 rw [hr0]
 exact zR (t:=31) (D:=yC q) hc (zq2 tp (by rw [←E.sz_d,dp,E.sz_d];exact zp)) (us:=[p.val]) (VRL_cons (zd3 hp ip) VRL_nil)
theorem kT {p:E}(zp:p.sz≤1048576) :(dW p).sz≤1073741824:=by
 unfold dW wg
 refine rB (fun r:E=>(r).sz≤1073741824) (fun q hq=>?_) (by show E.sz p≤_;omega)
 show E.sz (E.d _)≤_
 rw [E.sz_d]
 obtain⟨tp,dp⟩:=hq
 exact zr2 tp (by rw [←E.sz_d,dp];exact zp)
theorem m6 {p:E}(hp:p.Ty prog 27)(w:World)(ip:p.In w)(zp:p.sz≤1048576) :
 Calls prog 18 #[p.val] w fun r w'=>∃x:E,r=.returned (x.val)∧Hid (x.d=dW p.d)∧x.Ty prog 31∧x.Re w' w.heap.size w'.heap.size∧Below w.heap.size w w' :=
 (oI (f:=18) (fun hp zp=>by have hcc:=m5 hp zp;obtain⟨pF,rfl,-⟩:=hp.agg_ underlying27;exact hcc) hp w ip zp).mono fun _ _ ⟨x,h1,h2,h3,h4,h5,h6⟩=>⟨x,h1,h2,h3,h4.re,h6⟩
theorem iL {p:E}(hp:p.Ty prog 27)(w:World)(ip:p.In w)(zp:p.sz≤1048576) :
 Calls prog 14 #[p.val] w fun r w'=>∃x:E,r=.returned (x.val)∧Hid (x.d=dW p.d)∧x.Ty prog 31∧x.Ho w' w.heap.size w'.heap.size∧x.fp.Nodup∧Below w.heap.size w w' :=
 (oI (f:=14) (fun hp zp=>by have hcc:=m4 hp zp;obtain⟨pF,rfl,-⟩:=hp.agg_ underlying27;exact hcc) hp w ip zp).mono fun _ _ ⟨x,h1,h2,h3,h4,h5,h6⟩=>⟨x,h1,h2,h3,h4,h5,h6⟩
end Go.Proofs.YtmnneflenebgmaaGreat
