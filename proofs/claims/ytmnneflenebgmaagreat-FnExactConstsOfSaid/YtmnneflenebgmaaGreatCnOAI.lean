/- T -/
import Derived.Test.YtmnneflenebgmaaGreatCnOAH
set_option maxHeartbeats 0
set_option maxRecDepth 100000
namespace Go.Proofs.YtmnneflenebgmaaGreat
open Go.RowKit Go.Proofs.Tryz
section
variable {C:Ctx}{φ:Nat→Lc}{F:Nat→List Nat}{St:Nat→Prop}{σ:AS}{a:Act}{w:World}
theorem SimF.freezeS (h:SimF C φ F St σ a w){j t n k:Nat}{T:TypeId}{cs:List AC}(hr:σ.hp j=some ⟨T,k,n,false,cs⟩)(ht:σ.tm t=.c (.sl j n)) :
 ∃St',SimF C φ F St' { σ with tm:=upd σ.tm t (.c (.ro n k (fzL cs))),hp:=upd σ.hp j none } a w:=by
 have hd:=h.drop j
 have hfree:∀b∈F j,Free C φ F St { σ with hp:=upd σ.hp j none } b:=fun b hb=>h.free hr hb
 have hv:=h.tms t
 rw [ht] at hv
 simp only [VR,CR] at hv
 obtain⟨-,-,hφ,-⟩:=hv
 have hrow:=(h.row j _ hr).2
 rw [hφ] at hrow
 obtain⟨_,vs,fs,g1,g2,g3⟩:=hrow
 have hS:∀b,St b→b<w.heap.size→(St b∨b∈F j)∧w.heap[b]? = w.heap[b]? := fun b hb _=>⟨.inl hb,rfl⟩
 have hK:∀i,σ.Kn i→σ.Kn i∧φ i=φ i:=fun i hi=>⟨hi,rfl⟩
 have hro:=CR.fz (St':=fun b=>St b∨b∈F j) (fun b hb=>.inl hb) (.ow T n k cs) (a.tmps.getD t undef) (F j) (fun b hb=>.inr hb) (show CR w St φ σ.Kn (.ow T n k cs) _ (F j) by simp only [CR];exact⟨vs,fs,g1,g2,g3⟩)
 refine⟨fun b=>St b∨b∈F j,hd.dfr,hd.len,fun t'=>?_,fun i r hi=>⟨(hd.row i r hi).1,(hd.row i r hi).2.mono hS (Nat.le_refl _) hK (fun _ _=>rfl) (fun _ _ _ _ _ hB=>hB)⟩,hd.nod,hd.dis,hd.bxF,hd.bxd,fun i r b hi hb hs=>?_,fun i r b lo hi e hs=>?_,hd.frm,hd.own,hd.par,hd.new,hd.gnN,fun b hs hl=>?_⟩
 ·show VR w _ φ σ.Kn (upd σ.tm t (.c (.ro n k (fzL cs))) t') _
  by_cases e:t'=t
  ·subst e;rw [aX];simp only [VR];exact hro
  ·rw [bh _ _ e];exact VR.mono hS (Nat.le_refl _) hK _ _ (h.tms t')
 ·rcases hs with hs|hs
  ·exact hd.stF i r b hi hb hs
  ·exact ((hfree b hs).1 i r hi).1 hb
 ·rcases hs with hs|hs
  ·exact hd.stB i r b lo hi e hs
  ·exact ((hfree b hs).1 i r hi).2 lo e
 ·rcases hs with hs|hs
  ·exact hd.stS b hs hl
  ·exact .inr ((hfree b hs).2.2.resolve_right omq)
end
theorem zf4 {tm:Nat→AV}{hp:Nat→Option Row}{gn L:Nat}{us:List Nat}{j t n k:Nat}{T:TypeId}{cs cs':List AC}(ht:tm t=.c (.sl j n))(hr:hp j=some ⟨T,k,n,false,cs⟩)(hc:fzL cs=cs'):Gh ⟨tm,hp,gn,us,L⟩ ⟨upd tm t (.c (.ro n k cs')),upd hp j none,gn,us,L⟩:=fun C a w hs=>by
 obtain⟨φ,F,St,h⟩:=hs
 obtain⟨St',h'⟩:=h.freezeS hr ht
 subst hc
 exact⟨φ,F,St',h'⟩
section
variable {ops:Array Oper}{Q:Exit→Act→World→Prop}{C:Ctx}{i:Nat}{r:List Nat}
variable {tm:Nat→AV}{hp:Nat→Option Row}{gn L:Nat}{us:List Nat}
theorem n_caG {ty:TypeId}{gd:Option (Nat×Bool)}{cas:Array Operand}{cts:Array TypeId}{ps:String}{af:Array Edge}{t:Nat}{fv:Operand}{f:FuncId}{caps:List AC}{args ins:List AV}{res nv:AV}{nr:List (Nat×Row)}(hctr:Ctr prog f ins [] res [])(h:Walk prog ops Q C false [] r ⟨upd tm t nv,fG hp (nr.map (fun p=>(p.1,some p.2))),gn,nr.map (·.1)++us,L⟩)(ht:Nat.blt t L=true:=by exact rfl)(hg:gw ops tm (⟨some t,.call ⟨.value fv,cas,cts⟩,ty,ps,af,gd⟩:Oper)=some true:=by exact rfl)(hfv:AS.ev ⟨tm,hp,gn,us,L⟩ fv=.c (.fn f caps):=by exact rfl)(hargs:cD ⟨tm,hp,gn,us,L⟩ ⟨.value fv,cas,cts⟩ caps=args:=by exact rfl)(hcv:args.map (cvV hp [])=ins:=by exact yK)(hm:((args.flatMap snV).all fun z=>([]:List Nat).contains z)=true:=by exact rfl)(hopn:opV (100*(t+1)) res=(nv,nr):=by exact rfl)(hf:(nr.all fun p=>Nat.ble gn p.1&&!us.contains p.1)=true:=by exact rfl):WalkO prog ops Q C false [] i (⟨some t,.call ⟨.value fv,cas,cts⟩,ty,ps,af,gd⟩:Oper) r ⟨tm,hp,gn,us,L⟩:=⟨fun hop=>by
 refine ua (100*(t+1)) [] [] hop rfl rfl rfl ht hg hfv hargs (pars:=[]) rfl (by rw [hcv];exact hctr) (by simp) rfl (.inr hm) hopn hf (by exact bB) ?_
 simpa [bP,eG] using h⟩
end
theorem m7 {kd:E→List E}(hk:∀e x,x∈kd e→x.sz<e.sz){q:E→Prop}(hq:∀e,q e→∀x∈kd e,q x):∀(n:Nat) (e:E),e.sz<n→q e→∀x∈zwQ kd e,q x
 | 0,_,h,_=>absurd h (Nat.not_lt_zero _)
 | n+1,e,h,he=>by
  intro x hx
  rw [gz hk] at hx
  rcases List.mem_cons.1 hx with rfl|hx
  ·exact he
  ·obtain⟨y,hy,hxy⟩:=List.mem_flatMap.1 hx
   exact m7 hk hq n y (by have:=hk e y hy;omega) (hq e he y hy) x hxy
def TyS (N:Nat)(y:E):Prop:=y.Ty prog 106∧y.sz≤N
def TyX (N:Nat)(e:E):Prop:=e.Ty prog 70∧e.sz≤N
theorem p7 {N:Nat}{y:E}(h:TyS N y):∀x∈mY y,TyS N x:=by
 refine m7 hO (q:=TyS N) (fun e he x hx=>?_) (y.sz+1) y omq h
 have hz:=hO e x hx
 obtain⟨h1,h2⟩:=he
 refine⟨?_,omq⟩
 obtain⟨z0,z1,z2,zA,zc,zx,yA,yc,ya,wA,wc,yb,rfl,-,-,-,-,⟨ha,-⟩,⟨hb,-⟩,-⟩:=aQ h1
 rcases List.mem_append.1 (show x∈ya++yb from hx) with hx|hx
 ·exact ha x hx
 ·exact hb x hx
theorem p8 {N:Nat}{e:E}(h:TyX N e):∀x∈eC e,TyX N x:=by
 refine m7 fU (q:=TyX N) (fun e he x hx=>?_) (e.sz+1) e omq h
 have hz:=fU e x hx
 obtain⟨h1,h2⟩:=he
 refine⟨?_,omq⟩
 obtain⟨k0,n0,s0,xA,xc,l,rfl,-,-,-,⟨hl,-⟩,-⟩:=aB h1
 exact hl x hx
theorem vW {N:Nat}{y:E}(h:TyS N y):∀x∈oT y,TyX N x:=by
 intro x hx
 obtain⟨h1,h2⟩:=h
 obtain⟨z0,z1,z2,zA,zc,zx,yA,yc,ya,wA,wc,yb,rfl,-,-,-,⟨hx0,-⟩,-⟩:=aQ h1
 obtain⟨t,ht,hxt⟩:=List.mem_flatMap.1 (show x∈zx.flatMap eC from hx)
 have:=E.szL_mem ht
 simp only [E.sz,E.szL] at h2
 exact p8 ⟨hx0 t ht,omq⟩ x hxt
def Prt.E (x:Prt):E:=.agg [.lst 1 9 none 0 x.ps,.lst 4 70 none 0 x.wh,.lst 6 106 none 0 x.l,.int .i64 x.k]
structure Prt.Ok (x:Prt):Prop where
 ps:∀e∈x.ps,e.Ty prog 9
 pk:∀e∈x.ps,e.enc.length=1
 wh:∀e∈x.wh,e.Ty prog 70
 wk:∀e∈x.wh,e.enc.length=4
 wz:∀e∈x.wh,e.sz≤1048576
 wl:x.wh.length≤1
 l:∀e∈x.l,e.Ty prog 106
 lk:∀e∈x.l,e.enc.length=6
 lz:x.l.length+E.szL x.l≤1048576
 pl:x.ps.length≤1048576
section
variable {S:Type}{f:FuncId}{caps:List AC}{R:S→List AC}{step:S→E→S}{cost:S→Nat}{wt:E→Nat}{B:Nat}{ok:E→Prop}
theorem zf2 (h:Tell f caps R step cost wt B ok){x:Prt}(hx:x.Ok)(hok:∀z∈x.T,ok z)(s:S)(hB:cost s+jG wt x.T≤B):Ctr prog 78 [.ag (acE x.E),.c (.fn f caps)] [R s] (.tu []) [R (x.T.foldl step s)]:=by
 obtain⟨ps,wh,l,k⟩:=x
 obtain⟨h1,h2,h3,h4,h5,h6,h7,h8,h9,h10⟩:=hx
 dsimp only at h1 h2 h3 h4 h5 h6 h7 h8 h9 h10
 unfold Prt.T at hok hB ⊢
 dsimp only at hok hB ⊢
 rw [iL] at hB
 rw [List.foldl_append]
 have hf:=h.fold (wh.flatMap eC) s fun z hz=>hok z (List.mem_append_left _ hz)
 obtain⟨s1,e1⟩:∃s1,(wh.flatMap eC).foldl step s=s1:=⟨_,rfl⟩
 rw [e1] at hf ⊢
 have e2:upto step eC wh s wh.length=s1:=by rw [ej,e1]
 have hbx:lc l=(l.flatMap mY).flatMap oT:=pZ l
 have cS:=jd h.own (l.length+E.szL l+1) l h7 h8 omq omq (fun y hy=>by
  obtain⟨z,hz,hyz⟩:=List.mem_flatMap.1 hy
  have hzz:=E.szL_mem hz
  have ht:=p7 (N:=1048576) ⟨h7 z hz,omq⟩ y hyz
  exact⟨ht.1,ht.2,fun t htt=>hok t (List.mem_append_right _ (by rw [hbx];exact List.mem_flatMap.2 ⟨y,hy,htt⟩))⟩) s1 (by rw [←oE,←hbx];omega)
 rw [vU,←hbx] at cS
 refine av func78 rfl rfl ?_
 repeat' (first|(apply ay;refine zq3 ?_)|(apply ay;first|refine ao ?_|refine gO ?_|refine dC ?_|refine aY ?_)|refine al ?_|refine ab ?_|refine aa fun C=>?_|refine ae ?_|refine ah ?_)
 refine aP (fun j:Nat=>⟨dA [(2,.c (.rp [.ro ps.length 1 (acL ps),.ro wh.length 4 (acL wh),.ro l.length 6 (acL l),.v (.int .i64 k)] 0)),(3,.c (.rp [.fn f caps] 0)),(7,.c (.ro wh.length 4 (acL wh))),(8,.c (.v (.int .i64 wh.length))),(9,.c (.v (.int .i64 j)))],dq [(0,0,⟨0,0,0,true,R (upto step eC wh s j)⟩)],1,[0],21⟩)
  (fun N j=>j+N=wh.length) wh.length 0 omq ?_ ?_
 ·refine aC _ _ rfl rfl (TmOk.cons ?_ (TmOk.cons (mB h.cap (by rfl) (by rfl)) ?_)) (RwOk.cons (aK rfl (h.cl _)) RwOk.nil)
  ·refine rnV_id' rfl ?_;first|rfl|(simp [rJ,bf,clo,bp,aH,bq,ba,aZ];done)
  ·(repeat' (first|exact TmOk.nil|exact RwOk.nil|refine TmOk.cons ?_ ?_|refine RwOk.cons ?_ ?_|rfl|(refine rnV_id' rfl ?_;exact byc)|(refine bv ?_;first|rfl|omega|(rw [aW omq omq];omega))|(refine aK rfl ?_;exact byc)|exact cb rfl rfl|(refine rw_mid (by rfl) (by rfl) ?_ ?_<;>exact byc)|(refine rw_rn' rfl rfl ?_;simp;done)))
 rintro N j hN
 try dsimp only
 repeat' (first|(apply ay;refine aO ?_)|refine al ?_|refine ab ?_|refine aa fun C=>?_|refine ae ?_)
 refine aj (by rfl) (fun hk1=>?_) fun hk1=>?_
 ·have hj:j<wh.length:=by simpa using hk1
  obtain⟨x,hx⟩:∃x,wh[j]? = some x:=⟨_,List.getElem?_eq_getElem hj⟩
  have hxm:=List.mem_of_getElem? hx
  have hxt:=h3 x hxm
  have hxz:=h5 x hxm
  have cx:=jc h (x.sz+1) x hxt omq omq (fun z hz=>hok z (List.mem_append_left _ (List.mem_flatMap.2 ⟨x,hxm,hz⟩))) (upto step eC wh s j) (h.upto (fun z hz=>hok z (List.mem_append_left _ hz)) hx omq)
  rw [←dG hx] at cx
  obtain⟨y0,y1,y2,yA,yc,yl,rfl,-⟩:=aB hxt
  have hx1:∀hp,cvV hp [0] (.ag [.v (.int .i64 y0),.v (.int .i64 y1),.v (.string y2),.ro yl.length 4 (acL yl)])=.ag [.v (.int .i64 y0),.v (.int .i64 y1),.v (.string y2),.ro yl.length 4 (acL yl)]:=fun hp=>l7 (.agg [.int .i64 y0,.int .i64 y1,.str y2,.lst 4 70 yA yc yl])
  repeat' (first|(apply ay;refine be 0 cx ?_ (hl:=cW (by rfl) (h.cl _)) (hcv:=fP h.cap (hx1 _)) (hRD:=dU h.cap rfl) (hmm:=.inr (dU h.cap rfl)))|(apply ay;first|refine ao ?_|refine bI ?_|refine bu ?_|refine cG ?_|refine dE ?_|refine aD ?_|refine dn ?_|refine aS ?_)|refine al ?_|refine ab ?_|refine aa fun C=>?_|refine ae ?_|refine ah ?_|refine ai ?_)
  refine⟨N-1,j+1,omq,omq,?_⟩
  refine aC _ _ rfl rfl (TmOk.cons ?_ (TmOk.cons (mB h.cap (by rfl) (by rfl)) ?_)) (RwOk.cons (aK rfl (h.cl _)) RwOk.nil)
  ·refine rnV_id' rfl ?_;first|rfl|(simp [rJ,bf,clo,bp,aH,bq,ba,aZ];done)
  ·(repeat' (first|exact TmOk.nil|exact RwOk.nil|refine TmOk.cons ?_ ?_|refine RwOk.cons ?_ ?_|rfl|(refine rnV_id' rfl ?_;exact byc)|(refine bv ?_;first|rfl|omega|(rw [aW omq omq];omega))|(refine aK rfl ?_;exact byc)|exact cb rfl rfl|(refine rw_mid (by rfl) (by rfl) ?_ ?_<;>exact byc)|(refine rw_rn' rfl rfl ?_;simp;done)))
 ·have hj:¬j<wh.length:=by simpa using hk1
  obtain rfl:j=wh.length:=by omega
  rw [e2]
  repeat' (first|(apply ay;refine be 0 cS ?_ (hl:=cW (by rfl) (h.cl _)) (hcv:=fP (nP h.cap) (vT _ _ _)) (hRD:=dU (nP h.cap) rfl) (hmm:=.inr (dU (nP h.cap) rfl)))|(apply ay;first|refine gO ?_|refine dC ?_|refine aS ?_)|refine al ?_|refine ab ?_|refine aa fun C=>?_|refine au ?_)
  exact eo (x:=.tu []) rfl rfl rfl (h.cl _) (h.len _ _) ⟨rfl,rfl⟩
end
def paF (x:Prt):List AC:=[.ro x.ps.length 1 (acL x.ps),.ow 70 0 4 [],.ro x.l.length 6 (acL x.l),.v (.int .i64 0)]
def paR (x:Prt):List AC:=[.ow 9 0 1 [],.ow 70 x.wh.length 4 (acL x.wh),.ro x.l.length 6 (acL x.l),.v (.int .i64 x.k)]
theorem gB {α:Type}{g:α→List AC}(h:∀x,bf (g x)=true):∀l:List α,bf (l.flatMap g)=true
 | []=>rfl
 | x :: r=>by rw [List.flatMap_cons];exact aZ (h x) (gB h r)
theorem vX (x:Prt):bf (paF x)=true:=by simp [paF,bf,clo,aH]
theorem vY (x:Prt):bf (paR x)=true:=by simp [paR,bf,clo,aH]
def paL (fs rs:List E):List AC:=(fs.flatMap fun e=>paF (fnP e))++rs.flatMap fun e=>paR (ruP e)
mutual
theorem zg2:∀e:E,fzL (acE e)=acE e
 | .int k n=>by simp only [acE,fzL,fzC]
 | .bool b=>by simp only [acE,fzL,fzC]
 | .str s=>by simp only [acE,fzL,fzC]
 | .agg fs=>by simp only [acE];exact p9 fs
 | .lst k T A c l=>by simp only [acE,fzL,fzC]
theorem p9:∀l:List E,fzL (acL l)=acL l
 | []=>by simp only [acL,fzL]
 | e :: r=>by simp only [acL,km,zg2 e,p9 r]
end
theorem zg4 (fs rs:List E):fzL (paL fs rs)=acL ((jx rs fs).map Prt.E):=by
 unfold paL jx
 rw [km,List.map_append,tX,List.map_map,List.map_map]
 congr 1
 ·induction fs with
  | nil=>rfl
  | cons e r ih =>
   rw [List.flatMap_cons,km,ih,List.map_cons,acL]
   congr 1
   obtain⟨h1,h2⟩:=fnP_0 e
   simp only [paF,fzL,fzC,Function.comp_def,Prt.E,acE,acL,h1,h2,List.append_nil,List.length_nil]
   rfl
 ·induction rs with
  | nil=>rfl
  | cons e r ih =>
   rw [List.flatMap_cons,km,ih,List.map_cons,acL]
   congr 1
   have h1:=ruP_0 e
   simp only [paR,fzL,fzC,Function.comp_def,Prt.E,acE,acL,h1,List.append_nil,List.length_nil,p9]
   rfl
theorem m8:zY prog 109=some (112,4):=rfl
theorem m9:y8 prog 109 109=some (112,4):=rfl
theorem l9 {α:Type}{g:E→List α}{l:List E}{k:Nat}{x:E}(h:l[k]? = some x):(l.take (k+1)).flatMap g=(l.take k).flatMap g++g x:=by
 rw [List.take_add_one,h,Option.toList_some,List.flatMap_append,List.flatMap_cons,List.flatMap_nil,List.append_nil]
theorem vZ {rs fs:List E}(hr:∀e∈rs,e.Ty prog 87)(hrk:∀e∈rs,e.enc.length=6)(hf:∀e∈fs,e.Ty prog 89)(hfk:∀e∈fs,e.enc.length=3)(hlen:rs.length+fs.length≤1048576):Ctr prog 76 [.ag [.ro rs.length 6 (acL rs),.ro fs.length 3 (acL fs)]] [] (.c (.ow 112 (fs.length+rs.length) 4 (paL fs rs))) []:=by
 refine av func76 rfl rfl ?_
 repeat' (first|(apply ay;first|refine ao ?_|refine ak ?_|refine bd ?_|refine aL ?_|refine aY ?_|refine bL ?_)|refine al ?_|refine ab ?_|refine aa fun C=>?_|refine ae ?_|refine ah ?_)
 refine aP (fun k:Nat=>⟨dA [(1,.c (.pt 1 0)),(3,.c (.sl 9 k)),(10,.c (.ro fs.length 3 (acL fs))),(11,.c (.v (.int .i64 fs.length))),(12,.c (.v (.int .i64 k)))],dq [(1,1,⟨27,0,0,true,[.ro rs.length 6 (acL rs),.ro fs.length 3 (acL fs)]⟩),(9,9,⟨112,4,k,false,(fs.take k).flatMap fun e=>paF (fnP e)⟩)],0,[1,9],50⟩)
  (fun N k=>k+N=fs.length) fs.length 0 omq ?_ ?_
 ·refine (qB 9 (t:=3) 112 4 rfl rfl).trans ?_
  (refine aC _ _ rfl rfl ?_ ?_<;>exact tdy0)
 rintro N k hN
 try dsimp only
 repeat' (first|(apply ay;refine aO ?_)|refine al ?_|refine ab ?_|refine aa fun C=>?_|refine ae ?_)
 refine aj (by rfl) (fun hk1=>?_) fun hk1=>?_
 ·have hk':k<fs.length:=by simpa using hk1
  obtain⟨x,hx⟩:∃x,fs[k]? = some x:=⟨_,List.getElem?_eq_getElem hk'⟩
  have hxt:=hf x (List.mem_of_getElem? hx)
  have hrow:=l9 (g:=fun e=>paF (fnP e)) hx
  have hclo:bf ((fs.take k).flatMap fun e=>paF (fnP e))=true:=gB (fun x=>vX _) _
  obtain⟨x0,x1A,x1c,x1l,x2A,x2c,x2l,rfl,-⟩:=bN hxt
  obtain⟨X,hX⟩:∃X,((fs.take k).flatMap fun e=>paF (fnP e))=X:=⟨_,rfl⟩
  rw [hX] at hrow hclo ⊢
  rw [show paF (fnP (E.agg [.str x0,.lst 1 9 x1A x1c x1l,.lst 6 106 x2A x2c x2l]))=[.ro x1l.length 1 (acL x1l),.ow 70 0 4 [],.ro x2l.length 6 (acL x2l),.v (.int .i64 0)] from rfl] at hrow
  repeat' (first|(apply ay;refine gh ?_ (hT:=m8))|(apply ay;refine ll ?_ (hT:=m9))|(apply ay;first|refine ao ?_|refine ak ?_|refine bd ?_|refine aL ?_|refine bI ?_|refine cG ?_|refine dE ?_|refine aD ?_|refine dn ?_|refine aS ?_)|refine al ?_|refine ab ?_|refine aa fun C=>?_|refine ae ?_|refine ah ?_|refine ai ?_)
  refine⟨N-1,k+1,omq,omq,?_⟩
  refine (dZ 990 (i:=23) 70 4 rfl rfl (pre:=X++[.ro x1l.length 1 (acL x1l)]) (post:=[.ro x2l.length 6 (acL x2l),.v (.int .i64 0)]) (by first|(rw [List.append_assoc];rfl)|rfl)).trans ?_
  refine (dN (i:=23) (j:=990) rfl rfl rfl (pre:=X++[.ro x1l.length 1 (acL x1l)]) (post:=[.ro x2l.length 6 (acL x2l),.v (.int .i64 0)]) rfl).trans ?_
  rw [hrow]
  (refine fW (fun j=>if j=9 then 23 else j) _ _ rfl rfl ?_ ?_<;>(repeat' (first|exact TmOk.nil|exact RwOk.nil|refine TmOk.cons ?_ ?_|refine RwOk.cons ?_ ?_|rfl|(refine rnV_id' rfl ?_;exact byc)|(refine bv ?_;first|rfl|omega|(rw [aW omq omq];omega))|(refine aK rfl ?_;exact byc)|exact cb rfl rfl|(refine rw_mid (by rfl) (by rfl) ?_ ?_<;>exact byc)|(refine rw_rn' rfl rfl ?_;simp;done))))
  exact lj (r:=⟨112,4,k+1,false,X++[.ro x1l.length 1 (acL x1l)]++.ow 70 0 4 [] :: [.ro x2l.length 6 (acL x2l),.v (.int .i64 0)]⟩) rfl (by simp) (aZ hclo (by simp [bf,clo,aH]))
 ·have hk':¬k<fs.length:=by simpa using hk1
  obtain rfl:k=fs.length:=by omega
  rw [List.take_length]
  clear hk' hk1 hN
  obtain⟨X,hX⟩:∃X,(fs.flatMap fun e=>paF (fnP e))=X:=⟨_,rfl⟩
  have hcX:bf X=true:=by rw [←hX];exact gB (fun x=>vX _) _
  have hpl:paL fs rs=X++rs.flatMap fun e=>paR (ruP e):=by unfold paL;rw [hX]
  rw [hX,hpl]
  repeat' (first|(apply ay;first|refine ao ?_|refine bd ?_|refine aL ?_|refine aY ?_)|refine al ?_|refine ab ?_|refine aa fun C=>?_|refine ae ?_|refine ah ?_|refine au ?_)
  refine aP (fun k:Nat=>⟨dA [(3,.c (.sl 9 (fs.length+k))),(26,.c (.ro rs.length 6 (acL rs))),(27,.c (.v (.int .i64 rs.length))),(28,.c (.v (.int .i64 k)))],dq [(9,9,⟨112,4,fs.length+k,false,X++(rs.take k).flatMap fun e=>paR (ruP e)⟩)],0,[9],50⟩)
   (fun N k=>k+N=rs.length) rs.length 0 omq ?_ ?_
  ·(refine aC _ _ rfl rfl ?_ ?_<;>(repeat' (first|exact TmOk.nil|exact RwOk.nil|refine TmOk.cons ?_ ?_|refine RwOk.cons ?_ ?_|rfl|(refine rnV_id' rfl ?_;exact byc)|(refine bv ?_;first|rfl|omega|(rw [aW omq omq];omega))|(refine aK rfl ?_;exact byc)|exact cb rfl rfl|(refine rw_mid (by rfl) (by rfl) ?_ ?_<;>exact byc)|(refine rw_rn' rfl rfl ?_;simp;done))))
   exact lj (r:=⟨112,4,fs.length,false,X⟩) rfl (by simp) (by simpa using hcX)
  rintro N k hN
  try dsimp only
  repeat' (first|(apply ay;refine aO ?_)|refine al ?_|refine ab ?_|refine aa fun C=>?_|refine ae ?_)
  refine aj (by rfl) (fun hk1=>?_) fun hk1=>?_
  ·have hk':k<rs.length:=by simpa using hk1
   obtain⟨x,hx⟩:∃x,rs[k]? = some x:=⟨_,List.getElem?_eq_getElem hk'⟩
   have hxt:=hr x (List.mem_of_getElem? hx)
   have hrow:=l9 (g:=fun e=>paR (ruP e)) hx
   have hclo:bf (X++(rs.take k).flatMap fun e=>paR (ruP e))=true:=aZ hcX (gB (fun x=>vY _) _)
   obtain⟨x0,x1,x2,x3,x4A,x4c,x4l,x5A,x5c,x5l,rfl,-⟩:=bJ hxt
   have hro2:X++((rs.take (k+1)).flatMap fun e=>paR (ruP e))=(X++(rs.take k).flatMap fun e=>paR (ruP e))++paR (ruP (E.agg [.int .i64 x0,(.agg [.int .i64 x1,.int .i64 x2,.str x3,.lst 4 70 x4A x4c x4l]),.lst 6 106 x5A x5c x5l])):=by rw [hrow,List.append_assoc]
   obtain⟨Y,hY⟩:∃Y,(X++(rs.take k).flatMap fun e=>paR (ruP e))=Y:=⟨_,rfl⟩
   rw [hY] at hro2 hclo ⊢
   clear hrow
   by_cases h4:x0=4
   ·subst h4
    rw [show paR (ruP (E.agg [.int .i64 4,(.agg [.int .i64 x1,.int .i64 x2,.str x3,.lst 4 70 x4A x4c x4l]),.lst 6 106 x5A x5c x5l]))=[.ow 9 0 1 [],.ow 70 1 4 [.v (.int .i64 x1),.v (.int .i64 x2),.v (.string x3),.ro x4l.length 4 (acL x4l)],.ro x5l.length 6 (acL x5l),.v (.int .i64 4)] from rfl] at hro2
    repeat' (first|(apply ay;refine gh ?_ (hT:=m8))|(apply ay;refine ll ?_ (hT:=m9))|(apply ay;first|refine ao ?_|refine ak ?_|refine bd ?_|refine aL ?_|refine bI ?_|refine bu ?_|refine cG ?_|refine dE ?_|refine aq ?_|refine aD ?_|refine dn ?_|refine gh ?_|refine aS ?_)|refine al ?_|refine ab ?_|refine aa fun C=>?_|refine ae ?_|refine ah ?_|refine ai ?_|refine az rfl ?_)
    refine⟨N-1,k+1,omq,omq,?_⟩
    refine (dN (i:=47) (j:=42) rfl rfl rfl (pre:=Y++[.v (.slice none 0 0)]) (post:=[.ro x5l.length 6 (acL x5l),.v (.int .i64 4)]) (by first|(rw [List.append_assoc];rfl)|rfl)).trans ?_
    refine (dZ 990 (i:=47) 9 1 rfl rfl (pre:=Y) (post:=[.ow 70 1 4 [.v (.int .i64 x1),.v (.int .i64 x2),.v (.string x3),.ro x4l.length 4 (acL x4l)],.ro x5l.length 6 (acL x5l),.v (.int .i64 4)]) (by first|(rw [List.append_assoc];rfl)|rfl)).trans ?_
    refine (dN (i:=47) (j:=990) rfl rfl rfl (pre:=Y) (post:=[.ow 70 1 4 [.v (.int .i64 x1),.v (.int .i64 x2),.v (.string x3),.ro x4l.length 4 (acL x4l)],.ro x5l.length 6 (acL x5l),.v (.int .i64 4)]) rfl).trans ?_
    rw [hro2]
    (refine fW (fun j=>if j=9 then 47 else j) _ _ rfl rfl ?_ ?_<;>(repeat' (first|exact TmOk.nil|exact RwOk.nil|refine TmOk.cons ?_ ?_|refine RwOk.cons ?_ ?_|rfl|(refine rnV_id' rfl ?_;exact byc)|(refine bv ?_;first|rfl|omega|(rw [aW omq omq];omega))|(refine aK rfl ?_;exact byc)|exact cb rfl rfl|(refine rw_mid (by rfl) (by rfl) ?_ ?_<;>exact byc)|(refine rw_rn' rfl rfl ?_;simp;done))))
    exact lj (r:=⟨112,4,fs.length+k+1,false,Y++.ow 9 0 1 [] :: [.ow 70 1 4 [.v (.int .i64 x1),.v (.int .i64 x2),.v (.string x3),.ro x4l.length 4 (acL x4l)],.ro x5l.length 6 (acL x5l),.v (.int .i64 4)]⟩) rfl (by simp;omega) (aZ hclo (by simp [bf,clo,aH]))
   ·have hb4:(x0==4)=false:=by simpa using h4
    rw [show paR (ruP (E.agg [.int .i64 x0,(.agg [.int .i64 x1,.int .i64 x2,.str x3,.lst 4 70 x4A x4c x4l]),.lst 6 106 x5A x5c x5l]))=[.ow 9 0 1 [],.ow 70 0 4 [],.ro x5l.length 6 (acL x5l),.v (.int .i64 x0)] by unfold ruP;dsimp only;rw [if_neg h4];rfl] at hro2
    repeat' (first|(apply ay;first|refine bd ?_|refine aL ?_|refine bI ?_|refine cG ?_|refine dE ?_|refine aq ?_|refine dn ?_|refine aS ?_)|refine al ?_|refine ab ?_|refine aa fun C=>?_|refine ae ?_|refine ah ?_|refine ai ?_)
    refine aj (by rfl) (fun hc=>by rw [hb4] at hc;cases hc) fun hc=>?_
    repeat' (first|(apply ay;refine gh ?_ (hT:=m8))|(apply ay;refine ll ?_ (hT:=m9))|(apply ay;first|refine ao ?_|refine ak ?_|refine bu ?_|refine aD ?_)|refine al ?_|refine ab ?_|refine aa fun C=>?_|refine ai ?_)
    refine⟨N-1,k+1,omq,omq,?_⟩
    refine (dZ 991 (i:=47) 70 4 rfl rfl (pre:=Y++[.v (.slice none 0 0)]) (post:=[.ro x5l.length 6 (acL x5l),.v (.int .i64 x0)]) (by first|(rw [List.append_assoc];rfl)|rfl)).trans ?_
    refine (dN (i:=47) (j:=991) rfl rfl rfl (pre:=Y++[.v (.slice none 0 0)]) (post:=[.ro x5l.length 6 (acL x5l),.v (.int .i64 x0)]) rfl).trans ?_
    refine (dZ 990 (i:=47) 9 1 rfl rfl (pre:=Y) (post:=[.ow 70 0 4 [],.ro x5l.length 6 (acL x5l),.v (.int .i64 x0)]) (by first|(rw [List.append_assoc];rfl)|rfl)).trans ?_
    refine (dN (i:=47) (j:=990) rfl rfl rfl (pre:=Y) (post:=[.ow 70 0 4 [],.ro x5l.length 6 (acL x5l),.v (.int .i64 x0)]) rfl).trans ?_
    rw [hro2]
    (refine fW (fun j=>if j=9 then 47 else j) _ _ rfl rfl ?_ ?_<;>(repeat' (first|exact TmOk.nil|exact RwOk.nil|refine TmOk.cons ?_ ?_|refine RwOk.cons ?_ ?_|rfl|(refine rnV_id' rfl ?_;exact byc)|(refine bv ?_;first|rfl|omega|(rw [aW omq omq];omega))|(refine aK rfl ?_;exact byc)|exact cb rfl rfl|(refine rw_mid (by rfl) (by rfl) ?_ ?_<;>exact byc)|(refine rw_rn' rfl rfl ?_;simp;done))))
    exact lj (r:=⟨112,4,fs.length+k+1,false,Y++.ow 9 0 1 [] :: [.ow 70 0 4 [],.ro x5l.length 6 (acL x5l),.v (.int .i64 x0)]⟩) rfl (by simp;omega) (aZ hclo (by simp [bf,clo,aH]))
  ·have hk':¬k<rs.length:=by simpa using hk1
   obtain rfl:k=rs.length:=by omega
   rw [List.take_length]
   have hclo:bf (X++rs.flatMap fun e=>paR (ruP e))=true:=aZ hcX (gB (fun x=>vY _) _)
   repeat' (first|(apply ay;first|refine ao ?_|refine ak ?_)|refine al ?_|refine ab ?_|refine aa fun C=>?_|refine ae ?_|refine au ?_)
   refine am ?_;refine bi rfl (nK (bZ rfl rfl rfl hclo bj)) ⟨?_,rfl⟩
   rfl
def qc (e:E):List E:=match e with | .agg [_,.lst _ _ _ _ wh,.lst _ _ _ _ l,_]=>wh.flatMap eC++lc l|_=>[]
def jy (rs fs:List E):List E:=(jx rs fs).map Prt.E
theorem yz (rs fs:List E):(jy rs fs).flatMap qc=l0 rs fs:=by
 unfold jy
 rw [l8,List.flatMap_map]
 rfl
theorem sD (rs fs:List E):(jy rs fs).length=fs.length+rs.length:=by
 unfold jy jx
 simp
theorem sE {rs fs:List E}:∀e∈jy rs fs,e.enc.length=4:=by
 intro e he
 obtain⟨x,-,rfl⟩:=List.mem_map.1 he
 rfl
structure PrgOk (rs fs:List E):Prop where
 r:∀e∈rs,e.Ty prog 87
 rk:∀e∈rs,e.enc.length=6
 f:∀e∈fs,e.Ty prog 89
 fk:∀e∈fs,e.enc.length=3
 z:rs.length+E.szL rs+(fs.length+E.szL fs)≤1048576
theorem v6 {e:E}(h:e.Ty prog 27)(hz:e.sz≤1048576):∃(rA:Option Addr) (rc:Nat) (rs:List E) (fA:Option Addr) (fc:Nat) (fs:List E),e=.agg [.lst 6 87 rA rc rs,.lst 3 89 fA fc fs]∧PrgOk rs fs:=by
 obtain⟨rA,rc,rs,fA,fc,fs,rfl,⟨h1,h2⟩,⟨h3,h4⟩,-⟩:=b8 h
 simp only [E.sz,E.szL] at hz
 exact⟨rA,rc,rs,fA,fc,fs,rfl,h1,h2,h3,h4,omq⟩
theorem qe {rs fs:List E}(h:PrgOk rs fs):∀x∈jx rs fs,x.Ok:=by
 intro x hx
 have hz:=h.z
 rcases List.mem_append.1 hx with hx|hx
 ·obtain⟨e,he,rfl⟩:=List.mem_map.1 hx
  have hez:=E.szL_mem he
  obtain⟨x0,x1A,x1c,x1l,x2A,x2c,x2l,rfl,-,⟨g1,g2⟩,⟨g3,g4⟩,-⟩:=bN (h.f e he)
  simp only [E.sz,E.szL] at hez
  exact⟨g1,g2,fun e he=>absurd he List.not_mem_nil,fun e he=>absurd he List.not_mem_nil,fun e he=>absurd he List.not_mem_nil,Nat.zero_le _,g3,g4,by show x2l.length+E.szL x2l≤1048576;omega,by show x1l.length≤1048576;omega⟩
 ·obtain⟨e,he,rfl⟩:=List.mem_map.1 hx
  have hez:=E.szL_mem he
  have hpt:∀x0 x1 x2:Int,∀(x3:ByteArray) (x4A:Option Addr) (x4c:Nat) (x4l:List E),(∀y∈x4l,y.Ty prog 70)→(∀y∈x4l,y.enc.length=4)→True:=fun _ _ _ _ _ _ _ _ _=>trivial
  have hty:=(h.r e he)
  obtain⟨fl,hfl,q0⟩:=hty.agg_ underlying87
  obtain⟨x0,x1,x2,x3,x4A,x4c,x4l,x5A,x5c,x5l,he2,-,-,-,-,-,⟨g3,g4⟩,-⟩:=bJ hty
  rw [he2] at hfl
  injection hfl with hfl
  subst hfl
  change E.TyF _ _ [3,70,85] at q0
  obtain⟨e0,r0,q1,h0,q1'⟩:=q0.cons_
  injection q1 with q1 q2
  subst q2
  obtain⟨e1,r1,q3,hP,-⟩:=q1'.cons_
  injection q3 with q3 q4
  subst q3
  subst he2
  simp only [E.sz,E.szL] at hez
  have hw:(ruP (.agg [.int .i64 x0,(.agg [.int .i64 x1,.int .i64 x2,.str x3,.lst 4 70 x4A x4c x4l]),.lst 6 106 x5A x5c x5l])).wh=if x0=4 then [(.agg [.int .i64 x1,.int .i64 x2,.str x3,.lst 4 70 x4A x4c x4l])] else []:=rfl
  have hwm:∀y∈(ruP (.agg [.int .i64 x0,(.agg [.int .i64 x1,.int .i64 x2,.str x3,.lst 4 70 x4A x4c x4l]),.lst 6 106 x5A x5c x5l])).wh,y=.agg [.int .i64 x1,.int .i64 x2,.str x3,.lst 4 70 x4A x4c x4l]:=by
   rw [hw]
   intro y hy
   split at hy
   ·simpa using hy
   ·cases hy
  refine⟨fun e he=>absurd he List.not_mem_nil,fun e he=>absurd he List.not_mem_nil,fun y hy=>?_,fun y hy=>?_,fun y hy=>?_,?_,g3,g4,?_,Nat.zero_le _⟩
  ·rw [hwm y hy];exact hP
  ·rw [hwm y hy];rfl
  ·rw [hwm y hy];simp only [E.sz,E.szL];omega
  ·rw [hw];split<;>simp
  ·show x5l.length+E.szL x5l≤1048576;omega
section
variable {S:Type}{f:FuncId}{caps:List AC}{R:S→List AC}{step:S→E→S}{cost:S→Nat}{wt:E→Nat}{B:Nat}{ok:E→Prop}
theorem sF (h:Tell f caps R step cost wt B ok){rs fs:List E}(hp:PrgOk rs fs)(hok:∀z∈l0 rs fs,ok z)(s:S)(hB:cost s+jG wt (l0 rs fs)≤B):Ctr prog 48 [.ag [.ro rs.length 6 (acL rs),.ro fs.length 3 (acL fs)],.c (.fn f caps)] [R s] (.tu []) [R ((l0 rs fs).foldl step s)]:=by
 have hz:=hp.z
 have cP:=vZ hp.r hp.rk hp.f hp.fk omq
 have hlen:=sD rs fs
 have henc:=sE (rs:=rs) (fs:=fs)
 have hfz:fzL (paL fs rs)=acL (jy rs fs):=zg4 fs rs
 rw [←hlen] at cP
 rw [←yz] at hok hB ⊢
 have hmem:∀e∈jy rs fs,∃x:Prt,x.Ok∧e=x.E:=fun e he=>by
  obtain⟨x,hx,rfl⟩:=List.mem_map.1 he
  exact⟨x,qe hp x hx,rfl⟩
 generalize jy rs fs=L at *
 rw [←ej]
 refine av func48 rfl rfl ?_
 repeat' (first|(apply ay;refine n_caG cP ?_)|(apply ay;first|refine ao ?_|refine bu ?_|refine gp ?_|refine bL ?_)|refine al ?_|refine ab ?_|refine aa fun C=>?_|refine ae ?_|refine ah ?_)
 refine aP (fun k:Nat=>⟨dA [(1,.c (.fn f caps)),(7,.c (.ro L.length 4 (acL L))),(8,.c (.v (.int .i64 L.length))),(9,.c (.v (.int .i64 k)))],dq [(0,0,⟨0,0,0,true,R (upto step qc L s k)⟩)],1,[0],17⟩)
  (fun N k=>k+N=L.length) L.length 0 omq ?_ ?_
 ·refine (zf4 (t:=7) (j:=800) rfl rfl hfz).trans ?_
  refine aC _ _ rfl rfl (TmOk.cons (lM h.cap (by rfl) (by rfl)) ?_) (RwOk.cons (aK rfl (h.cl _)) RwOk.nil)
  (repeat' (first|exact TmOk.nil|exact RwOk.nil|refine TmOk.cons ?_ ?_|refine RwOk.cons ?_ ?_|rfl|(refine rnV_id' rfl ?_;exact byc)|(refine bv ?_;first|rfl|omega|(rw [aW omq omq];omega))|(refine aK rfl ?_;exact byc)|exact cb rfl rfl|(refine rw_mid (by rfl) (by rfl) ?_ ?_<;>exact byc)|(refine rw_rn' rfl rfl ?_;simp;done)))
 rintro N k hN
 try dsimp only
 repeat' (first|(apply ay;refine aO ?_)|refine al ?_|refine ab ?_|refine aa fun C=>?_|refine ae ?_)
 refine aj (by rfl) (fun hk1=>?_) fun hk1=>?_
 ·have hk':k<L.length:=by simpa using hk1
  obtain⟨x,hx⟩:∃x,L[k]? = some x:=⟨_,List.getElem?_eq_getElem hk'⟩
  have hxm:=List.mem_of_getElem? hx
  obtain⟨y,hy,rfl⟩:=hmem x hxm
  have cx:=zf2 h hy (fun z hz=>hok z (List.mem_flatMap.2 ⟨_,hxm,hz⟩)) (upto step qc L s k) (h.upto hok hx hB)
  have hsu:upto step qc L s (k+1)=y.T.foldl step (upto step qc L s k):=dG hx
  rw [←hsu] at cx
  obtain⟨ps,wh,l,kk⟩:=y
  have hx1:∀hp,cvV hp [0] (.ag [.ro ps.length 1 (acL ps),.ro wh.length 4 (acL wh),.ro l.length 6 (acL l),.v (.int .i64 kk)])=.ag [.ro ps.length 1 (acL ps),.ro wh.length 4 (acL wh),.ro l.length 6 (acL l),.v (.int .i64 kk)]:=fun hp=>l7 (Prt.E ⟨ps,wh,l,kk⟩)
  replace cx:Ctr prog 78 [.ag [.ro ps.length 1 (acL ps),.ro wh.length 4 (acL wh),.ro l.length 6 (acL l),.v (.int .i64 kk)],.c (.fn f caps)] [R (upto step qc L s k)] (.tu []) [R (upto step qc L s (k+1))]:=cx
  unfold Prt.E at hx
  dsimp only at hx
  repeat' (first|(apply ay;refine be 0 cx ?_ (hl:=cW (by rfl) (h.cl _)) (hcv:=fP h.cap (hx1 _)) (hRD:=dU h.cap rfl) (hmm:=.inr (dU h.cap rfl)))|(apply ay;first|refine ao ?_|refine bI ?_|refine bu ?_|refine cG ?_|refine dE ?_|refine aD ?_|refine dn ?_)|refine al ?_|refine ab ?_|refine aa fun C=>?_|refine ae ?_|refine ah ?_|refine ai ?_)
  refine⟨N-1,k+1,omq,omq,?_⟩
  refine aC _ _ rfl rfl (TmOk.cons (lM h.cap (by rfl) (by rfl)) ?_) (RwOk.cons (aK rfl (h.cl _)) RwOk.nil)
  (repeat' (first|exact TmOk.nil|exact RwOk.nil|refine TmOk.cons ?_ ?_|refine RwOk.cons ?_ ?_|rfl|(refine rnV_id' rfl ?_;exact byc)|(refine bv ?_;first|rfl|omega|(rw [aW omq omq];omega))|(refine aK rfl ?_;exact byc)|exact cb rfl rfl|(refine rw_mid (by rfl) (by rfl) ?_ ?_<;>exact byc)|(refine rw_rn' rfl rfl ?_;simp;done)))
 ·have hk':¬k<L.length:=by simpa using hk1
  obtain rfl:k=L.length:=by omega
  repeat' (refine au ?_)
  exact eo (x:=.tu []) rfl rfl rfl (h.cl _) (h.len _ _) ⟨rfl,rfl⟩
end
end Go.Proofs.YtmnneflenebgmaaGreat
