/- T -/
import Derived.Test.YtomolhbkdhjofaaGreatDoorExRAH
set_option maxHeartbeats 0
set_option maxRecDepth 100000
namespace Go.Proofs.YtomolhbkdhjofaaGreatDoor
open Go.RowKit Go.Proofs.Tryz
def hsh (bs:List UInt8):Nat→Int
 | 0=>wrap64 (348348+(bs.length:Int))
 | k+1=>bits .and .i64 (wrap64 (wrap64 (wrap64 (hsh bs k*137)+wrap64 ((bs[k]?.getD 0).toNat:Int))+11)) 1073741823
theorem zh1 (bs:List UInt8):∃h:Int,∀(A:Option Addr) (c:Nat) (w:World),Rd w 1 yy (.slice A bs.length c) bs →
 Calls prog 20 #[.slice A bs.length c] w fun e w'=>e=.returned (.pointer (some ⟨w.heap.size,0,none⟩))∧∃n,w'=(w.alloc (.cells #[.slice A bs.length c,.int .i64 0,.int .i64 h] 67)).drewN n:=by
 refine⟨hsh bs (min bs.length 4000),fun A c w hs=>?_⟩
 have hlen:=hs.len_le
 go_enter func20,Tryz.ntmps20
 go_wp2
 go_loopw [3,4] (fun h i wr=>∃k:Nat,k≤min bs.length 4000∧i=.int .i64 k∧h=.int .i64 (hsh bs k)∧wr=w) (fun _ i _=>bs.length-(intOf i).toNat)
 case atStart=>exact⟨0,Nat.zero_le _,rfl,rfl,rfl⟩
 case round =>
  obtain⟨k,hk,rfl,rfl,rfl⟩:=hrel
  by_cases hlt:k<bs.length∧k<4000
  ·obtain⟨hlt,h4⟩:=hlt
   obtain⟨g,o,rfl,_,_,hcell⟩:=Sl.at1 hs hlt
   have c0:=hcell _ rfl
   clear hcell
   go_wp2
   go_roundw
   case rel=>exact⟨k+1,omq,by go_num,by simp [hsh,List.getElem?_eq_getElem hlt],trivial⟩
   case measure=>simp [intOf];omega
  ·have hke:k=min bs.length 4000:=by omega
   rw [←hke]
   by_cases hlt2:k<bs.length
   ·have h4:¬k<4000:=fun h=>hlt ⟨hlt2,h⟩
    clear hlt
    go_wp2
    go_ret
    exact⟨rfl,0,rfl⟩
   ·clear hlt
    go_wp2
    go_ret
    exact⟨rfl,0,rfl⟩
def bE8 (bs:List UInt8):List E:=bs.map fun b=>.int .u8 (b.toNat:Int)
theorem yu {bs:List UInt8}:(bE8 bs).length=bs.length:=by simp [bE8]
theorem zz6 (bs:List UInt8):Byt (bE8 bs):=fun e he=>by
 obtain⟨b,-,rfl⟩:=List.mem_map.1 he
 exact⟨b.toNat,b.toNat_lt,rfl⟩
theorem tt {w:World}{St:Nat→Prop}{φ:Nat→Lc}{K:Nat→Prop}:∀{bs:List UInt8} {us:List Value} {fp:List Nat},CRL w St φ K (acL (bE8 bs)) us fp→us=bs.map fun b=>.int .u8 b.toNat
 | [],us,fp,h=>by
  have h':CRL w St φ K [] us fp:=h
  simp only [CRL] at h'
  exact h'.1
 | b :: r,us,fp,h=>by
  have h':CRL w St φ K (.v (.int .u8 b.toNat) :: acL (bE8 r)) us fp:=h
  simp only [CRL] at h'
  obtain⟨u,us',f1,f2,rfl,rfl,h1,h2⟩:=h'
  simp only [CR] at h1
  obtain⟨rfl,-⟩:=h1
  rw [tt h2]
  rfl
theorem zb9 {w:World}{St:Nat→Prop}{φ:Nat→Lc}{K:Nat→Prop}{u:Value}{bs:List UInt8}(h:VR w St φ K (.c (.ro bs.length 1 (acL (bE8 bs)))) u):∃A c,u=.slice A bs.length c∧Rd w 1 yy (.slice A bs.length c) bs:=by
 simp only [VR,CR] at h
 obtain⟨-,A,c,rfl,⟨h1,h2,h3⟩,h4,h5⟩:=h
 refine⟨A,c,rfl,A,c,rfl,h1,⟨h2,h3⟩,fun hn=>?_⟩
 obtain⟨b,o,us,rfl,-,hlt,hc,hcr⟩:=h5 hn
 refine⟨b,o,rfl,Nat.zero_le _,hlt,fun i hi j u hu=>?_⟩
 have hus:=tt hcr
 have hj:j=0∧u=.int .u8 bs[i].toNat:=by
  cases j with
  | zero=>simp [yy] at hu;exact⟨rfl,hu.symm⟩
  | succ j=>simp [yy] at hu
 obtain⟨rfl,rfl⟩:=hj
 have:=hc i (.int .u8 bs[i].toNat) (by rw [hus,List.getElem?_map,List.getElem?_eq_getElem hi];rfl)
 rw [Nat.mul_one,Nat.add_zero]
 exact this
def tv (bs:List UInt8)(h:Int):List AC:=[.ro bs.length 1 (acL (bE8 bs)),.v (.int .i64 0),.v (.int .i64 h)]
theorem rH {bs:List UInt8}{h:Int}(hl:bs.length≤1048576):Curs (tv bs h):=by
 refine⟨bE8 bs,0,h,zz6 bs,Nat.zero_le _,by rw [yu];exact hl,?_⟩
 rw [yu];rfl
theorem n_new {ops:Array Oper}{Q:Exit→Act→World→Prop}{C:Ctx}{i:Nat}{r:List Nat}{tm:Nat→AV}{hp:Nat→Option Row}{gn L:Nat}{us:List Nat}{ty cT:TypeId}{gd:Option (Nat×Bool)}{ps:String}{af:Array Edge}{t:Nat}{xo fv:Operand}{bs:List UInt8}{hh:Int}
 (hnew:∀(A:Option Addr) (c:Nat) (w:World),Rd w 1 yy (.slice A bs.length c) bs→Calls prog 20 #[.slice A bs.length c] w fun e w'=>e=.returned (.pointer (some ⟨w.heap.size,0,none⟩))∧∃n,w'=(w.alloc (.cells #[.slice A bs.length c,.int .i64 0,.int .i64 hh] 67)).drewN n)
 (h:Walk prog ops Q C false [] r ⟨upd tm t (.c (.pt t 0)),upd hp t (some ⟨67,0,0,true,tv bs hh⟩),gn,t :: us,L⟩)
 (ht:Nat.blt t L=true:=by exact rfl) (hg:gw ops tm (⟨some t,.call ⟨.value fv,#[xo],#[cT]⟩,ty,ps,af,gd⟩:Oper)=some true:=by exact rfl) (hf:(Nat.ble gn t&&!us.contains t)=true:=by exact rfl)
 (hfv:AS.ev ⟨tm,hp,gn,us,L⟩ fv=.c (.fn 20 []):=by exact rfl) (hx:AS.ev ⟨tm,hp,gn,us,L⟩ xo=.c (.ro bs.length 1 (acL (bE8 bs))):=by exact rfl) :
 WalkO prog ops Q C false [] i (⟨some t,.call ⟨.value fv,#[xo],#[cT]⟩,ty,ps,af,gd⟩:Oper) r ⟨tm,hp,gn,us,L⟩:=⟨fun hop=>by
 simp only [baq,Nat.ble_eq,bnt] at hf
 have hnu:t∉us:=fun hm=>by have:=hf.2;simp at this;exact this hm
 refine⟨_,⟨[],[(t,some ⟨67,0,0,true,tv bs hh⟩)],[t],.c (.pt t 0)⟩,hop,?_,fun m hm=>?_,ep (by exact bv),?_⟩
 ·intro τ a w ha hsim K hK
  obtain⟨φ,F,St,hsim⟩:=hsim
  have e1:τ.ev xo=.c (.ro bs.length 1 (acL (bE8 bs))):=by rw [ha.ev xo (by simp [Op.operands,Call.operands])];exact hx
  have e2:τ.ev fv=.c (.fn 20 []):=by rw [ha.ev fv (by simp [Op.operands,Call.operands])];exact hfv
  have v1:=hsim.ev xo
  have v2:=hsim.ev fv
  rw [e1] at v1
  rw [e2] at v2
  simp only [VR,CR] at v2
  obtain⟨-,us2,hfu,hcaps⟩:=v2
  obtain⟨rfl,-⟩:us2=[]∧True:=by simp only [CRL] at hcaps;exact⟨hcaps.1,trivial⟩
  obtain⟨A,c,hev,hrd⟩:=zb9 v1
  unfold wpOp
  rw [hop]
  have hw:=nT hsim (b:=true) (by rw [ha.gw];exact hg)
  simp only [hw,if_true]
  refine .inl ?_
  unfold Oper.wp
  have hrun:(execOp a.eval (⟨some t,.call ⟨.value fv,#[xo],#[cT]⟩,ty,ps,af,gd⟩:Oper)).run prog w=.ok (.enter 20 #[.slice A bs.length c]) w:=by
   have h1:(resolve a.eval ⟨.value fv,#[xo],#[cT]⟩ ty).run prog w=.ok { target:=.fn (.func 20) #[],args:=#[.slice A bs.length c] } w:=by
    unfold resolve;simp only [hfu,Deferred.ofValue,Sem.run_pure]
    simp [hev]
   have h2:execOp a.eval (⟨some t,.call ⟨.value fv,#[xo],#[cT]⟩,ty,ps,af,gd⟩:Oper)=(do let d ←resolve a.eval ⟨.value fv,#[xo],#[cT]⟩ ty;invoke d.target d.args):=by unfold execOp;rfl
   rw [h2,Sem.run_bind,h1]
   simp only [Result.andThen_ok,invoke]
   exact gj krq _ _
  rw [hrun,Oper.upon_enter]
  refine (hnew A c w hrd).mono ?_
  rintro e w' ⟨rfl,n,rfl⟩
  have hcr:CRL w St φ τ.Kn (tv bs hh) [.slice A bs.length c,.int .i64 0,.int .i64 hh] []:=by
   refine CRL.cons (f:=[]) (f':=[]) ?_ (CRL.cons (f:=[]) (f':=[]) (by simp only [CR];exact⟨trivial,rfl,trivial⟩) (CRL.cons (f:=[]) (f':=[]) (by simp only [CR];exact⟨trivial,rfl,trivial⟩) CRL.nil))
   simp only [VR] at v1
   rw [←hev]
   exact v1
  obtain⟨φ',F',St',s1,s2⟩:=hsim.newBox (id:=t) (by rw [ha.gn];exact hf.1) (ha.us t (by simp)) hcr 67
  have s3:=s1.keep (w':=(w.alloc (.cells #[.slice A bs.length c,.int .i64 0,.int .i64 hh] 67)).drewN n) (Stp.drawn _ _ none)
  exact hK _ _ ⟨φ',F',St',s3.put (some t) (VR.mono (fun b hb _=>⟨hb,rfl⟩) (nlr _) (fun _ hi=>⟨hi,rfl⟩) _ _ s2)⟩
 ·have:m=t:=by simpa using hm
  subst this
  exact hnu
 ·refine cQ ?_
  show Walk prog ops Q C false [] r (AS.put _ (some t) _)
  rw [d5 (by exact d4 ht)];exact h⟩
theorem tdy1 {p:Prop}(h:p:=by repeat' (first|exact TmOk.nil|exact RwOk.nil|refine TmOk.cons ?_ ?_|refine RwOk.cons ?_ ?_|rfl|exact bg rfl (by assumption)|(refine rnV_id' rfl ?_;exact byc)|(refine cK ?_;first|rfl|omega|(rw [bB omq omq];omega))|(refine bg rfl ?_;exact byc)|exact dP rfl rfl|(refine rw_mid rqf rqf ?_ ?_<;>exact byc)|(refine rw_rn' rfl rfl ?_;simp;done))):p:=h
inductive FnY:E→Prop
 | mk (k n:Int) (s:ByteArray) (l:List E) (hk : -100≤k∧k≤100) (hn : -4294967296≤n∧n≤4294967296) (hs:s.size≤200) (hl:∀y∈l,FnY y):FnY (xE k n s l)
theorem FnX.y {e:E}(h:FnX e):FnY e:=by
 induction h with
 | mk k n s l hk hn hs hl ih=>exact .mk k n s l omq omq hs ih
theorem FnY.ty {e:E}(h:FnY e):e.Ty prog 26∧e.enc.length=4:=by
 induction h with
 | mk k n s l hk hn hs hl ih =>
  refine⟨?_,rfl⟩
  unfold xE
  refine E.Ty.mk_agg underlying26 (E.TyF.mk_cons ?_ (E.TyF.mk_cons ?_ (E.TyF.mk_cons (by simp only [E.Ty];exact⟨underlying9,by unfold maxLen;omega⟩) (E.TyF.mk_cons (E.Ty.mk_lst underlying24 krq (fun y hy=>(ih y hy).1) (fun y hy=>(ih y hy).2)) E.TyF.mk_nil))))
  ·simp only [E.Ty];exact⟨underlying3,nM omq omq⟩
  ·simp only [E.Ty];exact⟨underlying3,nM omq omq⟩
theorem FnY.none_ {k n:Int}{s:ByteArray}(hk : -100≤k∧k≤100)(hn : -4294967296≤n∧n≤4294967296)(hs:s.size≤200):FnY (xE k n s []):=.mk k n s [] hk hn hs (fun _ h=>absurd h List.not_mem_nil)
theorem lt8 {k:Nat}(h:(k:Int)<8):(k=0∨k=1)∨k=2∨(k=3∨k=4∨k=5)∨k=6∨k=7:=by omega
def lfN:List Int:=[0,1,2,3,10,2147483647]
def lfT:List ByteArray:=[⟨#[]⟩,⟨#[97]⟩,⟨#[97,98]⟩,⟨#[49,50]⟩,⟨#[45,51,120]⟩]
theorem zc9:∀s∈lfT,s.size≤7:=by decide
def lfV:List ByteArray:=[⟨#[120]⟩,⟨#[121]⟩,⟨#[120]⟩]
theorem zd9:∀s∈lfV,s.size≤7:=by decide
def rxL8:List ByteArray:=[⟨#[97]⟩,⟨#[94,97]⟩,⟨#[98,43,36]⟩,⟨#[97,124,98]⟩,⟨#[91,97,98,93,42,99]⟩,⟨#[49]⟩]
theorem za7:∀s∈rxL8,s.size≤7:=by decide
def atL8:List ByteArray:=[⟨#[116]⟩,⟨#[117]⟩]
theorem zb7:∀s∈atL8,s.size≤7:=by decide
def fnL8:List ByteArray:=[⟨#[102]⟩,⟨#[103]⟩]
theorem zc7:∀s∈fnL8,s.size≤7:=by decide
def opB:List ByteArray:=[⟨#[43]⟩,⟨#[45]⟩,⟨#[42]⟩,⟨#[47]⟩,⟨#[37]⟩,⟨#[46]⟩,⟨#[60]⟩,⟨#[60,61]⟩,⟨#[61,61]⟩,⟨#[33,61]⟩,⟨#[62]⟩,⟨#[62,61]⟩,⟨#[38,38]⟩,⟨#[124,124]⟩]
theorem ze9:mw=rB opB:=rfl
theorem zf9:∀s∈opB,s.size≤7:=by decide
theorem tw {cs:List AC}(hc:Curs cs):∃(e:E) (cs':List AC),Curs cs'∧FnY e∧e.sz≤20∧Ctr prog 57 [.c (.pt 0 0)] [cs] (.ag (owE e)) [cs']:=by
 have cc:=bD hc
 obtain⟨k,cs1,h1,hk,c1⟩:=eQ hc 8 omq
 have cc1:=bD h1
 rcases lt8 hk with hk|rfl|hk|rfl|rfl
 ·obtain⟨z,cs2,h2,hz,c2⟩:=rC h1 lfN (by simp [lfN])
  have cc2:=bD h2
  have hz2:0≤z∧z≤2147483647:=by
   simp only [lfN,List.mem_cons,List.not_mem_nil,or_false] at hz
   omega
  refine⟨xE 1 z ByteArray.empty [],cs2,h2,.none_ omq omq (by decide),by rw [fB];simp only [List.length_nil,E.szL];decide,az func57 rfl rfl ?_⟩
  have c3:=ru (n:=z)
  rcases hk with rfl|rfl
  all_goals
   repeat' (first|(apply ay;first|refine ak ?_|refine ai ?_|refine aF 0 (c1) ?_ (hl:=bF rqf cc)|refine fD 0 [9] (c2) ?_ (hl:=bF rqf cc1)|refine db c3 ?_|refine bh ?_|refine ao ?_|refine bJ ?_|refine dT ?_)|refine aj ?_|refine ab ?_|refine aa fun C=>?_|refine ac ?_|refine ah ?_|refine al ?_|refine aq rfl ?_|refine ar rfl ?_)
   refine am ?_
   exact dO rfl (bi (aO rfl (aO rfl (aO rfl (bE rfl rfl rfl rfl aQ))))) rfl cc2 (dx h2 hc) ⟨rfl,rfl⟩
 ·obtain⟨z,cs2,h2,hz,c2⟩:=kx h1 lfT (by simp [lfT])
  have cc2:=bD h2
  have hsz:=zc9 z hz
  refine⟨xE 2 0 z [],cs2,h2,.none_ omq omq omq,by rw [fB];simp only [List.length_nil,E.szL];omega,az func57 rfl rfl ?_⟩
  repeat' (first|(apply ay;first|refine ak ?_|refine ai ?_|refine aF 0 (c1) ?_ (hl:=bF rqf cc)|refine fD 0 [15] (c2) ?_ (hl:=bF rqf cc1)|refine bh ?_|refine ao ?_|refine bJ ?_|refine dT ?_|refine au ?_)|refine aj ?_|refine ab ?_|refine aa fun C=>?_|refine ac ?_|refine ah ?_|refine aq rfl ?_|refine ar rfl ?_)
  refine bc (cR 90000 (i:=2) 26 4 rfl rfl (pre:=[_,_,_]) (post:=[]) rfl) ?_
  refine am ?_
  exact dO rfl (bi (aO rfl (aO rfl (aO rfl (bE rfl rfl rfl rfl aQ))))) rfl cc2 (dx h2 hc) ⟨rfl,rfl⟩
 ·obtain⟨z,cs2,h2,hz,c2⟩:=kx h1 lfV (by simp [lfV])
  have cc2:=bD h2
  have hsz:=zd9 z hz
  refine⟨xE 3 0 z [],cs2,h2,.none_ omq omq omq,by rw [fB];simp only [List.length_nil,E.szL];omega,az func57 rfl rfl ?_⟩
  have c3:=yf (s:=z)
  rcases hk with rfl|rfl|rfl
  all_goals
   repeat' (first|(apply ay;first|refine ak ?_|refine ai ?_|refine aF 0 (c1) ?_ (hl:=bF rqf cc)|refine fD 0 [23] (c2) ?_ (hl:=bF rqf cc1)|refine db c3 ?_|refine bh ?_|refine ao ?_|refine bJ ?_|refine dT ?_)|refine aj ?_|refine ab ?_|refine aa fun C=>?_|refine ac ?_|refine ah ?_|refine al ?_|refine aq rfl ?_|refine ar rfl ?_)
   refine am ?_
   exact dO rfl (bi (aO rfl (aO rfl (aO rfl (bE rfl rfl rfl rfl aQ))))) rfl cc2 (dx h2 hc) ⟨rfl,rfl⟩
 ·obtain⟨m,cs2,h2,hm,c2⟩:=eQ h1 4 omq
  have cc2:=bD h2
  refine⟨xE 5 0 ByteArray.empty [xE 1 (m:Int) ByteArray.empty []],cs2,h2,.mk _ _ _ _ omq omq (by decide) (fun y hy=>by obtain rfl:=List.mem_singleton.1 hy;exact .none_ omq omq (by decide)),by rw [fB,oK,fB];simp only [List.length_cons,List.length_nil,E.szL];decide,az func57 rfl rfl ?_⟩
  have c3:=ru (n:=(m:Int))
  repeat' (first|((refine hX [0,1,2,3] [4,5] rfl fun C=>?_))|(apply ay;first|refine ak ?_|refine ai ?_|refine aF 0 (c1) ?_ (hl:=bF rqf cc)|refine aF 0 (c2) ?_ (hl:=bF rqf cc1)|refine db c3 ?_|refine ao ?_|refine bJ ?_|refine dT ?_)|refine aj ?_|refine ab ?_|refine aa fun C=>?_|refine ac ?_|refine ah ?_|refine aq rfl ?_|refine ar rfl ?_)
  refine lE (dU (i:=31) (j:=3100) rfl rfl rfl (pre:=[_,_,_]) (post:=[]) rfl) (by decide) ?_
  repeat' (first|(apply f_w;refine iq 90001 1 (kT (k:=5) (l:=[xE 1 (m:Int) ByteArray.empty []])) ?_)|(apply ay;first|refine bH ?_|refine n_sk0 ?_|(apply tX;first|(refine aK ?_ ?_<;>intro hG<;>(try cases hG))|refine ak ?_|refine cI (v:=.ag _) ?_|refine cI (v:=.tu _) ?_|refine au ?_)|(apply tY;first|refine ai ?_|refine fa (v:=.ag _) ?_|refine fa (v:=.tu _) ?_|refine au ?_)|refine bf ?_|refine iZ ?_|refine aI ?_|refine dD ?_|refine cX ?_|refine bM ?_|refine qi ?_|(apply ub;first|refine bC ?_|refine a7 ?_|refine cJ ?_|refine dz ?_|refine dz (hnu:=bytC_noUn _) ?_|refine n_app0 ?_|refine n_app0 (hnu:=bytC_noUn _) ?_|refine au ?_)|refine bh ?_|refine n_sto ?_|(apply mW;first|refine gJ ?_|refine eG ?_|refine au ?_)|(apply j6;first|refine ao ?_|refine aR ?_|refine aC ?_|refine eM ?_|refine au ?_)|(apply j7;first|refine aN ?_|refine cH ?_|refine dM ?_|refine eH ?_|refine au ?_)|(apply j8;first|refine aA ?_|refine n_lss_u8 ?_|refine au ?_)|(apply j9;first|refine bp ?_|refine n_leq_u8 ?_|refine au ?_)|(apply ka;first|refine aX ?_|refine n_gtr_u8 ?_|refine au ?_)|(apply kb;first|refine bX ?_|refine n_geq_u8 ?_|refine au ?_)|(apply ji;first|refine aw ?_|refine dI ?_|refine au ?_)|(apply uc;first|refine bI ?_|refine au ?_)|(apply tZ;first|refine aB ?_|refine fb (v:=.ag _) ?_|refine fb (v:=.tu _) ?_|refine au ?_)|(apply ua;first|refine b9 ?_|refine dA (v:=.ag _) ?_|refine dA (v:=.tu _) ?_|refine au ?_)|(apply qj;first|refine cu ?_|refine dh ?_|refine au ?_)|(apply si;first|refine dc ?_|refine jC ?_|refine gq ?_|refine n_cvs ?_|refine n_cvr ?_|refine au ?_)|refine bJ ?_|refine cE ?_|refine dT ?_|refine bV ?_|refine fy ?_|refine gK ?_|refine e8 ?_|refine au ?_|refine n_mv ?_)|refine aj ?_|refine ab ?_|(apply da;first|refine fg ?_|refine o_sk0 ?_|(refine e7 ?_ ?_<;>intro hG<;>(try cases hG))|(apply dC;refine aD ?_)|(apply iu;refine aD ?_)|refine dZ ?_|refine ga ?_|(apply tU;first|refine bW ?_|refine d7 ?_|refine dQ ?_|refine gI ?_|refine aD ?_|refine se ?_)|(apply tT;first|refine dt ?_|refine dJ ?_|refine gp ?_|refine eT ?_|refine eT (hnu:=bytC_noUn _) ?_|refine o_app0 ?_|refine o_app0 (hnu:=bytC_noUn _) ?_|refine aD ?_)|refine li ?_|refine o_sto ?_|(apply tV;first|refine iY ?_|refine jB ?_|refine aD ?_)|(apply fF;first|refine cP ?_|refine cS ?_|refine dq ?_|refine gD ?_|refine aD ?_)|(apply tW;first|refine dK ?_|refine gk ?_|refine o_cvs ?_|refine o_cvr ?_|refine aD ?_)|refine pi ?_|refine sd ?_|refine nu ?_|refine eU ?_|refine ir ?_|refine gZ ?_|refine gC ?_|refine aD ?_|refine o_mv ?_)|refine aj ?_|refine ab ?_)
  skip
  refine am ?_
  exact dO rfl (bi (aO rfl (aO rfl (aO rfl (bE rfl rfl rfl rfl aQ))))) rfl cc2 (dx h2 hc) ⟨rfl,rfl⟩
 ·obtain⟨z,cs2,h2,hz,c2⟩:=rC h1 [14,15] (by simp)
  have cc2:=bD h2
  have hz2:0≤z∧z≤15:=by
   simp only [List.mem_cons,List.not_mem_nil,or_false] at hz
   omega
  refine⟨xE z 0 ByteArray.empty [],cs2,h2,.none_ omq omq (by decide),by rw [fB];simp only [List.length_nil,E.szL];decide,az func57 rfl rfl ?_⟩
  repeat' (first|(apply ay;first|refine ak ?_|refine ai ?_|refine aF 0 (c1) ?_ (hl:=bF rqf cc)|refine fD 0 [34] (c2) ?_ (hl:=bF rqf cc1)|refine bh ?_|refine ao ?_|refine bJ ?_|refine dT ?_|refine au ?_)|refine aj ?_|refine ab ?_|refine aa fun C=>?_|refine ac ?_|refine ah ?_|refine al ?_|refine ar rfl ?_)
  refine bc (cR 90000 (i:=2) 26 4 rfl rfl (pre:=[_,_,_]) (post:=[]) rfl) ?_
  refine am ?_
  exact dO rfl (bi (aO rfl (aO rfl (aO rfl (bE rfl rfl rfl rfl aQ))))) rfl cc2 (dx h2 hc) ⟨rfl,rfl⟩
theorem rI {cs:List AC}(hc:Curs cs):∃(z:ByteArray) (cs':List AC),Curs cs'∧z.size≤7∧Ctr prog 59 [.c (.pt 0 0)] [cs] (.c (.v (.string z))) [cs']:=by
 have cc:=bD hc
 obtain⟨z,cs2,h2,hz,c2⟩:=kx hc rxL8 (by simp [rxL8])
 have cc2:=bD h2
 refine⟨z,cs2,h2,za7 z hz,az func59 rfl rfl ?_⟩
 repeat' (first|(apply ay;first|refine ak ?_|refine ai ?_|refine fD 0 [4] (c2) ?_ (hl:=bF rqf cc)|refine dT ?_)|refine aj ?_|refine ab ?_|refine aa fun C=>?_|refine ac ?_)
 refine am ?_
 exact dO rfl aJ rfl cc2 (dx h2 hc) ⟨rfl,rfl⟩
inductive Hd8 (c1:List AC):Int→ByteArray→Nat→List AC→Prop
 | bin (s c2) (h:Ctr prog 35 [.c (.pt 0 0),.c (.ro mw.length 1 (acL mw))] [c1] (.c (.v (.string s))) [c2]):Hd8 c1 6 s 2 c2
 | at_ (k s c2) (hk:k=4∨k=9) (h:Ctr prog 35 [.c (.pt 0 0),.c (.ro (rB atL8).length 1 (acL (rB atL8)))] [c1] (.c (.v (.string s))) [c2]):Hd8 c1 k s 1 c2
 | rx (k n s c2) (hk:k=10∧n=1∨k=18∧n=2) (h:Ctr prog 59 [.c (.pt 0 0)] [c1] (.c (.v (.string s))) [c2]):Hd8 c1 k s n c2
 | fn (s c2 c3) (n:Nat) (hc2:bu c2=true) (h:Ctr prog 35 [.c (.pt 0 0),.c (.ro (rB fnL8).length 1 (acL (rB fnL8)))] [c1] (.c (.v (.string s))) [c2]) (h2:Ctr prog 41 [.c (.pt 0 0),.c (.v (.int .i64 3))] [c2] (.c (.v (.int .i64 (n:Int)))) [c3]):Hd8 c1 11 s n c3
 | non (k n) (hk:(k=13∧n=3)∨(k=16∧n=2)∨((k=5∨k=7∨k=8∨k=12∨k=17)∧n=1)):Hd8 c1 k ByteArray.empty n c1
def kds8:List Int:=[6,6,6,6,4,5,7,8,9,10,11,12,13,16,17,18]
theorem zg9 {c1:List AC}(h1:Curs c1){k:Int}(hk:k∈kds8):∃(s:ByteArray) (n:Nat) (c2:List AC),Curs c2∧s.size≤7∧n≤3∧Hd8 c1 k s n c2:=by
 have str:∀{c:List AC} (hc:Curs c) (l:List ByteArray),(∀s∈l,s.size≤7)→0<l.length→∃(s:ByteArray) (c2:List AC),Curs c2∧s.size≤7∧Ctr prog 35 [.c (.pt 0 0),.c (.ro (rB l).length 1 (acL (rB l)))] [c] (.c (.v (.string s))) [c2]:=fun hc l hl h0=>by
  obtain⟨z,c2,h2,hz,k2⟩:=kx hc l h0
  exact⟨z,c2,h2,hl z hz,k2⟩
 have e0:ByteArray.empty.size≤7:=by decide
 simp only [kds8,List.mem_cons,List.not_mem_nil,or_false] at hk
 have key:k=6∨(k=4∨k=9)∨(k=10∨k=18)∨k=11∨k=13∨k=16∨(k=5∨k=7∨k=8∨k=12∨k=17):=by omega
 rcases key with rfl|hk|hk|rfl|rfl|rfl|hk
 ·obtain⟨s,c2,h2,hs,k2⟩:=str h1 opB zf9 (by decide)
  rw [←ze9] at k2
  exact⟨s,2,c2,h2,hs,omq,.bin s c2 k2⟩
 ·obtain⟨s,c2,h2,hs,k2⟩:=str h1 atL8 zb7 (by decide)
  exact⟨s,1,c2,h2,hs,omq,.at_ k s c2 hk k2⟩
 ·obtain⟨s,c2,h2,hs,k2⟩:=rI h1
  rcases hk with rfl|rfl
  ·exact⟨s,1,c2,h2,hs,omq,.rx 10 1 s c2 (.inl ⟨rfl,rfl⟩) k2⟩
  ·exact⟨s,2,c2,h2,hs,omq,.rx 18 2 s c2 (.inr ⟨rfl,rfl⟩) k2⟩
 ·obtain⟨s,c2,h2,hs,k2⟩:=str h1 fnL8 zc7 (by decide)
  obtain⟨n,c3,h3,hn,k3⟩:=eQ h2 3 omq
  exact⟨s,n,c3,h3,hs,omq,.fn s c2 c3 n (bD h2) k2 k3⟩
 ·exact⟨_,3,c1,h1,e0,omq,.non 13 3 (.inl ⟨rfl,rfl⟩)⟩
 ·exact⟨_,2,c1,h1,e0,omq,.non 16 2 (.inr (.inl ⟨rfl,rfl⟩))⟩
 ·exact⟨_,1,c1,h1,e0,omq,.non k 1 (.inr (.inr ⟨hk,rfl⟩))⟩
theorem zk3 {B:Nat}:∀{l:List E},(∀x∈l,x.sz≤B)→E.szL l≤l.length*B
 | [],_=>by simp [E.szL]
 | x :: l,h=>by
  have h1:=zk3 (l:=l) fun y hy=>h y (mco _ hy)
  have h2:=h x (mcs ..)
  simp only [E.szL,List.length_cons]
  rw [Nat.add_mul]
  omega
def bd8:Nat→Nat
 | 0=>20
 | d+1=>20+3*bd8 d
theorem zi1 {d:Nat}(hd:d≤3)(ih:∀cs,Curs cs→∃(e:E) (cs':List AC),Curs cs'∧FnY e∧e.sz≤bd8 d∧Ctr prog 38 [.c (.pt 0 0),.c (.v (.int .i64 (d:Int)))] [cs] (.ag (owE e)) [cs']){cs:List AC}(hc:Curs cs):∃(e:E) (cs':List AC),Curs cs'∧FnY e∧e.sz≤bd8 (d+1)∧Ctr prog 38 [.c (.pt 0 0),.c (.v (.int .i64 ((d+1:Nat):Int)))] [cs] (.ag (owE e)) [cs']:=by
 have cc:=bD hc
 obtain⟨b,cs1,h1,c1⟩:=tl hc 4 omq
 have cc1:=bD h1
 have hd0:((((d+1:Nat):Int))==0)=false:=by
  rw [Bool.eq_false_iff]
  intro h
  have:=eq_of_beq h
  omega
 cases b with
 | true =>
  obtain⟨e,cs2,h2,hf,hz,c2⟩:=tw h1
  have cc2:=bD h2
  refine⟨e,cs2,h2,hf,by show _≤20+3*bd8 d;omega,az func38 rfl rfl ?_⟩
  cases hf with
  | mk m1 m2 m3 m4 _ _ _ _ =>
  repeat' (first|(apply ay;first|(refine aK ?_ ?_<;>intro hG<;>(try cases hG))|refine ak ?_|refine aF 0 (c1) ?_ (hl:=bF rqf cc)|refine ao ?_|refine aB ?_|refine bJ ?_)|refine aj ?_|refine ab ?_|refine aa fun C=>?_|refine ac ?_)
  ·refine aq rfl ?_
   repeat' (first|(apply ay;first|refine ak ?_|refine aF 0 (c2) ?_ (hl:=bF rqf cc1)|refine bh ?_)|refine aj ?_|refine ab ?_|refine aa fun C=>?_|refine ac ?_)
   refine am ?_
   exact dO rfl (bi (aO rfl (aO rfl (aO rfl (bE rfl rfl rfl (a8 _) aQ))))) rfl cc2 (dx h2 hc) ⟨rfl,rfl⟩
 | false =>
  obtain⟨k,cs2,h2,hk,c2⟩:=rC h1 kds8 (by decide)
  have cc2:=bD h2
  obtain⟨s,n,cs3,h3,hs,hn,hH⟩:=zg9 h2 hk
  have cc3:=bD h3
  obtain⟨S,X,hS0,hS⟩:=uR (P:=Curs) (R:=fun c x c'=>FnY x∧x.sz≤bd8 d∧Ctr prog 38 [.c (.pt 0 0),.c (.v (.int .i64 (d:Int)))] [c] (.ag (owE x)) [c']) (fun c hc=>by
   obtain⟨e,c',q1,q2,q3,q4⟩:=ih c hc
   exact⟨e,c',q1,q2,q3,q4⟩) h3
  have hkb : -100≤k∧k≤100:=by
   simp only [kds8,List.mem_cons,List.not_mem_nil,or_false] at hk
   omega
  have hl:∀x∈(List.range n).map X,FnY x∧x.sz≤bd8 d:=fun x hx=>by
   obtain⟨j,-,rfl⟩:=List.mem_map.1 hx
   exact⟨(hS j).2.1,(hS j).2.2.1⟩
  refine⟨xE k 0 s ((List.range n).map X),S n,(hS n).1,.mk _ _ _ _ hkb omq omq fun y hy=>(hl y hy).1,?_,az func38 rfl rfl ?_⟩
  ·rw [fB]
   have h5:=zk3 (B:=bd8 d) (l:=(List.range n).map X) fun x hx=>(hl x hx).2
   rw [List.length_map,List.length_range] at h5 ⊢
   have h6:n*bd8 d≤3*bd8 d:=Nat.mul_le_mul_right _ hn
   show _≤20+3*bd8 d
   omega
  ·have hXl:∀i,(List.range (i+1)).map X=(List.range i).map X++[X i]:=fun i=>by rw [List.range_succ,List.map_append];rfl
   repeat' (first|(apply ay;refine bJ ?_)|refine aj ?_|refine ab ?_|refine aa fun C=>?_|refine iM ?_)
   refine ac ?_
   repeat' (first|(apply ay;first|(refine aK ?_ ?_<;>intro hG<;>(try cases hG))|refine ak ?_|refine aF 0 (c1) ?_ (hl:=bF rqf cc)|refine ao ?_|refine aB ?_)|refine aj ?_|refine ab ?_|refine aa fun C=>?_|refine iM ?_)
   refine ar rfl ?_
   refine al ?_
   repeat' (first|(apply ay;first|refine ak ?_|refine ai ?_|refine fD 0 [18] (c2) ?_ (hl:=bF rqf cc1)|refine bh ?_|refine bJ ?_|refine dT ?_|refine au ?_)|refine aj ?_|refine ab ?_|refine aa fun C=>?_|refine iM ?_)
   refine sb ⟨ft [(0,.c (.pt 0 0)),(1,.c (.v (.int .i64 ((d+1:Nat):Int)))),(4,.c (.pt 4 0)),(6,.c (.pt 6 0)),(7,.c (.v (.int .i64 (n:Int))))],eW [(0,0,⟨0,0,0,true,cs3⟩),(4,4,⟨26,0,0,true,[.v (.int .i64 0),.v (.int .i64 0),.v (.string ByteArray.empty),.v (.slice none 0 0)]⟩),(6,6,⟨26,0,0,true,[.v (.int .i64 k),.v (.int .i64 0),.v (.string s),.sl 9 0]⟩),(9,9,⟨26,4,0,false,[]⟩)],1,[0,4,6,9],73⟩ ?_ ?_
   ·clear hS0 hS hXl hl
    cases hH with
    | bin _ _ h =>
     have c4:=xw
     repeat' (first|(apply ay;first|refine ak ?_|refine ai ?_|refine bf ?_|refine db c4 ?_|refine fD 0 [2700] (h) ?_ (hl:=bF rqf cc2)|refine bh ?_|refine ao ?_)|refine aj ?_|refine ab ?_|refine aa fun C=>?_|refine ac ?_|refine ah ?_|refine aq rfl ?_)
     show Gh _ _
     refine (cR 9 (i:=6) 26 4 rfl rfl (pre:=[_,_,_]) (post:=[]) rfl).trans ?_
     (refine aL _ _ rfl rfl ?_ ?_<;>exact tdy1)
    | at_ _ _ _ hk2 h =>
     rcases hk2 with rfl|rfl
     all_goals
      repeat' (first|(apply ay;first|refine ak ?_|refine ai ?_|refine bf ?_|refine fD 0 [33] (h) ?_ (hl:=bF rqf cc2)|refine bh ?_|refine ao ?_|refine dT ?_)|refine aj ?_|refine ab ?_|refine aa fun C=>?_|refine ac ?_|refine ah ?_|refine al ?_|refine aq rfl ?_|refine ar rfl ?_)
      show Gh _ _
      refine (cR 9 (i:=6) 26 4 rfl rfl (pre:=[_,_,_]) (post:=[]) rfl).trans ?_
      (refine aL _ _ rfl rfl ?_ ?_<;>exact tdy1)
    | rx _ _ _ _ hk2 h =>
     rcases hk2 with ⟨rfl,rfl⟩|⟨rfl,rfl⟩
     all_goals
      repeat' (first|(apply ay;first|refine ak ?_|refine ai ?_|refine bf ?_|refine aF 0 (h) ?_ (hl:=bF rqf cc2)|refine bh ?_|refine ao ?_)|refine aj ?_|refine ab ?_|refine aa fun C=>?_|refine ac ?_|refine ah ?_|refine aq rfl ?_|refine ar rfl ?_)
      show Gh _ _
      refine (cR 9 (i:=6) 26 4 rfl rfl (pre:=[_,_,_]) (post:=[]) rfl).trans ?_
      (refine aL _ _ rfl rfl ?_ ?_<;>exact tdy1)
    | fn _ c4 _ _ hc4 h h2' =>
     repeat' (first|(apply ay;first|refine ak ?_|refine ai ?_|refine bf ?_|refine fD 0 [49] (h) ?_ (hl:=bF rqf cc2)|refine aF 0 (h2') ?_ (hl:=bF rqf hc4)|refine bh ?_|refine ao ?_|refine dT ?_)|refine aj ?_|refine ab ?_|refine aa fun C=>?_|refine ac ?_|refine ah ?_|refine aq rfl ?_|refine ar rfl ?_)
     show Gh _ _
     refine (cR 9 (i:=6) 26 4 rfl rfl (pre:=[_,_,_]) (post:=[]) rfl).trans ?_
     (refine aL _ _ rfl rfl ?_ ?_<;>exact tdy1)
    | non _ _ hk2 =>
     rcases hk2 with ⟨rfl,rfl⟩|⟨rfl,rfl⟩|⟨rfl|rfl|rfl|rfl|rfl,rfl⟩
     all_goals
      repeat' (first|(apply ay;first|refine ak ?_|refine ai ?_|refine ao ?_)|refine aj ?_|refine ab ?_|refine aa fun C=>?_|refine ac ?_|refine ah ?_|refine al ?_|refine aq rfl ?_|refine ar rfl ?_)
      show Gh _ _
      refine (cR 9 (i:=6) 26 4 rfl rfl (pre:=[_,_,_]) (post:=[]) rfl).trans ?_
      (refine aL _ _ rfl rfl ?_ ?_<;>exact tdy1)
   ·clear hH c1 c2 h1 h2 h3
    have hcl:∀i,bu (S i)=true:=fun i=>bD (hS i).1
    repeat' (first|(apply ay;refine ai ?_)|refine aj ?_|refine ab ?_|refine aa fun C=>?_|refine ac ?_|refine ah ?_)
    refine aY (fun i:Nat=>⟨ft [(0,.c (.pt 0 0)),(1,.c (.v (.int .i64 ((d+1:Nat):Int)))),(4,.c (.pt 4 0)),(6,.c (.pt 6 0)),(7,.c (.v (.int .i64 (n:Int)))),(8,.c (.v (.int .i64 (i:Int))))],eW [(0,0,⟨0,0,0,true,S i⟩),(4,4,⟨26,0,0,true,[.v (.int .i64 0),.v (.int .i64 0),.v (.string ByteArray.empty),.v (.slice none 0 0)]⟩),(6,6,⟨26,0,0,true,[.v (.int .i64 k),.v (.int .i64 0),.v (.string s),.sl 9 i]⟩),(9,9,⟨26,4,i,false,owL ((List.range i).map X)⟩)],1,[0,4,6,9],73⟩)
     (fun N i=>i+N=n) n 0 omq ?_ ?_
    ·have h0:=hcl 0
     rw [←hS0] at cc3 ⊢
     (refine aL _ _ rfl rfl ?_ ?_<;>exact tdy1)
    rintro N i hN
    try dsimp only
    obtain⟨q1,q2,q3,q4⟩:=hS i
    have cci:=hcl i
    have ccj:=hcl (i+1)
    have ez:(((d+1:Nat):Int))-1=(d:Int):=by omega
    by_cases hin:i<n
    ·have hlt:((i:Int)<(n:Int)):=by omega
     obtain⟨m1,m2,m3,m4,hxe⟩:∃m1 m2 m3 m4,X i=xE m1 m2 m3 m4:=by
      revert q2
      generalize X i=x
      intro q2
      cases q2
      exact⟨_,_,_,_,rfl⟩
     rw [hxe,←ez] at q4
     repeat' (first|(apply ay;first|refine ak ?_|refine aA ?_)|refine aj ?_|refine ab ?_|refine aa fun C=>?_|refine ac ?_)
     refine ae rqf (fun hC=>?_) fun hC=>by exfalso;simp only [dqn] at hC;exact hC hlt
     repeat' (first|(apply ay;first|refine ak ?_|refine ai ?_|refine aw ?_)|refine aj ?_|refine ab ?_|(apply da;first|(apply dC;refine aD ?_)|refine dZ ?_|refine bW ?_|refine m5 0 (q4) ?_ (hl:=bF rqf cci)|refine eT ?_|refine li ?_|refine cS ?_|refine nu ?_)|refine aj ?_|refine ab ?_|refine aa fun C=>?_|refine av krq krq fun C=>?_|refine ac ?_|refine ah ?_|refine al ?_)
     refine⟨N-1,i+1,omq,omq,?_⟩
     dsimp only
     rw [hXl i,hxe]
     refine (dU (i:=70) (j:=6900) rfl rfl rfl (pre:=owL ((List.range i).map X)++[.v (.int .i64 m1),.v (.int .i64 m2),.v (.string m3)]) (post:=[]) (by rw [List.append_assoc];rfl)).trans ?_
     (refine eL (fun j=>if j=9 then 70 else j) _ _ rfl rfl ?_ ?_<;>(repeat' (first|exact TmOk.nil|exact RwOk.nil|refine TmOk.cons ?_ ?_|refine RwOk.cons ?_ ?_|rfl|exact bg rfl (by assumption)|(refine rnV_id' rfl ?_;exact byc)|(refine cK ?_;first|rfl|omega|(rw [bB omq omq];omega))|(refine bg rfl ?_;exact byc)|exact dP rfl rfl|(refine rw_mid rqf rqf ?_ ?_<;>exact byc)|(refine rw_rn' rfl rfl ?_;simp;done))))
     exact fH (r:=⟨26,4,i+1,false,(owL ((List.range i).map X)++[.v (.int .i64 m1),.v (.int .i64 m2),.v (.string m3)])++[.ow 26 m4.length 4 (owL m4)]⟩) rfl (by rw [fG,List.append_assoc];rfl) (by first|rfl|(simp [oS,bu,clo,bk,aM,bl,a8,aZ];done))
    ·obtain rfl:i=n:=by omega
     repeat' (first|(apply ay;first|refine ak ?_|refine aA ?_)|refine aj ?_|refine ab ?_|refine aa fun C=>?_|refine ac ?_)
     refine ae rqf (fun hC=>by exfalso;simp only [dqt] at hC;omega) fun hC=>?_
     repeat' (first|(apply ay;first|refine bM ?_|refine bh ?_)|refine aj ?_|refine ab ?_|refine aa fun C=>?_|refine ac ?_|refine aE ?_)
     refine am ?_
     refine dO rfl (bi (aO rfl (aO rfl (aO rfl (bE rfl rfl rfl (a8 _) aQ))))) rfl cci (dx q1 hc) ⟨?_,rfl⟩
     show _=AV.ag (owE (xE k 0 s ((List.range i).map X)))
     unfold xE
     simp only [owE,owL,List.length_map,List.length_range]
     rfl
theorem tz:∀d:Nat,d≤4→∀cs,Curs cs→∃(e:E) (cs':List AC),Curs cs'∧FnY e∧e.sz≤bd8 d∧Ctr prog 38 [.c (.pt 0 0),.c (.v (.int .i64 (d:Int)))] [cs] (.ag (owE e)) [cs']
 | 0,_,cs,hc=>by
  have cc:=bD hc
  obtain⟨e,cs2,h2,hf,hz,c2⟩:=tw hc
  have cc2:=bD h2
  refine⟨e,cs2,h2,hf,hz,az func38 rfl rfl ?_⟩
  cases hf with
  | mk m1 m2 m3 m4 _ _ _ _ =>
  repeat' (first|(apply ay;first|refine bH ?_|(refine aK ?_ ?_<;>intro hG<;>(try cases hG))|refine ak ?_|refine aF 0 (c2) ?_ (hl:=bF rqf cc)|refine bh ?_|refine ao ?_|refine aB ?_|refine bJ ?_)|refine aj ?_|refine ab ?_|refine aa fun C=>?_|refine ac ?_|refine aq rfl ?_)
  refine am ?_
  exact dO rfl (bi (aO rfl (aO rfl (aO rfl (bE rfl rfl rfl (a8 _) aQ))))) rfl cc2 (dx h2 hc) ⟨rfl,rfl⟩
 | d+1,hd,cs,hc=>zi1 omq (tz d omq) hc
theorem jW {l:List E}{nm:ByteArray}(hnm:nm.size≤1048576)(hl:∀e∈l,e.Ty prog 26)(hk:∀e∈l,e.enc.length=4)(hlen:l.length+E.szL l≤1048576)(hc:∀x∈l,Ctr prog 56 [.ag (acE x)] [] (.c (.v (.string (txE x)))) []):Ctr prog 95 [.c (.v (.string nm)),.c (.ro l.length 4 (acL l))] [] (.c (.v (.string (((nm++⟨#[40]⟩)++joC (l.map txE))++⟨#[41]⟩)))) []:=by
 rw [rc]
 have hll:(l.map qm).length=l.length:=List.length_map ..
 have h40:((nm++⟨#[40]⟩):ByteArray).size=nm.size+1:=by rw [ByteArray.size_append'];rfl
 refine az func95 rfl rfl ?_
 repeat' (first|(apply ay;first|refine ak ?_|refine ai ?_|refine dI ?_)|refine aj ?_|refine ab ?_|refine aa fun C=>?_|refine ac ?_|refine ah ?_)
 refine aY (fun k:Nat=>⟨ft [(1,.c (.ro l.length 4 (acL l))),(5,.c (.v (.string ((nm++⟨#[40]⟩)++gP ((l.map qm).take k) ⟨#[44,32]⟩)))),(6,.c (.v (.int .i64 k)))],eW [],0,[],28⟩)
  (fun N k=>k+N=l.length) l.length 0 omq ?_ ?_
 ·rw [List.take_zero,pr,ByteArray.append_empty]
  (refine aL _ _ rfl rfl ?_ ?_<;>exact tdy0)
 rintro N k hN
 try dsimp only
 generalize nm++⟨#[40]⟩=M at h40 ⊢
 have hj:=sW hl k
 repeat' (first|(apply ay;first|refine ak ?_|refine bC ?_|refine aA ?_)|refine aj ?_|refine ab ?_|refine aa fun C=>?_|refine ac ?_)
 refine ae rqf (fun hk1=>?_) fun hk1=>?_
 ·have hk':k<l.length:=by simpa using hk1
  obtain⟨x,hx⟩:∃x,l[k]? = some x:=⟨_,List.getElem?_eq_getElem hk'⟩
  have hxm:=mge hx
  have hxt:=hl x hxm
  have c3:=hc x hxm
  have hxz:=E.szL_mem hxm
  have hts:=jS hxt
  have hxs:(l.map qm)[k]? = some (qm x):=by rw [List.getElem?_map,hx];rfl
  have e:=uj hxs ⟨#[44,32]⟩
  have hst:lu (qm x)=txE x:=rfl
  rw [hst] at e
  have h2:(⟨#[44,32]⟩:ByteArray).size=2:=rfl
  generalize txE x=T at c3 hts e
  obtain⟨y0,y1,y2,yA,yc,yl,rfl,-⟩:=aW hxt
  by_cases hk0:k=0
  ·subst hk0
   rw [if_pos rfl] at e
   rw [List.take_zero,pr,ByteArray.append_empty] at *
   repeat' (first|(apply ay;first|refine ak ?_|refine ai ?_|refine cX ?_|refine aH c3 ?_|refine gJ ?_|refine aX ?_|refine aw ?_|refine dI ?_)|refine aj ?_|refine ab ?_|refine aa fun C=>?_|refine ac ?_|refine ah ?_|refine al ?_|(refine ae rqf ?_ ?_<;>intro hC<;>(try cases hC)))
   all_goals first
    | (exfalso;simp at hC;done)
    | (refine⟨N-1,1,omq,omq,?_⟩
       rw [show (1:Nat)=0+1 from rfl,e,ByteArray.empty_append]
       (refine aL _ _ rfl rfl ?_ ?_<;>(repeat' (first|exact TmOk.nil|exact RwOk.nil|refine TmOk.cons ?_ ?_|refine RwOk.cons ?_ ?_|rfl|(refine rnV_id' rfl ?_;exact byc)|(refine cK ?_;first|rfl|omega|(rw [bB omq omq];omega))|(refine bg rfl ?_;exact byc)|exact dP rfl rfl|(refine rw_mid rqf rqf ?_ ?_<;>exact byc)|(refine rw_rn' rfl rfl ?_;simp;done)))))
  ·rw [if_neg hk0] at e
   generalize gP ((l.map qm).take k) ⟨#[44,32]⟩=J at e hj ⊢
   have hMJ:(M++J).size=M.size+J.size:=ByteArray.size_append' _ _
   have e3:M++((J++⟨#[44,32]⟩)++T)=((M++J)++⟨#[44,32]⟩)++T:=by simp only [ByteArray.append_assoc]
   repeat' (first|(apply ay;first|refine ak ?_|refine ai ?_|refine cX ?_|refine aH c3 ?_|refine gJ ?_|refine aX ?_|refine aw ?_|refine dI ?_)|refine aj ?_|refine ab ?_|refine aa fun C=>?_|refine ac ?_|refine ah ?_|refine al ?_|(refine ae rqf ?_ ?_<;>intro hC<;>(try cases hC)))
   all_goals first
    | (exfalso;simp only [dqn] at hC;omega)
    | (refine⟨N-1,k+1,omq,omq,?_⟩
       rw [e,e3]
       (refine aL _ _ rfl rfl ?_ ?_<;>(repeat' (first|exact TmOk.nil|exact RwOk.nil|refine TmOk.cons ?_ ?_|refine RwOk.cons ?_ ?_|rfl|(refine rnV_id' rfl ?_;exact byc)|(refine cK ?_;first|rfl|omega|(rw [bB omq omq];omega))|(refine bg rfl ?_;exact byc)|exact dP rfl rfl|(refine rw_mid rqf rqf ?_ ?_<;>exact byc)|(refine rw_rn' rfl rfl ?_;simp;done)))))
 ·have hk':¬k<l.length:=by simpa using hk1
  rw [List.take_of_length_le omq] at hj ⊢
  have hMJ:(M++gP (l.map qm) ⟨#[44,32]⟩).size=M.size+(gP (l.map qm) ⟨#[44,32]⟩).size:=ByteArray.size_append' _ _
  repeat' (first|(apply ay;first|refine ak ?_|refine ai ?_|refine dI ?_)|refine aj ?_|refine ab ?_|refine aa fun C=>?_|refine ac ?_|refine aE ?_)
  exact eo
theorem oQ (a b:List UInt8):(⟨a.toArray⟩++⟨b.toArray⟩:ByteArray)=⟨(a++b).toArray⟩:=(gQ a b).symm
theorem tA:∀(n:Nat) (e:E),e.Ty prog 26→e.sz<n→n≤1048577→okX e=true→Ctr prog 56 [.ag (acE e)] [] (.c (.v (.string (txE e)))) []
 | 0,_,_,h,_,_=>absurd h (Nat.not_lt_zero _)
 | n+1,e,he,hsz,hn,hok=>by
  obtain⟨k0,n0,s0,xA,xc,l,rfl,-,-,-,⟨hl,hk⟩,-⟩:=aW he
  simp only [E.sz,E.szL] at hsz
  have ek:okX (.agg [.int .i64 k0,.int .i64 n0,.str s0,.lst 4 26 xA xc l])=(l.all okX&&fd k0 n0 s0 l.length):=jH ey _
  rw [ek,baq,List.all_eq_true] at hok
  obtain⟨hall,hh⟩:=hok
  have hkid:∀x∈l,Ctr prog 56 [.ag (acE x)] [] (.c (.v (.string (txE x)))) []:=fun x hx=>by
   have:=E.szL_mem hx
   have h0:0<l.length:=List.length_pos_of_mem hx
   exact tA n x (hl x hx) omq omq (hall x hx)
  have hj:=xK hl
  rw [lA]
  have key:∀x y,l=[x,y]→(k0=6∨k0=18)→Ctr prog 56 [.ag (acE (.agg [.int .i64 k0,.int .i64 n0,.str s0,.lst 4 26 xA xc l]))] [] (.c (.v (.string (oB k0 n0 s0 (l.map txE))))) []:=fun x y hxy hk0=>by
   subst hxy
   have cx:=hkid x (by simp)
   have cy:=hkid y (by simp)
   have tx:=hl x (by simp)
   have ty:=hl y (by simp)
   have zx:=jS tx
   have zy:=jS ty
   have hx0:[x,y][0]? = some x:=rfl
   have hy0:[x,y][1]? = some y:=rfl
   have e2:[x,y].map txE=[txE x,txE y]:=rfl
   simp only [E.szL,List.length_cons,List.length_nil] at hsz
   rw [e2]
   clear hj hkid hall hh
   generalize txE x=X at cx zx ⊢
   generalize txE y=Y at cy zy ⊢
   obtain⟨x0,x1,x2,xA',xc',xl,rfl,-⟩:=aW tx
   obtain⟨y0,y1,y2,yA,yc,yl,rfl,-⟩:=aW ty
   rcases hk0 with rfl|rfl
   ·refine az func56 rfl rfl ?_
    repeat' (first|(apply ay;first|refine ai ?_|refine bf ?_|refine aI ?_|refine ao ?_|refine cE ?_)|refine aj ?_|refine ab ?_|(apply da;first|(apply iu;refine aD ?_)|refine dZ ?_|refine bW ?_|refine dQ ?_|refine ei cx ?_|refine ei cy ?_|refine iY ?_|refine gD ?_)|refine aj ?_|refine ab ?_|refine aa fun C=>?_|refine av krq krq fun C=>?_|refine ac ?_|refine ah ?_|refine aq rfl ?_|refine ar rfl ?_)
    exact eo
   ·refine az func56 rfl rfl ?_
    repeat' (first|(apply ay;first|refine ai ?_|refine bf ?_|refine aI ?_|refine ao ?_|refine cE ?_)|refine aj ?_|refine ab ?_|(apply da;first|(apply iu;refine aD ?_)|refine dZ ?_|refine bW ?_|refine dQ ?_|refine ei cx ?_|refine ei cy ?_|refine iY ?_|refine gD ?_)|refine aj ?_|refine ab ?_|refine aa fun C=>?_|refine av krq krq fun C=>?_|refine ac ?_|refine ah ?_|refine aq rfl ?_|refine ar rfl ?_)
    exact eo
  have key1:∀x,l=[x]→(k0=4∨k0=5∨k0=7∨k0=8∨k0=9∨k0=10)→Ctr prog 56 [.ag (acE (.agg [.int .i64 k0,.int .i64 n0,.str s0,.lst 4 26 xA xc l]))] [] (.c (.v (.string (oB k0 n0 s0 (l.map txE))))) []:=fun x hxy hk0=>by
   subst hxy
   have cx:=hkid x (by simp)
   have tx:=hl x (by simp)
   have zx:=jS tx
   have hx0:[x][0]? = some x:=rfl
   have e2:[x].map txE=[txE x]:=rfl
   simp only [E.szL,List.length_cons,List.length_nil] at hsz
   rw [e2]
   clear hj hkid hall hh key
   generalize txE x=X at cx zx ⊢
   have e1:=q9 X
   obtain⟨x0,x1,x2,xA',xc',xl,rfl,-⟩:=aW tx
   rcases hk0 with rfl|rfl|rfl|rfl|rfl|rfl
   all_goals
    refine az func56 rfl rfl ?_
    repeat' (first|(apply ay;first|refine ai ?_|refine bf ?_|refine aI ?_|refine cX ?_|refine aH cx ?_|refine gJ ?_|refine ao ?_|refine dI ?_|refine cE ?_)|refine aj ?_|refine ab ?_|(apply da;first|(apply iu;refine aD ?_)|refine dZ ?_|refine bW ?_|refine dQ ?_|refine ei cx ?_|refine iY ?_|refine gD ?_)|refine aj ?_|refine ab ?_|refine aa fun C=>?_|refine av krq krq fun C=>?_|refine ac ?_|refine ah ?_|refine aq rfl ?_|refine ar rfl ?_)
    refine am ?_;refine bA rfl aJ ⟨?_,rfl⟩
    conv=>lhs;rw [←e1]
    try rfl
  rcases mB hh with ⟨rfl,h0,h1⟩|rfl|rfl|⟨rfl|rfl,x,hxy⟩|⟨rfl|rfl|rfl|rfl|rfl,x,hxy⟩|⟨rfl,x,y,hxy⟩|⟨rfl,x,hxy⟩|⟨rfl,x,y,hxy⟩|rfl|rfl|rfl|rfl|rfl
  all_goals first
   | (exact key x y hxy omq)
   | (exact key1 x hxy omq)
   | skip
  ·have cd:=zm4 n0.natAbs n0 (nlr _) omq omq
   refine az func56 rfl rfl ?_
   repeat' (first|(apply ay;first|refine ai ?_|refine bf ?_|refine aI ?_|refine aH cd ?_|refine ao ?_|refine cE ?_)|refine aj ?_|refine ab ?_|refine aa fun C=>?_|refine ac ?_|refine ah ?_|refine aq rfl ?_)
   exact eo
  all_goals
   clear key key1
   have q1:=jW (nm:=s0) omq hl hk omq hkid
   have q2:=jW (nm:=⟨#[108,101,110,103,116,104]⟩) (by decide) hl hk omq hkid
   have q3:=jW (nm:=⟨#[115,117,98,115,116,114]⟩) (by decide) hl hk omq hkid
   have q4:=jW (nm:=⟨#[105,110,100,101,120]⟩) (by decide) hl hk omq hkid
   have q5:=jW (nm:=⟨#[117,112,112,101,114]⟩) (by decide) hl hk omq hkid
   rw [show (⟨#[108,101,110,103,116,104]⟩++⟨#[40]⟩:ByteArray)=⟨#[108,101,110,103,116,104,40]⟩ from oQ [108,101,110,103,116,104] [40]] at q2
   rw [show (⟨#[115,117,98,115,116,114]⟩++⟨#[40]⟩:ByteArray)=⟨#[115,117,98,115,116,114,40]⟩ from oQ [115,117,98,115,116,114] [40]] at q3
   rw [show (⟨#[105,110,100,101,120]⟩++⟨#[40]⟩:ByteArray)=⟨#[105,110,100,101,120,40]⟩ from oQ [105,110,100,101,120] [40]] at q4
   rw [show (⟨#[117,112,112,101,114]⟩++⟨#[40]⟩:ByteArray)=⟨#[117,112,112,101,114,40]⟩ from oQ [117,112,112,101,114] [40]] at q5
   clear hkid hall hh
   refine az func56 rfl rfl ?_
   repeat' (first|(apply ay;first|refine ai ?_|refine bf ?_|refine aI ?_|refine aH q1 ?_|refine aH q2 ?_|refine aH q3 ?_|refine aH q4 ?_|refine aH q5 ?_|refine ao ?_|refine dI ?_|refine cE ?_)|refine aj ?_|refine ab ?_|refine aa fun C=>?_|refine ac ?_|refine ah ?_|refine al ?_|refine aq rfl ?_|refine ar rfl ?_)
   exact eo
end Go.Proofs.YtomolhbkdhjofaaGreatDoor
