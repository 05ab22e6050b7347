/- T -/
import Derived.Test.YtomolhbkdhjofaaGreatDoorExAAK
set_option maxHeartbeats 0
set_option maxRecDepth 100000
namespace Go.Proofs.YtomolhbkdhjofaaGreatDoor
open Go.RowKit Go.Proofs.Tryz
theorem tdy1 {p:Prop}(h:p:=by repeat' (first|exact TmOk.nil|exact RwOk.nil|refine TmOk.cons ?_ ?_|refine RwOk.cons ?_ ?_|rfl|exact bq rfl (by assumption)|(refine rnV_id' rfl ?_;exact byc)|(refine cV ?_;first|rfl|omega|(rw [bM omq omq];omega))|(refine bq rfl ?_;exact byc)|exact d5 rfl rfl|(refine rw_mid (by rfl) (by rfl) ?_ ?_<;>exact byc)|(refine rw_rn' rfl rfl ?_;simp;done))):p:=h
inductive FnY:E→Prop
 | mk (k n:Int) (s:ByteArray) (l:List E) (hk : -100≤k∧k≤100) (hn : -4294967296≤n∧n≤4294967296) (hs:s.size≤200) (hl:∀y∈l,FnY y):FnY (xE k n s l)
theorem FnX.y {e:E}(h:FnX e):FnY e:=by
 induction h with
 | mk k n s l hk hn hs hl ih=>exact .mk k n s l omq omq hs ih
theorem FnY.ty {e:E}(h:FnY e):e.Ty prog 26∧e.enc.length=4:=by
 induction h with
 | mk k n s l hk hn hs hl ih =>
  refine⟨?_,rfl⟩
  unfold xE
  refine E.Ty.mk_agg underlying26 (E.TyF.mk_cons ?_ (E.TyF.mk_cons ?_ (E.TyF.mk_cons (by simp only [E.Ty];exact⟨underlying9,by unfold maxLen;omega⟩) (E.TyF.mk_cons (E.Ty.mk_lst underlying24 (by kernel_rfl) (fun y hy=>(ih y hy).1) (fun y hy=>(ih y hy).2)) E.TyF.mk_nil))))
  ·simp only [E.Ty];exact⟨underlying3,mg omq omq⟩
  ·simp only [E.Ty];exact⟨underlying3,mg omq omq⟩
theorem FnY.none_ {k n:Int}{s:ByteArray}(hk : -100≤k∧k≤100)(hn : -4294967296≤n∧n≤4294967296)(hs:s.size≤200):FnY (xE k n s []):=.mk k n s [] hk hn hs (fun _ h=>absurd h List.not_mem_nil)
theorem lt8 {k:Nat}(h:(k:Int)<8):(k=0∨k=1)∨k=2∨(k=3∨k=4∨k=5)∨k=6∨k=7:=by omega
def lfN:List Int:=[0,1,2,3,10,2147483647]
def lfT:List ByteArray:=[⟨#[]⟩,⟨#[97]⟩,⟨#[97,98]⟩,⟨#[49,50]⟩,⟨#[45,51,120]⟩]
theorem zi5:∀s∈lfT,s.size≤7:=by decide
def lfV:List ByteArray:=[⟨#[120]⟩,⟨#[121]⟩,⟨#[120]⟩]
theorem zj5:∀s∈lfV,s.size≤7:=by decide
def rxL8:List ByteArray:=[⟨#[97]⟩,⟨#[94,97]⟩,⟨#[98,43,36]⟩,⟨#[97,124,98]⟩,⟨#[91,97,98,93,42,99]⟩,⟨#[49]⟩]
theorem za3:∀s∈rxL8,s.size≤7:=by decide
def atL8:List ByteArray:=[⟨#[116]⟩,⟨#[117]⟩]
theorem zb3:∀s∈atL8,s.size≤7:=by decide
def fnL8:List ByteArray:=[⟨#[102]⟩,⟨#[103]⟩]
theorem zc3:∀s∈fnL8,s.size≤7:=by decide
def opB:List ByteArray:=[⟨#[43]⟩,⟨#[45]⟩,⟨#[42]⟩,⟨#[47]⟩,⟨#[37]⟩,⟨#[46]⟩,⟨#[60]⟩,⟨#[60,61]⟩,⟨#[61,61]⟩,⟨#[33,61]⟩,⟨#[62]⟩,⟨#[62,61]⟩,⟨#[38,38]⟩,⟨#[124,124]⟩]
theorem zk5:kT=qc opB:=rfl
theorem zl5:∀s∈opB,s.size≤7:=by decide
theorem rD {cs:List AC}(hc:Curs cs):∃(e:E) (cs':List AC),Curs cs'∧FnY e∧e.sz≤20∧Ctr prog 57 [.c (.pt 0 0)] [cs] (.ag (owE e)) [cs']:=by
 have cc:=bp hc
 obtain⟨k,cs1,h1,hk,c1⟩:=dT hc 8 omq
 have cc1:=bp h1
 rcases lt8 hk with hk|rfl|hk|rfl|rfl
 ·obtain⟨z,cs2,h2,hz,c2⟩:=nk h1 lfN (by simp [lfN])
  have cc2:=bp h2
  have hz2:0≤z∧z≤2147483647:=by
   simp only [lfN,List.mem_cons,List.not_mem_nil,or_false] at hz
   omega
  refine⟨xE 1 z ByteArray.empty [],cs2,h2,.none_ omq omq (by decide),by rw [eV];simp only [List.length_nil,E.szL];decide,av func57 rfl rfl ?_⟩
  have c3:=wx (n:=z)
  rcases hk with rfl|rfl
  all_goals
   repeat' (first|(apply ay;first|refine al ?_|refine ai ?_|refine aK 0 (c1) ?_ (hl:=bz (by rfl) cc)|refine d8 0 [9] (c2) ?_ (hl:=bz (by rfl) cc1)|refine dn c3 ?_|refine bC ?_|refine ao ?_|refine bZ ?_|refine dX ?_)|refine ak ?_|refine ab ?_|refine aa fun C=>?_|refine ac ?_|refine ah ?_|refine aj ?_|refine aq rfl ?_|refine au rfl ?_)
   refine am ?_
   exact dw rfl (aZ (aE rfl (aE rfl (aE rfl (ba rfl rfl rfl rfl aL))))) rfl cc2 (cC h2 hc) ⟨rfl,rfl⟩
 ·obtain⟨z,cs2,h2,hz,c2⟩:=ll h1 lfT (by simp [lfT])
  have cc2:=bp h2
  have hsz:=zi5 z hz
  refine⟨xE 2 0 z [],cs2,h2,.none_ omq omq omq,by rw [eV];simp only [List.length_nil,E.szL];omega,av func57 rfl rfl ?_⟩
  repeat' (first|(apply ay;first|refine al ?_|refine ai ?_|refine aK 0 (c1) ?_ (hl:=bz (by rfl) cc)|refine d8 0 [15] (c2) ?_ (hl:=bz (by rfl) cc1)|refine bC ?_|refine ao ?_|refine bZ ?_|refine dX ?_|refine az ?_)|refine ak ?_|refine ab ?_|refine aa fun C=>?_|refine ac ?_|refine ah ?_|refine aq rfl ?_|refine au rfl ?_)
  refine bk (cP 90000 (i:=2) 26 4 rfl rfl (pre:=[_,_,_]) (post:=[]) rfl) ?_
  refine am ?_
  exact dw rfl (aZ (aE rfl (aE rfl (aE rfl (ba rfl rfl rfl rfl aL))))) rfl cc2 (cC h2 hc) ⟨rfl,rfl⟩
 ·obtain⟨z,cs2,h2,hz,c2⟩:=ll h1 lfV (by simp [lfV])
  have cc2:=bp h2
  have hsz:=zj5 z hz
  refine⟨xE 3 0 z [],cs2,h2,.none_ omq omq omq,by rw [eV];simp only [List.length_nil,E.szL];omega,av func57 rfl rfl ?_⟩
  have c3:=zu2 (s:=z)
  rcases hk with rfl|rfl|rfl
  all_goals
   repeat' (first|(apply ay;first|refine al ?_|refine ai ?_|refine aK 0 (c1) ?_ (hl:=bz (by rfl) cc)|refine d8 0 [23] (c2) ?_ (hl:=bz (by rfl) cc1)|refine dn c3 ?_|refine bC ?_|refine ao ?_|refine bZ ?_|refine dX ?_)|refine ak ?_|refine ab ?_|refine aa fun C=>?_|refine ac ?_|refine ah ?_|refine aj ?_|refine aq rfl ?_|refine au rfl ?_)
   refine am ?_
   exact dw rfl (aZ (aE rfl (aE rfl (aE rfl (ba rfl rfl rfl rfl aL))))) rfl cc2 (cC h2 hc) ⟨rfl,rfl⟩
 ·obtain⟨m,cs2,h2,hm,c2⟩:=dT h1 4 omq
  have cc2:=bp h2
  refine⟨xE 5 0 ByteArray.empty [xE 1 (m:Int) ByteArray.empty []],cs2,h2,.mk _ _ _ _ omq omq (by decide) (fun y hy=>by obtain rfl:=List.mem_singleton.1 hy;exact .none_ omq omq (by decide)),by rw [eV,sL,eV];simp only [List.length_cons,List.length_nil,E.szL];decide,av func57 rfl rfl ?_⟩
  have c3:=wx (n:=(m:Int))
  repeat' (first|((refine lk [0,1,2,3] [4,5] rfl fun C=>?_))|(apply ay;first|refine al ?_|refine ai ?_|refine aK 0 (c1) ?_ (hl:=bz (by rfl) cc)|refine aK 0 (c2) ?_ (hl:=bz (by rfl) cc1)|refine dn c3 ?_|refine ao ?_|refine bZ ?_|refine dX ?_)|refine ak ?_|refine ab ?_|refine aa fun C=>?_|refine ac ?_|refine ah ?_|refine aq rfl ?_|refine au rfl ?_)
  refine rv (em (i:=31) (j:=3100) rfl rfl rfl (pre:=[_,_,_]) (post:=[]) rfl) (by decide) ?_
  repeat' (first|(apply f_w;refine ul 90001 1 (zS (k:=5) (l:=[xE 1 (m:Int) ByteArray.empty []])) ?_)|(apply ay;first|refine bX ?_|refine n_sk0 ?_|(apply f_mv;first|(refine aR ?_ ?_<;>intro hG<;>(try cases hG))|refine al ?_|refine db (v:=.ag _) ?_|refine db (v:=.tu _) ?_|refine az ?_)|(apply f_as;first|refine ai ?_|refine kw (v:=.ag _) ?_|refine kw (v:=.tu _) ?_|refine az ?_)|refine bj ?_|refine nU ?_|refine aI ?_|refine dO ?_|refine dp ?_|refine bN ?_|refine zjQ ?_|(apply f_bi;first|refine bE ?_|refine bK ?_|refine dA ?_|refine fj ?_|refine fj (hnu:=bytC_noUn _) ?_|refine n_app0 ?_|refine n_app0 (hnu:=bytC_noUn _) ?_|refine az ?_)|refine bC ?_|refine n_sto ?_|(apply qG;first|refine iv ?_|refine eO ?_|refine az ?_)|(apply uB;first|refine ao ?_|refine aY ?_|refine aQ ?_|refine n_eql_b ?_|refine az ?_)|(apply uC;first|refine aS ?_|refine dx ?_|refine fm ?_|refine n_neq_b ?_|refine az ?_)|(apply uD;first|refine aD ?_|refine n_lss_u8 ?_|refine az ?_)|(apply uE;first|refine bG ?_|refine n_leq_u8 ?_|refine az ?_)|(apply uF;first|refine a7 ?_|refine n_gtr_u8 ?_|refine az ?_)|(apply uG;first|refine dP ?_|refine n_geq_u8 ?_|refine az ?_)|(apply pp;first|refine aw ?_|refine er ?_|refine az ?_)|(apply f_no;first|refine b7 ?_|refine az ?_)|(apply f_pk;first|refine aB ?_|refine kx (v:=.ag _) ?_|refine kx (v:=.tu _) ?_|refine az ?_)|(apply f_ex;first|refine cE ?_|refine fQ (v:=.ag _) ?_|refine fQ (v:=.tu _) ?_|refine az ?_)|(apply f_bb;first|refine cJ ?_|refine fB ?_|refine az ?_)|(apply f_cv;first|refine d9 ?_|refine sa ?_|refine lV ?_|refine n_cvs ?_|refine n_cvr ?_|refine az ?_)|refine bZ ?_|refine cA ?_|refine dX ?_|refine cG ?_|refine r9 ?_|refine jN ?_|refine gh ?_|refine az ?_|refine n_mv ?_)|refine ak ?_|refine ab ?_|(apply dC;first|refine iu ?_|refine o_sk0 ?_|(refine ik ?_ ?_<;>intro hG<;>(try cases hG))|(apply ep;refine aN ?_)|(apply mG;refine aN ?_)|refine fA ?_|refine po ?_|(apply d_ld;first|refine cY ?_|refine ju ?_|refine fY ?_|refine mF ?_|refine aN ?_|refine o_ld ?_)|(apply d_bi;first|refine ib ?_|refine dW ?_|refine lU ?_|refine jL ?_|refine jL (hnu:=bytC_noUn _) ?_|refine o_app0 ?_|refine o_app0 (hnu:=bytC_noUn _) ?_|refine aN ?_)|refine pn ?_|refine o_sto ?_|(apply d_ia;first|refine rZ ?_|refine r5 ?_|refine aN ?_)|(apply ic;first|refine dE ?_|refine eo ?_|refine fy ?_|refine mC ?_|refine aN ?_)|(apply d_cv;first|refine fP ?_|refine lT ?_|refine o_cvs ?_|refine o_cvr ?_|refine aN ?_)|refine xp ?_|refine o_bo ?_|refine um ?_|refine fx ?_|refine mB ?_|refine lE ?_|refine jM ?_|refine aN ?_|refine o_mv ?_)|refine ak ?_|refine ab ?_)
  skip
  refine am ?_
  exact dw rfl (aZ (aE rfl (aE rfl (aE rfl (ba rfl rfl rfl rfl aL))))) rfl cc2 (cC h2 hc) ⟨rfl,rfl⟩
 ·obtain⟨z,cs2,h2,hz,c2⟩:=nk h1 [14,15] (by simp)
  have cc2:=bp h2
  have hz2:0≤z∧z≤15:=by
   simp only [List.mem_cons,List.not_mem_nil,or_false] at hz
   omega
  refine⟨xE z 0 ByteArray.empty [],cs2,h2,.none_ omq omq (by decide),by rw [eV];simp only [List.length_nil,E.szL];decide,av func57 rfl rfl ?_⟩
  repeat' (first|(apply ay;first|refine al ?_|refine ai ?_|refine aK 0 (c1) ?_ (hl:=bz (by rfl) cc)|refine d8 0 [34] (c2) ?_ (hl:=bz (by rfl) cc1)|refine bC ?_|refine ao ?_|refine bZ ?_|refine dX ?_|refine az ?_)|refine ak ?_|refine ab ?_|refine aa fun C=>?_|refine ac ?_|refine ah ?_|refine aj ?_|refine au rfl ?_)
  refine bk (cP 90000 (i:=2) 26 4 rfl rfl (pre:=[_,_,_]) (post:=[]) rfl) ?_
  refine am ?_
  exact dw rfl (aZ (aE rfl (aE rfl (aE rfl (ba rfl rfl rfl rfl aL))))) rfl cc2 (cC h2 hc) ⟨rfl,rfl⟩
theorem qi {cs:List AC}(hc:Curs cs):∃(z:ByteArray) (cs':List AC),Curs cs'∧z.size≤7∧Ctr prog 59 [.c (.pt 0 0)] [cs] (.c (.v (.string z))) [cs']:=by
 have cc:=bp hc
 obtain⟨z,cs2,h2,hz,c2⟩:=ll hc rxL8 (by simp [rxL8])
 have cc2:=bp h2
 refine⟨z,cs2,h2,za3 z hz,av func59 rfl rfl ?_⟩
 repeat' (first|(apply ay;first|refine al ?_|refine ai ?_|refine d8 0 [4] (c2) ?_ (hl:=bz (by rfl) cc)|refine dX ?_)|refine ak ?_|refine ab ?_|refine aa fun C=>?_|refine ac ?_)
 refine am ?_
 exact dw rfl aH rfl cc2 (cC h2 hc) ⟨rfl,rfl⟩
inductive Hd8 (c1:List AC):Int→ByteArray→Nat→List AC→Prop
 | bin (s c2) (h:Ctr prog 35 [.c (.pt 0 0),.c (.ro kT.length 1 (acL kT))] [c1] (.c (.v (.string s))) [c2]):Hd8 c1 6 s 2 c2
 | at_ (k s c2) (hk:k=4∨k=9) (h:Ctr prog 35 [.c (.pt 0 0),.c (.ro (qc atL8).length 1 (acL (qc atL8)))] [c1] (.c (.v (.string s))) [c2]):Hd8 c1 k s 1 c2
 | rx (k n s c2) (hk:k=10∧n=1∨k=18∧n=2) (h:Ctr prog 59 [.c (.pt 0 0)] [c1] (.c (.v (.string s))) [c2]):Hd8 c1 k s n c2
 | fn (s c2 c3) (n:Nat) (hc2:bi c2=true) (h:Ctr prog 35 [.c (.pt 0 0),.c (.ro (qc fnL8).length 1 (acL (qc fnL8)))] [c1] (.c (.v (.string s))) [c2]) (h2:Ctr prog 41 [.c (.pt 0 0),.c (.v (.int .i64 3))] [c2] (.c (.v (.int .i64 (n:Int)))) [c3]):Hd8 c1 11 s n c3
 | non (k n) (hk:(k=13∧n=3)∨(k=16∧n=2)∨((k=5∨k=7∨k=8∨k=12∨k=17)∧n=1)):Hd8 c1 k ByteArray.empty n c1
def kds8:List Int:=[6,6,6,6,4,5,7,8,9,10,11,12,13,16,17,18]
theorem zm5 {c1:List AC}(h1:Curs c1){k:Int}(hk:k∈kds8):∃(s:ByteArray) (n:Nat) (c2:List AC),Curs c2∧s.size≤7∧n≤3∧Hd8 c1 k s n c2:=by
 have str:∀{c:List AC} (hc:Curs c) (l:List ByteArray),(∀s∈l,s.size≤7)→0<l.length→∃(s:ByteArray) (c2:List AC),Curs c2∧s.size≤7∧Ctr prog 35 [.c (.pt 0 0),.c (.ro (qc l).length 1 (acL (qc l)))] [c] (.c (.v (.string s))) [c2]:=fun hc l hl h0=>by
  obtain⟨z,c2,h2,hz,k2⟩:=ll hc l h0
  exact⟨z,c2,h2,hl z hz,k2⟩
 have e0:ByteArray.empty.size≤7:=by decide
 simp only [kds8,List.mem_cons,List.not_mem_nil,or_false] at hk
 have key:k=6∨(k=4∨k=9)∨(k=10∨k=18)∨k=11∨k=13∨k=16∨(k=5∨k=7∨k=8∨k=12∨k=17):=by omega
 rcases key with rfl|hk|hk|rfl|rfl|rfl|hk
 ·obtain⟨s,c2,h2,hs,k2⟩:=str h1 opB zl5 (by decide)
  rw [←zk5] at k2
  exact⟨s,2,c2,h2,hs,omq,.bin s c2 k2⟩
 ·obtain⟨s,c2,h2,hs,k2⟩:=str h1 atL8 zb3 (by decide)
  exact⟨s,1,c2,h2,hs,omq,.at_ k s c2 hk k2⟩
 ·obtain⟨s,c2,h2,hs,k2⟩:=qi h1
  rcases hk with rfl|rfl
  ·exact⟨s,1,c2,h2,hs,omq,.rx 10 1 s c2 (.inl ⟨rfl,rfl⟩) k2⟩
  ·exact⟨s,2,c2,h2,hs,omq,.rx 18 2 s c2 (.inr ⟨rfl,rfl⟩) k2⟩
 ·obtain⟨s,c2,h2,hs,k2⟩:=str h1 fnL8 zc3 (by decide)
  obtain⟨n,c3,h3,hn,k3⟩:=dT h2 3 omq
  exact⟨s,n,c3,h3,hs,omq,.fn s c2 c3 n (bp h2) k2 k3⟩
 ·exact⟨_,3,c1,h1,e0,omq,.non 13 3 (.inl ⟨rfl,rfl⟩)⟩
 ·exact⟨_,2,c1,h1,e0,omq,.non 16 2 (.inr (.inl ⟨rfl,rfl⟩))⟩
 ·exact⟨_,1,c1,h1,e0,omq,.non k 1 (.inr (.inr ⟨hk,rfl⟩))⟩
theorem zV {B:Nat}:∀{l:List E},(∀x∈l,x.sz≤B)→E.szL l≤l.length*B
 | [],_=>by simp [E.szL]
 | x :: l,h=>by
  have h1:=zV (l:=l) fun y hy=>h y (List.mem_cons_of_mem _ hy)
  have h2:=h x (List.mem_cons_self ..)
  simp only [E.szL,List.length_cons]
  rw [Nat.add_mul]
  omega
def bd8:Nat→Nat
 | 0=>20
 | d+1=>20+3*bd8 d
theorem yS {d:Nat}(hd:d≤3)(ih:∀cs,Curs cs→∃(e:E) (cs':List AC),Curs cs'∧FnY e∧e.sz≤bd8 d∧Ctr prog 38 [.c (.pt 0 0),.c (.v (.int .i64 (d:Int)))] [cs] (.ag (owE e)) [cs']){cs:List AC}(hc:Curs cs):∃(e:E) (cs':List AC),Curs cs'∧FnY e∧e.sz≤bd8 (d+1)∧Ctr prog 38 [.c (.pt 0 0),.c (.v (.int .i64 ((d+1:Nat):Int)))] [cs] (.ag (owE e)) [cs']:=by
 have cc:=bp hc
 obtain⟨b,cs1,h1,c1⟩:=yN hc 4 omq
 have cc1:=bp h1
 have hd0:((((d+1:Nat):Int))==0)=false:=by
  rw [Bool.eq_false_iff]
  intro h
  have:=eq_of_beq h
  omega
 cases b with
 | true =>
  obtain⟨e,cs2,h2,hf,hz,c2⟩:=rD h1
  have cc2:=bp h2
  refine⟨e,cs2,h2,hf,by show _≤20+3*bd8 d;omega,av func38 rfl rfl ?_⟩
  cases hf with
  | mk m1 m2 m3 m4 _ _ _ _ =>
  repeat' (first|(apply ay;first|(refine aR ?_ ?_<;>intro hG<;>(try cases hG))|refine al ?_|refine aK 0 (c1) ?_ (hl:=bz (by rfl) cc)|refine ao ?_|refine aB ?_|refine bZ ?_)|refine ak ?_|refine ab ?_|refine aa fun C=>?_|refine ac ?_)
  ·refine aq rfl ?_
   repeat' (first|(apply ay;first|refine al ?_|refine aK 0 (c2) ?_ (hl:=bz (by rfl) cc1)|refine bC ?_)|refine ak ?_|refine ab ?_|refine aa fun C=>?_|refine ac ?_)
   refine am ?_
   exact dw rfl (aZ (aE rfl (aE rfl (aE rfl (ba rfl rfl rfl (aV _) aL))))) rfl cc2 (cC h2 hc) ⟨rfl,rfl⟩
 | false =>
  obtain⟨k,cs2,h2,hk,c2⟩:=nk h1 kds8 (by decide)
  have cc2:=bp h2
  obtain⟨s,n,cs3,h3,hs,hn,hH⟩:=zm5 h2 hk
  have cc3:=bp h3
  obtain⟨S,X,hS0,hS⟩:=sO (P:=Curs) (R:=fun c x c'=>FnY x∧x.sz≤bd8 d∧Ctr prog 38 [.c (.pt 0 0),.c (.v (.int .i64 (d:Int)))] [c] (.ag (owE x)) [c']) (fun c hc=>by
   obtain⟨e,c',q1,q2,q3,q4⟩:=ih c hc
   exact⟨e,c',q1,q2,q3,q4⟩) h3
  have hkb : -100≤k∧k≤100:=by
   simp only [kds8,List.mem_cons,List.not_mem_nil,or_false] at hk
   omega
  have hl:∀x∈(List.range n).map X,FnY x∧x.sz≤bd8 d:=fun x hx=>by
   obtain⟨j,-,rfl⟩:=List.mem_map.1 hx
   exact⟨(hS j).2.1,(hS j).2.2.1⟩
  refine⟨xE k 0 s ((List.range n).map X),S n,(hS n).1,.mk _ _ _ _ hkb omq omq fun y hy=>(hl y hy).1,?_,av func38 rfl rfl ?_⟩
  ·rw [eV]
   have h5:=zV (B:=bd8 d) (l:=(List.range n).map X) fun x hx=>(hl x hx).2
   rw [List.length_map,List.length_range] at h5 ⊢
   have h6:n*bd8 d≤3*bd8 d:=Nat.mul_le_mul_right _ hn
   show _≤20+3*bd8 d
   omega
  ·have hXl:∀i,(List.range (i+1)).map X=(List.range i).map X++[X i]:=fun i=>by rw [List.range_succ,List.map_append];rfl
   repeat' (first|(apply ay;refine bZ ?_)|refine ak ?_|refine ab ?_|refine aa fun C=>?_|refine gQ ?_)
   refine ac ?_
   repeat' (first|(apply ay;first|(refine aR ?_ ?_<;>intro hG<;>(try cases hG))|refine al ?_|refine aK 0 (c1) ?_ (hl:=bz (by rfl) cc)|refine ao ?_|refine aB ?_)|refine ak ?_|refine ab ?_|refine aa fun C=>?_|refine gQ ?_)
   refine au rfl ?_
   refine aj ?_
   repeat' (first|(apply ay;first|refine al ?_|refine ai ?_|refine d8 0 [18] (c2) ?_ (hl:=bz (by rfl) cc1)|refine bC ?_|refine bZ ?_|refine dX ?_|refine az ?_)|refine ak ?_|refine ab ?_|refine aa fun C=>?_|refine gQ ?_)
   refine qC ⟨eX [(0,.c (.pt 0 0)),(1,.c (.v (.int .i64 ((d+1:Nat):Int)))),(4,.c (.pt 4 0)),(6,.c (.pt 6 0)),(7,.c (.v (.int .i64 (n:Int))))],eJ [(0,0,⟨0,0,0,true,cs3⟩),(4,4,⟨26,0,0,true,[.v (.int .i64 0),.v (.int .i64 0),.v (.string ByteArray.empty),.v (.slice none 0 0)]⟩),(6,6,⟨26,0,0,true,[.v (.int .i64 k),.v (.int .i64 0),.v (.string s),.sl 9 0]⟩),(9,9,⟨26,4,0,false,[]⟩)],1,[0,4,6,9],73⟩ ?_ ?_
   ·clear hS0 hS hXl hl
    cases hH with
    | bin _ _ h =>
     have c4:=vQ
     repeat' (first|(apply ay;first|refine al ?_|refine ai ?_|refine bj ?_|refine dn c4 ?_|refine d8 0 [2700] (h) ?_ (hl:=bz (by rfl) cc2)|refine bC ?_|refine ao ?_)|refine ak ?_|refine ab ?_|refine aa fun C=>?_|refine ac ?_|refine ah ?_|refine aq rfl ?_)
     show Gh _ _
     refine (cP 9 (i:=6) 26 4 rfl rfl (pre:=[_,_,_]) (post:=[]) rfl).trans ?_
     (refine aM _ _ rfl rfl ?_ ?_<;>exact tdy1)
    | at_ _ _ _ hk2 h =>
     rcases hk2 with rfl|rfl
     all_goals
      repeat' (first|(apply ay;first|refine al ?_|refine ai ?_|refine bj ?_|refine d8 0 [33] (h) ?_ (hl:=bz (by rfl) cc2)|refine bC ?_|refine ao ?_|refine dX ?_)|refine ak ?_|refine ab ?_|refine aa fun C=>?_|refine ac ?_|refine ah ?_|refine aj ?_|refine aq rfl ?_|refine au rfl ?_)
      show Gh _ _
      refine (cP 9 (i:=6) 26 4 rfl rfl (pre:=[_,_,_]) (post:=[]) rfl).trans ?_
      (refine aM _ _ rfl rfl ?_ ?_<;>exact tdy1)
    | rx _ _ _ _ hk2 h =>
     rcases hk2 with ⟨rfl,rfl⟩|⟨rfl,rfl⟩
     all_goals
      repeat' (first|(apply ay;first|refine al ?_|refine ai ?_|refine bj ?_|refine aK 0 (h) ?_ (hl:=bz (by rfl) cc2)|refine bC ?_|refine ao ?_)|refine ak ?_|refine ab ?_|refine aa fun C=>?_|refine ac ?_|refine ah ?_|refine aq rfl ?_|refine au rfl ?_)
      show Gh _ _
      refine (cP 9 (i:=6) 26 4 rfl rfl (pre:=[_,_,_]) (post:=[]) rfl).trans ?_
      (refine aM _ _ rfl rfl ?_ ?_<;>exact tdy1)
    | fn _ c4 _ _ hc4 h h2' =>
     repeat' (first|(apply ay;first|refine al ?_|refine ai ?_|refine bj ?_|refine d8 0 [49] (h) ?_ (hl:=bz (by rfl) cc2)|refine aK 0 (h2') ?_ (hl:=bz (by rfl) hc4)|refine bC ?_|refine ao ?_|refine dX ?_)|refine ak ?_|refine ab ?_|refine aa fun C=>?_|refine ac ?_|refine ah ?_|refine aq rfl ?_|refine au rfl ?_)
     show Gh _ _
     refine (cP 9 (i:=6) 26 4 rfl rfl (pre:=[_,_,_]) (post:=[]) rfl).trans ?_
     (refine aM _ _ rfl rfl ?_ ?_<;>exact tdy1)
    | non _ _ hk2 =>
     rcases hk2 with ⟨rfl,rfl⟩|⟨rfl,rfl⟩|⟨rfl|rfl|rfl|rfl|rfl,rfl⟩
     all_goals
      repeat' (first|(apply ay;first|refine al ?_|refine ai ?_|refine ao ?_)|refine ak ?_|refine ab ?_|refine aa fun C=>?_|refine ac ?_|refine ah ?_|refine aj ?_|refine aq rfl ?_|refine au rfl ?_)
      show Gh _ _
      refine (cP 9 (i:=6) 26 4 rfl rfl (pre:=[_,_,_]) (post:=[]) rfl).trans ?_
      (refine aM _ _ rfl rfl ?_ ?_<;>exact tdy1)
   ·clear hH c1 c2 h1 h2 h3
    have hcl:∀i,bi (S i)=true:=fun i=>bp (hS i).1
    repeat' (first|(apply ay;refine ai ?_)|refine ak ?_|refine ab ?_|refine aa fun C=>?_|refine ac ?_|refine ah ?_)
    refine a8 (fun i:Nat=>⟨eX [(0,.c (.pt 0 0)),(1,.c (.v (.int .i64 ((d+1:Nat):Int)))),(4,.c (.pt 4 0)),(6,.c (.pt 6 0)),(7,.c (.v (.int .i64 (n:Int)))),(8,.c (.v (.int .i64 (i:Int))))],eJ [(0,0,⟨0,0,0,true,S i⟩),(4,4,⟨26,0,0,true,[.v (.int .i64 0),.v (.int .i64 0),.v (.string ByteArray.empty),.v (.slice none 0 0)]⟩),(6,6,⟨26,0,0,true,[.v (.int .i64 k),.v (.int .i64 0),.v (.string s),.sl 9 i]⟩),(9,9,⟨26,4,i,false,owL ((List.range i).map X)⟩)],1,[0,4,6,9],73⟩)
     (fun N i=>i+N=n) n 0 omq ?_ ?_
    ·have h0:=hcl 0
     rw [←hS0] at cc3 ⊢
     (refine aM _ _ rfl rfl ?_ ?_<;>exact tdy1)
    rintro N i hN
    try dsimp only
    obtain⟨q1,q2,q3,q4⟩:=hS i
    have cci:=hcl i
    have ccj:=hcl (i+1)
    have ez:(((d+1:Nat):Int))-1=(d:Int):=by omega
    by_cases hin:i<n
    ·have hlt:((i:Int)<(n:Int)):=by omega
     obtain⟨m1,m2,m3,m4,hxe⟩:∃m1 m2 m3 m4,X i=xE m1 m2 m3 m4:=by
      revert q2
      generalize X i=x
      intro q2
      cases q2
      exact⟨_,_,_,_,rfl⟩
     rw [hxe,←ez] at q4
     repeat' (first|(apply ay;first|refine al ?_|refine aD ?_)|refine ak ?_|refine ab ?_|refine aa fun C=>?_|refine ac ?_)
     refine ae (by rfl) (fun hC=>?_) fun hC=>by exfalso;simp only [decide_eq_false_iff_not] at hC;exact hC hlt
     repeat' (first|(apply ay;first|refine al ?_|refine ai ?_|refine aw ?_)|refine ak ?_|refine ab ?_|(apply dC;first|(apply ep;refine aN ?_)|refine fA ?_|refine cY ?_|refine pm 0 (q4) ?_ (hl:=bz (by rfl) cci)|refine jL ?_|refine pn ?_|refine eo ?_|refine um ?_)|refine ak ?_|refine ab ?_|refine aa fun C=>?_|refine ar (by kernel_rfl) (by kernel_rfl) fun C=>?_|refine ac ?_|refine ah ?_|refine aj ?_)
     refine⟨N-1,i+1,omq,omq,?_⟩
     dsimp only
     rw [hXl i,hxe]
     refine (em (i:=70) (j:=6900) rfl rfl rfl (pre:=owL ((List.range i).map X)++[.v (.int .i64 m1),.v (.int .i64 m2),.v (.string m3)]) (post:=[]) (by rw [List.append_assoc];rfl)).trans ?_
     (refine ei (fun j=>if j=9 then 70 else j) _ _ rfl rfl ?_ ?_<;>(repeat' (first|exact TmOk.nil|exact RwOk.nil|refine TmOk.cons ?_ ?_|refine RwOk.cons ?_ ?_|rfl|exact bq rfl (by assumption)|(refine rnV_id' rfl ?_;exact byc)|(refine cV ?_;first|rfl|omega|(rw [bM omq omq];omega))|(refine bq rfl ?_;exact byc)|exact d5 rfl rfl|(refine rw_mid (by rfl) (by rfl) ?_ ?_<;>exact byc)|(refine rw_rn' rfl rfl ?_;simp;done))))
     exact gf (r:=⟨26,4,i+1,false,(owL ((List.range i).map X)++[.v (.int .i64 m1),.v (.int .i64 m2),.v (.string m3)])++[.ow 26 m4.length 4 (owL m4)]⟩) rfl (by rw [eM,List.append_assoc];rfl) (by first|rfl|(simp [nR,bi,clo,bc,aG,bf,aV,aW];done))
    ·obtain rfl:i=n:=by omega
     repeat' (first|(apply ay;first|refine al ?_|refine aD ?_)|refine ak ?_|refine ab ?_|refine aa fun C=>?_|refine ac ?_)
     refine ae (by rfl) (fun hC=>by exfalso;simp only [decide_eq_true_iff] at hC;omega) fun hC=>?_
     repeat' (first|(apply ay;first|refine bN ?_|refine bC ?_)|refine ak ?_|refine ab ?_|refine aa fun C=>?_|refine ac ?_|refine aA ?_)
     refine am ?_
     refine dw rfl (aZ (aE rfl (aE rfl (aE rfl (ba rfl rfl rfl (aV _) aL))))) rfl cci (cC q1 hc) ⟨?_,rfl⟩
     show _=AV.ag (owE (xE k 0 s ((List.range i).map X)))
     unfold xE
     simp only [owE,owL,List.length_map,List.length_range]
     rfl
theorem rE:∀d:Nat,d≤4→∀cs,Curs cs→∃(e:E) (cs':List AC),Curs cs'∧FnY e∧e.sz≤bd8 d∧Ctr prog 38 [.c (.pt 0 0),.c (.v (.int .i64 (d:Int)))] [cs] (.ag (owE e)) [cs']
 | 0,_,cs,hc=>by
  have cc:=bp hc
  obtain⟨e,cs2,h2,hf,hz,c2⟩:=rD hc
  have cc2:=bp h2
  refine⟨e,cs2,h2,hf,hz,av func38 rfl rfl ?_⟩
  cases hf with
  | mk m1 m2 m3 m4 _ _ _ _ =>
  repeat' (first|(apply ay;first|refine bX ?_|(refine aR ?_ ?_<;>intro hG<;>(try cases hG))|refine al ?_|refine aK 0 (c2) ?_ (hl:=bz (by rfl) cc)|refine bC ?_|refine ao ?_|refine aB ?_|refine bZ ?_)|refine ak ?_|refine ab ?_|refine aa fun C=>?_|refine ac ?_|refine aq rfl ?_)
  refine am ?_
  exact dw rfl (aZ (aE rfl (aE rfl (aE rfl (ba rfl rfl rfl (aV _) aL))))) rfl cc2 (cC h2 hc) ⟨rfl,rfl⟩
 | d+1,hd,cs,hc=>yS omq (rE d omq) hc
end Go.Proofs.YtomolhbkdhjofaaGreatDoor
