/- T -/
import Derived.Test.YtomolhbkdhjofaaGreatDoorExAAL
set_option maxHeartbeats 0
set_option maxRecDepth 100000
namespace Go.Proofs.YtomolhbkdhjofaaGreatDoor
open Go.RowKit Go.Proofs.Tryz
def wr8:Nat→E→E
 | 0,e=>e
 | j+1,e=>xE 8 0 ByteArray.empty [wr8 j e]
theorem zW:∀(j:Nat) (e:E),wr8 j (xE 8 0 ByteArray.empty [e])=wr8 (j+1) e
 | 0,e=>rfl
 | j+1,e=>by
  show xE 8 0 ByteArray.empty [wr8 j (xE 8 0 ByteArray.empty [e])]=xE 8 0 ByteArray.empty [wr8 (j+1) e]
  rw [zW j e]
theorem rF:∀(j:Nat) {e:E},FnY e→FnY (wr8 j e)
 | 0,_,h=>h
 | j+1,e,h=>.mk _ _ _ _ omq omq (by decide) fun y hy=>by obtain rfl:=List.mem_singleton.1 hy;exact rF j h
theorem zX:∀(j:Nat) (e:E),(wr8 j e).sz=e.sz+j
 | 0,e=>rfl
 | j+1,e=>by
  have h:=zX j e
  show (xE 8 0 ByteArray.empty [wr8 j e]).sz=_
  rw [eV,sL,h]
  have e0:ByteArray.empty.size=0:=rfl
  simp only [List.length_cons,List.length_nil]
  omega
def anyT:List ByteArray:=[⟨#[]⟩,⟨#[97]⟩,⟨#[112,114,105,110,116]⟩,⟨#[61,61]⟩,⟨#[97,42,42]⟩,⟨#[120,39,121]⟩]
theorem zd3:∀s∈anyT,s.size≤7:=by decide
theorem lt14 {k:Nat}(h:(k:Int)<14):k=0∨k=1∨k=2∨k=3∨(4≤k∧k<14):=by omega
theorem ze3 {cs:List AC}(hc:Curs cs):∃(e:E) (cs':List AC),Curs cs'∧FnY e∧e.sz≤1000∧Ctr prog 21 [.c (.pt 0 0)] [cs] (.ag (owE e)) [cs']:=by
 have cc:=bp hc
 obtain⟨e,cs1,h1,hfy,hz,c1⟩:=rE 3 omq cs hc
 have hz:e.sz≤800:=hz
 have cc1:=bp h1
 obtain⟨k,cs2,h2,hk,c2⟩:=dT h1 14 omq
 have cc2:=bp h2
 cases hfy with
 | mk m1 m2 m3 m4 b1 b2 b3 b4 =>
 have hfy:FnY (xE m1 m2 m3 m4):=.mk _ _ _ _ b1 b2 b3 b4
 rw [eV] at hz
 rcases lt14 hk with rfl|rfl|rfl|rfl|hk4
 ·obtain⟨z,cs3,h3,hz3,c3⟩:=dT h2 20 omq
  have cc3:=bp h3
  refine⟨xE (z:Int) m2 m3 m4,cs3,h3,.mk _ _ _ _ omq b2 b3 b4,by rw [eV];omega,av func21 rfl rfl ?_⟩
  repeat' (first|(apply ay;first|refine al ?_|refine ai ?_|refine bj ?_|refine bN ?_|refine aK 0 (c1) ?_ (hl:=bz (by rfl) cc)|refine aK 0 (c2) ?_ (hl:=bz (by rfl) cc1)|refine aK 0 (c3) ?_ (hl:=bz (by rfl) cc2)|refine bC ?_|refine ao ?_|refine bZ ?_)|refine ak ?_|refine ab ?_|refine aa fun C=>?_|refine ac ?_|refine ah ?_|refine aq rfl ?_)
  refine am ?_
  exact dw rfl (aZ (aE rfl (aE rfl (aE rfl (ba rfl rfl rfl (aV _) aL))))) rfl cc3 (cC h3 hc) ⟨rfl,rfl⟩
 ·obtain⟨z,cs3,h3,hz3,c3⟩:=ll h2 anyT (by simp [anyT])
  have cc3:=bp h3
  have hsz:=zd3 z hz3
  refine⟨xE m1 m2 z m4,cs3,h3,.mk _ _ _ _ b1 b2 omq b4,by rw [eV];omega,av func21 rfl rfl ?_⟩
  repeat' (first|(apply ay;first|refine al ?_|refine ai ?_|refine bj ?_|refine bN ?_|refine aK 0 (c1) ?_ (hl:=bz (by rfl) cc)|refine aK 0 (c2) ?_ (hl:=bz (by rfl) cc1)|refine d8 0 [17] (c3) ?_ (hl:=bz (by rfl) cc2)|refine bC ?_|refine ao ?_|refine bZ ?_|refine dX ?_)|refine ak ?_|refine ab ?_|refine aa fun C=>?_|refine ac ?_|refine ah ?_|refine aq rfl ?_|refine au rfl ?_)
  refine am ?_
  exact dw rfl (aZ (aE rfl (aE rfl (aE rfl (ba rfl rfl rfl (aV _) aL))))) rfl cc3 (cC h3 hc) ⟨rfl,rfl⟩
 ·obtain⟨z,cs3,h3,hz3,c3⟩:=nk h2 [-1,5,2147483648] (by simp)
  have cc3:=bp h3
  have hz4 : -1≤z∧z≤2147483648:=by
   simp only [List.mem_cons,List.not_mem_nil,or_false] at hz3
   omega
  refine⟨xE m1 z m3 m4,cs3,h3,.mk _ _ _ _ b1 omq b3 b4,by rw [eV];omega,av func21 rfl rfl ?_⟩
  repeat' (first|(apply ay;first|refine al ?_|refine ai ?_|refine bj ?_|refine bN ?_|refine aK 0 (c1) ?_ (hl:=bz (by rfl) cc)|refine aK 0 (c2) ?_ (hl:=bz (by rfl) cc1)|refine d8 0 [23] (c3) ?_ (hl:=bz (by rfl) cc2)|refine bC ?_|refine ao ?_|refine bZ ?_|refine dX ?_)|refine ak ?_|refine ab ?_|refine aa fun C=>?_|refine ac ?_|refine ah ?_|refine aq rfl ?_|refine au rfl ?_)
  refine am ?_
  exact dw rfl (aZ (aE rfl (aE rfl (aE rfl (ba rfl rfl rfl (aV _) aL))))) rfl cc3 (cC h3 hc) ⟨rfl,rfl⟩
 ·obtain⟨i0,cs3,h3,hi0,c3⟩:=dT h2 12 omq
  have cc3:=bp h3
  refine⟨wr8 i0 (xE m1 m2 m3 m4),cs3,h3,rF i0 hfy,by rw [zX,eV];omega,av func21 rfl rfl ?_⟩
  have hex:∃z1 z2 z3 z4,wr8 i0 (xE m1 m2 m3 m4)=xE z1 z2 z3 z4:=by cases i0 with
   | zero=>exact⟨_,_,_,_,rfl⟩
   | succ j=>exact⟨_,_,_,_,rfl⟩
  repeat' (first|(apply ay;first|refine al ?_|refine ai ?_|refine aK 0 (c1) ?_ (hl:=bz (by rfl) cc)|refine aK 0 (c2) ?_ (hl:=bz (by rfl) cc1)|refine aK 0 (c3) ?_ (hl:=bz (by rfl) cc2)|refine bC ?_|refine ao ?_|refine bZ ?_)|refine ak ?_|refine ab ?_|refine aa fun C=>?_|refine ac ?_|refine ah ?_|refine aq rfl ?_|refine au rfl ?_)
  refine a8 (fun q:Int×Int×ByteArray×List E×Nat=>⟨eX [(2,.c (.pt 2 0)),(3,.c (.pt 3 0)),(4,.c (.v (.int .i64 (q.2.2.2.2:Int))))],eJ [(0,0,⟨0,0,0,true,cs3⟩),(2,2,⟨26,0,0,true,[.v (.int .i64 0),.v (.int .i64 0),.v (.string ByteArray.empty),.v (.slice none 0 0)]⟩),(3,3,⟨26,0,0,true,[.v (.int .i64 q.1),.v (.int .i64 q.2.1),.v (.string q.2.2.1),.sl 9 q.2.2.2.1.length]⟩),(9,9,⟨26,4,q.2.2.2.1.length,false,owL q.2.2.2.1⟩)],1,[0,2,3,9],38⟩)
   (fun N q=>q.2.2.2.2=N∧N≤12∧wr8 N (xE q.1 q.2.1 q.2.2.1 q.2.2.2.1)=wr8 i0 (xE m1 m2 m3 m4)) i0 (m1,m2,m3,m4,i0) ⟨rfl,omq,rfl⟩ ?_ ?_
  ·(refine ei (fun j=>if j=9 then 700 else j) _ _ rfl rfl ?_ ?_<;>exact tdy1)
  rintro N ⟨z1,z2,z3,z4,i⟩ ⟨hi,hN,hw⟩
  dsimp only at hi hN hw ⊢
  subst hi
  cases i with
  | zero =>
   have hw2:xE z1 z2 z3 z4=wr8 i0 (xE m1 m2 m3 m4):=hw
   rw [←hw2]
   repeat' (first|(apply ay;first|refine al ?_|refine bN ?_|refine bC ?_|refine a7 ?_)|refine ak ?_|refine ab ?_|refine aa fun C=>?_|refine ac ?_|refine aA ?_|refine au rfl ?_)
   refine am ?_
   exact dw rfl (aZ (aE rfl (aE rfl (aE rfl (ba rfl rfl rfl (aV _) aL))))) rfl cc3 (cC h3 hc) ⟨rfl,rfl⟩
  | succ i =>
   have hlt:(0:Int)<((i+1:Nat):Int):=by omega
   have ez:(((i+1:Nat):Int))-1=(i:Int):=by omega
   repeat' (first|(apply ay;first|refine al ?_|refine a7 ?_)|refine ak ?_|refine ab ?_|refine aa fun C=>?_|refine ac ?_)
   refine ae (by rfl) (fun hC=>?_) fun hC=>by exfalso;simp only [decide_eq_false_iff_not] at hC;exact hC hlt
   refine aj ?_
   refine ac ?_
   refine ah ?_
   refine lk [0,1] [2,3] rfl fun C=>?_
   repeat' (first|(apply ay;first|refine bX ?_|refine n_sk0 ?_|(apply f_mv;first|(refine aR ?_ ?_<;>intro hG<;>(try cases hG))|refine al ?_|refine db (v:=.ag _) ?_|refine db (v:=.tu _) ?_|refine az ?_)|(apply f_as;first|refine ai ?_|refine kw (v:=.ag _) ?_|refine kw (v:=.tu _) ?_|refine az ?_)|refine bj ?_|refine nU ?_|refine aI ?_|refine dO ?_|refine dp ?_|refine bN ?_|refine zjQ ?_|(apply f_bi;first|refine bE ?_|refine bK ?_|refine dA ?_|refine fj ?_|refine fj (hnu:=bytC_noUn _) ?_|refine n_app0 ?_|refine n_app0 (hnu:=bytC_noUn _) ?_|refine az ?_)|refine bC ?_|refine n_sto ?_|(apply qG;first|refine iv ?_|refine eO ?_|refine az ?_)|(apply uB;first|refine ao ?_|refine aY ?_|refine aQ ?_|refine n_eql_b ?_|refine az ?_)|(apply uC;first|refine aS ?_|refine dx ?_|refine fm ?_|refine n_neq_b ?_|refine az ?_)|(apply uD;first|refine aD ?_|refine n_lss_u8 ?_|refine az ?_)|(apply uE;first|refine bG ?_|refine n_leq_u8 ?_|refine az ?_)|(apply uF;first|refine a7 ?_|refine n_gtr_u8 ?_|refine az ?_)|(apply uG;first|refine dP ?_|refine n_geq_u8 ?_|refine az ?_)|(apply pp;first|refine aw ?_|refine er ?_|refine az ?_)|(apply f_no;first|refine b7 ?_|refine az ?_)|(apply f_pk;first|refine aB ?_|refine kx (v:=.ag _) ?_|refine kx (v:=.tu _) ?_|refine az ?_)|(apply f_ex;first|refine cE ?_|refine fQ (v:=.ag _) ?_|refine fQ (v:=.tu _) ?_|refine az ?_)|(apply f_bb;first|refine cJ ?_|refine fB ?_|refine az ?_)|(apply f_cv;first|refine d9 ?_|refine sa ?_|refine lV ?_|refine n_cvs ?_|refine n_cvr ?_|refine az ?_)|refine bZ ?_|refine cA ?_|refine dX ?_|refine cG ?_|refine r9 ?_|refine jN ?_|refine gh ?_|refine az ?_|refine n_mv ?_)|refine ak ?_|refine ab ?_|(apply dC;first|refine iu ?_|refine o_sk0 ?_|(refine ik ?_ ?_<;>intro hG<;>(try cases hG))|(apply ep;refine aN ?_)|(apply mG;refine aN ?_)|refine fA ?_|refine po ?_|(apply d_ld;first|refine cY ?_|refine ju ?_|refine fY ?_|refine mF ?_|refine aN ?_|refine o_ld ?_)|(apply d_bi;first|refine ib ?_|refine dW ?_|refine lU ?_|refine jL ?_|refine jL (hnu:=bytC_noUn _) ?_|refine o_app0 ?_|refine o_app0 (hnu:=bytC_noUn _) ?_|refine aN ?_)|refine pn ?_|refine o_sto ?_|(apply d_ia;first|refine rZ ?_|refine r5 ?_|refine aN ?_)|(apply ic;first|refine dE ?_|refine eo ?_|refine fy ?_|refine mC ?_|refine aN ?_)|(apply d_cv;first|refine fP ?_|refine lT ?_|refine o_cvs ?_|refine o_cvr ?_|refine aN ?_)|refine xp ?_|refine o_bo ?_|refine um ?_|refine fx ?_|refine mB ?_|refine lE ?_|refine jM ?_|refine aN ?_|refine o_mv ?_)|refine ak ?_|refine ab ?_)
   refine rv (em (i:=35) (j:=9) rfl rfl rfl (pre:=[_,_,_]) (post:=[]) rfl) (by decide) ?_
   repeat' (first|(apply f_w;refine ul 90001 1 (zS (k:=8) (l:=[xE z1 z2 z3 z4])) ?_)|(apply ay;first|refine bX ?_|refine n_sk0 ?_|(apply f_mv;first|(refine aR ?_ ?_<;>intro hG<;>(try cases hG))|refine al ?_|refine db (v:=.ag _) ?_|refine db (v:=.tu _) ?_|refine az ?_)|(apply f_as;first|refine ai ?_|refine kw (v:=.ag _) ?_|refine kw (v:=.tu _) ?_|refine az ?_)|refine bj ?_|refine nU ?_|refine aI ?_|refine dO ?_|refine dp ?_|refine bN ?_|refine zjQ ?_|(apply f_bi;first|refine bE ?_|refine bK ?_|refine dA ?_|refine fj ?_|refine fj (hnu:=bytC_noUn _) ?_|refine n_app0 ?_|refine n_app0 (hnu:=bytC_noUn _) ?_|refine az ?_)|refine bC ?_|refine n_sto ?_|(apply qG;first|refine iv ?_|refine eO ?_|refine az ?_)|(apply uB;first|refine ao ?_|refine aY ?_|refine aQ ?_|refine n_eql_b ?_|refine az ?_)|(apply uC;first|refine aS ?_|refine dx ?_|refine fm ?_|refine n_neq_b ?_|refine az ?_)|(apply uD;first|refine aD ?_|refine n_lss_u8 ?_|refine az ?_)|(apply uE;first|refine bG ?_|refine n_leq_u8 ?_|refine az ?_)|(apply uF;first|refine a7 ?_|refine n_gtr_u8 ?_|refine az ?_)|(apply uG;first|refine dP ?_|refine n_geq_u8 ?_|refine az ?_)|(apply pp;first|refine aw ?_|refine er ?_|refine az ?_)|(apply f_no;first|refine b7 ?_|refine az ?_)|(apply f_pk;first|refine aB ?_|refine kx (v:=.ag _) ?_|refine kx (v:=.tu _) ?_|refine az ?_)|(apply f_ex;first|refine cE ?_|refine fQ (v:=.ag _) ?_|refine fQ (v:=.tu _) ?_|refine az ?_)|(apply f_bb;first|refine cJ ?_|refine fB ?_|refine az ?_)|(apply f_cv;first|refine d9 ?_|refine sa ?_|refine lV ?_|refine n_cvs ?_|refine n_cvr ?_|refine az ?_)|refine bZ ?_|refine cA ?_|refine dX ?_|refine cG ?_|refine r9 ?_|refine jN ?_|refine gh ?_|refine az ?_|refine n_mv ?_)|refine ak ?_|refine ab ?_|(apply dC;first|refine iu ?_|refine o_sk0 ?_|(refine ik ?_ ?_<;>intro hG<;>(try cases hG))|(apply ep;refine aN ?_)|(apply mG;refine aN ?_)|refine fA ?_|refine po ?_|(apply d_ld;first|refine cY ?_|refine ju ?_|refine fY ?_|refine mF ?_|refine aN ?_|refine o_ld ?_)|(apply d_bi;first|refine ib ?_|refine dW ?_|refine lU ?_|refine jL ?_|refine jL (hnu:=bytC_noUn _) ?_|refine o_app0 ?_|refine o_app0 (hnu:=bytC_noUn _) ?_|refine aN ?_)|refine pn ?_|refine o_sto ?_|(apply d_ia;first|refine rZ ?_|refine r5 ?_|refine aN ?_)|(apply ic;first|refine dE ?_|refine eo ?_|refine fy ?_|refine mC ?_|refine aN ?_)|(apply d_cv;first|refine fP ?_|refine lT ?_|refine o_cvs ?_|refine o_cvr ?_|refine aN ?_)|refine xp ?_|refine o_bo ?_|refine um ?_|refine fx ?_|refine mB ?_|refine lE ?_|refine jM ?_|refine aN ?_|refine o_mv ?_)|refine ak ?_|refine ab ?_)
   repeat' (first|(apply ay;first|refine al ?_|refine ai ?_|refine cJ ?_)|refine ak ?_|refine ab ?_|refine aa fun C=>?_)
   refine⟨i,(8,0,ByteArray.empty,[xE z1 z2 z3 z4],i),omq,⟨rfl,omq,?_⟩,?_⟩
   ·dsimp only
    rw [←hw]
    exact zW i _
   ·dsimp only
    (refine ei (fun j=>if j=9 then 90001 else j) _ _ rfl rfl ?_ ?_<;>exact tdy1)
 ·refine⟨xE m1 m2 m3 m4,cs2,h2,hfy,by rw [eV];omega,av func21 rfl rfl ?_⟩
  have hne:∀j:Nat,j<4→(((k:Nat):Int)==((j:Nat):Int))=false:=fun j hj=>by
   rw [Bool.eq_false_iff]
   intro h
   have:=eq_of_beq h
   omega
  repeat' (first|(apply ay;first|refine al ?_|refine ai ?_|refine aK 0 (c1) ?_ (hl:=bz (by rfl) cc)|refine aK 0 (c2) ?_ (hl:=bz (by rfl) cc1)|refine bC ?_|refine ao ?_|refine bZ ?_)|refine ak ?_|refine ab ?_|refine aa fun C=>?_|refine ac ?_|refine ah ?_)
  refine ae (by rfl) (fun hC=>by exfalso;rw [show ((k:Int)==0)=false from hne 0 omq] at hC;cases hC) fun hC=>?_
  repeat' (first|(apply ay;first|refine ai ?_|refine ao ?_)|refine ak ?_|refine ab ?_|refine aa fun C=>?_|refine ac ?_)
  refine ae (by rfl) (fun hC=>by exfalso;rw [show ((k:Int)==1)=false from hne 1 omq] at hC;cases hC) fun hC=>?_
  repeat' (first|(apply ay;first|refine ai ?_|refine ao ?_)|refine ak ?_|refine ab ?_|refine aa fun C=>?_|refine ac ?_)
  refine ae (by rfl) (fun hC=>by exfalso;rw [show ((k:Int)==2)=false from hne 2 omq] at hC;cases hC) fun hC=>?_
  repeat' (first|(apply ay;first|refine ai ?_|refine ao ?_)|refine ak ?_|refine ab ?_|refine aa fun C=>?_|refine ac ?_)
  refine ae (by rfl) (fun hC=>by exfalso;rw [show ((k:Int)==3)=false from hne 3 omq] at hC;cases hC) fun hC=>?_
  repeat' (first|(apply ay;first|refine bN ?_|refine bC ?_)|refine ak ?_|refine ab ?_|refine aa fun C=>?_|refine ac ?_|refine aj ?_)
  refine am ?_
  exact dw rfl (aZ (aE rfl (aE rfl (aE rfl (ba rfl rfl rfl (aV _) aL))))) rfl cc2 (cC h2 hc) ⟨rfl,rfl⟩
theorem DrawExprText_c {bs:List UInt8}(hl:bs.length≤1048576):∃e:E,FnY e∧e.sz≤1000∧Ctr prog 7 [.c (.ro bs.length 1 (acL (bE8 bs)))] [] (.ag (owE e)) []:=by
 obtain⟨h,hnew⟩:=yR bs
 have hc:=qh (h:=h) hl
 have cc:=bp hc
 obtain⟨e,cs1,h1,hf,hz,c1⟩:=ze3 hc
 refine⟨e,hf,hz,av func7 rfl rfl ?_⟩
 cases hf with
 | mk m1 m2 m3 m4 _ _ _ _ =>
 repeat' (first|(apply ay;first|refine al ?_|refine bZ ?_)|refine ak ?_|refine ab ?_|refine aa fun C=>?_|refine ac ?_)
 refine n_new hnew ?_
 repeat' (first|(apply ay;first|refine al ?_|refine ai ?_|refine aK 5 (c1) ?_ (hl:=bz (by rfl) cc)|refine bC ?_)|refine ak ?_|refine ab ?_|refine aa fun C=>?_|refine ac ?_)
 refine am ?_
 exact bv rfl (aZ (aE rfl (aE rfl (aE rfl (ba rfl rfl rfl (aV _) aL))))) ⟨rfl,rfl⟩
open Classical in
noncomputable def eqD (x y:E):Bool:=decide (x.d=y.d)
open Classical in
noncomputable def wE (x y:List E):Bool:=decide (E.dL x=E.dL y)
theorem gJ {x y:E}:eqD x y=true↔x.d=y.d:=by unfold eqD;exact @decide_eq_true_iff _ (Classical.propDecidable _)
open Classical in
theorem fV {x y:List E}:wE x y=true↔E.dL x=E.dL y:=by unfold wE;exact decide_eq_true_iff
theorem hO {a b:Bool}(h:a=true↔b=true):a=b:=by cases a<;>cases b<;>simp_all
theorem zf3 {k:IntKind}{a b:Int}:eqD (.int k a) (.int k b)=(a==b):=hO (by rw [gJ];simp [E.d])
theorem yT {a b:Bool}:eqD (.bool a) (.bool b)=(a==b):=hO (by rw [gJ];simp [E.d])
theorem zg3 {a b:ByteArray}:eqD (.str a) (.str b)=(a.toList==b.toList):=hO (by
 rw [gJ]
 simp only [E.d,E.str.injEq,beq_iff_eq]
 exact⟨fun h=>by rw [h],fun h=>by
  have h1:a.data.toList=b.data.toList:=by simpa [ByteArray.toList_eq] using h
  cases a;cases b
  simp only at h1
  congr 1
  exact Array.toList_inj.1 h1⟩)
theorem zh3 {l m:List E}:eqD (.agg l) (.agg m)=wE l m:=hO (by rw [gJ,fV];simp [E.d])
theorem zi3 {k k' c c':Nat}{T T':TypeId}{A A':Option Addr}{l m:List E}:eqD (.lst k T A c l) (.lst k' T' A' c' m)=wE l m:=hO (by rw [gJ,fV];simp [E.d])
theorem rG:wE [] []=true:=fV.2 rfl
theorem oT {x y:E}{l m:List E}:wE (x :: l) (y :: m)=(eqD x y&&wE l m):=hO (by rw [fV,Bool.and_eq_true,gJ,fV];simp [E.dL])
theorem yU:∀{a b:List E},a.length≠b.length→wE a b=false:=by
 intro a b h
 rw [Bool.eq_false_iff]
 intro h'
 rw [fV,E.dL_eq,E.dL_eq] at h'
 exact h (by simpa using congrArg List.length h')
theorem zj3:∀{a b:List E} {k:Nat} {x y:E},a[k]? = some x→b[k]? = some y→eqD x y=false→wE a b=false:=by
 intro a b k x y hx hy h
 rw [Bool.eq_false_iff]
 intro h'
 rw [fV,E.dL_eq,E.dL_eq] at h'
 have:=congrArg (fun l=>l[k]?) h'
 simp only [List.getElem?_map,hx,hy,Option.map_some,Option.some.injEq] at this
 rw [gJ.2 this] at h
 cases h
theorem rH:∀{a b:List E},a.length=b.length→(∀(j:Nat) x y,j<a.length→a[j]? = some x→b[j]? = some y→eqD x y=true)→wE a b=true
 | [],[],_,_=>rG
 | [],_ :: _,h,_=>by simp at h
 | _ :: _,[],h,_=>by simp at h
 | x :: a,y :: b,h,hh=>by
  rw [oT,Bool.and_eq_true]
  exact⟨hh 0 x y (by simp) rfl rfl,rH (by simpa using h) fun j p q hj hp hq=>hh (j+1) p q (by simpa using hj) (by simpa using hp) (by simpa using hq)⟩
theorem oU {la lb:List E}(ha:∀e∈la,e.Ty prog 26)(hka:∀e∈la,e.enc.length=4)(hb:∀e∈lb,e.Ty prog 26)(hkb:∀e∈lb,e.enc.length=4)(hla:la.length≤1073741824)(hlb:lb.length≤1073741824)(hc:∀x∈la,∀y∈lb,Ctr prog 12 [.ag (acE x),.ag (acE y)] [] (.c (.v (.bool (eqD x y)))) []):Ctr prog 28 [.c (.ro la.length 4 (acL la)),.c (.ro lb.length 4 (acL lb)),.c (.fn 12 [])] [] (.c (.v (.bool (wE la lb)))) []:=by
 refine av func28 rfl rfl ?_
 repeat (first|refine ac ?_|refine ah ?_|refine aj ?_|refine aA ?_|refine am ?_|refine aa fun C=>?_|refine ar (by kernel_rfl) (by kernel_rfl) fun C=>?_|refine ab ?_|refine b9 ?_|refine gt ?_|refine gg ?_|refine gu ?_|refine x_mv ?_|refine fh ?_|refine x_sk0 ?_|refine gv ?_|refine dj ?_|refine x_sto ?_|refine dk ?_|refine x_app0 ?_|refine gx ?_)
 refine cS (by rfl) (fun h1=>?_) fun h1=>?_
 ·repeat (first|refine ac ?_|refine ah ?_|refine aj ?_|refine aA ?_|refine am ?_|refine aa fun C=>?_|refine ar (by kernel_rfl) (by kernel_rfl) fun C=>?_|refine ab ?_|refine b9 ?_|refine gt ?_|refine gg ?_|refine gu ?_|refine x_mv ?_|refine fh ?_|refine x_sk0 ?_|refine gv ?_|refine dj ?_|refine x_sto ?_|refine dk ?_|refine x_app0 ?_|refine gx ?_)
  refine bv (x:=.c (.v (.bool false))) rfl aH ⟨?_,rfl⟩
  rw [yU (by simp at h1;omega)]
 ·have hl:la.length=lb.length:=by simp at h1;omega
  repeat (first|refine ac ?_|refine ah ?_|refine aj ?_|refine aA ?_|refine am ?_|refine aa fun C=>?_|refine ar (by kernel_rfl) (by kernel_rfl) fun C=>?_|refine ab ?_|refine b9 ?_|refine gt ?_|refine gg ?_|refine gu ?_|refine x_mv ?_|refine fh ?_|refine x_sk0 ?_|refine gv ?_|refine dj ?_|refine x_sto ?_|refine dk ?_|refine x_app0 ?_|refine gx ?_)
  refine a8 (fun k:Nat=>⟨eX [(1,.c (.ro lb.length 4 (acL lb))),(2,.c (.fn 12 [])),(15,.c (.ro la.length 4 (acL la))),(16,.c (.v (.int .i64 la.length))),(17,.c (.v (.int .i64 k)))],eJ [],0,[],32⟩)
   (fun N k=>k+N=la.length∧∀j x y,j<k→la[j]? = some x→lb[j]? = some y→eqD x y=true) la.length 0 ⟨omq,omq⟩ ?_ ?_
  ·(refine aM _ _ rfl rfl ?_ ?_<;>exact tdy0)
  rintro N k ⟨hN,hno⟩
  repeat (first|refine ac ?_|refine ah ?_|refine aj ?_|refine aA ?_|refine am ?_|refine aa fun C=>?_|refine ar (by kernel_rfl) (by kernel_rfl) fun C=>?_|refine ab ?_|refine b9 ?_|refine gt ?_|refine gg ?_|refine gu ?_|refine x_mv ?_|refine fh ?_|refine x_sk0 ?_|refine gv ?_|refine dj ?_|refine x_sto ?_|refine dk ?_|refine x_app0 ?_|refine gx ?_)
  refine cS (by rfl) (fun h2=>?_) fun h2=>?_
  ·have hk':k<la.length:=by simpa using h2
   obtain⟨x,hx⟩:∃x,la[k]? = some x:=⟨_,List.getElem?_eq_getElem hk'⟩
   obtain⟨y,hy⟩:∃y,lb[k]? = some y:=⟨_,List.getElem?_eq_getElem omq⟩
   have hcc:=hc x (List.mem_of_getElem? hx) y (List.mem_of_getElem? hy)
   obtain⟨x0,x1,x2,x3A,x3c,x3l,rfl,gx0,gx1,gx2,gx3,-⟩:=aU (ha x (List.mem_of_getElem? hx))
   obtain⟨y0,y1,y2,y3A,y3c,y3l,rfl,gy0,gy1,gy2,gy3,-⟩:=aU (hb y (List.mem_of_getElem? hy))
   repeat (first|refine ac ?_|refine ah ?_|refine aj ?_|refine aA ?_|refine am ?_|refine aa fun C=>?_|refine ar (by kernel_rfl) (by kernel_rfl) fun C=>?_|refine ab ?_|refine b9 ?_|refine gt ?_|refine gg ?_|refine gu ?_|refine x_mv ?_|refine fh ?_|refine x_sk0 ?_|refine gv ?_|refine dj ?_|refine x_sto ?_|refine dk ?_|refine x_app0 ?_|refine gx ?_)
   refine zu3 100 hcc ?_
   repeat (first|refine ac ?_|refine ah ?_|refine aj ?_|refine aA ?_|refine am ?_|refine aa fun C=>?_|refine ar (by kernel_rfl) (by kernel_rfl) fun C=>?_|refine ab ?_|refine b9 ?_|refine gt ?_|refine gg ?_|refine gu ?_|refine x_mv ?_|refine fh ?_|refine x_sk0 ?_|refine gv ?_|refine dj ?_|refine x_sto ?_|refine dk ?_|refine x_app0 ?_|refine gx ?_)
   refine cS (by rfl) (fun h3=>?_) fun h3=>?_
   ·repeat (first|refine ac ?_|refine ah ?_|refine aj ?_|refine aA ?_|refine am ?_|refine aa fun C=>?_|refine ar (by kernel_rfl) (by kernel_rfl) fun C=>?_|refine ab ?_|refine b9 ?_|refine gt ?_|refine gg ?_|refine gu ?_|refine x_mv ?_|refine fh ?_|refine x_sk0 ?_|refine gv ?_|refine dj ?_|refine x_sto ?_|refine dk ?_|refine x_app0 ?_|refine gx ?_)
    refine bv (x:=.c (.v (.bool false))) rfl aH ⟨?_,rfl⟩
    rw [zj3 hx hy (by simpa using h3)]
   ·repeat (first|refine ac ?_|refine ah ?_|refine aj ?_|refine aA ?_|refine am ?_|refine aa fun C=>?_|refine ar (by kernel_rfl) (by kernel_rfl) fun C=>?_|refine ab ?_|refine b9 ?_|refine gt ?_|refine gg ?_|refine gu ?_|refine x_mv ?_|refine fh ?_|refine x_sk0 ?_|refine gv ?_|refine dj ?_|refine x_sto ?_|refine dk ?_|refine x_app0 ?_|refine gx ?_)
    refine⟨N-1,k+1,omq,⟨omq,fun j p q hj hp hq=>?_⟩,?_⟩
    ·by_cases e:j=k
     ·rw [e,hx] at hp;rw [e,hy] at hq;injection hp with hp;injection hq with hq;subst hp hq;simpa using h3
     ·exact hno j p q omq hp hq
    ·(refine aM _ _ rfl rfl ?_ ?_<;>exact tdy0)
  ·have hk':¬k<la.length:=by simpa using h2
   repeat (first|refine ac ?_|refine ah ?_|refine aj ?_|refine aA ?_|refine am ?_|refine aa fun C=>?_|refine ar (by kernel_rfl) (by kernel_rfl) fun C=>?_|refine ab ?_|refine b9 ?_|refine gt ?_|refine gg ?_|refine gu ?_|refine x_mv ?_|refine fh ?_|refine x_sk0 ?_|refine gv ?_|refine dj ?_|refine x_sto ?_|refine dk ?_|refine x_app0 ?_|refine gx ?_)
   refine bv (x:=.c (.v (.bool true))) rfl aH ⟨?_,rfl⟩
   rw [rH hl fun j x y hj hx hy=>hno j x y omq hx hy]
theorem sR (n:Nat):∀(x y:E),x.Ty prog 26→y.Ty prog 26→x.sz≤n→y.sz≤1048576→n≤1048576→Ctr prog 12 [.ag (acE x),.ag (acE y)] [] (.c (.v (.bool (eqD x y)))) []:=by
 induction n using Nat.strongRecOn with
 | _ n ih =>
 intro x y hx hy hsx hsy hn
 obtain⟨x0,x1,x2,x3A,x3c,x3l,rfl,gx0,gx1,gx2,gx3,-⟩:=aU hx
 obtain⟨y0,y1,y2,y3A,y3c,y3l,rfl,gy0,gy1,gy2,gy3,-⟩:=aU hy
 simp only [E.sz,E.szL] at hsx hsy
 have c1:=oU gx3.1 gx3.2 gy3.1 gy3.2 omq omq (fun p hp q hq=>ih p.sz (by have h1:=E.szL_mem hp;have h2:=List.length_pos_of_mem hp;omega) p q (gx3.1 p hp) (gy3.1 q hq) (Nat.le_refl _) (by have h1:=E.szL_mem hq;omega) (by have h1:=E.szL_mem hp;have h2:=List.length_pos_of_mem hp;omega))
 clear ih
 refine av func12 rfl rfl ?_
 repeat' (first|refine ac ?_|refine aa fun C=>?_|refine ab ?_|(refine xk ?_ ?_<;>intro hG<;>(try cases hG))|refine b9 ?_|refine gg ?_|refine fh ?_|refine x_cal ?_)
 all_goals
  refine am ?_
  refine bv rfl aH ⟨?_,rfl⟩
  simp only [zh3,zi3,zf3,yT,zg3,oT,rG]
  first|(simp [*];done)|(simp_all;done)|skip
theorem lK {x y:E}(hx:x.Ty prog 26)(hy:y.Ty prog 26)(hsx:x.sz≤1048576)(hsy:y.sz≤1048576):Ctr prog 12 [.ag (acE x),.ag (acE y)] [] (.c (.v (.bool (eqD x y)))) []:=sR _ x y hx hy hsx hsy (Nat.le_refl _)
end Go.Proofs.YtomolhbkdhjofaaGreatDoor
-- MVP
namespace Go.Proofs.YtomolhbkdhjofaaGreatDoor
open Go.RowKit Go.Proofs.Tryz
theorem big_c {n:Nat}{l:List AC}(hn:n≤9223372036854775807):Ctr prog 6 [.c (.ro n 1 l)] [] (.c (.v (.bool (decide (1048576<(n:Int)))))) []:=by
 refine av func6 rfl rfl ?_
 repeat' (first|(apply ay;first|refine al ?_|refine ai ?_|refine bE ?_|refine a7 ?_)|refine ak ?_|refine ab ?_|refine aa fun C=>?_|refine ac ?_)
 refine am ?_;refine bv rfl aH ⟨?_,rfl⟩
 rfl
end Go.Proofs.YtomolhbkdhjofaaGreatDoor
namespace Go.Proofs.YtomolhbkdhjofaaGreatDoor
open Go.RowKit Go.Proofs.Tryz
theorem zn5 {e:E}(h:FnY e):gk e=e:=by
 induction h with
 | mk k n s l hk hn hs hl ih =>
  have e1:l.map gk=l:=(List.map_congr_left (g:=id) fun y hy=>ih y hy).trans (List.map_id l)
  show gk (.agg [.int .i64 k,.int .i64 n,.str s,.lst 4 26 none 0 l])=_
  rw [k9,e1]
theorem px_tx {e:E}(hf:FnY e)(hb:fq e=true):pxI (txE e)=true∧pxE (txE e)=e:=by
 obtain⟨q1,-⟩:=zt4 hb
 have hL:jr (txE e)=tkE e:=zv4 (by rw [←(eU _).2,q1])
 obtain⟨-,r2⟩:=zr2 hb hL
 rw [zn5 hf] at r2
 have hI:pxI (txE e)=true:=by
  unfold pxI stB
  rw [r2]
  dsimp only
  rw [hb,q1]
  simp
 exact⟨hI,by unfold pxE;rw [if_pos hI,r2]⟩
theorem lu {e:E}(he:e.Ty prog 26)(hsz:e.sz≤1048576)(hb:fq e=false):Ctr prog 8 [.ag (acE e)] [] (.c (.v (.string ByteArray.empty))) []:=by
 have c1:=ff he hsz
 rw [hb] at c1
 obtain⟨k0,n0,s0,xA,xc,l,rfl,-⟩:=aU he
 refine av func8 rfl rfl ?_
 repeat' (first|(apply ay;first|refine ai ?_|refine bN ?_|refine aF c1 ?_|refine b7 ?_|refine cA ?_)|refine ak ?_|refine ab ?_|refine aa fun C=>?_|refine ac ?_|refine aq rfl ?_)
 exact fJ
theorem wF {bs:List UInt8}(hsz:bs.length≤9223372036854775807):Ctr prog 3 [.c (.ro bs.length 1 (acL (bE8 bs)))] [] (.c (.v (.bool true))) []:=by
 have cb:=big_c (l:=acL (bE8 bs)) hsz
 by_cases hbig:1048576<(bs.length:Int)
 ·rw [decide_eq_true hbig] at cb
  refine av func3 rfl rfl ?_
  repeat' (first|(apply ay;first|refine al ?_|refine ai ?_|refine aF cb ?_)|refine ak ?_|refine ab ?_|refine aa fun C=>?_|refine ac ?_|refine aq rfl ?_)
  refine am ?_;refine bv rfl aH ⟨?_,rfl⟩
  rfl
 rw [decide_eq_false hbig] at cb
 obtain⟨e,hf,hz,cD⟩:=DrawExprText_c (bs:=bs) omq
 have hty:=hf.ty.1
 have c4:=oC hty omq
 have c5:=ff hty omq
 cases hb:fq e with
 | false =>
  have c3:=lu hty omq hb
  rw [hb] at c4 c5
  cases hf with
  | mk m1 m2 m3 m4 _ _ _ _ =>
  refine av func3 rfl rfl ?_
  repeat' (first|(apply ay;refine n_caG cD ?_)|(apply ay;first|refine bX ?_|(refine aR ?_ ?_<;>intro hG<;>(try cases hG))|refine al ?_|refine ai ?_|refine bN ?_|refine aF cb ?_|refine aF c3 ?_|refine aF c4 ?_|refine aF c5 ?_|refine bC ?_|refine aQ ?_|refine b7 ?_|refine aB ?_|refine bZ ?_)|refine ak ?_|refine ab ?_|refine aa fun C=>?_|refine ac ?_|refine aj ?_|refine aq rfl ?_|refine au rfl ?_)
  all_goals first
   | (exfalso;exact jJ hG rfl)
   | (refine am ?_;refine bv rfl aH ⟨?_,rfl⟩;rfl)
 | true =>
  have c3:=gI hty omq hb
  have hs:=oz hty
  obtain⟨p1,p2⟩:=px_tx hf hb
  have c6:=ls (s:=txE e) omq
  rw [p1,p2] at c6
  have c7:=lK hty hty omq omq
  rw [gJ.2 rfl] at c7
  rw [hb] at c4 c5
  clear p1 p2 hs
  generalize txE e=T at *
  cases hf with
  | mk m1 m2 m3 m4 _ _ _ _ =>
  refine av func3 rfl rfl ?_
  repeat' (first|(apply ay;refine n_caG cD ?_)|(apply ay;first|(refine aR ?_ ?_<;>intro hG<;>(try cases hG))|refine al ?_|refine db (v:=.tu _) ?_|refine ai ?_|refine bN ?_|refine aF cb ?_|refine aF c3 ?_|refine aF c4 ?_|refine aF c5 ?_|refine dn c6 ?_|refine aF c7 ?_|refine bC ?_|refine b7 ?_|refine aB ?_|refine cE ?_|refine fQ (v:=.ag _) ?_|refine bZ ?_)|refine ak ?_|refine ab ?_|refine aa fun C=>?_|refine ac ?_|refine aj ?_|refine au rfl ?_)
  refine am ?_;refine bv rfl aH ⟨?_,rfl⟩
  rfl
theorem js {w:World}{St:Nat→Prop}{φ:Nat→Lc}{K:Nat→Prop}:∀bs:List UInt8,CRL w St φ K (acL (bE8 bs)) (bs.map fun b=>.int .u8 b.toNat) []
 | []=>CRL.nil
 | b :: r=>by
  show CRL w St φ K (.v (.int .u8 (b.toNat:Int)) :: acL (bE8 r)) (.int .u8 b.toNat :: r.map fun b=>.int .u8 b.toNat) ([]++[])
  exact CRL.cons (by simp only [CR];exact⟨trivial,rfl,trivial⟩) (js r)
theorem rd_ro {w:World}{A:Option Addr}{n c:Nat}{bs:List UInt8}(h:Rd w 1 wI (.slice A n c) bs):VR w (fun b=>b<w.heap.size) φ0 K0 (.c (.ro bs.length 1 (acL (bE8 bs)))) (.slice A bs.length c):=by
 obtain⟨A',c',he,h1,⟨h2,h3⟩,h4⟩:=h
 injection he with e1 e2 e3
 subst e1 e2 e3
 simp only [VR,CR]
 refine⟨trivial,A,c,rfl,⟨h1,h2,h3⟩,by rw [show (acL (bE8 bs)).length=bs.length from by have:=(js (w:=w) (St:=fun _=>True) (φ:=φ0) (K:=K0) bs).len;simp at this;omega];omega,fun hn=>?_⟩
 obtain⟨b,o,rfl,-,hlt,hc⟩:=h4 hn
 refine⟨b,o,_,rfl,hlt,hlt,fun i x hx=>?_,js bs⟩
 rw [List.getElem?_map] at hx
 have hi:i<bs.length:=by
  rcases Nat.lt_or_ge i bs.length with h|h
  ·exact h
  ·rw [List.getElem?_eq_none h] at hx;cases hx
 rw [List.getElem?_eq_getElem hi] at hx
 have:=hc i hi 0 x (by simpa [wI] using hx)
 simpa using this
theorem wG {f:FuncId}{w:World}{A:Option Addr}{c:Nat}{bs:List UInt8}(h:Ctr prog f [.c (.ro bs.length 1 (acL (bE8 bs)))] [] (.c (.v (.bool true))) [])(hs:Rd w 1 wI (.slice A bs.length c) bs)(gw:Gl w:=by (first|assumption|exact gl_any _|exact Gl.below_ gl0 (by exact (by repeat (first|(with_reducible refine Below.setCell ?_ (by first|omega|(·simp)|(·(simp;omega))) _)|(with_reducible refine Below.alloc ?_ (by first|omega|(·simp)|(·(simp;omega))) _)|(with_reducible refine Below.drew ?_)|(with_reducible refine bdrewN ?_ _)|(with_reducible exact Below.refl _ _)|(with_reducible assumption)|(with_reducible refine Below.trans ?_ (Below.mono (by assumption) (by first|omega|(·simp)|(·(simp;omega)))))|(with_reducible refine Below.trans ?_ (Kp.below (by assumption) (by first|omega|(·simp)|(·(simp;omega))) (by first|omega|(·simp)|(·(simp;omega)))))))))) :
 Calls prog f #[.slice A bs.length c] w fun e w'=>e=.returned (.bool true)∧Below w.heap.size w w' :=
 zh h (us:=[.slice A bs.length c]) (VRL_cons (rd_ro hs) VRL_nil) gw
end Go.Proofs.YtomolhbkdhjofaaGreatDoor
