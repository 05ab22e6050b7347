/- T -/
import Derived.Test.YtmnneflenebgmaaGreatCnOQ
set_option maxHeartbeats 0
set_option maxRecDepth 100000
namespace Go.Proofs.YtmnneflenebgmaaGreat
open Go.RowKit Go.Proofs.Tryz
theorem pp {P:Program}{f:FuncId}{ins ins':List AV}{pars rows:List (List AC)}{res:AV}(h:Ctr P f ins pars res rows)(hle:∀(w:World) (St:Nat→Prop) (φ:Nat→Lc) (K:Nat→Prop) (us:List Value),VRL w St φ K ins' us→VRL w St φ K ins us):Ctr P f ins' pars res rows :=
 ⟨h.1,fun w St φ F us hent=>h.2 w St φ F us ⟨hle _ _ _ _ _ hent.args,hent.row,hent.nod,hent.dis,hent.bxF,hent.bxd,hent.stF,hent.stB,hent.gl⟩⟩
def ksE (ks:List Int):List E:=ks.map (E.int .i64)
theorem zv3 (ks:List Int)(k:Int):((ksE ks).any fun e=>k==intE e)=ks.any (fun x=>k==x):=by
 unfold ksE
 rw [List.any_map]
 rfl
theorem zw3 (ks:List Int):∀e∈ksE ks,e.enc.length=1:=by
 intro e he
 obtain⟨z,_,rfl⟩:=List.mem_map.1 he
 rfl
theorem zq (ks:List Int)(hk:∀z∈ks,0≤z∧z≤100)(hl:ks.length≤100)(k:Int):Ctr prog 167 [.c (.ro ks.length 1 (acL (ksE ks))),.c (.v (.int .i64 k))] [] (.c (.v (.bool (ks.any fun x=>k==x)))) []:=by
 have h:=xK (l:=ksE ks) (fun e he=>by
  obtain⟨z,hz,rfl⟩:=List.mem_map.1 he
  have h1:=hk z hz
  refine⟨underlying3,?_⟩
  have e1:IntKind.i64.min = -9223372036854775808:=rfl
  have e2:IntKind.i64.max=9223372036854775807:=rfl
  simp only [Lit.wf,decide_eq_true_iff,Bool.and_eq_true,e1,e2]
  omega) (zw3 ks) (by unfold ksE;rw [List.length_map];omega) k
 rw [zv3] at h
 unfold ksE at h ⊢
 rw [List.length_map] at h
 exact h
theorem zoQ {w:World}{St:Nat→Prop}{φ:Nat→Lc}{K:Nat→Prop}{k:Nat}{u:Value}(h:VR w St φ K (.c (.v (.slice none 0 0))) u):VR w St φ K (.c (.ro 0 k [])) u:=by
 simp only [VR,CR] at h ⊢
 obtain⟨rfl,-,-⟩:=h
 exact⟨trivial,none,0,rfl,⟨omq,by decide,fun _=>rfl⟩,by simp,fun h=>by omega⟩
theorem zx3 (g:E→ByteArray)(x:E):fX [5] x.rk (g x)=brk g x:=by
 unfold fX brk
 by_cases h:x.rk=5
 ·rw [if_pos (by simp [h]),if_pos h]
 ·rw [if_neg (by simp [h]),if_neg h]
theorem pq (g:E→ByteArray)(x:E):fX [4,5] x.rk (g x)=iM g x:=by
 unfold fX iM
 by_cases h:x.rk=4∨x.rk=5
 ·rw [if_pos (by rcases h with h|h<;>simp [h]),if_pos h]
 ·rw [if_neg (by simp only [not_or] at h;simp [h.1,h.2]),if_neg h]
theorem zqQ (k:Int)(t:ByteArray):fX [] k t=t:=rfl
theorem qT {g:E→ByteArray}{x:E}{B:Nat}(h:(g x).size≤B):(brk g x).size≤B+2:=by
 unfold brk
 split
 ·rw [ByteArray.size_append',ByteArray.size_append']
  have:(ByteArray.mk #[40]).size=1:=rfl
  have:(ByteArray.mk #[41]).size=1:=rfl
  omega
 ·omega
theorem iC {g:E→ByteArray}{x:E}{B:Nat}(h:(g x).size≤B):(iM g x).size≤B+2:=by
 unfold iM
 split
 ·rw [ByteArray.size_append',ByteArray.size_append']
  have:(ByteArray.mk #[40]).size=1:=rfl
  have:(ByteArray.mk #[41]).size=1:=rfl
  omega
 ·omega
theorem n5 (g:E→ByteArray)(b:ByteArray)(x:E):∀a:List E,cX g b (a++[x])=cX g b a++(b++brk g x)
 | []=>by show b++(brk g x++ByteArray.empty)=ByteArray.empty++(b++brk g x);rw [pm,iZ]
 | y :: r=>by show b++(brk g y++cX g b (r++[x]))=b++(brk g y++cX g b r)++(b++brk g x);rw [n5 g b x r];simp only [gv]
theorem r6 (g:E→ByteArray)(b:ByteArray)(a:List E)(x:E):eg g b (a++[x])=(if a=[] then ByteArray.empty else eg g b a++b)++brk g x:=by
 cases a with
 | nil=>show brk g x++ByteArray.empty=ByteArray.empty++brk g x;rw [pm,iZ]
 | cons y r =>
  rw [if_neg (by simp)]
  show brk g y++cX g b (r++[x])=brk g y++cX g b r++b++brk g x
  rw [n5];simp only [gv]
theorem gH (g:E→ByteArray)(b:ByteArray){l:List E}{k:Nat}{x:E}(hx:l[k]? = some x):eg g b (l.take (k+1))=(if k=0 then ByteArray.empty else eg g b (l.take k)++b)++brk g x:=by
 obtain⟨hk,-⟩:=List.getElem?_eq_some_iff.1 hx
 rw [List.take_add_one,hx,Option.toList_some,r6]
 congr 1
 by_cases h:k=0
 ·subst h;rfl
 ·rw [if_neg h,if_neg (fun e=>by have:=congrArg List.length e;rw [List.length_take,List.length_nil] at this;omega)]
theorem pr (g:E→ByteArray){l:List E}{k:Nat}{x:E}(hx:l[k]? = some x):eg g ByteArray.empty (l.take (k+1))=eg g ByteArray.empty (l.take k)++brk g x:=by
 rw [gH g _ hx]
 congr 1
 by_cases h:k=0
 ·subst h;rfl
 ·rw [if_neg h,pm]
theorem gI {g:E→ByteArray}{b:ByteArray}{B:Nat}{l:List E}(h:∀x∈l,(g x).size≤B):∀k,k≤l.length→(eg g b (l.take k)).size≤k*(B+2+b.size):=by
 intro k
 induction k with
 | zero=>intro _;exact Nat.zero_le _
 | succ k ih =>
  intro hk
  have h1:=ih omq
  obtain⟨x,hx⟩:∃x,l[k]? = some x:=⟨_,List.getElem?_eq_getElem omq⟩
  have h2:=qT (h x (List.mem_of_getElem? hx))
  rw [gH g b hx,ByteArray.size_append',Nat.add_mul,Nat.one_mul]
  split
  ·have:ByteArray.empty.size=0:=rfl
   omega
  ·rw [ByteArray.size_append'];omega
def tlE (g:E→ByteArray)(l:List E):List E:=l.map fun x=>.str (g x)
theorem vc (g:E→ByteArray)(l:List E):(tlE g l).length=l.length:=List.length_map ..
theorem qU (g:E→ByteArray){l:List E}{k:Nat}{x:E}(hx:l[k]? = some x):tlE g (l.take (k+1))=tlE g (l.take k)++[.str (g x)]:=by
 unfold tlE
 rw [List.take_add_one,hx,Option.toList_some,List.map_append];rfl
theorem xL (g:E→ByteArray)(b:ByteArray){l:List E}(h:∀x∈l,x.rk≠5):∀k,k≤l.length→nZ (tlE g (l.take k)) b=eg g b (l.take k):=by
 intro k
 induction k with
 | zero=>intro _;rfl
 | succ k ih =>
  intro hk
  have h1:=ih omq
  obtain⟨x,hx⟩:∃x,l[k]? = some x:=⟨_,List.getElem?_eq_getElem omq⟩
  have hb:brk g x=g x:=if_neg (h x (List.mem_of_getElem? hx))
  rw [qU g hx,rZ,gH g b hx,hb,h1]
  congr 1
  by_cases h0:k=0
  ·subst h0;rfl
  ·rw [if_neg h0,if_neg (fun e=>by have:=congrArg List.length e;rw [vc,List.length_take,List.length_nil] at this;omega)]
theorem n6 {f:Nat}{e:E}(h:bM (f+1) e≤60):ls e=true∧∀x∈e.rl,bM f x≤60:=by
 unfold bM at h
 split at h
 ·rename_i hh;exact⟨hh,(iU h).2⟩
 ·omega
theorem jR {f:Nat}{e:E}(h:bM f e≤60):(aV f e).size≤960:=by have:=lT f e h;omega
theorem vd (f:Nat):∀(e:E),e.Ty prog 39→e.sz≤4194304→bM f e≤60→∀ks:List Int,(∀z∈ks,0≤z∧z≤100)→ks.length≤100→Ctr prog 113 [.ag (acE e),.c (.ro ks.length 1 (acL (ksE ks)))] [] (.c (.v (.string (fX ks e.rk (aV f e))))) []:=by
 induction f with
 | zero=>intro e _ _ h;exact absurd h (by unfold bM;omega)
 | succ f ih =>
  intro e he hsz hp ks hks hl
  obtain⟨hhd,hkid⟩:=n6 hp
  have hts:=jR hp
  obtain⟨x0,x1,x2A,x2c,l,rfl,gx0,gx1,gx2,-⟩:=aR he
  simp only [E.sz,E.szL] at hsz
  have hkid:∀x∈l,bM f x≤60:=hkid
  have hxs:∀x∈l,(aV f x).size≤960:=fun x hx=>jR (hkid x hx)
  have hh2:=hhd
  rw [mM] at hh2
  simp only [Bool.and_eq_true,Bool.not_eq_true'] at hh2
  obtain⟨hh,hno⟩:=hh2
  show Ctr _ _ _ _ (.c (.v (.string (fX ks x0 _)))) _
  have c1:=zq ks hks hl x0
  refine av func113 rfl rfl ?_
  rcases du hh with ⟨rfl,h1,h2,h3⟩|⟨rfl,h1,h3⟩|⟨rfl|rfl|rfl|rfl,h1,h3⟩|⟨rfl|rfl,h1,h2,h3⟩|⟨rfl|rfl|rfl,h1,y,h3,h4⟩
  case inl =>
   repeat' (first|(apply ay;first|refine ao ?_|refine ak ?_|refine bd ?_|refine aL ?_|refine aI c1 ?_|refine aq ?_|refine fx ?_|refine bL ?_)|refine al ?_|refine ab ?_|refine aa fun C=>?_|refine ae ?_|refine ah ?_|refine ai ?_|(refine aj (by rfl) ?_ ?_<;>intro hC<;>(try cases hC)))
   all_goals
    refine am ?_
    refine bi rfl aN ⟨?_,rfl⟩
    unfold fX;rw [hC];rfl
  case inr.inl =>
   repeat' (first|(apply ay;first|refine ao ?_|refine ak ?_|refine bd ?_|refine aL ?_|refine aI c1 ?_|refine aq ?_|refine fx ?_|refine bL ?_)|refine al ?_|refine ab ?_|refine aa fun C=>?_|refine ae ?_|refine ah ?_|refine ai ?_|(refine aj (by rfl) ?_ ?_<;>intro hC<;>(try cases hC)))
   all_goals
    refine am ?_
    refine bi rfl aN ⟨?_,rfl⟩
    unfold fX;rw [hC];rfl
  case inr.inr.inl.inl =>
   repeat' (first|(apply ay;first|refine ao ?_|refine ak ?_|refine bd ?_|refine aL ?_|refine aI c1 ?_|refine aq ?_|refine fx ?_|refine bL ?_)|refine al ?_|refine ab ?_|refine aa fun C=>?_|refine ae ?_|refine ah ?_|refine ai ?_|(refine aj (by rfl) ?_ ?_<;>intro hC<;>(try cases hC)))
   all_goals
    refine am ?_
    refine bi rfl aN ⟨?_,rfl⟩
    unfold fX;rw [hC];rfl
  case inr.inr.inl.inr.inl =>
   repeat' (first|(apply ay;first|refine ao ?_|refine ak ?_|refine bd ?_|refine aL ?_|refine aI c1 ?_|refine aq ?_|refine fx ?_|refine bL ?_)|refine al ?_|refine ab ?_|refine aa fun C=>?_|refine ae ?_|refine ah ?_|refine ai ?_|(refine aj (by rfl) ?_ ?_<;>intro hC<;>(try cases hC)))
   all_goals
    refine am ?_
    refine bi rfl aN ⟨?_,rfl⟩
    unfold fX;rw [hC];rfl
  case inr.inr.inl.inr.inr.inl =>
   repeat' (first|(apply ay;first|refine ao ?_|refine ak ?_|refine bd ?_|refine aL ?_|refine aI c1 ?_|refine aq ?_|refine fx ?_|refine bL ?_)|refine al ?_|refine ab ?_|refine aa fun C=>?_|refine ae ?_|refine ah ?_|refine ai ?_|(refine aj (by rfl) ?_ ?_<;>intro hC<;>(try cases hC)))
   all_goals
    refine am ?_
    refine bi rfl aN ⟨?_,rfl⟩
    unfold fX;rw [hC];rfl
  case inr.inr.inl.inr.inr.inr =>
   repeat' (first|(apply ay;first|refine ao ?_|refine ak ?_|refine bd ?_|refine aL ?_|refine aI c1 ?_|refine aq ?_|refine fx ?_|refine bL ?_)|refine al ?_|refine ab ?_|refine aa fun C=>?_|refine ae ?_|refine ah ?_|refine ai ?_|(refine aj (by rfl) ?_ ?_<;>intro hC<;>(try cases hC)))
   all_goals
    refine am ?_
    refine bi rfl aN ⟨?_,rfl⟩
    unfold fX;rw [hC];rfl
  case inr.inr.inr.inl.inl =>
   have hte:aV (f+1) (E.agg [E.int .i64 4,E.str x1,E.lst 3 39 x2A x2c l])=eg (aV f) ByteArray.empty l:=rfl
   rw [hte]
   repeat' (first|(apply ay;first|refine ak ?_|refine bd ?_|refine aL ?_|refine aq ?_|refine bL ?_)|refine al ?_|refine ab ?_|refine aa fun C=>?_|refine ae ?_|refine ah ?_)
   iterate 10
    (first
      | refine aj (by rfl) (fun hC=>Bool.noConfusion (show false=true from hC)) fun hC=>?_
      | refine aj (by rfl) (fun hC=>?_) fun hC=>Bool.noConfusion (show true=false from hC)
      | skip)<;>repeat' (first|(apply ay;first|refine ao ?_|refine ak ?_|refine bd ?_|refine aL ?_|refine aY ?_|refine aq ?_)|refine al ?_|refine ab ?_|refine aa fun C=>?_|refine ae ?_|refine ah ?_)
   refine aP (fun k:Nat=>⟨dA [(1,.c (.ro ks.length 1 (acL (ksE ks)))),(2,.c (.pt 2 0)),(5,.c (.v (.string (eg (aV f) ByteArray.empty (l.take k))))),(28,.c (.ro l.length 3 (acL l))),(29,.c (.v (.int .i64 l.length))),(30,.c (.v (.int .i64 k)))],dq [(2,2,⟨39,0,0,true,[.v (.int .i64 4),.v (.string x1),.ro l.length 3 (acL l)]⟩)],0,[2],98⟩)
    (fun N k=>k+N=l.length) l.length 0 omq ?_ ?_
   ·(refine aC _ _ rfl rfl ?_ ?_<;>exact tdy0)
   rintro N k hN
   repeat' (first|(apply ay;refine aO ?_)|refine al ?_|refine ab ?_|refine aa fun C=>?_|refine ae ?_)
   refine aj (by rfl) (fun hk1=>?_) fun hk1=>?_
   ·have hk':k<l.length:=by simpa using hk1
    obtain⟨x,hx⟩:∃x,l[k]? = some x:=⟨_,List.getElem?_eq_getElem hk'⟩
    have hxm:=List.mem_of_getElem? hx
    have hxt:=gx2.1 x hxm
    have hxz:=E.szL_mem hxm
    have c2:=ih x hxt omq (hkid x hxm) [5] (by simp) (by simp)
    rw [zx3] at c2
    have hgk:=gx2.2
    have hz1:=gI (b:=ByteArray.empty) hxs k omq
    have hz2:=qT (hxs x hxm)
    have e0:ByteArray.empty.size=0:=rfl
    rw [e0] at hz1
    have e:=pr (aV f) hx
    obtain⟨y0,y1,y2A,y2c,y2l,rfl,gy0,gy1,gy2,-⟩:=aR hxt
    repeat' (first|(apply ay;first|refine ao ?_|refine ak ?_|refine bI ?_|refine bu ?_|refine aI c2 ?_|refine cG ?_|refine dE ?_|refine aD ?_|refine fx ?_|refine dn ?_|refine gh ?_)|refine al ?_|refine ab ?_|refine aa fun C=>?_|refine ae ?_|refine ah ?_|refine ai ?_)
    refine⟨N-1,k+1,omq,omq,?_⟩
    rw [e]
    (refine aC _ _ rfl rfl ?_ ?_<;>exact tdy0)
   ·have hk':¬k<l.length:=by simpa using hk1
    rw [List.take_of_length_le omq]
    have hz1:=gI (b:=ByteArray.empty) hxs l.length omq
    rw [List.take_length] at hz1
    have e0:ByteArray.empty.size=0:=rfl
    rw [e0] at hz1
    repeat' (first|(apply ay;first|refine ao ?_|refine ak ?_|refine bd ?_|refine aL ?_|refine aI c1 ?_|refine fx ?_)|refine al ?_|refine ab ?_|refine aa fun C=>?_|refine ae ?_|refine ai ?_|refine au ?_|(refine aj (by rfl) ?_ ?_<;>intro hC<;>(try cases hC)))
    all_goals
     refine am ?_
     refine bi rfl aN ⟨?_,rfl⟩
     unfold fX;rw [hC];rfl
  case inr.inr.inr.inl.inr =>
   have hte:aV (f+1) (E.agg [E.int .i64 5,E.str x1,E.lst 3 39 x2A x2c l])=eg (aV f) ⟨#[124]⟩ l:=rfl
   rw [hte]
   have hk5:∀x∈l,x.rk≠5:=fun x hx hx5=>by
    have hno':(l.any fun x=>x.rk==5)=false:=by simpa using hno
    rw [List.any_eq_false] at hno'
    exact hno' x hx (by simp [hx5])
   repeat' (first|(apply ay;first|refine ak ?_|refine bd ?_|refine aL ?_|refine aq ?_|refine bL ?_)|refine al ?_|refine ab ?_|refine aa fun C=>?_|refine ae ?_|refine ah ?_)
   iterate 12
    (first
      | refine aj (by rfl) (fun hC=>Bool.noConfusion (show false=true from hC)) fun hC=>?_
      | refine aj (by rfl) (fun hC=>?_) fun hC=>Bool.noConfusion (show true=false from hC)
      | skip)<;>repeat' (first|(apply ay;first|refine ao ?_|refine ak ?_|refine bd ?_|refine aL ?_|refine aY ?_|refine aq ?_)|refine al ?_|refine ab ?_|refine aa fun C=>?_|refine ae ?_|refine ah ?_)
   refine aP (fun k:Nat=>⟨dA [(1,.c (.ro ks.length 1 (acL (ksE ks)))),(2,.c (.pt 2 0)),(8,.c (.sl 9 k)),(43,.c (.ro l.length 3 (acL l))),(44,.c (.v (.int .i64 l.length))),(45,.c (.v (.int .i64 k)))],dq [(2,2,⟨39,0,0,true,[.v (.int .i64 5),.v (.string x1),.ro l.length 3 (acL l)]⟩),(9,9,⟨9,1,k,false,owL (tlE (aV f) (l.take k))⟩)],0,[2,9],98⟩)
    (fun N k=>k+N=l.length) l.length 0 omq ?_ ?_
   ·refine (qB 9 (t:=8) 9 1 rfl rfl).trans ?_
    (refine aC _ _ rfl rfl ?_ ?_<;>exact tdy0)
   rintro N k hN
   repeat' (first|(apply ay;refine aO ?_)|refine al ?_|refine ab ?_|refine aa fun C=>?_|refine ae ?_)
   refine aj (by rfl) (fun hk1=>?_) fun hk1=>?_
   ·have hk':k<l.length:=by simpa using hk1
    obtain⟨x,hx⟩:∃x,l[k]? = some x:=⟨_,List.getElem?_eq_getElem hk'⟩
    have hxm:=List.mem_of_getElem? hx
    have hxt:=gx2.1 x hxm
    have hxz:=E.szL_mem hxm
    have c2:=ih x hxt omq (hkid x hxm) [] (by simp) (by simp)
    rw [zqQ] at c2
    have c3:=pp c2 (ins':=[.ag (acE x),.c (.v (.slice none 0 0))]) fun w St φ K us h=>by
     simp only [VRL] at h ⊢
     obtain⟨u,us',rfl,h1,u2,us2,rfl,h2,h3⟩:=h
     exact⟨u,_,rfl,h1,u2,us2,rfl,zoQ h2,h3⟩
    have hgk:=gx2.2
    have e:=qU (aV f) hx
    obtain⟨y0,y1,y2A,y2c,y2l,rfl,gy0,gy1,gy2,-⟩:=aR hxt
    repeat' (first|(apply ay;first|refine ao ?_|refine ak ?_|refine bI ?_|refine bu ?_|refine aI c3 ?_|refine ll ?_|refine cG ?_|refine dE ?_|refine aD ?_|refine dn ?_|refine gh ?_)|refine al ?_|refine ab ?_|refine aa fun C=>?_|refine ae ?_|refine ah ?_|refine ai ?_)
    refine⟨N-1,k+1,omq,omq,?_⟩
    rw [e]
    (refine fW (fun j=>if j=9 then 53 else j) _ _ rfl rfl ?_ ?_<;>(repeat' (first|exact TmOk.nil|exact RwOk.nil|refine TmOk.cons ?_ ?_|refine RwOk.cons ?_ ?_|rfl|(refine rnV_id' rfl ?_;exact byc)|(refine bv ?_;first|rfl|omega|(rw [aW omq omq];omega))|(refine aK rfl ?_;exact byc)|exact cb rfl rfl|(refine rw_mid (by rfl) (by rfl) ?_ ?_<;>exact byc)|(refine rw_rn' rfl rfl ?_;simp;done))))
    exact lj (r:=⟨9,1,k+1,false,owL (tlE (aV f) (l.take k))++[.v (.string (aV f (E.agg [E.int .i64 y0,E.str y1,E.lst 3 39 y2A y2c y2l])))]⟩) rfl (by rw [ff];rfl) (by first|rfl|(simp [rJ,bf,clo,bp,aH,bq,ba,aZ];done))
   ·have hk':¬k<l.length:=by simpa using hk1
    obtain rfl:k=l.length:=by omega
    have hz1:=gI (b:=⟨#[124]⟩) hxs l.length omq
    have hj:=xL (aV f) ⟨#[124]⟩ hk5 l.length omq
    rw [List.take_length] at hz1 hj ⊢
    have e0:(ByteArray.mk #[124]).size=1:=rfl
    rw [e0] at hz1
    have hql:(tlE (aV f) l).length=l.length:=vc _ _
    have c4:=zt3 (l:=tlE (aV f) l) (fun e he=>by obtain⟨y,_,rfl⟩:=List.mem_map.1 he;exact⟨_,rfl⟩) ⟨#[124]⟩ omq (by rw [hj];omega)
    rw [hql,hj] at c4
    repeat' (first|(apply ay;first|refine ao ?_|refine ak ?_|refine bd ?_|refine aL ?_|refine aI c4 ?_|refine aI c1 ?_|refine fx ?_)|refine al ?_|refine ab ?_|refine aa fun C=>?_|refine ae ?_|refine ai ?_|refine au ?_|(refine aj (by rfl) ?_ ?_<;>intro hC<;>(try cases hC)))
    all_goals
     refine am ?_
     refine bi rfl aN ⟨?_,rfl⟩
     unfold fX;rw [hC];rfl
  case inr.inr.inr.inr.inl =>
   subst h3
   have hym:y∈[y]:=List.mem_singleton.2 rfl
   have hyt:=gx2.1 y hym
   have hyz:=E.szL_mem hym
   have hte:aV (f+1) (E.agg [E.int .i64 6,E.str x1,E.lst 3 39 x2A x2c [y]])=iM (aV f) y++⟨#[42]⟩:=rfl
   rw [hte]
   have c2:=ih y hyt omq (hkid y hym) [4,5] (by simp) (by simp)
   rw [pq] at c2
   have hgk:=gx2.2
   have hz2:=iC (hxs y hym)
   have hy0:[y][0]? = some y:=rfl
   obtain⟨y0,y1,y2A,y2c,y2l,rfl,gy0,gy1,gy2,-⟩:=aR hyt
   repeat' (first|(apply ay;first|refine ao ?_|refine ak ?_|refine bd ?_|refine aL ?_|refine bI ?_|refine aI c2 ?_|refine aI c1 ?_|refine dE ?_|refine aq ?_|refine fx ?_|refine bL ?_|refine gh ?_)|refine al ?_|refine ab ?_|refine aa fun C=>?_|refine ae ?_|refine ah ?_|refine ai ?_|(refine aj (by rfl) ?_ ?_<;>intro hC<;>(try cases hC)))
   all_goals
    refine am ?_
    refine bi rfl aN ⟨?_,rfl⟩
    unfold fX;rw [hC];rfl
  case inr.inr.inr.inr.inr.inl =>
   subst h3
   have hym:y∈[y]:=List.mem_singleton.2 rfl
   have hyt:=gx2.1 y hym
   have hyz:=E.szL_mem hym
   have hte:aV (f+1) (E.agg [E.int .i64 7,E.str x1,E.lst 3 39 x2A x2c [y]])=iM (aV f) y++⟨#[43]⟩:=rfl
   rw [hte]
   have c2:=ih y hyt omq (hkid y hym) [4,5] (by simp) (by simp)
   rw [pq] at c2
   have hgk:=gx2.2
   have hz2:=iC (hxs y hym)
   have hy0:[y][0]? = some y:=rfl
   obtain⟨y0,y1,y2A,y2c,y2l,rfl,gy0,gy1,gy2,-⟩:=aR hyt
   repeat' (first|(apply ay;first|refine ao ?_|refine ak ?_|refine bd ?_|refine aL ?_|refine bI ?_|refine aI c2 ?_|refine aI c1 ?_|refine dE ?_|refine aq ?_|refine fx ?_|refine bL ?_|refine gh ?_)|refine al ?_|refine ab ?_|refine aa fun C=>?_|refine ae ?_|refine ah ?_|refine ai ?_|(refine aj (by rfl) ?_ ?_<;>intro hC<;>(try cases hC)))
   all_goals
    refine am ?_
    refine bi rfl aN ⟨?_,rfl⟩
    unfold fX;rw [hC];rfl
  case inr.inr.inr.inr.inr.inr =>
   subst h3
   have hym:y∈[y]:=List.mem_singleton.2 rfl
   have hyt:=gx2.1 y hym
   have hyz:=E.szL_mem hym
   have hte:aV (f+1) (E.agg [E.int .i64 8,E.str x1,E.lst 3 39 x2A x2c [y]])=iM (aV f) y++⟨#[63]⟩:=rfl
   rw [hte]
   have c2:=ih y hyt omq (hkid y hym) [4,5] (by simp) (by simp)
   rw [pq] at c2
   have hgk:=gx2.2
   have hz2:=iC (hxs y hym)
   have hy0:[y][0]? = some y:=rfl
   obtain⟨y0,y1,y2A,y2c,y2l,rfl,gy0,gy1,gy2,-⟩:=aR hyt
   repeat' (first|(apply ay;first|refine ao ?_|refine ak ?_|refine bd ?_|refine aL ?_|refine bI ?_|refine aI c2 ?_|refine aI c1 ?_|refine dE ?_|refine aq ?_|refine fx ?_|refine bL ?_|refine gh ?_)|refine al ?_|refine ab ?_|refine aa fun C=>?_|refine ae ?_|refine ah ?_|refine ai ?_|(refine aj (by rfl) ?_ ?_<;>intro hC<;>(try cases hC)))
   all_goals
    refine am ?_
    refine bi rfl aN ⟨?_,rfl⟩
    unfold fX;rw [hC];rfl
theorem mN {e:E}(he:e.Ty prog 39)(hsz:e.sz≤4194304):Ctr prog 57 [.ag (acE e)] [] (.c (.v (.string (jO e)))) []:=by
 have c1:=kE he hsz
 cases hr:d6 e with
 | false =>
  have hres:jO e=ByteArray.empty:=by unfold jO;rw [hr];rfl
  rw [hres]
  rw [hr] at c1
  clear hres hr
  obtain⟨x0,x1,x2A,x2c,l,rfl,gx0,gx1,gx2,-⟩:=aR he
  refine av func57 rfl rfl ?_
  repeat' (first|(apply ay;first|refine ak ?_|refine bu ?_|refine aI c1 ?_|refine bF ?_|refine bL ?_)|refine al ?_|refine ab ?_|refine aa fun C=>?_|refine ae ?_|(refine aj (by rfl) ?_ ?_<;>intro hC<;>(try cases hC)))
  refine am ?_
  exact bi rfl aN ⟨rfl,rfl⟩
 | true =>
  have hres:jO e=aV 6 e:=by unfold jO;rw [hr];rfl
  rw [hres]
  have hp:bM 6 e≤60:=by unfold d6 at hr;simpa using hr
  have c2:=vd 6 e he hsz hp [] (by simp) (by simp)
  rw [zqQ] at c2
  have c3:=pp c2 (ins':=[.ag (acE e),.c (.v (.slice none 0 0))]) fun w St φ K us h=>by
   simp only [VRL] at h ⊢
   obtain⟨u,us',rfl,h1,u2,us2,rfl,h2,h3⟩:=h
   exact⟨u,_,rfl,h1,u2,us2,rfl,zoQ h2,h3⟩
  rw [hr] at c1
  clear hres hr c2 hp
  obtain⟨x0,x1,x2A,x2c,l,rfl,gx0,gx1,gx2,-⟩:=aR he
  refine av func57 rfl rfl ?_
  repeat' (first|(apply ay;first|refine ak ?_|refine bu ?_|refine aI c1 ?_|refine aI c3 ?_|refine bF ?_|refine bL ?_)|refine al ?_|refine ab ?_|refine aa fun C=>?_|refine ae ?_|refine ai ?_|(refine aj (by rfl) ?_ ?_<;>intro hC<;>(try cases hC)))
  refine am ?_
  exact bi rfl aN ⟨rfl,rfl⟩
end Go.Proofs.YtmnneflenebgmaaGreat
