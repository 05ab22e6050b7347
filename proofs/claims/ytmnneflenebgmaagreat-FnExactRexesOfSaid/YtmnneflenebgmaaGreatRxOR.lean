/- T -/
import Derived.Test.YtmnneflenebgmaaGreatRxOQ
set_option maxHeartbeats 0
set_option maxRecDepth 100000
namespace Go.Proofs.YtmnneflenebgmaaGreat
open Go.RowKit Go.Proofs.Tryz
theorem pg {P:Program}{f:FuncId}{ins ins':List AV}{pars rows:List (List AC)}{res:AV}(h:Ctr P f ins pars res rows)(hle:∀(w:World) (St:Nat→Prop) (φ:Nat→Lc) (K:Nat→Prop) (us:List Value),VRL w St φ K ins' us→VRL w St φ K ins us):Ctr P f ins' pars res rows :=
 ⟨h.1,fun w St φ F us hent=>h.2 w St φ F us ⟨hle _ _ _ _ _ hent.args,hent.row,hent.nod,hent.dis,hent.bxF,hent.bxd,hent.stF,hent.stB,hent.gl⟩⟩
def ksE (ks:List Int):List E:=ks.map (E.int .i64)
theorem zs3 (ks:List Int)(k:Int):((ksE ks).any fun e=>k==intE e)=ks.any (fun x=>k==x):=by
 unfold ksE
 rw [List.any_map]
 rfl
theorem zt3 (ks:List Int):∀e∈ksE ks,e.enc.length=1:=by
 intro e he
 obtain⟨z,_,rfl⟩:=List.mem_map.1 he
 rfl
theorem zk (ks:List Int)(hk:∀z∈ks,0≤z∧z≤100)(hl:ks.length≤100)(k:Int):Ctr prog 167 [.c (.ro ks.length 1 (acL (ksE ks))),.c (.v (.int .i64 k))] [] (.c (.v (.bool (ks.any fun x=>k==x)))) []:=by
 have h:=xD (l:=ksE ks) (fun e he=>by
  obtain⟨z,hz,rfl⟩:=List.mem_map.1 he
  have h1:=hk z hz
  refine⟨underlying3,?_⟩
  have e1:IntKind.i64.min = -9223372036854775808:=rfl
  have e2:IntKind.i64.max=9223372036854775807:=rfl
  simp only [Lit.wf,decide_eq_true_iff,Bool.and_eq_true,e1,e2]
  omega) (zt3 ks) (by unfold ksE;rw [List.length_map];omega) k
 rw [zs3] at h
 unfold ksE at h ⊢
 rw [List.length_map] at h
 exact h
theorem zhQ {w:World}{St:Nat→Prop}{φ:Nat→Lc}{K:Nat→Prop}{k:Nat}{u:Value}(h:VR w St φ K (.c (.v (.slice none 0 0))) u):VR w St φ K (.c (.ro 0 k [])) u:=by
 simp only [VR,CR] at h ⊢
 obtain⟨rfl,-,-⟩:=h
 exact⟨trivial,none,0,rfl,⟨omq,by decide,fun _=>rfl⟩,by simp,fun h=>by omega⟩
theorem zu3 (g:E→ByteArray)(x:E):fV [5] x.rk (g x)=brk g x:=by
 unfold fV brk
 by_cases h:x.rk=5
 ·rw [if_pos (by simp [h]),if_pos h]
 ·rw [if_neg (by simp [h]),if_neg h]
theorem ph (g:E→ByteArray)(x:E):fV [4,5] x.rk (g x)=iN g x:=by
 unfold fV iN
 by_cases h:x.rk=4∨x.rk=5
 ·rw [if_pos (by rcases h with h|h<;>simp [h]),if_pos h]
 ·rw [if_neg (by simp only [not_or] at h;simp [h.1,h.2]),if_neg h]
theorem ziQ (k:Int)(t:ByteArray):fV [] k t=t:=rfl
theorem qM {g:E→ByteArray}{x:E}{B:Nat}(h:(g x).size≤B):(brk g x).size≤B+2:=by
 unfold brk
 split
 ·rw [ByteArray.size_append',ByteArray.size_append']
  have:(ByteArray.mk #[40]).size=1:=rfl
  have:(ByteArray.mk #[41]).size=1:=rfl
  omega
 ·omega
theorem iC {g:E→ByteArray}{x:E}{B:Nat}(h:(g x).size≤B):(iN g x).size≤B+2:=by
 unfold iN
 split
 ·rw [ByteArray.size_append',ByteArray.size_append']
  have:(ByteArray.mk #[40]).size=1:=rfl
  have:(ByteArray.mk #[41]).size=1:=rfl
  omega
 ·omega
theorem nX (g:E→ByteArray)(b:ByteArray)(x:E):∀a:List E,cW g b (a++[x])=cW g b a++(b++brk g x)
 | []=>by show b++(brk g x++ByteArray.empty)=ByteArray.empty++(b++brk g x);rw [pd,i6]
 | y :: r=>by show b++(brk g y++cW g b (r++[x]))=b++(brk g y++cW g b r)++(b++brk g x);rw [nX g b x r];simp only [gm]
theorem rP (g:E→ByteArray)(b:ByteArray)(a:List E)(x:E):ed g b (a++[x])=(if a=[] then ByteArray.empty else ed g b a++b)++brk g x:=by
 cases a with
 | nil=>show brk g x++ByteArray.empty=ByteArray.empty++brk g x;rw [pd,i6]
 | cons y r =>
  rw [if_neg (by simp)]
  show brk g y++cW g b (r++[x])=brk g y++cW g b r++b++brk g x
  rw [nX];simp only [gm]
theorem gH (g:E→ByteArray)(b:ByteArray){l:List E}{k:Nat}{x:E}(hx:l[k]? = some x):ed g b (l.take (k+1))=(if k=0 then ByteArray.empty else ed g b (l.take k)++b)++brk g x:=by
 obtain⟨hk,-⟩:=List.getElem?_eq_some_iff.1 hx
 rw [List.take_add_one,hx,Option.toList_some,rP]
 congr 1
 by_cases h:k=0
 ·subst h;rfl
 ·rw [if_neg h,if_neg (fun e=>by have:=congrArg List.length e;rw [List.length_take,List.length_nil] at this;omega)]
theorem pi (g:E→ByteArray){l:List E}{k:Nat}{x:E}(hx:l[k]? = some x):ed g ByteArray.empty (l.take (k+1))=ed g ByteArray.empty (l.take k)++brk g x:=by
 rw [gH g _ hx]
 congr 1
 by_cases h:k=0
 ·subst h;rfl
 ·rw [if_neg h,pd]
theorem gI {g:E→ByteArray}{b:ByteArray}{B:Nat}{l:List E}(h:∀x∈l,(g x).size≤B):∀k,k≤l.length→(ed g b (l.take k)).size≤k*(B+2+b.size):=by
 intro k
 induction k with
 | zero=>intro _;exact Nat.zero_le _
 | succ k ih =>
  intro hk
  have h1:=ih omq
  obtain⟨x,hx⟩:∃x,l[k]? = some x:=⟨_,List.getElem?_eq_getElem omq⟩
  have h2:=qM (h x (List.mem_of_getElem? hx))
  rw [gH g b hx,ByteArray.size_append',Nat.add_mul,Nat.one_mul]
  split
  ·have:ByteArray.empty.size=0:=rfl
   omega
  ·rw [ByteArray.size_append'];omega
def tlE (g:E→ByteArray)(l:List E):List E:=l.map fun x=>.str (g x)
theorem uY (g:E→ByteArray)(l:List E):(tlE g l).length=l.length:=List.length_map ..
theorem qN (g:E→ByteArray){l:List E}{k:Nat}{x:E}(hx:l[k]? = some x):tlE g (l.take (k+1))=tlE g (l.take k)++[.str (g x)]:=by
 unfold tlE
 rw [List.take_add_one,hx,Option.toList_some,List.map_append];rfl
theorem xE (g:E→ByteArray)(b:ByteArray){l:List E}(h:∀x∈l,x.rk≠5):∀k,k≤l.length→nU (tlE g (l.take k)) b=ed g b (l.take k):=by
 intro k
 induction k with
 | zero=>intro _;rfl
 | succ k ih =>
  intro hk
  have h1:=ih omq
  obtain⟨x,hx⟩:∃x,l[k]? = some x:=⟨_,List.getElem?_eq_getElem omq⟩
  have hb:brk g x=g x:=if_neg (h x (List.mem_of_getElem? hx))
  rw [qN g hx,rO,gH g b hx,hb,h1]
  congr 1
  by_cases h0:k=0
  ·subst h0;rfl
  ·rw [if_neg h0,if_neg (fun e=>by have:=congrArg List.length e;rw [uY,List.length_take,List.length_nil] at this;omega)]
theorem nY {f:Nat}{e:E}(h:bL (f+1) e≤60):lf e=true∧∀x∈e.rl,bL f x≤60:=by
 unfold bL at h
 split at h
 ·rename_i hh;exact⟨hh,(iX h).2⟩
 ·omega
theorem jR {f:Nat}{e:E}(h:bL f e≤60):(aS f e).size≤960:=by have:=lM f e h;omega
theorem uZ (f:Nat):∀(e:E),e.Ty prog 39→e.sz≤4194304→bL f e≤60→∀ks:List Int,(∀z∈ks,0≤z∧z≤100)→ks.length≤100→Ctr prog 113 [.ag (acE e),.c (.ro ks.length 1 (acL (ksE ks)))] [] (.c (.v (.string (fV ks e.rk (aS f e))))) []:=by
 induction f with
 | zero=>intro e _ _ h;exact absurd h (by unfold bL;omega)
 | succ f ih =>
  intro e he hsz hp ks hks hl
  obtain⟨hhd,hkid⟩:=nY hp
  have hts:=jR hp
  obtain⟨x0,x1,x2A,x2c,l,rfl,gx0,gx1,gx2,-⟩:=aR he
  simp only [E.sz,E.szL] at hsz
  have hkid:∀x∈l,bL f x≤60:=hkid
  have hxs:∀x∈l,(aS f x).size≤960:=fun x hx=>jR (hkid x hx)
  have hh2:=hhd
  rw [mF] at hh2
  simp only [Bool.and_eq_true,Bool.not_eq_true'] at hh2
  obtain⟨hh,hno⟩:=hh2
  show Ctr _ _ _ _ (.c (.v (.string (fV ks x0 _)))) _
  have c1:=zk ks hks hl x0
  refine av func113 rfl rfl ?_
  rcases dq hh with ⟨rfl,h1,h2,h3⟩|⟨rfl,h1,h3⟩|⟨rfl|rfl|rfl|rfl,h1,h3⟩|⟨rfl|rfl,h1,h2,h3⟩|⟨rfl|rfl|rfl,h1,y,h3,h4⟩
  case inl =>
   repeat' (first|(apply ay;first|refine ao ?_|refine ak ?_|refine be ?_|refine aL ?_|refine aI c1 ?_|refine aq ?_|refine fo ?_|refine bN ?_)|refine al ?_|refine ab ?_|refine aa fun C=>?_|refine ae ?_|refine ah ?_|refine ai ?_|(refine aj (by rfl) ?_ ?_<;>intro hC<;>(try cases hC)))
   all_goals
    refine am ?_
    refine bi rfl aM ⟨?_,rfl⟩
    unfold fV;rw [hC];rfl
  case inr.inl =>
   repeat' (first|(apply ay;first|refine ao ?_|refine ak ?_|refine be ?_|refine aL ?_|refine aI c1 ?_|refine aq ?_|refine fo ?_|refine bN ?_)|refine al ?_|refine ab ?_|refine aa fun C=>?_|refine ae ?_|refine ah ?_|refine ai ?_|(refine aj (by rfl) ?_ ?_<;>intro hC<;>(try cases hC)))
   all_goals
    refine am ?_
    refine bi rfl aM ⟨?_,rfl⟩
    unfold fV;rw [hC];rfl
  case inr.inr.inl.inl =>
   repeat' (first|(apply ay;first|refine ao ?_|refine ak ?_|refine be ?_|refine aL ?_|refine aI c1 ?_|refine aq ?_|refine fo ?_|refine bN ?_)|refine al ?_|refine ab ?_|refine aa fun C=>?_|refine ae ?_|refine ah ?_|refine ai ?_|(refine aj (by rfl) ?_ ?_<;>intro hC<;>(try cases hC)))
   all_goals
    refine am ?_
    refine bi rfl aM ⟨?_,rfl⟩
    unfold fV;rw [hC];rfl
  case inr.inr.inl.inr.inl =>
   repeat' (first|(apply ay;first|refine ao ?_|refine ak ?_|refine be ?_|refine aL ?_|refine aI c1 ?_|refine aq ?_|refine fo ?_|refine bN ?_)|refine al ?_|refine ab ?_|refine aa fun C=>?_|refine ae ?_|refine ah ?_|refine ai ?_|(refine aj (by rfl) ?_ ?_<;>intro hC<;>(try cases hC)))
   all_goals
    refine am ?_
    refine bi rfl aM ⟨?_,rfl⟩
    unfold fV;rw [hC];rfl
  case inr.inr.inl.inr.inr.inl =>
   repeat' (first|(apply ay;first|refine ao ?_|refine ak ?_|refine be ?_|refine aL ?_|refine aI c1 ?_|refine aq ?_|refine fo ?_|refine bN ?_)|refine al ?_|refine ab ?_|refine aa fun C=>?_|refine ae ?_|refine ah ?_|refine ai ?_|(refine aj (by rfl) ?_ ?_<;>intro hC<;>(try cases hC)))
   all_goals
    refine am ?_
    refine bi rfl aM ⟨?_,rfl⟩
    unfold fV;rw [hC];rfl
  case inr.inr.inl.inr.inr.inr =>
   repeat' (first|(apply ay;first|refine ao ?_|refine ak ?_|refine be ?_|refine aL ?_|refine aI c1 ?_|refine aq ?_|refine fo ?_|refine bN ?_)|refine al ?_|refine ab ?_|refine aa fun C=>?_|refine ae ?_|refine ah ?_|refine ai ?_|(refine aj (by rfl) ?_ ?_<;>intro hC<;>(try cases hC)))
   all_goals
    refine am ?_
    refine bi rfl aM ⟨?_,rfl⟩
    unfold fV;rw [hC];rfl
  case inr.inr.inr.inl.inl =>
   have hte:aS (f+1) (E.agg [E.int .i64 4,E.str x1,E.lst 3 39 x2A x2c l])=ed (aS f) ByteArray.empty l:=rfl
   rw [hte]
   repeat' (first|(apply ay;first|refine ak ?_|refine be ?_|refine aL ?_|refine aq ?_|refine bN ?_)|refine al ?_|refine ab ?_|refine aa fun C=>?_|refine ae ?_|refine ah ?_)
   iterate 10
    (first
      | refine aj (by rfl) (fun hC=>Bool.noConfusion (show false=true from hC)) fun hC=>?_
      | refine aj (by rfl) (fun hC=>?_) fun hC=>Bool.noConfusion (show true=false from hC)
      | skip)<;>repeat' (first|(apply ay;first|refine ao ?_|refine ak ?_|refine be ?_|refine aL ?_|refine aY ?_|refine aq ?_)|refine al ?_|refine ab ?_|refine aa fun C=>?_|refine ae ?_|refine ah ?_)
   refine aP (fun k:Nat=>⟨dy [(1,.c (.ro ks.length 1 (acL (ksE ks)))),(2,.c (.pt 2 0)),(5,.c (.v (.string (ed (aS f) ByteArray.empty (l.take k))))),(28,.c (.ro l.length 3 (acL l))),(29,.c (.v (.int .i64 l.length))),(30,.c (.v (.int .i64 k)))],dn [(2,2,⟨39,0,0,true,[.v (.int .i64 4),.v (.string x1),.ro l.length 3 (acL l)]⟩)],0,[2],98⟩)
    (fun N k=>k+N=l.length) l.length 0 omq ?_ ?_
   ·(refine aD _ _ rfl rfl ?_ ?_<;>exact tdy0)
   rintro N k hN
   repeat' (first|(apply ay;refine aN ?_)|refine al ?_|refine ab ?_|refine aa fun C=>?_|refine ae ?_)
   refine aj (by rfl) (fun hk1=>?_) fun hk1=>?_
   ·have hk':k<l.length:=by simpa using hk1
    obtain⟨x,hx⟩:∃x,l[k]? = some x:=⟨_,List.getElem?_eq_getElem hk'⟩
    have hxm:=List.mem_of_getElem? hx
    have hxt:=gx2.1 x hxm
    have hxz:=E.szL_mem hxm
    have c2:=ih x hxt omq (hkid x hxm) [5] (by simp) (by simp)
    rw [zu3] at c2
    have hgk:=gx2.2
    have hz1:=gI (b:=ByteArray.empty) hxs k omq
    have hz2:=qM (hxs x hxm)
    have e0:ByteArray.empty.size=0:=rfl
    rw [e0] at hz1
    have e:=pi (aS f) hx
    obtain⟨y0,y1,y2A,y2c,y2l,rfl,gy0,gy1,gy2,-⟩:=aR hxt
    repeat' (first|(apply ay;first|refine ao ?_|refine ak ?_|refine bG ?_|refine bz ?_|refine aI c2 ?_|refine cJ ?_|refine dD ?_|refine aC ?_|refine fo ?_|refine dB ?_|refine gG ?_)|refine al ?_|refine ab ?_|refine aa fun C=>?_|refine ae ?_|refine ah ?_|refine ai ?_)
    refine⟨N-1,k+1,omq,omq,?_⟩
    rw [e]
    (refine aD _ _ rfl rfl ?_ ?_<;>exact tdy0)
   ·have hk':¬k<l.length:=by simpa using hk1
    rw [List.take_of_length_le omq]
    have hz1:=gI (b:=ByteArray.empty) hxs l.length omq
    rw [List.take_length] at hz1
    have e0:ByteArray.empty.size=0:=rfl
    rw [e0] at hz1
    repeat' (first|(apply ay;first|refine ao ?_|refine ak ?_|refine be ?_|refine aL ?_|refine aI c1 ?_|refine fo ?_)|refine al ?_|refine ab ?_|refine aa fun C=>?_|refine ae ?_|refine ai ?_|refine au ?_|(refine aj (by rfl) ?_ ?_<;>intro hC<;>(try cases hC)))
    all_goals
     refine am ?_
     refine bi rfl aM ⟨?_,rfl⟩
     unfold fV;rw [hC];rfl
  case inr.inr.inr.inl.inr =>
   have hte:aS (f+1) (E.agg [E.int .i64 5,E.str x1,E.lst 3 39 x2A x2c l])=ed (aS f) ⟨#[124]⟩ l:=rfl
   rw [hte]
   have hk5:∀x∈l,x.rk≠5:=fun x hx hx5=>by
    have hno':(l.any fun x=>x.rk==5)=false:=by simpa using hno
    rw [List.any_eq_false] at hno'
    exact hno' x hx (by simp [hx5])
   repeat' (first|(apply ay;first|refine ak ?_|refine be ?_|refine aL ?_|refine aq ?_|refine bN ?_)|refine al ?_|refine ab ?_|refine aa fun C=>?_|refine ae ?_|refine ah ?_)
   iterate 12
    (first
      | refine aj (by rfl) (fun hC=>Bool.noConfusion (show false=true from hC)) fun hC=>?_
      | refine aj (by rfl) (fun hC=>?_) fun hC=>Bool.noConfusion (show true=false from hC)
      | skip)<;>repeat' (first|(apply ay;first|refine ao ?_|refine ak ?_|refine be ?_|refine aL ?_|refine aY ?_|refine aq ?_)|refine al ?_|refine ab ?_|refine aa fun C=>?_|refine ae ?_|refine ah ?_)
   refine aP (fun k:Nat=>⟨dy [(1,.c (.ro ks.length 1 (acL (ksE ks)))),(2,.c (.pt 2 0)),(8,.c (.sl 9 k)),(43,.c (.ro l.length 3 (acL l))),(44,.c (.v (.int .i64 l.length))),(45,.c (.v (.int .i64 k)))],dn [(2,2,⟨39,0,0,true,[.v (.int .i64 5),.v (.string x1),.ro l.length 3 (acL l)]⟩),(9,9,⟨9,1,k,false,owL (tlE (aS f) (l.take k))⟩)],0,[2,9],98⟩)
    (fun N k=>k+N=l.length) l.length 0 omq ?_ ?_
   ·refine (qv 9 (t:=8) 9 1 rfl rfl).trans ?_
    (refine aD _ _ rfl rfl ?_ ?_<;>exact tdy0)
   rintro N k hN
   repeat' (first|(apply ay;refine aN ?_)|refine al ?_|refine ab ?_|refine aa fun C=>?_|refine ae ?_)
   refine aj (by rfl) (fun hk1=>?_) fun hk1=>?_
   ·have hk':k<l.length:=by simpa using hk1
    obtain⟨x,hx⟩:∃x,l[k]? = some x:=⟨_,List.getElem?_eq_getElem hk'⟩
    have hxm:=List.mem_of_getElem? hx
    have hxt:=gx2.1 x hxm
    have hxz:=E.szL_mem hxm
    have c2:=ih x hxt omq (hkid x hxm) [] (by simp) (by simp)
    rw [ziQ] at c2
    have c3:=pg c2 (ins':=[.ag (acE x),.c (.v (.slice none 0 0))]) fun w St φ K us h=>by
     simp only [VRL] at h ⊢
     obtain⟨u,us',rfl,h1,u2,us2,rfl,h2,h3⟩:=h
     exact⟨u,_,rfl,h1,u2,us2,rfl,zhQ h2,h3⟩
    have hgk:=gx2.2
    have e:=qN (aS f) hx
    obtain⟨y0,y1,y2A,y2c,y2l,rfl,gy0,gy1,gy2,-⟩:=aR hxt
    repeat' (first|(apply ay;first|refine ao ?_|refine ak ?_|refine bG ?_|refine bz ?_|refine aI c3 ?_|refine iU ?_|refine cJ ?_|refine dD ?_|refine aC ?_|refine dB ?_|refine gG ?_)|refine al ?_|refine ab ?_|refine aa fun C=>?_|refine ae ?_|refine ah ?_|refine ai ?_)
    refine⟨N-1,k+1,omq,omq,?_⟩
    rw [e]
    (refine fT (fun j=>if j=9 then 53 else j) _ _ rfl rfl ?_ ?_<;>(repeat' (first|exact TmOk.nil|exact RwOk.nil|refine TmOk.cons ?_ ?_|refine RwOk.cons ?_ ?_|rfl|(refine rnV_id' rfl ?_;exact byc)|(refine bu ?_;first|rfl|omega|(rw [aW omq omq];omega))|(refine aJ rfl ?_;exact byc)|exact cb rfl rfl|(refine rw_mid (by rfl) (by rfl) ?_ ?_<;>exact byc)|(refine rw_rn' rfl rfl ?_;simp;done))))
    exact k9 (r:=⟨9,1,k+1,false,owL (tlE (aS f) (l.take k))++[.v (.string (aS f (E.agg [E.int .i64 y0,E.str y1,E.lst 3 39 y2A y2c y2l])))]⟩) rfl (by rw [fG];rfl) (by first|rfl|(simp [o6,ba,clo,bj,aG,bk,bf,aZ];done))
   ·have hk':¬k<l.length:=by simpa using hk1
    obtain rfl:k=l.length:=by omega
    have hz1:=gI (b:=⟨#[124]⟩) hxs l.length omq
    have hj:=xE (aS f) ⟨#[124]⟩ hk5 l.length omq
    rw [List.take_length] at hz1 hj ⊢
    have e0:(ByteArray.mk #[124]).size=1:=rfl
    rw [e0] at hz1
    have hql:(tlE (aS f) l).length=l.length:=uY _ _
    have c4:=zq3 (l:=tlE (aS f) l) (fun e he=>by obtain⟨y,_,rfl⟩:=List.mem_map.1 he;exact⟨_,rfl⟩) ⟨#[124]⟩ omq (by rw [hj];omega)
    rw [hql,hj] at c4
    repeat' (first|(apply ay;first|refine ao ?_|refine ak ?_|refine be ?_|refine aL ?_|refine aI c4 ?_|refine aI c1 ?_|refine fo ?_)|refine al ?_|refine ab ?_|refine aa fun C=>?_|refine ae ?_|refine ai ?_|refine au ?_|(refine aj (by rfl) ?_ ?_<;>intro hC<;>(try cases hC)))
    all_goals
     refine am ?_
     refine bi rfl aM ⟨?_,rfl⟩
     unfold fV;rw [hC];rfl
  case inr.inr.inr.inr.inl =>
   subst h3
   have hym:y∈[y]:=List.mem_singleton.2 rfl
   have hyt:=gx2.1 y hym
   have hyz:=E.szL_mem hym
   have hte:aS (f+1) (E.agg [E.int .i64 6,E.str x1,E.lst 3 39 x2A x2c [y]])=iN (aS f) y++⟨#[42]⟩:=rfl
   rw [hte]
   have c2:=ih y hyt omq (hkid y hym) [4,5] (by simp) (by simp)
   rw [ph] at c2
   have hgk:=gx2.2
   have hz2:=iC (hxs y hym)
   have hy0:[y][0]? = some y:=rfl
   obtain⟨y0,y1,y2A,y2c,y2l,rfl,gy0,gy1,gy2,-⟩:=aR hyt
   repeat' (first|(apply ay;first|refine ao ?_|refine ak ?_|refine be ?_|refine aL ?_|refine bG ?_|refine aI c2 ?_|refine aI c1 ?_|refine dD ?_|refine aq ?_|refine fo ?_|refine bN ?_|refine gG ?_)|refine al ?_|refine ab ?_|refine aa fun C=>?_|refine ae ?_|refine ah ?_|refine ai ?_|(refine aj (by rfl) ?_ ?_<;>intro hC<;>(try cases hC)))
   all_goals
    refine am ?_
    refine bi rfl aM ⟨?_,rfl⟩
    unfold fV;rw [hC];rfl
  case inr.inr.inr.inr.inr.inl =>
   subst h3
   have hym:y∈[y]:=List.mem_singleton.2 rfl
   have hyt:=gx2.1 y hym
   have hyz:=E.szL_mem hym
   have hte:aS (f+1) (E.agg [E.int .i64 7,E.str x1,E.lst 3 39 x2A x2c [y]])=iN (aS f) y++⟨#[43]⟩:=rfl
   rw [hte]
   have c2:=ih y hyt omq (hkid y hym) [4,5] (by simp) (by simp)
   rw [ph] at c2
   have hgk:=gx2.2
   have hz2:=iC (hxs y hym)
   have hy0:[y][0]? = some y:=rfl
   obtain⟨y0,y1,y2A,y2c,y2l,rfl,gy0,gy1,gy2,-⟩:=aR hyt
   repeat' (first|(apply ay;first|refine ao ?_|refine ak ?_|refine be ?_|refine aL ?_|refine bG ?_|refine aI c2 ?_|refine aI c1 ?_|refine dD ?_|refine aq ?_|refine fo ?_|refine bN ?_|refine gG ?_)|refine al ?_|refine ab ?_|refine aa fun C=>?_|refine ae ?_|refine ah ?_|refine ai ?_|(refine aj (by rfl) ?_ ?_<;>intro hC<;>(try cases hC)))
   all_goals
    refine am ?_
    refine bi rfl aM ⟨?_,rfl⟩
    unfold fV;rw [hC];rfl
  case inr.inr.inr.inr.inr.inr =>
   subst h3
   have hym:y∈[y]:=List.mem_singleton.2 rfl
   have hyt:=gx2.1 y hym
   have hyz:=E.szL_mem hym
   have hte:aS (f+1) (E.agg [E.int .i64 8,E.str x1,E.lst 3 39 x2A x2c [y]])=iN (aS f) y++⟨#[63]⟩:=rfl
   rw [hte]
   have c2:=ih y hyt omq (hkid y hym) [4,5] (by simp) (by simp)
   rw [ph] at c2
   have hgk:=gx2.2
   have hz2:=iC (hxs y hym)
   have hy0:[y][0]? = some y:=rfl
   obtain⟨y0,y1,y2A,y2c,y2l,rfl,gy0,gy1,gy2,-⟩:=aR hyt
   repeat' (first|(apply ay;first|refine ao ?_|refine ak ?_|refine be ?_|refine aL ?_|refine bG ?_|refine aI c2 ?_|refine aI c1 ?_|refine dD ?_|refine aq ?_|refine fo ?_|refine bN ?_|refine gG ?_)|refine al ?_|refine ab ?_|refine aa fun C=>?_|refine ae ?_|refine ah ?_|refine ai ?_|(refine aj (by rfl) ?_ ?_<;>intro hC<;>(try cases hC)))
   all_goals
    refine am ?_
    refine bi rfl aM ⟨?_,rfl⟩
    unfold fV;rw [hC];rfl
theorem mG {e:E}(he:e.Ty prog 39)(hsz:e.sz≤4194304):Ctr prog 57 [.ag (acE e)] [] (.c (.v (.string (jO e)))) []:=by
 have c1:=kB he hsz
 cases hr:dZ e with
 | false =>
  have hres:jO e=ByteArray.empty:=by unfold jO;rw [hr];rfl
  rw [hres]
  rw [hr] at c1
  clear hres hr
  obtain⟨x0,x1,x2A,x2c,l,rfl,gx0,gx1,gx2,-⟩:=aR he
  refine av func57 rfl rfl ?_
  repeat' (first|(apply ay;first|refine ak ?_|refine bz ?_|refine aI c1 ?_|refine bF ?_|refine bN ?_)|refine al ?_|refine ab ?_|refine aa fun C=>?_|refine ae ?_|(refine aj (by rfl) ?_ ?_<;>intro hC<;>(try cases hC)))
  refine am ?_
  exact bi rfl aM ⟨rfl,rfl⟩
 | true =>
  have hres:jO e=aS 6 e:=by unfold jO;rw [hr];rfl
  rw [hres]
  have hp:bL 6 e≤60:=by unfold dZ at hr;simpa using hr
  have c2:=uZ 6 e he hsz hp [] (by simp) (by simp)
  rw [ziQ] at c2
  have c3:=pg c2 (ins':=[.ag (acE e),.c (.v (.slice none 0 0))]) fun w St φ K us h=>by
   simp only [VRL] at h ⊢
   obtain⟨u,us',rfl,h1,u2,us2,rfl,h2,h3⟩:=h
   exact⟨u,_,rfl,h1,u2,us2,rfl,zhQ h2,h3⟩
  rw [hr] at c1
  clear hres hr c2 hp
  obtain⟨x0,x1,x2A,x2c,l,rfl,gx0,gx1,gx2,-⟩:=aR he
  refine av func57 rfl rfl ?_
  repeat' (first|(apply ay;first|refine ak ?_|refine bz ?_|refine aI c1 ?_|refine aI c3 ?_|refine bF ?_|refine bN ?_)|refine al ?_|refine ab ?_|refine aa fun C=>?_|refine ae ?_|refine ai ?_|(refine aj (by rfl) ?_ ?_<;>intro hC<;>(try cases hC)))
  refine am ?_
  exact bi rfl aM ⟨rfl,rfl⟩
end Go.Proofs.YtmnneflenebgmaaGreat
