/- T -/
import Derived.Test.YtomolhbkdhjofaaGreatDoorExRQ
set_option maxHeartbeats 0
set_option maxRecDepth 100000
namespace Go.Proofs.YtomolhbkdhjofaaGreatDoor
open Go.RowKit Go.Proofs.Tryz
theorem xe {P:Program}{f:FuncId}{ins ins':List AV}{pars rows:List (List AC)}{res:AV}(h:Ctr P f ins pars res rows)(hle:∀(w:World) (St:Nat→Prop) (φ:Nat→Lc) (K:Nat→Prop) (us:List Value),VRL w St φ K ins' us→VRL w St φ K ins us):Ctr P f ins' pars res rows :=
 ⟨h.1,fun w St φ F us hent=>h.2 w St φ F us ⟨hle _ _ _ _ _ hent.args,hent.row,hent.nod,hent.dis,hent.bxF,hent.bxd,hent.stF,hent.stB,hent.gl⟩⟩
def ksE (ks:List Int):List E:=ks.map (E.int .i64)
theorem zz7 (ks:List Int)(k:Int):((ksE ks).any fun e=>k==intE e)=ks.any (fun x=>k==x):=by
 unfold ksE
 rw [List.any_map]
 rfl
theorem za8 (ks:List Int):∀e∈ksE ks,e.enc.length=1:=by
 intro e he
 obtain⟨z,_,rfl⟩:=List.mem_map.1 he
 rfl
theorem zh5 (ks:List Int)(hk:∀z∈ks,0≤z∧z≤100)(hl:ks.length≤100)(k:Int):Ctr prog 174 [.c (.ro ks.length 1 (acL (ksE ks))),.c (.v (.int .i64 k))] [] (.c (.v (.bool (ks.any fun x=>k==x)))) []:=by
 have h:=zN (l:=ksE ks) (fun e he=>by
  obtain⟨z,hz,rfl⟩:=List.mem_map.1 he
  have h1:=hk z hz
  refine⟨underlying3,?_⟩
  have e1:IntKind.i64.min = -9223372036854775808:=rfl
  have e2:IntKind.i64.max=9223372036854775807:=rfl
  simp only [Lit.wf,dqt,baq,e1,e2]
  omega) (za8 ks) (by unfold ksE;rw [List.length_map];omega) k
 rw [zz7] at h
 unfold ksE at h ⊢
 rw [List.length_map] at h
 exact h
theorem zn2 {w:World}{St:Nat→Prop}{φ:Nat→Lc}{K:Nat→Prop}{k:Nat}{u:Value}(h:VR w St φ K (.c (.v (.slice none 0 0))) u):VR w St φ K (.c (.ro 0 k [])) u:=by
 simp only [VR,CR] at h ⊢
 obtain⟨rfl,-,-⟩:=h
 exact⟨trivial,none,0,rfl,⟨omq,by decide,fun _=>rfl⟩,by simp,fun h=>by omega⟩
theorem zb8 (g:E→ByteArray)(x:E):ik [5] x.rk (g x)=brk g x:=by
 unfold ik brk
 by_cases h:x.rk=5
 ·rw [if_pos (by simp [h]),if_pos h]
 ·rw [if_neg (by simp [h]),if_neg h]
theorem qU (g:E→ByteArray)(x:E):ik [4,5] x.rk (g x)=jb g x:=by
 unfold ik jb
 by_cases h:x.rk=4∨x.rk=5
 ·rw [if_pos (by rcases h with h|h<;>simp [h]),if_pos h]
 ·rw [if_neg (by simp only [not_or] at h;simp [h.1,h.2]),if_neg h]
theorem zo2 (k:Int)(t:ByteArray):ik [] k t=t:=rfl
theorem sO {g:E→ByteArray}{x:E}{B:Nat}(h:(g x).size≤B):(brk g x).size≤B+2:=by
 unfold brk
 split
 ·rw [ByteArray.size_append',ByteArray.size_append']
  have:(ByteArray.mk #[40]).size=1:=rfl
  have:(ByteArray.mk #[41]).size=1:=rfl
  omega
 ·omega
theorem jN {g:E→ByteArray}{x:E}{B:Nat}(h:(g x).size≤B):(jb g x).size≤B+2:=by
 unfold jb
 split
 ·rw [ByteArray.size_append',ByteArray.size_append']
  have:(ByteArray.mk #[40]).size=1:=rfl
  have:(ByteArray.mk #[41]).size=1:=rfl
  omega
 ·omega
theorem pC (g:E→ByteArray)(b:ByteArray)(x:E):∀a:List E,dw g b (a++[x])=dw g b a++(b++brk g x)
 | []=>by show b++(brk g x++ByteArray.empty)=ByteArray.empty++(b++brk g x);rw [qS,kl]
 | y :: r=>by show b++(brk g y++dw g b (r++[x]))=b++(brk g y++dw g b r)++(b++brk g x);rw [pC g b x r];simp only [iy]
theorem uw (g:E→ByteArray)(b:ByteArray)(a:List E)(x:E):eK g b (a++[x])=(if a=[] then ByteArray.empty else eK g b a++b)++brk g x:=by
 cases a with
 | nil=>show brk g x++ByteArray.empty=ByteArray.empty++brk g x;rw [qS,kl]
 | cons y r =>
  rw [if_neg (by simp)]
  show brk g y++dw g b (r++[x])=brk g y++dw g b r++b++brk g x
  rw [pC];simp only [iy]
theorem iS (g:E→ByteArray)(b:ByteArray){l:List E}{k:Nat}{x:E}(hx:l[k]? = some x):eK g b (l.take (k+1))=(if k=0 then ByteArray.empty else eK g b (l.take k)++b)++brk g x:=by
 obtain⟨hk,-⟩:=List.getElem?_eq_some_iff.1 hx
 rw [List.take_add_one,hx,Option.toList_some,uw]
 congr 1
 by_cases h:k=0
 ·subst h;rfl
 ·rw [if_neg h,if_neg (fun e=>by have:=congrArg List.length e;rw [List.length_take,List.length_nil] at this;omega)]
theorem qV (g:E→ByteArray){l:List E}{k:Nat}{x:E}(hx:l[k]? = some x):eK g ByteArray.empty (l.take (k+1))=eK g ByteArray.empty (l.take k)++brk g x:=by
 rw [iS g _ hx]
 congr 1
 by_cases h:k=0
 ·subst h;rfl
 ·rw [if_neg h,qS]
theorem iT {g:E→ByteArray}{b:ByteArray}{B:Nat}{l:List E}(h:∀x∈l,(g x).size≤B):∀k,k≤l.length→(eK g b (l.take k)).size≤k*(B+2+b.size):=by
 intro k
 induction k with
 | zero=>intro _;exact Nat.zero_le _
 | succ k ih =>
  intro hk
  have h1:=ih omq
  obtain⟨x,hx⟩:∃x,l[k]? = some x:=⟨_,List.getElem?_eq_getElem omq⟩
  have h2:=sO (h x (mge hx))
  rw [iS g b hx,ByteArray.size_append',Nat.add_mul,Nat.one_mul]
  split
  ·have:ByteArray.empty.size=0:=rfl
   omega
  ·rw [ByteArray.size_append'];omega
def tlE (g:E→ByteArray)(l:List E):List E:=l.map fun x=>.str (g x)
theorem xf (g:E→ByteArray)(l:List E):(tlE g l).length=l.length:=List.length_map ..
theorem sP (g:E→ByteArray){l:List E}{k:Nat}{x:E}(hx:l[k]? = some x):tlE g (l.take (k+1))=tlE g (l.take k)++[.str (g x)]:=by
 unfold tlE
 rw [List.take_add_one,hx,Option.toList_some,List.map_append];rfl
theorem zO (g:E→ByteArray)(b:ByteArray){l:List E}(h:∀x∈l,x.rk≠5):∀k,k≤l.length→gP (tlE g (l.take k)) b=eK g b (l.take k):=by
 intro k
 induction k with
 | zero=>intro _;rfl
 | succ k ih =>
  intro hk
  have h1:=ih omq
  obtain⟨x,hx⟩:∃x,l[k]? = some x:=⟨_,List.getElem?_eq_getElem omq⟩
  have hb:brk g x=g x:=if_neg (h x (mge hx))
  rw [sP g hx,ny,iS g b hx,hb,h1]
  congr 1
  by_cases h0:k=0
  ·subst h0;rfl
  ·rw [if_neg h0,if_neg (fun e=>by have:=congrArg List.length e;rw [xf,List.length_take,List.length_nil] at this;omega)]
theorem pD {f:Nat}{e:E}(h:bR (f+1) e≤60):m6 e=true∧∀x∈e.rl,bR f x≤60:=by
 unfold bR at h
 split at h
 ·rename_i hh;exact⟨hh,(jm h).2⟩
 ·omega
theorem lz {f:Nat}{e:E}(h:bR f e≤60):(aS f e).size≤960:=by have:=nD f e h;omega
theorem xg (f:Nat):∀(e:E),e.Ty prog 112→e.sz≤4194304→bR f e≤60→∀ks:List Int,(∀z∈ks,0≤z∧z≤100)→ks.length≤100→Ctr prog 155 [.ag (acE e),.c (.ro ks.length 1 (acL (ksE ks)))] [] (.c (.v (.string (ik ks e.rk (aS f e))))) []:=by
 induction f with
 | zero=>intro e _ _ h;exact absurd h (by unfold bR;omega)
 | succ f ih =>
  intro e he hsz hp ks hks hl
  obtain⟨hhd,hkid⟩:=pD hp
  have hts:=lz hp
  obtain⟨x0,x1,x2A,x2c,l,rfl,gx0,gx1,gx2,-⟩:=aU he
  simp only [E.sz,E.szL] at hsz
  have hkid:∀x∈l,bR f x≤60:=hkid
  have hxs:∀x∈l,(aS f x).size≤960:=fun x hx=>lz (hkid x hx)
  have hh2:=hhd
  rw [ov] at hh2
  simp only [baq,bnt] at hh2
  obtain⟨hh,hno⟩:=hh2
  show Ctr _ _ _ _ (.c (.v (.string (ik ks x0 _)))) _
  have c1:=zh5 ks hks hl x0
  refine az func155 rfl rfl ?_
  rcases dN hh with ⟨rfl,h1,h2,h3⟩|⟨rfl,h1,h3⟩|⟨rfl|rfl|rfl|rfl,h1,h3⟩|⟨rfl|rfl,h1,h2,h3⟩|⟨rfl|rfl|rfl,h1,y,h3,h4⟩
  case inl =>
   repeat' (first|(apply ay;first|refine ak ?_|refine ai ?_|refine bf ?_|refine aI ?_|refine aH c1 ?_|refine ao ?_|refine dI ?_|refine cE ?_)|refine aj ?_|refine ab ?_|refine aa fun C=>?_|refine ac ?_|refine ah ?_|refine al ?_|(refine ae rqf ?_ ?_<;>intro hC<;>(try cases hC)))
   all_goals
    refine am ?_
    refine bA rfl aJ ⟨?_,rfl⟩
    unfold ik;rw [hC];rfl
  case inr.inl =>
   repeat' (first|(apply ay;first|refine ak ?_|refine ai ?_|refine bf ?_|refine aI ?_|refine aH c1 ?_|refine ao ?_|refine dI ?_|refine cE ?_)|refine aj ?_|refine ab ?_|refine aa fun C=>?_|refine ac ?_|refine ah ?_|refine al ?_|(refine ae rqf ?_ ?_<;>intro hC<;>(try cases hC)))
   all_goals
    refine am ?_
    refine bA rfl aJ ⟨?_,rfl⟩
    unfold ik;rw [hC];rfl
  case inr.inr.inl.inl =>
   repeat' (first|(apply ay;first|refine ak ?_|refine ai ?_|refine bf ?_|refine aI ?_|refine aH c1 ?_|refine ao ?_|refine dI ?_|refine cE ?_)|refine aj ?_|refine ab ?_|refine aa fun C=>?_|refine ac ?_|refine ah ?_|refine al ?_|(refine ae rqf ?_ ?_<;>intro hC<;>(try cases hC)))
   all_goals
    refine am ?_
    refine bA rfl aJ ⟨?_,rfl⟩
    unfold ik;rw [hC];rfl
  case inr.inr.inl.inr.inl =>
   repeat' (first|(apply ay;first|refine ak ?_|refine ai ?_|refine bf ?_|refine aI ?_|refine aH c1 ?_|refine ao ?_|refine dI ?_|refine cE ?_)|refine aj ?_|refine ab ?_|refine aa fun C=>?_|refine ac ?_|refine ah ?_|refine al ?_|(refine ae rqf ?_ ?_<;>intro hC<;>(try cases hC)))
   all_goals
    refine am ?_
    refine bA rfl aJ ⟨?_,rfl⟩
    unfold ik;rw [hC];rfl
  case inr.inr.inl.inr.inr.inl =>
   repeat' (first|(apply ay;first|refine ak ?_|refine ai ?_|refine bf ?_|refine aI ?_|refine aH c1 ?_|refine ao ?_|refine dI ?_|refine cE ?_)|refine aj ?_|refine ab ?_|refine aa fun C=>?_|refine ac ?_|refine ah ?_|refine al ?_|(refine ae rqf ?_ ?_<;>intro hC<;>(try cases hC)))
   all_goals
    refine am ?_
    refine bA rfl aJ ⟨?_,rfl⟩
    unfold ik;rw [hC];rfl
  case inr.inr.inl.inr.inr.inr =>
   repeat' (first|(apply ay;first|refine ak ?_|refine ai ?_|refine bf ?_|refine aI ?_|refine aH c1 ?_|refine ao ?_|refine dI ?_|refine cE ?_)|refine aj ?_|refine ab ?_|refine aa fun C=>?_|refine ac ?_|refine ah ?_|refine al ?_|(refine ae rqf ?_ ?_<;>intro hC<;>(try cases hC)))
   all_goals
    refine am ?_
    refine bA rfl aJ ⟨?_,rfl⟩
    unfold ik;rw [hC];rfl
  case inr.inr.inr.inl.inl =>
   have hte:aS (f+1) (E.agg [E.int .i64 4,E.str x1,E.lst 3 112 x2A x2c l])=eK (aS f) ByteArray.empty l:=rfl
   rw [hte]
   repeat' (first|(apply ay;first|refine ai ?_|refine bf ?_|refine aI ?_|refine ao ?_|refine cE ?_)|refine aj ?_|refine ab ?_|refine aa fun C=>?_|refine ac ?_|refine ah ?_)
   iterate 10
    (first
      | refine ae rqf (fun hC=>Bool.noConfusion (show false=true from hC)) fun hC=>?_
      | refine ae rqf (fun hC=>?_) fun hC=>Bool.noConfusion (show true=false from hC)
      | skip)<;>repeat' (first|(apply ay;first|refine ak ?_|refine ai ?_|refine bf ?_|refine aI ?_|refine bC ?_|refine ao ?_)|refine aj ?_|refine ab ?_|refine aa fun C=>?_|refine ac ?_|refine ah ?_)
   refine aY (fun k:Nat=>⟨ft [(1,.c (.ro ks.length 1 (acL (ksE ks)))),(2,.c (.pt 2 0)),(5,.c (.v (.string (eK (aS f) ByteArray.empty (l.take k))))),(28,.c (.ro l.length 3 (acL l))),(29,.c (.v (.int .i64 l.length))),(30,.c (.v (.int .i64 k)))],eW [(2,2,⟨112,0,0,true,[.v (.int .i64 4),.v (.string x1),.ro l.length 3 (acL l)]⟩)],0,[2],98⟩)
    (fun N k=>k+N=l.length) l.length 0 omq ?_ ?_
   ·(refine aL _ _ rfl rfl ?_ ?_<;>exact tdy0)
   rintro N k hN
   repeat' (first|(apply ay;refine aA ?_)|refine aj ?_|refine ab ?_|refine aa fun C=>?_|refine ac ?_)
   refine ae rqf (fun hk1=>?_) fun hk1=>?_
   ·have hk':k<l.length:=by simpa using hk1
    obtain⟨x,hx⟩:∃x,l[k]? = some x:=⟨_,List.getElem?_eq_getElem hk'⟩
    have hxm:=mge hx
    have hxt:=gx2.1 x hxm
    have hxz:=E.szL_mem hxm
    have c2:=ih x hxt omq (hkid x hxm) [5] (by simp) (by simp)
    rw [zb8] at c2
    have hgk:=gx2.2
    have hz1:=iT (b:=ByteArray.empty) hxs k omq
    have hz2:=sO (hxs x hxm)
    have e0:ByteArray.empty.size=0:=rfl
    rw [e0] at hz1
    have e:=qV (aS f) hx
    obtain⟨y0,y1,y2A,y2c,y2l,rfl,gy0,gy1,gy2,-⟩:=aU hxt
    repeat' (first|(apply ay;first|refine ak ?_|refine ai ?_|refine cX ?_|refine bM ?_|refine aH c2 ?_|refine bh ?_|refine gJ ?_|refine aw ?_|refine dI ?_|refine bJ ?_|refine dT ?_)|refine aj ?_|refine ab ?_|refine aa fun C=>?_|refine ac ?_|refine ah ?_|refine al ?_)
    refine⟨N-1,k+1,omq,omq,?_⟩
    rw [e]
    (refine aL _ _ rfl rfl ?_ ?_<;>exact tdy0)
   ·have hk':¬k<l.length:=by simpa using hk1
    rw [List.take_of_length_le omq]
    have hz1:=iT (b:=ByteArray.empty) hxs l.length omq
    rw [List.take_length] at hz1
    have e0:ByteArray.empty.size=0:=rfl
    rw [e0] at hz1
    repeat' (first|(apply ay;first|refine ak ?_|refine ai ?_|refine bf ?_|refine aI ?_|refine aH c1 ?_|refine dI ?_)|refine aj ?_|refine ab ?_|refine aa fun C=>?_|refine ac ?_|refine al ?_|refine aE ?_|(refine ae rqf ?_ ?_<;>intro hC<;>(try cases hC)))
    all_goals
     refine am ?_
     refine bA rfl aJ ⟨?_,rfl⟩
     unfold ik;rw [hC];rfl
  case inr.inr.inr.inl.inr =>
   have hte:aS (f+1) (E.agg [E.int .i64 5,E.str x1,E.lst 3 112 x2A x2c l])=eK (aS f) ⟨#[124]⟩ l:=rfl
   rw [hte]
   have hk5:∀x∈l,x.rk≠5:=fun x hx hx5=>by
    have hno':(l.any fun x=>x.rk==5)=false:=by simpa using hno
    rw [List.any_eq_false] at hno'
    exact hno' x hx (by simp [hx5])
   repeat' (first|(apply ay;first|refine ai ?_|refine bf ?_|refine aI ?_|refine ao ?_|refine cE ?_)|refine aj ?_|refine ab ?_|refine aa fun C=>?_|refine ac ?_|refine ah ?_)
   iterate 12
    (first
      | refine ae rqf (fun hC=>Bool.noConfusion (show false=true from hC)) fun hC=>?_
      | refine ae rqf (fun hC=>?_) fun hC=>Bool.noConfusion (show true=false from hC)
      | skip)<;>repeat' (first|(apply ay;first|refine ak ?_|refine ai ?_|refine bf ?_|refine aI ?_|refine bC ?_|refine ao ?_)|refine aj ?_|refine ab ?_|refine aa fun C=>?_|refine ac ?_|refine ah ?_)
   refine aY (fun k:Nat=>⟨ft [(1,.c (.ro ks.length 1 (acL (ksE ks)))),(2,.c (.pt 2 0)),(8,.c (.sl 9 k)),(43,.c (.ro l.length 3 (acL l))),(44,.c (.v (.int .i64 l.length))),(45,.c (.v (.int .i64 k)))],eW [(2,2,⟨112,0,0,true,[.v (.int .i64 5),.v (.string x1),.ro l.length 3 (acL l)]⟩),(9,9,⟨9,1,k,false,owL (tlE (aS f) (l.take k))⟩)],0,[2,9],98⟩)
    (fun N k=>k+N=l.length) l.length 0 omq ?_ ?_
   ·refine (kz 9 (t:=8) 9 1 rfl rfl).trans ?_
    (refine aL _ _ rfl rfl ?_ ?_<;>exact tdy0)
   rintro N k hN
   repeat' (first|(apply ay;refine aA ?_)|refine aj ?_|refine ab ?_|refine aa fun C=>?_|refine ac ?_)
   refine ae rqf (fun hk1=>?_) fun hk1=>?_
   ·have hk':k<l.length:=by simpa using hk1
    obtain⟨x,hx⟩:∃x,l[k]? = some x:=⟨_,List.getElem?_eq_getElem hk'⟩
    have hxm:=mge hx
    have hxt:=gx2.1 x hxm
    have hxz:=E.szL_mem hxm
    have c2:=ih x hxt omq (hkid x hxm) [] (by simp) (by simp)
    rw [zo2] at c2
    have c3:=xe c2 (ins':=[.ag (acE x),.c (.v (.slice none 0 0))]) fun w St φ K us h=>by
     simp only [VRL] at h ⊢
     obtain⟨u,us',rfl,h1,u2,us2,rfl,h2,h3⟩:=h
     exact⟨u,_,rfl,h1,u2,us2,rfl,zn2 h2,h3⟩
    have hgk:=gx2.2
    have e:=sP (aS f) hx
    obtain⟨y0,y1,y2A,y2c,y2l,rfl,gy0,gy1,gy2,-⟩:=aU hxt
    repeat' (first|(apply ay;first|refine ak ?_|refine ai ?_|refine cX ?_|refine bM ?_|refine aH c3 ?_|refine dz ?_|refine bh ?_|refine gJ ?_|refine aw ?_|refine bJ ?_|refine dT ?_)|refine aj ?_|refine ab ?_|refine aa fun C=>?_|refine ac ?_|refine ah ?_|refine al ?_)
    refine⟨N-1,k+1,omq,omq,?_⟩
    rw [e]
    (refine eL (fun j=>if j=9 then 53 else j) _ _ rfl rfl ?_ ?_<;>(repeat' (first|exact TmOk.nil|exact RwOk.nil|refine TmOk.cons ?_ ?_|refine RwOk.cons ?_ ?_|rfl|(refine rnV_id' rfl ?_;exact byc)|(refine cK ?_;first|rfl|omega|(rw [bB omq omq];omega))|(refine bg rfl ?_;exact byc)|exact dP rfl rfl|(refine rw_mid rqf rqf ?_ ?_<;>exact byc)|(refine rw_rn' rfl rfl ?_;simp;done))))
    exact fH (r:=⟨9,1,k+1,false,owL (tlE (aS f) (l.take k))++[.v (.string (aS f (E.agg [E.int .i64 y0,E.str y1,E.lst 3 112 y2A y2c y2l])))]⟩) rfl (by rw [fG];rfl) (by first|rfl|(simp [oS,bu,clo,bk,aM,bl,a8,aZ];done))
   ·have hk':¬k<l.length:=by simpa using hk1
    obtain rfl:k=l.length:=by omega
    have hz1:=iT (b:=⟨#[124]⟩) hxs l.length omq
    have hj:=zO (aS f) ⟨#[124]⟩ hk5 l.length omq
    rw [List.take_length] at hz1 hj ⊢
    have e0:(ByteArray.mk #[124]).size=1:=rfl
    rw [e0] at hz1
    have hql:(tlE (aS f) l).length=l.length:=xf _ _
    have c4:=zc2 (l:=tlE (aS f) l) (fun e he=>by obtain⟨y,_,rfl⟩:=List.mem_map.1 he;exact⟨_,rfl⟩) ⟨#[124]⟩ omq (by rw [hj];omega)
    rw [hql,hj] at c4
    repeat' (first|(apply ay;first|refine ak ?_|refine ai ?_|refine bf ?_|refine aI ?_|refine aH c4 ?_|refine aH c1 ?_|refine dI ?_)|refine aj ?_|refine ab ?_|refine aa fun C=>?_|refine ac ?_|refine al ?_|refine aE ?_|(refine ae rqf ?_ ?_<;>intro hC<;>(try cases hC)))
    all_goals
     refine am ?_
     refine bA rfl aJ ⟨?_,rfl⟩
     unfold ik;rw [hC];rfl
  case inr.inr.inr.inr.inl =>
   subst h3
   have hym:y∈[y]:=List.mem_singleton.2 rfl
   have hyt:=gx2.1 y hym
   have hyz:=E.szL_mem hym
   have hte:aS (f+1) (E.agg [E.int .i64 6,E.str x1,E.lst 3 112 x2A x2c [y]])=jb (aS f) y++⟨#[42]⟩:=rfl
   rw [hte]
   have c2:=ih y hyt omq (hkid y hym) [4,5] (by simp) (by simp)
   rw [qU] at c2
   have hgk:=gx2.2
   have hz2:=jN (hxs y hym)
   have hy0:[y][0]? = some y:=rfl
   obtain⟨y0,y1,y2A,y2c,y2l,rfl,gy0,gy1,gy2,-⟩:=aU hyt
   repeat' (first|(apply ay;first|refine ak ?_|refine ai ?_|refine bf ?_|refine aI ?_|refine cX ?_|refine aH c2 ?_|refine aH c1 ?_|refine gJ ?_|refine ao ?_|refine dI ?_|refine cE ?_|refine dT ?_)|refine aj ?_|refine ab ?_|refine aa fun C=>?_|refine ac ?_|refine ah ?_|refine al ?_|(refine ae rqf ?_ ?_<;>intro hC<;>(try cases hC)))
   all_goals
    refine am ?_
    refine bA rfl aJ ⟨?_,rfl⟩
    unfold ik;rw [hC];rfl
  case inr.inr.inr.inr.inr.inl =>
   subst h3
   have hym:y∈[y]:=List.mem_singleton.2 rfl
   have hyt:=gx2.1 y hym
   have hyz:=E.szL_mem hym
   have hte:aS (f+1) (E.agg [E.int .i64 7,E.str x1,E.lst 3 112 x2A x2c [y]])=jb (aS f) y++⟨#[43]⟩:=rfl
   rw [hte]
   have c2:=ih y hyt omq (hkid y hym) [4,5] (by simp) (by simp)
   rw [qU] at c2
   have hgk:=gx2.2
   have hz2:=jN (hxs y hym)
   have hy0:[y][0]? = some y:=rfl
   obtain⟨y0,y1,y2A,y2c,y2l,rfl,gy0,gy1,gy2,-⟩:=aU hyt
   repeat' (first|(apply ay;first|refine ak ?_|refine ai ?_|refine bf ?_|refine aI ?_|refine cX ?_|refine aH c2 ?_|refine aH c1 ?_|refine gJ ?_|refine ao ?_|refine dI ?_|refine cE ?_|refine dT ?_)|refine aj ?_|refine ab ?_|refine aa fun C=>?_|refine ac ?_|refine ah ?_|refine al ?_|(refine ae rqf ?_ ?_<;>intro hC<;>(try cases hC)))
   all_goals
    refine am ?_
    refine bA rfl aJ ⟨?_,rfl⟩
    unfold ik;rw [hC];rfl
  case inr.inr.inr.inr.inr.inr =>
   subst h3
   have hym:y∈[y]:=List.mem_singleton.2 rfl
   have hyt:=gx2.1 y hym
   have hyz:=E.szL_mem hym
   have hte:aS (f+1) (E.agg [E.int .i64 8,E.str x1,E.lst 3 112 x2A x2c [y]])=jb (aS f) y++⟨#[63]⟩:=rfl
   rw [hte]
   have c2:=ih y hyt omq (hkid y hym) [4,5] (by simp) (by simp)
   rw [qU] at c2
   have hgk:=gx2.2
   have hz2:=jN (hxs y hym)
   have hy0:[y][0]? = some y:=rfl
   obtain⟨y0,y1,y2A,y2c,y2l,rfl,gy0,gy1,gy2,-⟩:=aU hyt
   repeat' (first|(apply ay;first|refine ak ?_|refine ai ?_|refine bf ?_|refine aI ?_|refine cX ?_|refine aH c2 ?_|refine aH c1 ?_|refine gJ ?_|refine ao ?_|refine dI ?_|refine cE ?_|refine dT ?_)|refine aj ?_|refine ab ?_|refine aa fun C=>?_|refine ac ?_|refine ah ?_|refine al ?_|(refine ae rqf ?_ ?_<;>intro hC<;>(try cases hC)))
   all_goals
    refine am ?_
    refine bA rfl aJ ⟨?_,rfl⟩
    unfold ik;rw [hC];rfl
theorem ox {e:E}(he:e.Ty prog 112)(hsz:e.sz≤4194304):Ctr prog 138 [.ag (acE e)] [] (.c (.v (.string (kZ e)))) []:=by
 have c1:=mn he hsz
 cases hr:eO e with
 | false =>
  have hres:kZ e=ByteArray.empty:=by unfold kZ;rw [hr];rfl
  rw [hres]
  rw [hr] at c1
  clear hres hr
  obtain⟨x0,x1,x2A,x2c,l,rfl,gx0,gx1,gx2,-⟩:=aU he
  refine az func138 rfl rfl ?_
  repeat' (first|(apply ay;first|refine ai ?_|refine bM ?_|refine aH c1 ?_|refine bI ?_|refine cE ?_)|refine aj ?_|refine ab ?_|refine aa fun C=>?_|refine ac ?_|(refine ae rqf ?_ ?_<;>intro hC<;>(try cases hC)))
  refine am ?_
  exact bA rfl aJ ⟨rfl,rfl⟩
 | true =>
  have hres:kZ e=aS 6 e:=by unfold kZ;rw [hr];rfl
  rw [hres]
  have hp:bR 6 e≤60:=by unfold eO at hr;simpa using hr
  have c2:=xg 6 e he hsz hp [] (by simp) (by simp)
  rw [zo2] at c2
  have c3:=xe c2 (ins':=[.ag (acE e),.c (.v (.slice none 0 0))]) fun w St φ K us h=>by
   simp only [VRL] at h ⊢
   obtain⟨u,us',rfl,h1,u2,us2,rfl,h2,h3⟩:=h
   exact⟨u,_,rfl,h1,u2,us2,rfl,zn2 h2,h3⟩
  rw [hr] at c1
  clear hres hr c2 hp
  obtain⟨x0,x1,x2A,x2c,l,rfl,gx0,gx1,gx2,-⟩:=aU he
  refine az func138 rfl rfl ?_
  repeat' (first|(apply ay;first|refine ai ?_|refine bM ?_|refine aH c1 ?_|refine aH c3 ?_|refine bI ?_|refine cE ?_)|refine aj ?_|refine ab ?_|refine aa fun C=>?_|refine ac ?_|refine al ?_|(refine ae rqf ?_ ?_<;>intro hC<;>(try cases hC)))
  refine am ?_
  exact bA rfl aJ ⟨rfl,rfl⟩
theorem cls0 {p:Prop}(h:p:=by first|exact a8 _|exact aM _|exact bytC_clo _|(simp [bu,clo,a8,aM,bl,bk,aZ];done)|(simp [bu,clo,opC,opL,a8,aM,bl,bk,aZ];done)|fail):p:=h
def gy (s:ByteArray)(p:PS):List AC:=[.v (.string s),.v (.int .i64 (p.a:Int)),.v (.int .i64 (p.d:Int)),.v (.bool p.b)]
theorem nF {s:ByteArray}(hs:s.size≤1048576){p:PS}:Ctr prog 153 [.c (.pt 0 0)] [gy s p] (.c (.v (.int .u8 (bAt s p.a:Int)))) [gy s p]:=by
 obtain⟨a,d,b⟩:=p
 refine az func153 rfl rfl ?_
 unfold gy
 dsimp only
 repeat' (first|(apply ay;refine ai ?_)|refine aj ?_|refine ab ?_|(apply da;first|(apply dC;refine aD ?_)|refine dZ ?_|refine bW ?_|refine dJ ?_|(apply fF;refine aD ?_)|refine aD ?_)|refine aj ?_|refine ab ?_|refine aa fun C=>?_|refine av krq krq fun C=>?_|refine ac ?_)
 refine ae rqf (fun hC=>?_) fun hC=>?_
 ·repeat' (first|(apply ay;refine ai ?_)|refine aj ?_|refine ab ?_|refine aa fun C=>?_|refine ac ?_)
  refine am ?_;refine dO rfl aJ rfl (by first|rfl|(simp [bu,clo,a8,aM,bl,bk,aZ];done)) rfl ⟨?_,?_⟩
  ·rw [kg (by simp only [dqt] at hC;omega)];rfl
  ·rfl
 ·have hlt:a<s.size:=by simp only [dqn] at hC;omega
  repeat' (first|(apply da;first|(apply dC;refine aD ?_)|(apply iu;refine aD ?_)|refine dZ ?_|refine bW ?_|refine eU ?_|refine aD ?_)|refine aj ?_|refine ab ?_|refine av krq krq fun C=>?_|refine ac ?_|refine al ?_)
  refine am ?_;refine dO rfl aJ rfl (by first|rfl|(simp [bu,clo,a8,aM,bl,bk,aZ];done)) rfl ⟨?_,?_⟩
  ·rfl
  ·rfl
theorem qW {s:ByteArray}{a b k:Nat}(hb:b≤s.size):(bz s a b).data.toList[k]? = if a+k<b then some (UInt8.ofNat (bAt s (a+k))) else none:=by
 unfold bz bAt
 rw [Array.getElem?_toList,ByteArray.data_extract,Array.getElem?_extract]
 have e:s.data.size=s.size:=rfl
 by_cases h:a+k<b
 ·rw [if_pos h,if_pos omq,Array.getElem?_eq_getElem (show a+k<s.data.size by omega),Option.getD_some,UInt8.ofNat_toNat]
 ·rw [if_neg h,if_neg omq]
theorem jO {s:ByteArray}{c:Nat}:∀(f a:Nat),s.size≤a+f→a≤s.size→a≤eS s c f a∧eS s c f a≤s.size∧(∀j,a≤j→j<eS s c f a→bAt s j≠c)∧(eS s c f a<s.size→bAt s (eS s c f a)=c)
 | 0,a,h,h2=>⟨nlr _,h2,fun j h1 h3=>absurd h3 (by show ¬j<a;omega),fun h3=>absurd h3 (by show ¬a<s.size;omega)⟩
 | f+1,a,h,h2=>by
  unfold eS
  split
  ·rename_i h3
   obtain⟨g1,g2,g3,g4⟩:=jO (s:=s) (c:=c) f (a+1) omq omq
   refine⟨omq,g2,fun j h4 h5=>?_,g4⟩
   by_cases e:j=a
   ·rw [e];exact h3.2
   ·exact g3 j omq h5
  ·rename_i h3
   exact⟨nlr _,h2,fun j h4 h5=>by omega,fun h4=>Classical.byContradiction fun h5=>h3 ⟨h4,h5⟩⟩
theorem zP {a b:Nat}(ha:a<256)(hb:b<256)(h:UInt8.ofNat a=UInt8.ofNat b):a=b:=by
 have:=congrArg UInt8.toNat h
 rw [UInt8.toNat_ofNat',UInt8.toNat_ofNat'] at this
 omega
theorem zi5 {s:ByteArray}{a c:Nat}(ha:a≤s.size)(hc:c<256):Lib.indexByte (bz s a s.size).data.toList (UInt8.ofNat c)=if eS s c s.size a<s.size then ((eS s c s.size a-a:Nat):Int) else -1:=by
 obtain⟨g1,g2,g3,g4⟩:=jO (s:=s) (c:=c) s.size a omq ha
 have hge:=Lib.indexByte_ge (bz s a s.size).data.toList (UInt8.ofNat c)
 rcases Int.lt_or_le (Lib.indexByte (bz s a s.size).data.toList (UInt8.ofNat c)) 0 with hn|hn
 ·have e:Lib.indexByte (bz s a s.size).data.toList (UInt8.ofNat c) = -1:=by omega
  rw [e]
  have h0:=Lib.indexByte_none e
  by_cases hu:eS s c s.size a<s.size
  ·exfalso
   have h1:=h0 (eS s c s.size a-a)
   rw [qW (nlr _),if_pos omq,show a+(eS s c s.size a-a)=eS s c s.size a by omega,g4 hu] at h1
   exact h1 rfl
  ·rw [if_neg hu]
 ·obtain⟨o,ho⟩:∃o:Nat,Lib.indexByte (bz s a s.size).data.toList (UInt8.ofNat c)=(o:Int):=⟨_,(Int.toNat_of_nonneg hn).symm⟩
  obtain⟨h1,h2⟩:=Lib.indexByte_some ho
  rw [qW (nlr _)] at h1
  by_cases hlt:a+o<s.size
  ·rw [if_pos hlt] at h1
   injection h1 with h1
   have h3:=zP (cZ _ _) hc h1
   have h4:eS s c s.size a=a+o:=by
    rcases Nat.lt_trichotomy (eS s c s.size a) (a+o) with h|h|h
    ·exfalso
     have h5:=h2 (eS s c s.size a-a) omq
     rw [qW (nlr _),if_pos omq,show a+(eS s c s.size a-a)=eS s c s.size a by omega,g4 omq] at h5
     exact h5 rfl
    ·exact h
    ·exact absurd h3 (g3 (a+o) omq h)
   rw [ho,h4,if_pos hlt,show a+o-a=o by omega]
  ·rw [if_neg hlt] at h1;cases h1
theorem zQ {s:ByteArray}{alt:PS→E×PS}{a d:Nat}{b:Bool}{c:Nat}(hc:bAt s a=c):kf s alt ⟨a,d,b⟩=eY s alt c ⟨a+1,d,b⟩:=by unfold kf;rw [hc];rfl
theorem zc8 {s:ByteArray}(hs:s.size≤1048576){alt:PS→E×PS}{p:PS}(hp:p.a<s.size)(hd:p.d≤p.a+1)(hg:Good s (p.go 1) (alt (p.go 1)) 0 0 1)
 (ha:Ctr prog 136 [.c (.pt 0 0)] [gy s (p.go 1)] (.ag (owE (alt (p.go 1)).1)) [gy s (alt (p.go 1)).2]) :
 Ctr prog 181 [.c (.pt 0 0)] [gy s p] (.ag (owE (kf s alt p).1)) [gy s (kf s alt p).2]:=by
 have hn:=nF hs (p:=p)
 have hn2:=nF hs (p:=p.go 1)
 obtain⟨a,d,b⟩:=p
 have hp:a<s.size:=hp
 have ha:Ctr prog 136 [.c (.pt 0 0)] [gy s ⟨a+1,d,b⟩] (.ag (owE (alt ⟨a+1,d,b⟩).1)) [gy s (alt ⟨a+1,d,b⟩).2]:=ha
 have hg:Good s ⟨a+1,d,b⟩ (alt ⟨a+1,d,b⟩) 0 0 1:=hg
 have hn:Ctr prog 153 [.c (.pt 0 0)] [gy s ⟨a,d,b⟩] (.c (.v (.int .u8 (bAt s a:Int)))) [gy s ⟨a,d,b⟩]:=hn
 have hn2:Ctr prog 153 [.c (.pt 0 0)] [gy s ⟨a+1,d,b⟩] (.c (.v (.int .u8 (bAt s (a+1):Int)))) [gy s ⟨a+1,d,b⟩]:=hn2
 obtain⟨c,hc⟩:∃c,bAt s a=c:=⟨_,rfl⟩
 have hcl:c<256:=hc▸cZ s a
 rw [zQ hc]
 rw [hc] at hn
 have hl:=mm hcl
 unfold gy at *
 dsimp only at hn hn2 ha ⊢
 refine az func181 rfl rfl ?_
 by_cases h1:ma c=true
 ·rw [h1] at hl
  have hr:eY s alt c ⟨a+1,d,b⟩=(du 1 (wO c) [],⟨a+1,d,b⟩):=if_pos h1
  have hc128:c<128:=by
   unfold ma at h1
   simp only [Bool.or_eq_true,baq,dqt,beq_iff_eq] at h1
   omega
  rw [hr]
  repeat' (first|(apply ay;first|refine ak ?_|refine ai ?_|refine bf ?_|refine aI ?_|refine aF 0 (hn) ?_|refine aH hl ?_|refine bh ?_|refine aw ?_|refine jC ?_|refine gq ?_|refine bJ ?_|refine au ?_)|refine aj ?_|refine ab ?_|refine aa fun C=>?_|refine ac ?_|refine ah ?_|(refine ae rqf ?_ ?_<;>intro hC<;>(try cases hC)))
  refine bc (cR 900 (i:=2) 112 3 rfl rfl (pre:=[_,_]) (post:=[]) rfl) ?_;refine am ?_;refine dO rfl (bi (aO rfl (aO rfl (bE rfl rfl rfl cls0 aQ)))) rfl (by first|rfl|(simp [bu,clo,a8,aM,bl,bk,aZ];done)) rfl ⟨?_,?_⟩
  ·rfl
  ·rfl
 have h1:ma c=false:=by simpa using h1
 rw [h1] at hl
 by_cases h2:c=46
 ·subst h2
  have hr:eY s alt 46 ⟨a+1,d,b⟩=(du 2 ByteArray.empty [],⟨a+1,d,b⟩):=rfl
  rw [hr]
  repeat' (first|(apply ay;first|refine ak ?_|refine ai ?_|refine bf ?_|refine aI ?_|refine aF 0 (hn) ?_|refine aH hl ?_|refine bh ?_|refine aR ?_|refine aw ?_|refine bJ ?_|refine au ?_)|refine aj ?_|refine ab ?_|refine aa fun C=>?_|refine ac ?_|refine ah ?_|(refine ae rqf ?_ ?_<;>intro hC<;>(try cases hC)))
  refine bc (cR 900 (i:=2) 112 3 rfl rfl (pre:=[_,_]) (post:=[]) rfl) ?_;refine am ?_;refine dO rfl (bi (aO rfl (aO rfl (bE rfl rfl rfl cls0 aQ)))) rfl (by first|rfl|(simp [bu,clo,a8,aM,bl,bk,aZ];done)) rfl ⟨?_,?_⟩
  ·rfl
  ·rfl
 by_cases h3:c=94
 ·subst h3
  have hr:eY s alt 94 ⟨a+1,d,b⟩=(du 10 ByteArray.empty [],⟨a+1,d,b⟩):=rfl
  rw [hr]
  repeat' (first|(apply ay;first|refine ak ?_|refine ai ?_|refine bf ?_|refine aI ?_|refine aF 0 (hn) ?_|refine aH hl ?_|refine bh ?_|refine aR ?_|refine aw ?_|refine bJ ?_|refine au ?_)|refine aj ?_|refine ab ?_|refine aa fun C=>?_|refine ac ?_|refine ah ?_|(refine ae rqf ?_ ?_<;>intro hC<;>(try cases hC)))
  refine bc (cR 900 (i:=2) 112 3 rfl rfl (pre:=[_,_]) (post:=[]) rfl) ?_;refine am ?_;refine dO rfl (bi (aO rfl (aO rfl (bE rfl rfl rfl cls0 aQ)))) rfl (by first|rfl|(simp [bu,clo,a8,aM,bl,bk,aZ];done)) rfl ⟨?_,?_⟩
  ·rfl
  ·rfl
 by_cases h4:c=36
 ·subst h4
  have hr:eY s alt 36 ⟨a+1,d,b⟩=(du 11 ByteArray.empty [],⟨a+1,d,b⟩):=rfl
  rw [hr]
  repeat' (first|(apply ay;first|refine ak ?_|refine ai ?_|refine bf ?_|refine aI ?_|refine aF 0 (hn) ?_|refine aH hl ?_|refine bh ?_|refine aR ?_|refine aw ?_|refine bJ ?_|refine au ?_)|refine aj ?_|refine ab ?_|refine aa fun C=>?_|refine ac ?_|refine ah ?_|(refine ae rqf ?_ ?_<;>intro hC<;>(try cases hC)))
  refine bc (cR 900 (i:=2) 112 3 rfl rfl (pre:=[_,_]) (post:=[]) rfl) ?_;refine am ?_;refine dO rfl (bi (aO rfl (aO rfl (bE rfl rfl rfl cls0 aQ)))) rfl (by first|rfl|(simp [bu,clo,a8,aM,bl,bk,aZ];done)) rfl ⟨?_,?_⟩
  ·rfl
  ·rfl
 by_cases h5:c=91
 ·subst h5
  have hix:=zi5 (s:=s) (a:=a+1) (c:=93) omq omq
  have c3:=fU (bz s (a+1) s.size) (c:=93) omq
  obtain⟨g1,g2,g3,g4⟩:=jO (s:=s) (c:=93) s.size (a+1) omq omq
  rw [hix] at c3
  have hr:eY s alt 91 ⟨a+1,d,b⟩=if eS s 93 s.size (a+1)<s.size then (du 3 (bz s (a+1) (eS s 93 s.size (a+1))) [],⟨eS s 93 s.size (a+1)+1,d,b⟩) else (dv,⟨a+1,d,true⟩):=rfl
  rw [hr]
  clear hr hix
  generalize eS s 93 s.size (a+1)=u at *
  by_cases hu:u<s.size
  ·rw [if_pos hu] at c3
   rw [if_pos hu]
   have e0:(a:Int)+1=((a+1:Nat):Int):=by omega
   have e1:(a:Int)+1+((u-(a+1):Nat):Int)=(u:Int):=by omega
   repeat' (first|(apply ay;first|refine ak ?_|refine ai ?_|refine bf ?_|refine aI ?_|refine bM ?_|refine aF 0 (hn) ?_|refine aH hl ?_|refine bh ?_|refine aR ?_|refine aA ?_|refine aw ?_|refine bJ ?_|refine au ?_)|refine aj ?_|refine ab ?_|(apply da;first|(apply dC;refine aD ?_)|(apply iu;refine aD ?_)|refine dZ ?_|refine bW ?_|refine ei c3 ?_|refine li ?_|refine cP ?_|refine pi ?_|refine ir ?_|refine gZ ?_|refine aD ?_)|refine aj ?_|refine ab ?_|refine aa fun C=>?_|refine av krq krq fun C=>?_|refine ac ?_|refine ah ?_|refine al ?_|refine aq rfl ?_|refine ar rfl ?_)
   refine bc (cR 900 (i:=2) 112 3 rfl rfl (pre:=[_,_]) (post:=[]) rfl) ?_;refine am ?_;refine dO rfl (bi (aO rfl (aO rfl (bE rfl rfl rfl cls0 aQ)))) rfl (by first|rfl|(simp [bu,clo,a8,aM,bl,bk,aZ];done)) rfl ⟨?_,?_⟩
   ·rfl
   ·rw [show ((u+1:Nat):Int)=(a:Int)+1+(((u-(a+1):Nat):Int)+1) by omega];rfl
  ·rw [if_neg hu] at c3
   rw [if_neg hu]
   repeat' (first|(apply ay;first|refine ak ?_|refine ai ?_|refine bf ?_|refine aI ?_|refine aF 0 (hn) ?_|refine aH hl ?_|refine bh ?_|refine aR ?_|refine aA ?_|refine aw ?_|refine bJ ?_|refine au ?_)|refine aj ?_|refine ab ?_|(apply da;first|(apply dC;refine aD ?_)|(apply iu;refine aD ?_)|refine dZ ?_|refine bW ?_|refine ei c3 ?_|refine gZ ?_|refine aD ?_)|refine aj ?_|refine ab ?_|refine aa fun C=>?_|refine av krq krq fun C=>?_|refine ac ?_|refine ah ?_|refine aE ?_|(refine ae rqf ?_ ?_<;>intro hC<;>(try cases hC)))
   refine bc (cR 900 (i:=2) 112 3 rfl rfl (pre:=[_,_]) (post:=[]) rfl) ?_;refine am ?_;refine dO rfl (bi (aO rfl (aO rfl (bE rfl rfl rfl cls0 aQ)))) rfl (by first|rfl|(simp [bu,clo,a8,aM,bl,bk,aZ];done)) rfl ⟨?_,?_⟩
   ·rfl
   ·rfl
 by_cases h6:c=40
 ·subst h6
  by_cases h41:bAt s (a+1)=41
  ·have hr:eY s alt 40 ⟨a+1,d,b⟩=(du 9 ByteArray.empty [],⟨a+2,d,b⟩):=by
    rw [ki,if_pos h41];rfl
   rw [hr]
   rw [h41] at hn2
   repeat' (first|(apply ay;first|(refine aK ?_ ?_<;>intro hG<;>(try cases hG))|refine ak ?_|refine ai ?_|refine bf ?_|refine aI ?_|refine aF 0 (hn) ?_|refine aF 0 (hn2) ?_|refine aH hl ?_|refine bh ?_|refine aR ?_|refine aw ?_|refine aB ?_|refine bJ ?_|refine au ?_)|refine aj ?_|refine ab ?_|refine aa fun C=>?_|refine ac ?_|refine ah ?_|(refine ae rqf ?_ ?_<;>intro hC<;>(try cases hC)))
   refine bc (cR 900 (i:=2) 112 3 rfl rfl (pre:=[_,_]) (post:=[]) rfl) ?_;refine am ?_;refine dO rfl (bi (aO rfl (aO rfl (bE rfl rfl rfl cls0 aQ)))) rfl (by first|rfl|(simp [bu,clo,a8,aM,bl,bk,aZ];done)) rfl ⟨?_,?_⟩
   ·rfl
   ·rfl
  ·have hr:eY s alt 40 ⟨a+1,d,b⟩=if bAt s (alt ⟨a+1,d,b⟩).2.a=41 then ((alt ⟨a+1,d,b⟩).1,(alt ⟨a+1,d,b⟩).2.go 1) else (dv,(alt ⟨a+1,d,b⟩).2.bad):=by
    rw [ki,if_neg h41]
   rw [hr]
   clear hr
   obtain⟨⟨e,q⟩,hq⟩:∃r,alt ⟨a+1,d,b⟩=r:=⟨_,rfl⟩
   rw [hq] at ha hg ⊢
   have hn3:=nF hs (p:=q)
   unfold gy at hn3
   have hle:q.a≤s.size:=hg.le
   have hqd:q.d=d:=hg.d
   obtain⟨qa,qd,qb⟩:=q
   dsimp only at ha hn3 hle hqd ⊢
   have hfi:Fine e:=hg.fine
   cases hfi with
   | mk k t l hk ht hl2 =>
   by_cases h7:bAt s qa=41
   ·rw [if_pos h7]
    rw [h7] at hn3
    have hlt:qa<s.size:=dG (by rw [h7];decide)
    repeat' (first|(apply ay;first|(refine aK ?_ ?_<;>intro hG<;>(try cases hG))|refine ak ?_|refine ai ?_|refine bf ?_|refine aI ?_|refine aF 0 (hn) ?_|refine aF 0 (hn2) ?_|refine aH hl ?_|refine bh ?_|refine aR ?_|refine aw ?_|refine aB ?_|refine bJ ?_|refine au ?_)|refine aj ?_|refine ab ?_|refine aa fun C=>?_|refine ac ?_|refine ah ?_|refine ar rfl ?_)
    refine ae rqf (fun hC=>absurd (eq_of_beq hC) omq) fun hC=>?_
    repeat' (first|(apply ay;first|refine ak ?_|refine ai ?_|refine bf ?_|refine aI ?_|refine bM ?_|refine aF 0 (ha) ?_|refine aF 0 (hn3) ?_|refine bh ?_|refine aR ?_|refine cH ?_|refine aw ?_|refine bJ ?_|refine au ?_)|refine aj ?_|refine ab ?_|refine aa fun C=>?_|refine ac ?_|refine al ?_|refine aq rfl ?_|refine ar rfl ?_)
    refine am ?_;refine dO rfl (bi (aO rfl (aO rfl (bE rfl rfl rfl cls0 aQ)))) rfl (by first|rfl|(simp [bu,clo,a8,aM,bl,bk,aZ];done)) rfl ⟨?_,?_⟩
    ·rfl
    ·rfl
   ·rw [if_neg h7]
    repeat' (first|(apply ay;first|(refine aK ?_ ?_<;>intro hG<;>(try cases hG))|refine ak ?_|refine ai ?_|refine bf ?_|refine aI ?_|refine aF 0 (hn) ?_|refine aF 0 (hn2) ?_|refine aH hl ?_|refine bh ?_|refine aR ?_|refine aw ?_|refine aB ?_|refine bJ ?_|refine au ?_)|refine aj ?_|refine ab ?_|refine aa fun C=>?_|refine ac ?_|refine ah ?_|refine ar rfl ?_)
    refine ae rqf (fun hC=>absurd (eq_of_beq hC) omq) fun hC=>?_
    repeat' (first|(apply ay;first|refine ak ?_|refine ai ?_|refine aF 0 (ha) ?_|refine aF 0 (hn3) ?_|refine bh ?_|refine aR ?_|refine cH ?_|refine bJ ?_)|refine aj ?_|refine ab ?_|refine aa fun C=>?_|refine ac ?_|refine aq rfl ?_)
    refine ae rqf (fun hC=>?_) fun hC=>absurd (bne_eq_false_iff_eq.1 hC) omq
    repeat' (first|(apply ay;first|refine ak ?_|refine bf ?_|refine bh ?_|refine au ?_)|refine aj ?_|refine ab ?_|refine aa fun C=>?_|refine ac ?_|refine aE ?_)
    refine bc (cR 900 (i:=2) 112 3 rfl rfl (pre:=[_,_]) (post:=[]) rfl) ?_;refine am ?_;refine dO rfl (bi (aO rfl (aO rfl (bE rfl rfl rfl cls0 aQ)))) rfl (by first|rfl|(simp [bu,clo,a8,aM,bl,bk,aZ];done)) rfl ⟨?_,?_⟩
    ·rfl
    ·rfl
 have hr:eY s alt c ⟨a+1,d,b⟩=(dv,⟨a+1,d,true⟩):=by
  unfold eY
  rw [if_neg (by rw [h1];simp),if_neg h2,if_neg h3,if_neg h4,if_neg h5,if_neg h6];rfl
 rw [hr]
 repeat' (first|(apply ay;first|refine ak ?_|refine ai ?_|refine bf ?_|refine aI ?_|refine aF 0 (hn) ?_|refine aH hl ?_|refine bh ?_|refine aw ?_|refine bJ ?_|refine au ?_)|refine aj ?_|refine ab ?_|refine aa fun C=>?_|refine ac ?_|refine ah ?_)
 iterate 5
  (first
    | refine ae rqf (fun hC=>Bool.noConfusion (show false=true from hC)) fun hC=>?_
    | refine ae rqf (fun hC=>absurd (eq_of_beq hC) omq) fun hC=>?_
    | skip)<;>repeat' (first|(apply ay;first|refine bH ?_|(refine aK ?_ ?_<;>intro hG<;>(try cases hG))|refine ak ?_|refine ai ?_|refine aR ?_|refine aB ?_)|refine aj ?_|refine ab ?_|refine aa fun C=>?_|refine ac ?_)
 ·exact absurd (eq_of_beq hG) omq
 iterate 2
  (first
    | refine ae rqf (fun hC=>Bool.noConfusion (show false=true from hC)) fun hC=>?_
    | refine ae rqf (fun hC=>absurd (eq_of_beq hC) omq) fun hC=>?_
    | skip)<;>repeat' (first|(apply ay;first|refine ak ?_|refine ai ?_|refine bf ?_|refine bh ?_|refine aR ?_|refine au ?_)|refine aj ?_|refine ab ?_|refine aa fun C=>?_|refine ac ?_|refine al ?_)
 refine bc (cR 900 (i:=2) 112 3 rfl rfl (pre:=[_,_]) (post:=[]) rfl) ?_;refine am ?_;refine dO rfl (bi (aO rfl (aO rfl (bE rfl rfl rfl cls0 aQ)))) rfl (by first|rfl|(simp [bu,clo,a8,aM,bl,bk,aZ];done)) rfl ⟨?_,?_⟩
 ·rfl
 ·rfl
end Go.Proofs.YtomolhbkdhjofaaGreatDoor
