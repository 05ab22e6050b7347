/- T -/
import Derived.Test.YtomolhbkdhjofaaGreatDoorParXU
set_option maxHeartbeats 0
set_option maxRecDepth 100000
namespace Go.Proofs.YtomolhbkdhjofaaGreatDoor
open Go.RowKit Go.Proofs.Tryz
theorem wF {P:Program}{f:FuncId}{ins ins':List AV}{pars rows:List (List AC)}{res:AV}(h:Ctr P f ins pars res rows)(hle:∀(w:World) (St:Nat→Prop) (φ:Nat→Lc) (K:Nat→Prop) (us:List Value),VRL w St φ K ins' us→VRL w St φ K ins us):Ctr P f ins' pars res rows :=
 ⟨h.1,fun w St φ F us hent=>h.2 w St φ F us ⟨hle _ _ _ _ _ hent.args,hent.row,hent.nod,hent.dis,hent.bxF,hent.bxd,hent.stF,hent.stB,hent.gl⟩⟩
def ksE (ks:List Int):List E:=ks.map (E.int .i64)
theorem zd7 (ks:List Int)(k:Int):((ksE ks).any fun e=>k==intE e)=ks.any (fun x=>k==x):=by
 unfold ksE
 rw [List.any_map]
 rfl
theorem ze7 (ks:List Int):∀e∈ksE ks,e.enc.length=1:=by
 intro e he
 obtain⟨z,_,rfl⟩:=List.mem_map.1 he
 rfl
theorem zl4 (ks:List Int)(hk:∀z∈ks,0≤z∧z≤100)(hl:ks.length≤100)(k:Int):Ctr prog 174 [.c (.ro ks.length 1 (acL (ksE ks))),.c (.v (.int .i64 k))] [] (.c (.v (.bool (ks.any fun x=>k==x)))) []:=by
 have h:=znQ (l:=ksE ks) (fun e he=>by
  obtain⟨z,hz,rfl⟩:=List.mem_map.1 he
  have h1:=hk z hz
  refine⟨underlying3,?_⟩
  have e1:IntKind.i64.min = -9223372036854775808:=rfl
  have e2:IntKind.i64.max=9223372036854775807:=rfl
  simp only [Lit.wf,decide_eq_true_iff,Bool.and_eq_true,e1,e2]
  omega) (ze7 ks) (by unfold ksE;rw [List.length_map];omega) k
 rw [zd7] at h
 unfold ksE at h ⊢
 rw [List.length_map] at h
 exact h
theorem zs1 {w:World}{St:Nat→Prop}{φ:Nat→Lc}{K:Nat→Prop}{k:Nat}{u:Value}(h:VR w St φ K (.c (.v (.slice none 0 0))) u):VR w St φ K (.c (.ro 0 k [])) u:=by
 simp only [VR,CR] at h ⊢
 obtain⟨rfl,-,-⟩:=h
 exact⟨trivial,none,0,rfl,⟨omq,by decide,fun _=>rfl⟩,by simp,fun h=>by omega⟩
theorem zf7 (g:E→ByteArray)(x:E):gH [5] x.rk (g x)=brk g x:=by
 unfold gH brk
 by_cases h:x.rk=5
 ·rw [if_pos (by simp [h]),if_pos h]
 ·rw [if_neg (by simp [h]),if_neg h]
theorem qF (g:E→ByteArray)(x:E):gH [4,5] x.rk (g x)=iv g x:=by
 unfold gH iv
 by_cases h:x.rk=4∨x.rk=5
 ·rw [if_pos (by rcases h with h|h<;>simp [h]),if_pos h]
 ·rw [if_neg (by simp only [not_or] at h;simp [h.1,h.2]),if_neg h]
theorem zt1 (k:Int)(t:ByteArray):gH [] k t=t:=rfl
theorem sm {g:E→ByteArray}{x:E}{B:Nat}(h:(g x).size≤B):(brk g x).size≤B+2:=by
 unfold brk
 split
 ·rw [ByteArray.size_append',ByteArray.size_append']
  have:(ByteArray.mk #[40]).size=1:=rfl
  have:(ByteArray.mk #[41]).size=1:=rfl
  omega
 ·omega
theorem ji {g:E→ByteArray}{x:E}{B:Nat}(h:(g x).size≤B):(iv g x).size≤B+2:=by
 unfold iv
 split
 ·rw [ByteArray.size_append',ByteArray.size_append']
  have:(ByteArray.mk #[40]).size=1:=rfl
  have:(ByteArray.mk #[41]).size=1:=rfl
  omega
 ·omega
theorem pd (g:E→ByteArray)(b:ByteArray)(x:E):∀a:List E,da g b (a++[x])=da g b a++(b++brk g x)
 | []=>by show b++(brk g x++ByteArray.empty)=ByteArray.empty++(b++brk g x);rw [qD,jG]
 | y :: r=>by show b++(brk g y++da g b (r++[x]))=b++(brk g y++da g b r)++(b++brk g x);rw [pd g b x r];simp only [gS]
theorem tC (g:E→ByteArray)(b:ByteArray)(a:List E)(x:E):d6 g b (a++[x])=(if a=[] then ByteArray.empty else d6 g b a++b)++brk g x:=by
 cases a with
 | nil=>show brk g x++ByteArray.empty=ByteArray.empty++brk g x;rw [qD,jG]
 | cons y r =>
  rw [if_neg (by simp)]
  show brk g y++da g b (r++[x])=brk g y++da g b r++b++brk g x
  rw [pd];simp only [gS]
theorem ie (g:E→ByteArray)(b:ByteArray){l:List E}{k:Nat}{x:E}(hx:l[k]? = some x):d6 g b (l.take (k+1))=(if k=0 then ByteArray.empty else d6 g b (l.take k)++b)++brk g x:=by
 obtain⟨hk,-⟩:=List.getElem?_eq_some_iff.1 hx
 rw [List.take_add_one,hx,Option.toList_some,tC]
 congr 1
 by_cases h:k=0
 ·subst h;rfl
 ·rw [if_neg h,if_neg (fun e=>by have:=congrArg List.length e;rw [List.length_take,List.length_nil] at this;omega)]
theorem qG (g:E→ByteArray){l:List E}{k:Nat}{x:E}(hx:l[k]? = some x):d6 g ByteArray.empty (l.take (k+1))=d6 g ByteArray.empty (l.take k)++brk g x:=by
 rw [ie g _ hx]
 congr 1
 by_cases h:k=0
 ·subst h;rfl
 ·rw [if_neg h,qD]
theorem ig {g:E→ByteArray}{b:ByteArray}{B:Nat}{l:List E}(h:∀x∈l,(g x).size≤B):∀k,k≤l.length→(d6 g b (l.take k)).size≤k*(B+2+b.size):=by
 intro k
 induction k with
 | zero=>intro _;exact Nat.zero_le _
 | succ k ih =>
  intro hk
  have h1:=ih omq
  obtain⟨x,hx⟩:∃x,l[k]? = some x:=⟨_,List.getElem?_eq_getElem omq⟩
  have h2:=sm (h x (List.mem_of_getElem? hx))
  rw [ie g b hx,ByteArray.size_append',Nat.add_mul,Nat.one_mul]
  split
  ·have:ByteArray.empty.size=0:=rfl
   omega
  ·rw [ByteArray.size_append'];omega
def tlE (g:E→ByteArray)(l:List E):List E:=l.map fun x=>.str (g x)
theorem wG (g:E→ByteArray)(l:List E):(tlE g l).length=l.length:=List.length_map ..
theorem sn (g:E→ByteArray){l:List E}{k:Nat}{x:E}(hx:l[k]? = some x):tlE g (l.take (k+1))=tlE g (l.take k)++[.str (g x)]:=by
 unfold tlE
 rw [List.take_add_one,hx,Option.toList_some,List.map_append];rfl
theorem zoQ (g:E→ByteArray)(b:ByteArray){l:List E}(h:∀x∈l,x.rk≠5):∀k,k≤l.length→jA (tlE g (l.take k)) b=d6 g b (l.take k):=by
 intro k
 induction k with
 | zero=>intro _;rfl
 | succ k ih =>
  intro hk
  have h1:=ih omq
  obtain⟨x,hx⟩:∃x,l[k]? = some x:=⟨_,List.getElem?_eq_getElem omq⟩
  have hb:brk g x=g x:=if_neg (h x (List.mem_of_getElem? hx))
  rw [sn g hx,tl,ie g b hx,hb,h1]
  congr 1
  by_cases h0:k=0
  ·subst h0;rfl
  ·rw [if_neg h0,if_neg (fun e=>by have:=congrArg List.length e;rw [wG,List.length_take,List.length_nil] at this;omega)]
theorem pf {f:Nat}{e:E}(h:bJ (f+1) e≤60):mq e=true∧∀x∈e.rl,bJ f x≤60:=by
 unfold bJ at h
 split at h
 ·rename_i hh;exact⟨hh,(iJ h).2⟩
 ·omega
theorem kG {f:Nat}{e:E}(h:bJ f e≤60):(aP f e).size≤960:=by have:=mQ f e h;omega
theorem wH (f:Nat):∀(e:E),e.Ty prog 112→e.sz≤4194304→bJ f e≤60→∀ks:List Int,(∀z∈ks,0≤z∧z≤100)→ks.length≤100→Ctr prog 155 [.ag (acE e),.c (.ro ks.length 1 (acL (ksE ks)))] [] (.c (.v (.string (gH ks e.rk (aP f e))))) []:=by
 induction f with
 | zero=>intro e _ _ h;exact absurd h (by unfold bJ;omega)
 | succ f ih =>
  intro e he hsz hp ks hks hl
  obtain⟨hhd,hkid⟩:=pf hp
  have hts:=kG hp
  obtain⟨x0,x1,x2A,x2c,l,rfl,gx0,gx1,gx2,-⟩:=aR he
  simp only [E.sz,E.szL] at hsz
  have hkid:∀x∈l,bJ f x≤60:=hkid
  have hxs:∀x∈l,(aP f x).size≤960:=fun x hx=>kG (hkid x hx)
  have hh2:=hhd
  rw [nS] at hh2
  simp only [Bool.and_eq_true,Bool.not_eq_true'] at hh2
  obtain⟨hh,hno⟩:=hh2
  show Ctr _ _ _ _ (.c (.v (.string (gH ks x0 _)))) _
  have c1:=zl4 ks hks hl x0
  refine ay func155 rfl rfl ?_
  rcases dq hh with ⟨rfl,h1,h2,h3⟩|⟨rfl,h1,h3⟩|⟨rfl|rfl|rfl|rfl,h1,h3⟩|⟨rfl|rfl,h1,h2,h3⟩|⟨rfl|rfl|rfl,h1,y,h3,h4⟩
  case inl =>
   repeat' (first|(apply av;first|refine ak ?_|refine ai ?_|refine ba ?_|refine aI ?_|refine aG c1 ?_|refine ao ?_|refine fU ?_|refine cB ?_)|refine aj ?_|refine ab ?_|refine aa fun C=>?_|refine ac ?_|refine ah ?_|refine al ?_|(refine ae (by rfl) ?_ ?_<;>intro hC<;>(try cases hC)))
   all_goals
    refine am ?_
    refine bv rfl aJ ⟨?_,rfl⟩
    unfold gH;rw [hC];rfl
  case inr.inl =>
   repeat' (first|(apply av;first|refine ak ?_|refine ai ?_|refine ba ?_|refine aI ?_|refine aG c1 ?_|refine ao ?_|refine fU ?_|refine cB ?_)|refine aj ?_|refine ab ?_|refine aa fun C=>?_|refine ac ?_|refine ah ?_|refine al ?_|(refine ae (by rfl) ?_ ?_<;>intro hC<;>(try cases hC)))
   all_goals
    refine am ?_
    refine bv rfl aJ ⟨?_,rfl⟩
    unfold gH;rw [hC];rfl
  case inr.inr.inl.inl =>
   repeat' (first|(apply av;first|refine ak ?_|refine ai ?_|refine ba ?_|refine aI ?_|refine aG c1 ?_|refine ao ?_|refine fU ?_|refine cB ?_)|refine aj ?_|refine ab ?_|refine aa fun C=>?_|refine ac ?_|refine ah ?_|refine al ?_|(refine ae (by rfl) ?_ ?_<;>intro hC<;>(try cases hC)))
   all_goals
    refine am ?_
    refine bv rfl aJ ⟨?_,rfl⟩
    unfold gH;rw [hC];rfl
  case inr.inr.inl.inr.inl =>
   repeat' (first|(apply av;first|refine ak ?_|refine ai ?_|refine ba ?_|refine aI ?_|refine aG c1 ?_|refine ao ?_|refine fU ?_|refine cB ?_)|refine aj ?_|refine ab ?_|refine aa fun C=>?_|refine ac ?_|refine ah ?_|refine al ?_|(refine ae (by rfl) ?_ ?_<;>intro hC<;>(try cases hC)))
   all_goals
    refine am ?_
    refine bv rfl aJ ⟨?_,rfl⟩
    unfold gH;rw [hC];rfl
  case inr.inr.inl.inr.inr.inl =>
   repeat' (first|(apply av;first|refine ak ?_|refine ai ?_|refine ba ?_|refine aI ?_|refine aG c1 ?_|refine ao ?_|refine fU ?_|refine cB ?_)|refine aj ?_|refine ab ?_|refine aa fun C=>?_|refine ac ?_|refine ah ?_|refine al ?_|(refine ae (by rfl) ?_ ?_<;>intro hC<;>(try cases hC)))
   all_goals
    refine am ?_
    refine bv rfl aJ ⟨?_,rfl⟩
    unfold gH;rw [hC];rfl
  case inr.inr.inl.inr.inr.inr =>
   repeat' (first|(apply av;first|refine ak ?_|refine ai ?_|refine ba ?_|refine aI ?_|refine aG c1 ?_|refine ao ?_|refine fU ?_|refine cB ?_)|refine aj ?_|refine ab ?_|refine aa fun C=>?_|refine ac ?_|refine ah ?_|refine al ?_|(refine ae (by rfl) ?_ ?_<;>intro hC<;>(try cases hC)))
   all_goals
    refine am ?_
    refine bv rfl aJ ⟨?_,rfl⟩
    unfold gH;rw [hC];rfl
  case inr.inr.inr.inl.inl =>
   have hte:aP (f+1) (E.agg [E.int .i64 4,E.str x1,E.lst 3 112 x2A x2c l])=d6 (aP f) ByteArray.empty l:=rfl
   rw [hte]
   repeat' (first|(apply av;first|refine ai ?_|refine ba ?_|refine aI ?_|refine ao ?_|refine cB ?_)|refine aj ?_|refine ab ?_|refine aa fun C=>?_|refine ac ?_|refine ah ?_)
   iterate 10
    (first
      | refine ae (by rfl) (fun hC=>Bool.noConfusion (show false=true from hC)) fun hC=>?_
      | refine ae (by rfl) (fun hC=>?_) fun hC=>Bool.noConfusion (show true=false from hC)
      | skip)<;>repeat' (first|(apply av;first|refine ak ?_|refine ai ?_|refine ba ?_|refine aI ?_|refine bN ?_|refine ao ?_)|refine aj ?_|refine ab ?_|refine aa fun C=>?_|refine ac ?_|refine ah ?_)
   refine aZ (fun k:Nat=>⟨e8 [(1,.c (.ro ks.length 1 (acL (ksE ks)))),(2,.c (.pt 2 0)),(5,.c (.v (.string (d6 (aP f) ByteArray.empty (l.take k))))),(28,.c (.ro l.length 3 (acL l))),(29,.c (.v (.int .i64 l.length))),(30,.c (.v (.int .i64 k)))],eT [(2,2,⟨112,0,0,true,[.v (.int .i64 4),.v (.string x1),.ro l.length 3 (acL l)]⟩)],0,[2],98⟩)
    (fun N k=>k+N=l.length) l.length 0 omq ?_ ?_
   ·(refine aN _ _ rfl rfl ?_ ?_<;>exact tdy0)
   rintro N k hN
   repeat' (first|(apply av;refine aE ?_)|refine aj ?_|refine ab ?_|refine aa fun C=>?_|refine ac ?_)
   refine ae (by rfl) (fun hk1=>?_) fun hk1=>?_
   ·have hk':k<l.length:=by simpa using hk1
    obtain⟨x,hx⟩:∃x,l[k]? = some x:=⟨_,List.getElem?_eq_getElem hk'⟩
    have hxm:=List.mem_of_getElem? hx
    have hxt:=gx2.1 x hxm
    have hxz:=E.szL_mem hxm
    have c2:=ih x hxt omq (hkid x hxm) [5] (by simp) (by simp)
    rw [zf7] at c2
    have hgk:=gx2.2
    have hz1:=ig (b:=ByteArray.empty) hxs k omq
    have hz2:=sm (hxs x hxm)
    have e0:ByteArray.empty.size=0:=rfl
    rw [e0] at hz1
    have e:=qG (aP f) hx
    obtain⟨y0,y1,y2A,y2c,y2l,rfl,gy0,gy1,gy2,-⟩:=aR hxt
    repeat' (first|(apply av;first|refine ak ?_|refine ai ?_|refine cS ?_|refine bL ?_|refine aG c2 ?_|refine bg ?_|refine iZ ?_|refine aw ?_|refine fU ?_|refine bI ?_|refine ec ?_)|refine aj ?_|refine ab ?_|refine aa fun C=>?_|refine ac ?_|refine ah ?_|refine al ?_)
    refine⟨N-1,k+1,omq,omq,?_⟩
    rw [e]
    (refine aN _ _ rfl rfl ?_ ?_<;>exact tdy0)
   ·have hk':¬k<l.length:=by simpa using hk1
    rw [List.take_of_length_le omq]
    have hz1:=ig (b:=ByteArray.empty) hxs l.length omq
    rw [List.take_length] at hz1
    have e0:ByteArray.empty.size=0:=rfl
    rw [e0] at hz1
    repeat' (first|(apply av;first|refine ak ?_|refine ai ?_|refine ba ?_|refine aI ?_|refine aG c1 ?_|refine fU ?_)|refine aj ?_|refine ab ?_|refine aa fun C=>?_|refine ac ?_|refine al ?_|refine aB ?_|(refine ae (by rfl) ?_ ?_<;>intro hC<;>(try cases hC)))
    all_goals
     refine am ?_
     refine bv rfl aJ ⟨?_,rfl⟩
     unfold gH;rw [hC];rfl
  case inr.inr.inr.inl.inr =>
   have hte:aP (f+1) (E.agg [E.int .i64 5,E.str x1,E.lst 3 112 x2A x2c l])=d6 (aP f) ⟨#[124]⟩ l:=rfl
   rw [hte]
   have hk5:∀x∈l,x.rk≠5:=fun x hx hx5=>by
    have hno':(l.any fun x=>x.rk==5)=false:=by simpa using hno
    rw [List.any_eq_false] at hno'
    exact hno' x hx (by simp [hx5])
   repeat' (first|(apply av;first|refine ai ?_|refine ba ?_|refine aI ?_|refine ao ?_|refine cB ?_)|refine aj ?_|refine ab ?_|refine aa fun C=>?_|refine ac ?_|refine ah ?_)
   iterate 12
    (first
      | refine ae (by rfl) (fun hC=>Bool.noConfusion (show false=true from hC)) fun hC=>?_
      | refine ae (by rfl) (fun hC=>?_) fun hC=>Bool.noConfusion (show true=false from hC)
      | skip)<;>repeat' (first|(apply av;first|refine ak ?_|refine ai ?_|refine ba ?_|refine aI ?_|refine bN ?_|refine ao ?_)|refine aj ?_|refine ab ?_|refine aa fun C=>?_|refine ac ?_|refine ah ?_)
   refine aZ (fun k:Nat=>⟨e8 [(1,.c (.ro ks.length 1 (acL (ksE ks)))),(2,.c (.pt 2 0)),(8,.c (.sl 9 k)),(43,.c (.ro l.length 3 (acL l))),(44,.c (.v (.int .i64 l.length))),(45,.c (.v (.int .i64 k)))],eT [(2,2,⟨112,0,0,true,[.v (.int .i64 5),.v (.string x1),.ro l.length 3 (acL l)]⟩),(9,9,⟨9,1,k,false,owL (tlE (aP f) (l.take k))⟩)],0,[2,9],98⟩)
    (fun N k=>k+N=l.length) l.length 0 omq ?_ ?_
   ·refine (jR 9 (t:=8) 9 1 rfl rfl).trans ?_
    (refine aN _ _ rfl rfl ?_ ?_<;>exact tdy0)
   rintro N k hN
   repeat' (first|(apply av;refine aE ?_)|refine aj ?_|refine ab ?_|refine aa fun C=>?_|refine ac ?_)
   refine ae (by rfl) (fun hk1=>?_) fun hk1=>?_
   ·have hk':k<l.length:=by simpa using hk1
    obtain⟨x,hx⟩:∃x,l[k]? = some x:=⟨_,List.getElem?_eq_getElem hk'⟩
    have hxm:=List.mem_of_getElem? hx
    have hxt:=gx2.1 x hxm
    have hxz:=E.szL_mem hxm
    have c2:=ih x hxt omq (hkid x hxm) [] (by simp) (by simp)
    rw [zt1] at c2
    have c3:=wF c2 (ins':=[.ag (acE x),.c (.v (.slice none 0 0))]) fun w St φ K us h=>by
     simp only [VRL] at h ⊢
     obtain⟨u,us',rfl,h1,u2,us2,rfl,h2,h3⟩:=h
     exact⟨u,_,rfl,h1,u2,us2,rfl,zs1 h2,h3⟩
    have hgk:=gx2.2
    have e:=sn (aP f) hx
    obtain⟨y0,y1,y2A,y2c,y2l,rfl,gy0,gy1,gy2,-⟩:=aR hxt
    repeat' (first|(apply av;first|refine ak ?_|refine ai ?_|refine cS ?_|refine bL ?_|refine aG c3 ?_|refine ip ?_|refine bg ?_|refine iZ ?_|refine aw ?_|refine bI ?_|refine ec ?_)|refine aj ?_|refine ab ?_|refine aa fun C=>?_|refine ac ?_|refine ah ?_|refine al ?_)
    refine⟨N-1,k+1,omq,omq,?_⟩
    rw [e]
    (refine eu (fun j=>if j=9 then 53 else j) _ _ rfl rfl ?_ ?_<;>(repeat' (first|exact TmOk.nil|exact RwOk.nil|refine TmOk.cons ?_ ?_|refine RwOk.cons ?_ ?_|rfl|(refine rnV_id' rfl ?_;exact byc)|(refine cE ?_;first|rfl|omega|(rw [bA omq omq];omega))|(refine bf rfl ?_;exact byc)|exact dH rfl rfl|(refine rw_mid (by rfl) (by rfl) ?_ ?_<;>exact byc)|(refine rw_rn' rfl rfl ?_;simp;done))))
    exact fa (r:=⟨9,1,k+1,false,owL (tlE (aP f) (l.take k))++[.v (.string (aP f (E.agg [E.int .i64 y0,E.str y1,E.lst 3 112 y2A y2c y2l])))]⟩) rfl (by rw [fj];rfl) (by first|rfl|(simp [oO,bl,clo,bi,aL,bj,a8,aX];done))
   ·have hk':¬k<l.length:=by simpa using hk1
    obtain rfl:k=l.length:=by omega
    have hz1:=ig (b:=⟨#[124]⟩) hxs l.length omq
    have hj:=zoQ (aP f) ⟨#[124]⟩ hk5 l.length omq
    rw [List.take_length] at hz1 hj ⊢
    have e0:(ByteArray.mk #[124]).size=1:=rfl
    rw [e0] at hz1
    have hql:(tlE (aP f) l).length=l.length:=wG _ _
    have c4:=zh1 (l:=tlE (aP f) l) (fun e he=>by obtain⟨y,_,rfl⟩:=List.mem_map.1 he;exact⟨_,rfl⟩) ⟨#[124]⟩ omq (by rw [hj];omega)
    rw [hql,hj] at c4
    repeat' (first|(apply av;first|refine ak ?_|refine ai ?_|refine ba ?_|refine aI ?_|refine aG c4 ?_|refine aG c1 ?_|refine fU ?_)|refine aj ?_|refine ab ?_|refine aa fun C=>?_|refine ac ?_|refine al ?_|refine aB ?_|(refine ae (by rfl) ?_ ?_<;>intro hC<;>(try cases hC)))
    all_goals
     refine am ?_
     refine bv rfl aJ ⟨?_,rfl⟩
     unfold gH;rw [hC];rfl
  case inr.inr.inr.inr.inl =>
   subst h3
   have hym:y∈[y]:=List.mem_singleton.2 rfl
   have hyt:=gx2.1 y hym
   have hyz:=E.szL_mem hym
   have hte:aP (f+1) (E.agg [E.int .i64 6,E.str x1,E.lst 3 112 x2A x2c [y]])=iv (aP f) y++⟨#[42]⟩:=rfl
   rw [hte]
   have c2:=ih y hyt omq (hkid y hym) [4,5] (by simp) (by simp)
   rw [qF] at c2
   have hgk:=gx2.2
   have hz2:=ji (hxs y hym)
   have hy0:[y][0]? = some y:=rfl
   obtain⟨y0,y1,y2A,y2c,y2l,rfl,gy0,gy1,gy2,-⟩:=aR hyt
   repeat' (first|(apply av;first|refine ak ?_|refine ai ?_|refine ba ?_|refine aI ?_|refine cS ?_|refine aG c2 ?_|refine aG c1 ?_|refine iZ ?_|refine ao ?_|refine fU ?_|refine cB ?_|refine ec ?_)|refine aj ?_|refine ab ?_|refine aa fun C=>?_|refine ac ?_|refine ah ?_|refine al ?_|(refine ae (by rfl) ?_ ?_<;>intro hC<;>(try cases hC)))
   all_goals
    refine am ?_
    refine bv rfl aJ ⟨?_,rfl⟩
    unfold gH;rw [hC];rfl
  case inr.inr.inr.inr.inr.inl =>
   subst h3
   have hym:y∈[y]:=List.mem_singleton.2 rfl
   have hyt:=gx2.1 y hym
   have hyz:=E.szL_mem hym
   have hte:aP (f+1) (E.agg [E.int .i64 7,E.str x1,E.lst 3 112 x2A x2c [y]])=iv (aP f) y++⟨#[43]⟩:=rfl
   rw [hte]
   have c2:=ih y hyt omq (hkid y hym) [4,5] (by simp) (by simp)
   rw [qF] at c2
   have hgk:=gx2.2
   have hz2:=ji (hxs y hym)
   have hy0:[y][0]? = some y:=rfl
   obtain⟨y0,y1,y2A,y2c,y2l,rfl,gy0,gy1,gy2,-⟩:=aR hyt
   repeat' (first|(apply av;first|refine ak ?_|refine ai ?_|refine ba ?_|refine aI ?_|refine cS ?_|refine aG c2 ?_|refine aG c1 ?_|refine iZ ?_|refine ao ?_|refine fU ?_|refine cB ?_|refine ec ?_)|refine aj ?_|refine ab ?_|refine aa fun C=>?_|refine ac ?_|refine ah ?_|refine al ?_|(refine ae (by rfl) ?_ ?_<;>intro hC<;>(try cases hC)))
   all_goals
    refine am ?_
    refine bv rfl aJ ⟨?_,rfl⟩
    unfold gH;rw [hC];rfl
  case inr.inr.inr.inr.inr.inr =>
   subst h3
   have hym:y∈[y]:=List.mem_singleton.2 rfl
   have hyt:=gx2.1 y hym
   have hyz:=E.szL_mem hym
   have hte:aP (f+1) (E.agg [E.int .i64 8,E.str x1,E.lst 3 112 x2A x2c [y]])=iv (aP f) y++⟨#[63]⟩:=rfl
   rw [hte]
   have c2:=ih y hyt omq (hkid y hym) [4,5] (by simp) (by simp)
   rw [qF] at c2
   have hgk:=gx2.2
   have hz2:=ji (hxs y hym)
   have hy0:[y][0]? = some y:=rfl
   obtain⟨y0,y1,y2A,y2c,y2l,rfl,gy0,gy1,gy2,-⟩:=aR hyt
   repeat' (first|(apply av;first|refine ak ?_|refine ai ?_|refine ba ?_|refine aI ?_|refine cS ?_|refine aG c2 ?_|refine aG c1 ?_|refine iZ ?_|refine ao ?_|refine fU ?_|refine cB ?_|refine ec ?_)|refine aj ?_|refine ab ?_|refine aa fun C=>?_|refine ac ?_|refine ah ?_|refine al ?_|(refine ae (by rfl) ?_ ?_<;>intro hC<;>(try cases hC)))
   all_goals
    refine am ?_
    refine bv rfl aJ ⟨?_,rfl⟩
    unfold gH;rw [hC];rfl
theorem nT {e:E}(he:e.Ty prog 112)(hsz:e.sz≤4194304):Ctr prog 138 [.ag (acE e)] [] (.c (.v (.string (kq e)))) []:=by
 have c1:=lE he hsz
 cases hr:eh e with
 | false =>
  have hres:kq e=ByteArray.empty:=by unfold kq;rw [hr];rfl
  rw [hres]
  rw [hr] at c1
  clear hres hr
  obtain⟨x0,x1,x2A,x2c,l,rfl,gx0,gx1,gx2,-⟩:=aR he
  refine ay func138 rfl rfl ?_
  repeat' (first|(apply av;first|refine ai ?_|refine bL ?_|refine aG c1 ?_|refine bM ?_|refine cB ?_)|refine aj ?_|refine ab ?_|refine aa fun C=>?_|refine ac ?_|(refine ae (by rfl) ?_ ?_<;>intro hC<;>(try cases hC)))
  refine am ?_
  exact bv rfl aJ ⟨rfl,rfl⟩
 | true =>
  have hres:kq e=aP 6 e:=by unfold kq;rw [hr];rfl
  rw [hres]
  have hp:bJ 6 e≤60:=by unfold eh at hr;simpa using hr
  have c2:=wH 6 e he hsz hp [] (by simp) (by simp)
  rw [zt1] at c2
  have c3:=wF c2 (ins':=[.ag (acE e),.c (.v (.slice none 0 0))]) fun w St φ K us h=>by
   simp only [VRL] at h ⊢
   obtain⟨u,us',rfl,h1,u2,us2,rfl,h2,h3⟩:=h
   exact⟨u,_,rfl,h1,u2,us2,rfl,zs1 h2,h3⟩
  rw [hr] at c1
  clear hres hr c2 hp
  obtain⟨x0,x1,x2A,x2c,l,rfl,gx0,gx1,gx2,-⟩:=aR he
  refine ay func138 rfl rfl ?_
  repeat' (first|(apply av;first|refine ai ?_|refine bL ?_|refine aG c1 ?_|refine aG c3 ?_|refine bM ?_|refine cB ?_)|refine aj ?_|refine ab ?_|refine aa fun C=>?_|refine ac ?_|refine al ?_|(refine ae (by rfl) ?_ ?_<;>intro hC<;>(try cases hC)))
  refine am ?_
  exact bv rfl aJ ⟨rfl,rfl⟩
end Go.Proofs.YtomolhbkdhjofaaGreatDoor
