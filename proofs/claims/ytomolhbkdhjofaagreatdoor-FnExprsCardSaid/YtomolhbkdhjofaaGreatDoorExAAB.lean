/- T -/
import Derived.Test.YtomolhbkdhjofaaGreatDoorExAAA
set_option maxHeartbeats 0
set_option maxRecDepth 100000
namespace Go.Proofs.YtomolhbkdhjofaaGreatDoor
open Go.RowKit Go.Proofs.Tryz
def canF:Nat→E→E
 | 0,e=>e
 | f+1,e=>match e with
  | .agg [.int _ k,.int _ n,.str s,.lst _ _ _ _ l]=>xE k n s (l.map (canF f))
  | e=>e
def gk (e:E):E:=canF (e.sz+1) e
theorem pV:∀(n f:Nat) (e:E),e.sz<n→e.sz<f→canF f e=gk e
 | 0,_,_,h,_=>absurd h (Nat.not_lt_zero _)
 | n+1,0,_,_,h=>absurd h (Nat.not_lt_zero _)
 | n+1,f+1,e,h1,h2=>by
  have key:∀x∈dh e,canF f x=canF e.sz x:=fun x hx=>by
   have hs:=dR e x hx
   rw [pV n f x omq omq,pV n e.sz x omq hs]
  unfold gk
  unfold canF
  split
  ·rename_i k n' s T A c m l
   congr 1
   exact List.map_congr_left key
  ·rfl
theorem k9 (i j:IntKind)(k n:Int)(s:ByteArray)(w:Nat)(T:TypeId)(A:Option Addr)(c:Nat)(l:List E):gk (.agg [.int i k,.int j n,.str s,.lst w T A c l])=xE k n s (l.map gk):=by
 show xE k n s (l.map (canF (E.sz (.agg [.int i k,.int j n,.str s,.lst w T A c l]))))=_
 congr 1
 refine List.map_congr_left fun x hx=>?_
 exact pV (x.sz+1) _ x omq (dR _ x hx)
section
variable {L:List T3}{r:RS}{t:T3}{rest:List T3}
theorem bY (h:L.drop r.a=t :: rest):r.a<L.length∧tAt L r.a=t∧L.drop (r.a+1)=rest:=by
 have hlt:r.a<L.length:=Classical.byContradiction fun q=>by
  rw [List.drop_eq_nil_of_le omq] at h;cases h
 have h2:=List.drop_eq_getElem_cons hlt
 rw [h] at h2
 injection h2 with h3 h4
 refine⟨hlt,?_,h4.symm⟩
 unfold tAt
 rw [List.getD_eq_getElem?_getD,List.getElem?_eq_getElem hlt,Option.getD_some]
 exact h3.symm
theorem jH (h:L.drop r.a=t :: rest)(hb:r.b=false)(k:Int)(s:ByteArray):m9 L r k s=(decide (t.1=k)&&decide (t.2.2=s)):=by
 obtain⟨h1,h2,-⟩:=bY h
 unfold m9
 rw [hb,h2,decide_eq_true h1];rfl
theorem ey {k n:Int}{s:ByteArray}(h:L.drop r.a=(k,n,s) :: rest)(hb:r.b=false):m9 L r k s=true:=by rw [jH h hb];simp
theorem ie {s:ByteArray}(h:L.drop r.a=(5,0,s) :: rest)(hb:r.b=false):mkS L r s=r.up:=by
 unfold mkS;rw [if_pos (ey h hb)]
theorem fU {k:Int}(h:L.drop r.a=t :: rest)(hb:r.b=false)(hk:t.1=k):fF L r k=(t,r.up):=by
 obtain⟨h1,h2,-⟩:=bY h
 unfold fF
 rw [if_neg (by rintro (q|q|q);·rw [hb] at q;cases q
                ·exact q h1
                ·rw [h2] at q;exact q hk),h2]
theorem we (h:L.drop r.a=[])(k:Int)(s:ByteArray):m9 L r k s=false:=by
 have:¬r.a<L.length:=fun q=>by
  have:=List.drop_eq_getElem_cons q
  rw [h] at this;cases this
 unfold m9
 rw [decide_eq_false this];simp
end
def nfol (rest:List T3):Prop:=∀t r,rest=t :: r→¬(t.1=5∧(t.2.2=⟨#[40]⟩∨t.2.2=⟨#[91]⟩))
theorem zo2 {L:List T3}{r:RS}{rest:List T3}(h:L.drop r.a=rest)(hf:nfol rest)(hb:r.b=false):m9 L r 5 ⟨#[40]⟩=false∧m9 L r 5 ⟨#[91]⟩=false:=by
 cases rest with
 | nil=>exact⟨we h _ _,we h _ _⟩
 | cons t q =>
  have:=hf t q rfl
  rw [jH h hb,jH h hb]
  simp only [Bool.and_eq_false_iff,decide_eq_false_iff_not]
  constructor
  ·by_cases h5:t.1=5
   ·right;exact fun h=>this ⟨h5,.inl h⟩
   ·left;exact h5
  ·by_cases h5:t.1=5
   ·right;exact fun h=>this ⟨h5,.inr h⟩
   ·left;exact h5
def Bk (L:List T3)(g:RS→E×RS)(e:E)(d:Nat):Prop:=∀r rest,r.b=false→r.d=d→L.drop r.a=tkE e++rest→nfol rest→g r=(gk e,⟨r.a+(tkE e).length,false,d⟩)
def fstT (t:T3):Prop:=t.1≠5∨t.2.2=⟨#[40]⟩∨t.2.2=⟨#[36]⟩∨t.2.2=⟨#[33]⟩∨t.2.2=⟨#[45]⟩
theorem na {e:E}(h:okX e=true):∃t l,tkE e=t :: l∧fstT t:=by
 obtain⟨-,h2⟩:=j8 h
 unfold mY at h2
 split at h2
 ·rename_i i k j m s w T A c l
  unfold tkE
  rw [gZ]
  rcases oD h2 with ⟨rfl,-,-⟩|rfl|rfl|⟨rfl|rfl,-⟩|⟨rfl|rfl|rfl|rfl|rfl,-⟩|⟨rfl,-⟩|⟨rfl,-⟩|⟨rfl,-⟩|rfl|rfl|rfl|rfl|rfl
  all_goals first
   | exact⟨_,_,rfl,.inl (by decide)⟩
   | exact⟨_,_,rfl,.inl (fun h=>by dsimp only at h;omega)⟩
   | exact⟨_,_,rfl,.inr (.inl rfl)⟩
   | exact⟨_,_,rfl,.inr (.inr (.inl rfl))⟩
   | exact⟨_,_,rfl,.inr (.inr (.inr (.inl rfl)))⟩
   | exact⟨_,_,rfl,.inr (.inr (.inr (.inr rfl)))⟩
 ·cases h2
theorem gD {m:ByteArray}{rest:List T3}(h1:m≠⟨#[40]⟩)(h2:m≠⟨#[91]⟩):nfol ((5,0,m) :: rest):=fun t r h=>by
 injection h with h3 h4
 subst h3
 rintro ⟨-,q|q⟩
 ·exact h1 q
 ·exact h2 q
theorem zu4 {k n:Int}{m:ByteArray}{rest:List T3}(h:k≠5):nfol ((k,n,m) :: rest):=fun t r hh=>by
 injection hh with h3 h4
 subst h3
 exact fun q=>h q.1
theorem cz {L:List T3}{a:Nat}{l rest:List T3}(h:L.drop a=l++rest):L.drop (a+l.length)=rest:=by
 rw [←List.drop_drop,h,List.drop_left]
theorem rj {L:List T3}{g:RS→E×RS}{d:Nat}:∀(l:List E) (n:Nat) (acc:List E) (r:RS) (rest:List T3),l≠[]→l.length≤n→(∀x∈l,Bk L g x d)→r.b=false→r.d=d→L.drop r.a=jtk l++(5,0,⟨#[41]⟩) :: rest→lstS L g n acc r=(acc++l.map gk,⟨r.a+(jtk l).length,false,d⟩)
 | [],_,_,_,_,h,_,_,_,_,_=>absurd rfl h
 | [x],n+1,acc,r,rest,_,_,hx,hb,hd,h=>by
  have h1:=hx x (List.mem_cons_self ..) r ((5,0,⟨#[41]⟩) :: rest) hb hd h (gD (by decide) (by decide))
  unfold lstS
  rw [if_neg (by rw [hb];simp),h1]
  have h2:L.drop (r.a+(tkE x).length)=(5,0,⟨#[41]⟩) :: rest:=cz h
  have h3:m9 L ⟨r.a+(tkE x).length,false,d⟩ 5 ⟨#[44]⟩=false:=by
   rw [jH (r:=⟨r.a+(tkE x).length,false,d⟩) h2 rfl]
   decide
  have h4:(isS L ⟨r.a+(tkE x).length,false,d⟩ 5 ⟨#[44]⟩).1=false:=by unfold isS;rw [if_neg (by rw [h3];simp)]
  dsimp only
  rw [if_neg (by rw [h4];simp)]
  rfl
 | x :: y :: l,n+1,acc,r,rest,_,hn,hx,hb,hd,h=>by
  rw [g8 x (by simp),List.append_assoc] at h
  have h1:=hx x (List.mem_cons_self ..) r _ hb hd h (gD (by decide) (by decide))
  have h2:L.drop (r.a+(tkE x).length)=(5,0,⟨#[44]⟩) :: (jtk (y :: l)++(5,0,⟨#[41]⟩) :: rest):=cz h
  have h3:m9 L ⟨r.a+(tkE x).length,false,d⟩ 5 ⟨#[44]⟩=true:=ey (r:=⟨r.a+(tkE x).length,false,d⟩) h2 rfl
  have h5:=(bY (r:=⟨r.a+(tkE x).length,false,d⟩) h2).2.2
  unfold lstS
  rw [if_neg (by rw [hb];simp),h1]
  dsimp only
  have h4:isS L ⟨r.a+(tkE x).length,false,d⟩ 5 ⟨#[44]⟩=(true,⟨r.a+(tkE x).length+1,false,d⟩):=by unfold isS;rw [if_pos h3];rfl
  rw [h4,if_pos rfl]
  rw [rj (y :: l) n _ ⟨r.a+(tkE x).length+1,false,d⟩ rest (by simp) (by simp only [List.length_cons] at hn ⊢;omega) (fun z hz=>hx z (List.mem_cons_of_mem _ hz)) rfl rfl h5]
  rw [g8 x (by simp)]
  simp only [List.length_append,List.length_cons,List.map_cons,List.append_assoc,List.singleton_append,Prod.mk.injEq,RS.mk.injEq,and_true,true_and]
  omega
theorem pW:∀{l:List E},(∀x∈l,okX x=true)→l.length≤(jtk l).length
 | [],_=>Nat.zero_le _
 | [x],h=>by
  obtain⟨t,q,e,-⟩:=na (h x (List.mem_cons_self ..))
  show 1≤(tkE x).length
  rw [e];simp
 | x :: y :: l,h=>by
  have h1:=pW (l:=y :: l) fun z hz=>h z (List.mem_cons_of_mem _ hz)
  rw [g8 x (by simp),List.length_append,List.length_cons]
  simp only [List.length_cons] at h1 ⊢
  omega
theorem wg {l:List E}(h:∀x∈l,okX x=true)(hne:l≠[]):∃t q,jtk l=t :: q∧fstT t:=by
 match l,hne with
 | [x],_=>exact na (h x (List.mem_cons_self ..))
 | x :: y :: l,_ =>
  obtain⟨t,q,e,hf⟩:=na (h x (List.mem_cons_self ..))
  rw [g8 x (by simp),e]
  exact⟨t,_,rfl,hf⟩
theorem wh {L:List T3}{g:RS→E×RS}{d:Nat}{l:List E}{m:Int}{r:RS}{rest:List T3}(hx:∀x∈l,Bk L g x d)(ho:∀x∈l,okX x=true)(hb:r.b=false)(hd:r.d=d)(h:L.drop r.a=(5,0,⟨#[40]⟩) :: (jtk l++(5,0,⟨#[41]⟩) :: rest))(hm:m<0∨(l.length:Int)=m):iT L g m r=(l.map gk,⟨r.a+((jtk l).length+2),false,d⟩):=by
 have h1:=ie h hb
 have h2:=(bY h).2.2
 obtain⟨ra,rb,rd⟩:=r
 dsimp only at hb hd h h2
 subst hb hd
 unfold iT
 rw [h1]
 unfold RS.up
 dsimp only
 by_cases hl:l=[]
 ·subst hl
  have h3:isS L ⟨ra+1,false,rd⟩ 5 ⟨#[41]⟩=(true,⟨ra+2,false,rd⟩):=by unfold isS;rw [if_pos (ey (r:=⟨ra+1,false,rd⟩) h2 rfl)];rfl
  rw [h3,if_pos rfl]
  have:decide (0<m)=false:=by simp at hm ⊢;omega
  rw [this]
  rfl
 ·obtain⟨t,q,e,hf⟩:=wg ho hl
  have h3:(isS L ⟨ra+1,false,rd⟩ 5 ⟨#[41]⟩).1=false:=by
   unfold isS
   rw [if_neg]
   rw [e,List.cons_append] at h2
   rw [jH (r:=⟨ra+1,false,rd⟩) h2 rfl]
   simp only [Bool.and_eq_true,decide_eq_true_iff]
   rintro ⟨q1,q2⟩
   rcases hf with hf|hf|hf|hf|hf
   ·exact hf q1
   all_goals (rw [hf] at q2;revert q2;decide)
  rw [if_neg (by rw [h3];simp)]
  have hlen:l.length≤L.length+1:=by
   have a1:=pW ho
   have a2:(L.drop (ra+1)).length=(jtk l++(5,0,⟨#[41]⟩) :: rest).length:=by rw [h2]
   rw [List.length_drop,List.length_append] at a2
   omega
  rw [rj l (L.length+1) [] ⟨ra+1,false,rd⟩ rest hl hlen hx rfl rfl h2]
  have h4:L.drop (ra+1+(jtk l).length)=(5,0,⟨#[41]⟩) :: rest:=cz h2
  rw [ie (r:=⟨ra+1+(jtk l).length,false,rd⟩) h4 rfl]
  have h5:(decide (0≤m)&&decide ((([]++l.map gk).length:Int)≠m))=false:=by
   rw [List.nil_append,List.length_map]
   simp
   omega
  dsimp only
  rw [h5]
  unfold RS.up RS.or
  simp only [List.nil_append,Bool.or_false,Prod.mk.injEq,RS.mk.injEq,and_true,true_and]
  omega
theorem sJ {s:ByteArray}(h:dK s=true):∀w∈([⟨#[110,114]⟩,⟨#[110,102]⟩,⟨#[108,101,110,103,116,104]⟩,⟨#[115,117,98,115,116,114]⟩,⟨#[105,110,100,101,120]⟩,⟨#[117,112,112,101,114]⟩,⟨#[103,115,117,98]⟩,⟨#[105,110]⟩]:List ByteArray),s≠w:=by
 intro w hw e
 subst e
 unfold dK at h
 rw [Bool.and_eq_true,Bool.not_eq_true'] at h
 have h2:=h.2
 have hB:∀s,kU kwL s=kwL.any fun e=>decide (s=lx e):=fun s=>by
  unfold kU
  congr 1
  funext e
  rw [bytes_beq]
 have h3:kU kwL s=true:=by
  rw [hB]
  simp only [List.mem_cons,List.not_mem_nil,or_false] at hw
  rcases hw with rfl|rfl|rfl|rfl|rfl|rfl|rfl|rfl<;>decide
 rw [h3] at h2
 cases h2
theorem dI {L:List T3}{r:RS}{t:T3}{rest:List T3}(h:L.drop r.a=t :: rest)(hb:r.b=false)(ht:t.1≠5)(s:ByteArray):¬m9 L r 5 s=true:=by
 rw [jH h hb]
 simp [ht]
theorem g9 {L:List T3}{g:RS→E×RS}{r:RS}{n:Int}{s:ByteArray}{rest:List T3}(h:L.drop r.a=(2,n,s) :: rest)(hb:r.b=false):fG L g r=jq L g s r.up:=by
 unfold fG
 have h2:=(bY h).2.1
 rw [if_neg (dI h hb (show (2:Int)≠5 by decide) _),if_neg (dI h hb (show (2:Int)≠5 by decide) _),if_neg (dI h hb (show (2:Int)≠5 by decide) _),if_neg (dI h hb (show (2:Int)≠5 by decide) _),h2,if_neg (show ¬(2:Int)=1 by decide),if_neg (show ¬(2:Int)=3 by decide),fU h hb rfl]
theorem gE {L:List T3}{g:RS→E×RS}{d:Nat}{k m:Int}{w s:ByteArray}{l:List E}{r:RS}{rest:List T3}(hw:jq L g w r.up=(xE k 0 s (iT L g m r.up).1,(iT L g m r.up).2))(hx:∀x∈l,Bk L g x d)(ho:∀x∈l,okX x=true)(hb:r.b=false)(hd:r.d=d)(h:L.drop r.a=((2,0,w) :: (5,0,⟨#[40]⟩) :: (jtk l++[(5,0,⟨#[41]⟩)]))++rest)(hm:m<0∨(l.length:Int)=m):fG L g r=(xE k 0 s (l.map gk),⟨r.a+((2,0,w) :: (5,0,⟨#[40]⟩) :: (jtk l++[(5,0,⟨#[41]⟩)]):List T3).length,false,d⟩):=by
 rw [g9 h hb,hw]
 have h2:L.drop r.up.a=(5,0,⟨#[40]⟩) :: (jtk l++(5,0,⟨#[41]⟩) :: rest):=by
  have:=(bY h).2.2
  show L.drop (r.a+1)=_
  rw [this]
  show ((5,0,⟨#[40]⟩) :: (jtk l++[(5,0,⟨#[41]⟩)]))++rest=_
  simp
 rw [wh (r:=r.up) hx ho hb hd h2 hm]
 simp only [List.length_cons,List.length_append,List.length_nil,RS.up,Prod.mk.injEq,RS.mk.injEq,and_true,true_and]
 omega
theorem lJ {s:ByteArray}(h:emB s=true):s=ByteArray.empty:=by
 unfold emB at h
 rw [bytes_beq,decide_eq_true_iff] at h
 exact h
theorem op_ne {s:ByteArray}(h:kU kT s=true):s≠⟨#[40]⟩∧s≠⟨#[91]⟩∧s≠⟨#[126]⟩:=by
 unfold kU at h
 rw [List.any_eq_true] at h
 obtain⟨o,ho,he⟩:=h
 unfold kT su at ho
 obtain⟨t,ht,rfl⟩:=List.mem_map.1 ho
 rw [bytes_beq,decide_eq_true_iff] at he
 have he':s=t:=he
 subst he'
 clear he ho
 revert s
 decide
theorem is_no {L:List T3}{r:RS}{t:T3}{rest:List T3}(h:L.drop r.a=t :: rest)(hb:r.b=false){k:Int}{s:ByteArray}(ht:¬(t.1=k∧t.2.2=s)):¬(isS L r k s).1=true:=by
 unfold isS
 rw [if_neg]
 ·simp
 ·rw [jH h hb]
  simpa using ht
theorem zP {L:List T3}{r:RS}{k n:Int}{s:ByteArray}{rest:List T3}(h:L.drop r.a=(k,n,s) :: rest)(hb:r.b=false):isS L r k s=(true,r.up):=by
 unfold isS
 rw [if_pos (ey h hb)]
theorem lc {L:List T3}{r:RS}{n:Int}{m s:ByteArray}{rest:List T3}(h:L.drop r.a=(5,n,m) :: rest)(hb:r.b=false)(hm:m≠s):¬m9 L r 5 s=true:=by
 rw [jH h hb]
 simp [hm]
section
variable {L:List T3}{g:RS→E×RS}{d:Nat}
theorem yz {x:E}{s:ByteArray}{r:RS}{rest:List T3}(hx:Bk L g x d)(hs:dK s=true)(hb:r.b=false)(hd:r.d=d)(h:L.drop r.a=(5,0,⟨#[40]⟩) :: (tkE x++(2,0,⟨#[105,110]⟩) :: (2,0,s) :: (5,0,⟨#[41]⟩) :: rest)):fG L g r=(xE 9 0 s [gk x],⟨r.a+((tkE x).length+4),false,d⟩):=by
 have h2:=(bY h).2.2
 unfold fG
 rw [if_pos (ey h hb)]
 unfold inS
 rw [hx r.up _ hb hd h2 (zu4 (by decide))]
 have h3:L.drop (r.up.a+(tkE x).length)=(2,0,⟨#[105,110]⟩) :: (2,0,s) :: (5,0,⟨#[41]⟩) :: rest:=cz h2
 have h4:=(bY (r:=⟨r.up.a+(tkE x).length,false,d⟩) h3).2.2
 have h5:=(bY (r:=⟨r.up.a+(tkE x).length+1,false,d⟩) h4).2.2
 dsimp only
 rw [zP (r:=⟨r.up.a+(tkE x).length,false,d⟩) h3 rfl,if_pos rfl]
 unfold nameS
 rw [show (RS.up ⟨r.up.a+(tkE x).length,false,d⟩)=⟨r.up.a+(tkE x).length+1,false,d⟩ from rfl,fU (r:=⟨r.up.a+(tkE x).length+1,false,d⟩) h4 rfl rfl]
 dsimp only
 rw [if_pos hs,show (RS.up ⟨r.up.a+(tkE x).length+1,false,d⟩)=⟨r.up.a+(tkE x).length+1+1,false,d⟩ from rfl,ie (r:=⟨r.up.a+(tkE x).length+1+1,false,d⟩) h5 rfl]
 simp only [RS.up,Prod.mk.injEq,RS.mk.injEq,and_true,true_and]
 omega
theorem wi {x:E}{s:ByteArray}{r:RS}{rest:List T3}(hx:Bk L g x d)(hb:r.b=false)(hd:r.d=d)(h:L.drop r.a=(5,0,⟨#[40]⟩) :: (tkE x++(5,0,⟨#[126]⟩) :: (4,0,s) :: (5,0,⟨#[41]⟩) :: rest)):fG L g r=(xE 10 0 s [gk x],⟨r.a+((tkE x).length+4),false,d⟩):=by
 have h2:=(bY h).2.2
 unfold fG
 rw [if_pos (ey h hb)]
 unfold inS
 rw [hx r.up _ hb hd h2 (gD (by decide) (by decide))]
 have h3:L.drop (r.up.a+(tkE x).length)=(5,0,⟨#[126]⟩) :: (4,0,s) :: (5,0,⟨#[41]⟩) :: rest:=cz h2
 have h4:=(bY (r:=⟨r.up.a+(tkE x).length,false,d⟩) h3).2.2
 have h5:=(bY (r:=⟨r.up.a+(tkE x).length+1,false,d⟩) h4).2.2
 dsimp only
 rw [if_neg (is_no (r:=⟨r.up.a+(tkE x).length,false,d⟩) h3 rfl (by decide)),zP (r:=⟨r.up.a+(tkE x).length,false,d⟩) h3 rfl,if_pos rfl]
 rw [show (RS.up ⟨r.up.a+(tkE x).length,false,d⟩)=⟨r.up.a+(tkE x).length+1,false,d⟩ from rfl,fU (r:=⟨r.up.a+(tkE x).length+1,false,d⟩) h4 rfl rfl]
 dsimp only
 rw [show (RS.up ⟨r.up.a+(tkE x).length+1,false,d⟩)=⟨r.up.a+(tkE x).length+1+1,false,d⟩ from rfl,ie (r:=⟨r.up.a+(tkE x).length+1+1,false,d⟩) h5 rfl]
 simp only [RS.up,Prod.mk.injEq,RS.mk.injEq,and_true,true_and]
 omega
theorem yB {x y:E}{s:ByteArray}{r:RS}{rest:List T3}(hx:Bk L g x d)(hy:Bk L g y d)(hs:kU kT s=true)(hb:r.b=false)(hd:r.d=d)(h:L.drop r.a=(5,0,⟨#[40]⟩) :: (tkE x++(5,0,s) :: (tkE y++(5,0,⟨#[41]⟩) :: rest))):fG L g r=(xE 6 0 s [gk x,gk y],⟨r.a+((tkE x).length+(tkE y).length+3),false,d⟩):=by
 obtain⟨o1,o2,o3⟩:=op_ne hs
 have h2:=(bY h).2.2
 unfold fG
 rw [if_pos (ey h hb)]
 unfold inS
 rw [hx r.up _ hb hd h2 (gD o1 o2)]
 have h3:L.drop (r.up.a+(tkE x).length)=(5,0,s) :: (tkE y++(5,0,⟨#[41]⟩) :: rest):=cz h2
 have h4:=(bY (r:=⟨r.up.a+(tkE x).length,false,d⟩) h3).2.2
 have h5:L.drop (r.up.a+(tkE x).length+1+(tkE y).length)=(5,0,⟨#[41]⟩) :: rest:=cz h4
 dsimp only
 rw [if_neg (is_no (r:=⟨r.up.a+(tkE x).length,false,d⟩) h3 rfl (fun q=>absurd (show (5:Int)=2 from q.1) (by decide))),if_neg (is_no (r:=⟨r.up.a+(tkE x).length,false,d⟩) h3 rfl (fun q=>o3 q.2)),fU (r:=⟨r.up.a+(tkE x).length,false,d⟩) h3 rfl rfl]
 dsimp only
 rw [show (RS.up ⟨r.up.a+(tkE x).length,false,d⟩)=⟨r.up.a+(tkE x).length+1,false,d⟩ from rfl,hy ⟨r.up.a+(tkE x).length+1,false,d⟩ _ rfl rfl h4 (gD (by decide) (by decide))]
 dsimp only
 rw [ie (r:=⟨r.up.a+(tkE x).length+1+(tkE y).length,false,d⟩) h5 rfl]
 simp only [RS.up,Prod.mk.injEq,RS.mk.injEq,and_true,true_and]
 omega
end
section
variable {L:List T3}{g:RS→E×RS}{d:Nat}
theorem wj {x y:E}{s:ByteArray}{r:RS}{rest:List T3}(hx:Bk L g x d)(hy:Bk L g y d)(hb:r.b=false)(hd:r.d=d)(h:L.drop r.a=(5,0,⟨#[40]⟩) :: (tkE x++(5,0,⟨#[126]⟩) :: (4,0,s) :: (5,0,⟨#[44]⟩) :: (tkE y++(5,0,⟨#[41]⟩) :: rest))):gsubS L g r=(xE 18 0 s [gk x,gk y],⟨r.a+((tkE x).length+(tkE y).length+5),false,d⟩):=by
 have h2:=(bY h).2.2
 unfold gsubS
 rw [ie h hb,hx r.up _ hb hd h2 (gD (by decide) (by decide))]
 have h3:L.drop (r.up.a+(tkE x).length)=(5,0,⟨#[126]⟩) :: (4,0,s) :: (5,0,⟨#[44]⟩) :: (tkE y++(5,0,⟨#[41]⟩) :: rest):=cz h2
 have h4:=(bY (r:=⟨r.up.a+(tkE x).length,false,d⟩) h3).2.2
 have h5:=(bY (r:=⟨r.up.a+(tkE x).length+1,false,d⟩) h4).2.2
 have h6:=(bY (r:=⟨r.up.a+(tkE x).length+1+1,false,d⟩) h5).2.2
 have h7:L.drop (r.up.a+(tkE x).length+1+1+1+(tkE y).length)=(5,0,⟨#[41]⟩) :: rest:=cz h6
 dsimp only
 rw [ie (r:=⟨r.up.a+(tkE x).length,false,d⟩) h3 rfl,show (RS.up ⟨r.up.a+(tkE x).length,false,d⟩)=⟨r.up.a+(tkE x).length+1,false,d⟩ from rfl,fU (r:=⟨r.up.a+(tkE x).length+1,false,d⟩) h4 rfl rfl]
 dsimp only
 rw [show (RS.up ⟨r.up.a+(tkE x).length+1,false,d⟩)=⟨r.up.a+(tkE x).length+1+1,false,d⟩ from rfl,ie (r:=⟨r.up.a+(tkE x).length+1+1,false,d⟩) h5 rfl,show (RS.up ⟨r.up.a+(tkE x).length+1+1,false,d⟩)=⟨r.up.a+(tkE x).length+1+1+1,false,d⟩ from rfl,hy ⟨r.up.a+(tkE x).length+1+1+1,false,d⟩ _ rfl rfl h6 (gD (by decide) (by decide))]
 dsimp only
 rw [ie (r:=⟨r.up.a+(tkE x).length+1+1+1+(tkE y).length,false,d⟩) h7 rfl]
 simp only [RS.up,Prod.mk.injEq,RS.mk.injEq,and_true,true_and]
 omega
theorem zp2 {x:E}{s:ByteArray}{r:RS}{rest:List T3}(hx:Bk L g x d)(hs:dK s=true)(hb:r.b=false)(hd:r.d=d)(h:L.drop r.a=(2,0,s) :: (5,0,⟨#[91]⟩) :: (tkE x++(5,0,⟨#[93]⟩) :: rest)):fG L g r=(xE 4 0 s [gk x],⟨r.a+((tkE x).length+3),false,d⟩):=by
 have h2:=(bY h).2.2
 have h3:=(bY (r:=r.up) h2).2.2
 have hk:=sJ hs
 rw [g9 h hb]
 unfold jq
 rw [if_neg (hk _ (by simp)),if_neg (hk _ (by simp)),if_neg (hk _ (by simp)),if_neg (hk _ (by simp)),if_neg (hk _ (by simp)),if_neg (hk _ (by simp)),if_neg (hk _ (by simp)),if_neg (lc (r:=r.up) h2 hb (by decide)),if_pos (ey (r:=r.up) h2 hb),hx r.up.up _ hb hd h3 (gD (by decide) (by decide))]
 have h4:L.drop (r.up.up.a+(tkE x).length)=(5,0,⟨#[93]⟩) :: rest:=cz h3
 dsimp only
 rw [ie (r:=⟨r.up.up.a+(tkE x).length,false,d⟩) h4 rfl]
 simp only [RS.up,Prod.mk.injEq,RS.mk.injEq,and_true,true_and]
 omega
end
theorem wk {L:List T3}{g:RS→E×RS}{d:Nat}{i j:IntKind}{k n:Int}{s:ByteArray}{w:Nat}{T:TypeId}{A:Option Addr}{c:Nat}{l:List E}(ho:∀x∈l,okX x=true)(hh:eu k n s l.length=true)(hx:∀x∈l,Bk L g x d):Bk L (fG L g) (.agg [.int i k,.int j n,.str s,.lst w T A c l]) d:=fun r rest hb hd h hf=>by
 have htk:tkE (.agg [.int i k,.int j n,.str s,.lst w T A c l])=bH (eZ k n s (l.map pcE)):=by unfold tkE;rw [gZ]
 rw [htk] at h ⊢
 rw [k9]
 unfold eu at hh
 by_cases k1:k=1
 ·subst k1
  rw [if_pos rfl,Bool.and_eq_true,Bool.and_eq_true] at hh
  obtain rfl:=lJ hh.2.1
  obtain rfl:=gB hh.2.2
  have h':L.drop r.a=(1,n,ByteArray.empty) :: rest:=h
  have h2:=(bY h').2.1
  unfold fG
  rw [if_neg (dI h' hb (show (1:Int)≠5 by decide) _),if_neg (dI h' hb (show (1:Int)≠5 by decide) _),if_neg (dI h' hb (show (1:Int)≠5 by decide) _),if_neg (dI h' hb (show (1:Int)≠5 by decide) _),h2,if_pos rfl,fU h' hb rfl]
  obtain⟨ra,rb,rd⟩:=r
  dsimp only at hb hd
  subst hb hd
  rfl
 rw [if_neg k1,Bool.and_eq_true,decide_eq_true_iff] at hh
 obtain⟨rfl,hh⟩:=hh
 by_cases k2:k=2
 ·subst k2
  rw [if_pos rfl,Bool.and_eq_true] at hh
  obtain rfl:=gB hh.2
  have h':L.drop r.a=(3,0,s) :: rest:=h
  have h2:=(bY h').2.1
  unfold fG
  rw [if_neg (dI h' hb (show (3:Int)≠5 by decide) _),if_neg (dI h' hb (show (3:Int)≠5 by decide) _),if_neg (dI h' hb (show (3:Int)≠5 by decide) _),if_neg (dI h' hb (show (3:Int)≠5 by decide) _),h2,if_neg (show ¬(3:Int)=1 by decide),if_pos rfl,fU h' hb rfl]
  obtain⟨ra,rb,rd⟩:=r
  dsimp only at hb hd
  subst hb hd
  rfl
 rw [if_neg k2] at hh
 by_cases k3:k=3
 ·subst k3
  rw [if_pos rfl,Bool.and_eq_true] at hh
  obtain rfl:=gB hh.2
  have h':L.drop r.a=(2,0,s) :: rest:=h
  have h2:=(bY h').2.2
  have hk:=sJ hh.1
  obtain⟨f1,f2⟩:=zo2 (r:=r.up) h2 hf hb
  rw [g9 h' hb]
  unfold jq
  rw [if_neg (hk _ (by simp)),if_neg (hk _ (by simp)),if_neg (hk _ (by simp)),if_neg (hk _ (by simp)),if_neg (hk _ (by simp)),if_neg (hk _ (by simp)),if_neg (hk _ (by simp)),if_neg (by rw [f1];simp),if_neg (by rw [f2];simp)]
  obtain⟨ra,rb,rd⟩:=r
  dsimp only at hb hd
  subst hb hd
  rfl
 rw [if_neg k3] at hh
 by_cases k4:k=4∨k=9
 ·rw [if_pos k4,Bool.and_eq_true] at hh
  obtain⟨x,rfl⟩:=iS hh.2
  have hxx:=hx x (by simp)
  rcases k4 with rfl|rfl
  ·have e4:bH (eZ 4 0 s ([x].map pcE))=(2,0,s) :: (5,0,⟨#[91]⟩) :: (tkE x++[(5,0,⟨#[93]⟩)]):=by
    show (2,0,s) :: (5,0,⟨#[91]⟩) :: bH (pcE x++[mkP ⟨#[93]⟩])=_
    rw [cK];rfl
   rw [e4] at h ⊢
   rw [zp2 (s:=s) (rest:=rest) hxx hh.1 hb hd (by rw [h];simp)]
   exact Prod.ext rfl (congrArg (fun z=>RS.mk (r.a+z) false d) (by simp only [List.length_cons,List.length_append,List.length_nil]<;>omega))
  ·rw [←sX,tk_9] at h ⊢
   rw [yz (s:=s) (rest:=rest) hxx hh.1 hb hd (by rw [h];simp)]
   exact Prod.ext rfl (congrArg (fun z=>RS.mk (r.a+z) false d) (by simp only [List.length_cons,List.length_append,List.length_nil]<;>omega))
 rw [if_neg k4] at hh
 by_cases k5:k=5∨k=7∨k=8∨k=12∨k=17
 ·rw [if_pos k5,Bool.and_eq_true] at hh
  obtain rfl:=lJ hh.1
  obtain⟨x,rfl⟩:=iS hh.2
  have hxx:=hx x (by simp)
  rcases k5 with rfl|rfl|rfl|rfl|rfl
  ·have h':L.drop r.a=(5,0,⟨#[36]⟩) :: (tkE x++rest):=h
   have h2:=(bY h').2.2
   unfold fG
   rw [if_neg (lc h' hb (by decide)),if_pos (ey h' hb),hxx r.up rest hb hd h2 hf]
   exact Prod.ext rfl (congrArg (fun z=>RS.mk z false d) (by show r.a+1+(tkE x).length=r.a+((tkE x).length+1);omega))
  ·have h':L.drop r.a=(5,0,⟨#[33]⟩) :: (tkE x++rest):=h
   have h2:=(bY h').2.2
   unfold fG
   rw [if_neg (lc h' hb (by decide)),if_neg (lc h' hb (by decide)),if_pos (ey h' hb),hxx r.up rest hb hd h2 hf]
   exact Prod.ext rfl (congrArg (fun z=>RS.mk z false d) (by show r.a+1+(tkE x).length=r.a+((tkE x).length+1);omega))
  ·have h':L.drop r.a=(5,0,⟨#[45]⟩) :: (tkE x++rest):=h
   have h2:=(bY h').2.2
   unfold fG
   rw [if_neg (lc h' hb (by decide)),if_neg (lc h' hb (by decide)),if_neg (lc h' hb (by decide)),if_pos (ey h' hb),hxx r.up rest hb hd h2 hf]
   exact Prod.ext rfl (congrArg (fun z=>RS.mk z false d) (by show r.a+1+(tkE x).length=r.a+((tkE x).length+1);omega))
  ·rw [show bH (eZ 12 0 ByteArray.empty ([x].map pcE))=_ from ft ⟨#[108,101,110,103,116,104]⟩ [x]] at h ⊢
   exact gE (m:=1) (by unfold jq;rw [if_neg (by decide),if_neg (by decide),if_pos rfl]) hx ho hb hd h (.inr rfl)
  ·rw [show bH (eZ 17 0 ByteArray.empty ([x].map pcE))=_ from ft ⟨#[117,112,112,101,114]⟩ [x]] at h ⊢
   exact gE (m:=1) (by unfold jq;rw [if_neg (by decide),if_neg (by decide),if_neg (by decide),if_neg (by decide),if_neg (by decide),if_pos rfl]) hx ho hb hd h (.inr rfl)
 rw [if_neg k5] at hh
 by_cases k6:k=6
 ·subst k6
  rw [if_pos rfl,Bool.and_eq_true] at hh
  obtain⟨x,y,rfl⟩:=mb hh.2
  rw [←sX,tk_6] at h ⊢
  rw [yB (s:=s) (rest:=rest) (hx x (by simp)) (hx y (by simp)) hh.1 hb hd (by rw [h];simp)]
  exact Prod.ext rfl (congrArg (fun z=>RS.mk (r.a+z) false d) (by simp only [List.length_cons,List.length_append,List.length_nil]<;>omega))
 rw [if_neg k6] at hh
 by_cases k10:k=10
 ·subst k10
  rw [if_pos rfl,Bool.and_eq_true] at hh
  obtain⟨x,rfl⟩:=iS hh.1
  rw [←sX,tk_10] at h ⊢
  rw [wi (s:=s) (rest:=rest) (hx x (by simp)) hb hd (by rw [h];simp)]
  exact Prod.ext rfl (congrArg (fun z=>RS.mk (r.a+z) false d) (by simp only [List.length_cons,List.length_append,List.length_nil]<;>omega))
 rw [if_neg k10] at hh
 by_cases k18:k=18
 ·subst k18
  rw [if_pos rfl,Bool.and_eq_true] at hh
  obtain⟨x,y,rfl⟩:=mb hh.1
  rw [←sX,tk_18] at h ⊢
  have h':L.drop r.a=(2,0,⟨#[103,115,117,98]⟩) :: (5,0,⟨#[40]⟩) :: (tkE x++(5,0,⟨#[126]⟩) :: (4,0,s) :: (5,0,⟨#[44]⟩) :: (tkE y++(5,0,⟨#[41]⟩) :: rest)):=by rw [h];simp
  rw [g9 h' hb]
  unfold jq
  rw [if_neg (by decide),if_neg (by decide),if_neg (by decide),if_neg (by decide),if_neg (by decide),if_neg (by decide),if_pos rfl,wj (s:=s) (rest:=rest) (r:=r.up) (hx x (by simp)) (hx y (by simp)) hb hd (bY h').2.2]
  exact Prod.ext rfl (congrArg (fun z=>RS.mk z false d) (by simp only [RS.up,List.length_cons,List.length_append,List.length_nil]<;>omega))
 rw [if_neg k18] at hh
 by_cases k11:k=11
 ·subst k11
  rw [if_pos rfl,Bool.and_eq_true] at hh
  have hk:=sJ hh.1
  rw [show bH (eZ 11 0 s (l.map pcE))=_ from ft s l] at h ⊢
  have h2:L.drop r.up.a=(5,0,⟨#[40]⟩) :: (jtk l++[(5,0,⟨#[41]⟩)]++rest):=(bY h).2.2
  exact gE (m := -1) (by unfold jq;rw [if_neg (hk _ (by simp)),if_neg (hk _ (by simp)),if_neg (hk _ (by simp)),if_neg (hk _ (by simp)),if_neg (hk _ (by simp)),if_neg (hk _ (by simp)),if_neg (hk _ (by simp)),if_pos (ey (r:=r.up) h2 hb)]) hx ho hb hd h (.inl (by decide))
 rw [if_neg k11] at hh
 by_cases k13:k=13
 ·subst k13
  rw [if_pos rfl,Bool.and_eq_true,beq_iff_eq] at hh
  obtain rfl:=lJ hh.1
  rw [show bH (eZ 13 0 ByteArray.empty (l.map pcE))=_ from ft ⟨#[115,117,98,115,116,114]⟩ l] at h ⊢
  exact gE (m:=3) (by unfold jq;rw [if_neg (by decide),if_neg (by decide),if_neg (by decide),if_pos rfl]) hx ho hb hd h (.inr hh.2)
 rw [if_neg k13] at hh
 by_cases k14:k=14∨k=15
 ·rw [if_pos k14,Bool.and_eq_true] at hh
  obtain rfl:=lJ hh.1
  obtain rfl:=gB hh.2
  rcases k14 with rfl|rfl
  ·have h':L.drop r.a=(2,0,⟨#[110,114]⟩) :: rest:=h
   rw [g9 h' hb]
   unfold jq
   rw [if_pos rfl]
   obtain⟨ra,rb,rd⟩:=r
   dsimp only at hb hd
   subst hb hd
   rfl
  ·have h':L.drop r.a=(2,0,⟨#[110,102]⟩) :: rest:=h
   rw [g9 h' hb]
   unfold jq
   rw [if_neg (by decide),if_pos rfl]
   obtain⟨ra,rb,rd⟩:=r
   dsimp only at hb hd
   subst hb hd
   rfl
 rw [if_neg k14] at hh
 by_cases k16:k=16
 ·subst k16
  rw [if_pos rfl,Bool.and_eq_true,beq_iff_eq] at hh
  obtain rfl:=lJ hh.1
  rw [show bH (eZ 16 0 ByteArray.empty (l.map pcE))=_ from ft ⟨#[105,110,100,101,120]⟩ l] at h ⊢
  exact gE (m:=2) (by unfold jq;rw [if_neg (by decide),if_neg (by decide),if_neg (by decide),if_neg (by decide),if_pos rfl]) hx ho hb hd h (.inr hh.2)
 rw [if_neg k16] at hh
 cases hh
theorem rm {L:List T3}:∀(f:Nat) (e:E),j3 100 dh f e≤100→okX e=true→∀F,f≤F→∀d,d+f≤20→Bk L (exS L F) e d
 | 0,e,h,_,_,_,_,_=>absurd h (by show ¬100+1≤100;omega)
 | f+1,e,h,hok,F,hF,d,hd=>by
  obtain⟨G,rfl⟩:∃G,F=G+1:=⟨F-1,omq⟩
  obtain⟨o1,o2⟩:=j8 hok
  have h1:gpS 100 (j3 100 dh f) (dh e) 1≤100:=h
  have hm:=kZ _ _ h1
  unfold mY at o2
  split at o2
  ·rename_i i k j m s w T A c l
   have hx:∀x∈l,Bk L (exS L G) x (d+1):=fun x hx=>rm f x (hm x hx) (o1 x hx) G omq (d+1) omq
   intro r rest hb hrd hr hf
   obtain⟨t,q,et,-⟩:=na hok
   have hlt:r.a<L.length:=by rw [et] at hr;exact (bY hr).1
   unfold exS
   rw [if_neg (by rintro (q|q|q)
                  ·omega
                  ·rw [hb] at q;cases q
                  ·exact q hlt)]
   rw [wk (w:=w) (T:=T) (A:=A) (c:=c) o1 o2 hx ⟨r.a,r.b,r.d+1⟩ rest hb (by show r.d+1=d+1;omega) hr hf]
   rfl
  ·cases o2
end Go.Proofs.YtomolhbkdhjofaaGreatDoor
