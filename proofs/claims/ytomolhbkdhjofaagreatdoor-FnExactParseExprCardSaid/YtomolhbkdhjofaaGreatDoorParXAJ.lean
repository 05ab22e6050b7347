/- T -/
import Derived.Test.YtomolhbkdhjofaaGreatDoorParXAI
set_option maxHeartbeats 0
set_option maxRecDepth 100000
namespace Go.Proofs.YtomolhbkdhjofaaGreatDoor
open Go.RowKit Go.Proofs.Tryz
theorem oh {L:List T3}{a:Nat}(h:a<L.length){k n:Int}{s:ByteArray}(e:tAt L a=(k,n,s)):(L.map T3.E)[a]? = some (.agg [.int .i64 k,.int .i64 n,.str s]):=by
 have:=t3_at h
 rwa [e] at this
theorem zl2 {L:List T3}(hL:L.length≤2000){r:RS}(k:Int)(s:ByteArray):Ctr prog 120 [.c (.pt 0 0),.c (.v (.int .i64 k)),.c (.v (.string s))] [cO L r] (.c (.v (.bool (fW L r k s)))) [cO L r]:=by
 obtain⟨a,b,d⟩:=r
 have hk:=tks_enc' (l:=L)
 have hlen:L.length=(L.map T3.E).length:=(List.length_map ..).symm
 unfold fW
 refine ay func120 rfl rfl ?_
 unfold cO
 dsimp only
 cases b with
 | true =>
  repeat' (first|(apply av;refine ai ?_)|refine aj ?_|refine ab ?_|(apply dc;first|refine fE ?_|(refine fB ?_ ?_<;>intro hG<;>(try cases hG))|(apply dx;refine aH ?_)|(apply ki;refine aH ?_)|refine d5 ?_|refine cg ?_|refine aH ?_)|refine aj ?_|refine ab ?_|refine aa fun C=>?_|refine au (by kernel_rfl) (by kernel_rfl) fun C=>?_|refine ac ?_)
  refine am ?_;refine d8 rfl aJ rfl clsR rfl ⟨?_,?_⟩<;>rfl
 | false =>
  by_cases h:a<L.length
  ·obtain⟨⟨k',n,u⟩,ht⟩:∃t,tAt L a=t:=⟨_,rfl⟩
   have hx:=oh h ht
   rw [ht,decide_eq_true h]
   have hlt:((a:Int)<((L.map T3.E).length:Int)):=by omega
   dsimp only
   by_cases hkk:k'=k
   ·subst hkk
    repeat' (first|(apply av;refine ai ?_)|refine aj ?_|refine ab ?_|(apply dc;first|refine fE ?_|(refine fB ?_ ?_<;>intro hG<;>(try cases hG))|(apply dx;refine aH ?_)|(apply ki;refine aH ?_)|refine d5 ?_|refine gp ?_|refine cg ?_|refine d9 ?_|refine ez ?_|refine mo ?_|(apply fD;refine aH ?_)|refine aH ?_)|refine aj ?_|refine ab ?_|refine aa fun C=>?_|refine au (by kernel_rfl) (by kernel_rfl) fun C=>?_|refine ac ?_)
    all_goals first
     | (exfalso;simp only [decide_eq_false_iff_not] at hG;exact hG hlt;done)
     | (exfalso;simp at hG;done)
     | (refine am ?_;refine d8 rfl aJ rfl clsR rfl ⟨?_,?_⟩
        ·simp [mz]
        ·rfl)
   ·repeat' (first|(apply av;refine ai ?_)|refine aj ?_|refine ab ?_|(apply dc;first|refine fE ?_|(refine fB ?_ ?_<;>intro hG<;>(try cases hG))|(apply dx;refine aH ?_)|(apply ki;refine aH ?_)|refine d5 ?_|refine gp ?_|refine cg ?_|refine d9 ?_|refine ez ?_|refine mo ?_|(apply fD;refine aH ?_)|refine aH ?_)|refine aj ?_|refine ab ?_|refine aa fun C=>?_|refine au (by kernel_rfl) (by kernel_rfl) fun C=>?_|refine ac ?_)
    all_goals first
     | (exfalso;simp only [decide_eq_false_iff_not] at hG;exact hG hlt;done)
     | (exfalso;exact hkk (eq_of_beq hG))
     | (refine am ?_;refine d8 rfl aJ rfl clsR rfl ⟨?_,?_⟩
        ·simp [hkk]
        ·rfl)
  ·rw [decide_eq_false h]
   repeat' (first|(apply av;refine ai ?_)|refine aj ?_|refine ab ?_|(apply dc;first|refine fE ?_|(refine fB ?_ ?_<;>intro hG<;>(try cases hG))|(apply dx;refine aH ?_)|(apply ki;refine aH ?_)|refine d5 ?_|refine cg ?_|refine ez ?_|(apply fD;refine aH ?_)|refine aH ?_)|refine aj ?_|refine ab ?_|refine aa fun C=>?_|refine au (by kernel_rfl) (by kernel_rfl) fun C=>?_|refine ac ?_)
   all_goals first
    | (exfalso;simp only [decide_eq_true_iff] at hG;omega;done)
    | (refine am ?_;refine d8 rfl aJ rfl clsR rfl ⟨?_,?_⟩
       ·simp
       ·rfl)
theorem mA {L:List T3}(hL:L.length≤2000){r:RS}(k:Int)(s:ByteArray):Ctr prog 89 [.c (.pt 0 0),.c (.v (.int .i64 k)),.c (.v (.string s))] [cO L r] (.c (.v (.bool (isS L r k s).1))) [cO L (isS L r k s).2]:=by
 have c1:=zl2 hL (r:=r) k s
 unfold isS
 refine ay func89 rfl rfl ?_
 cases h:fW L r k s with
 | true =>
  have hlt:=(oe h).2.1
  rw [if_pos rfl]
  rw [h] at c1
  obtain⟨a,b,d⟩:=r
  unfold cO at *
  dsimp only [RS.up] at hlt c1 ⊢
  repeat' (first|(apply av;first|refine ak ?_|refine ai ?_|refine ba ?_|refine aI ?_|refine aF 0 (c1) ?_|refine bg ?_|refine aw ?_|refine bM ?_|refine az ?_)|refine aj ?_|refine ab ?_|refine aa fun C=>?_|refine ac ?_|refine al ?_|refine ar rfl ?_)
  refine am ?_;refine d8 rfl aJ rfl clsR rfl ⟨?_,?_⟩<;>rfl
 | false =>
  rw [if_neg (by simp)]
  rw [h] at c1
  obtain⟨a,b,d⟩:=r
  unfold cO at *
  dsimp only at c1 ⊢
  repeat' (first|(apply av;first|refine ak ?_|refine ai ?_|refine aF 0 (c1) ?_|refine bM ?_)|refine aj ?_|refine ab ?_|refine aa fun C=>?_|refine ac ?_|refine aq rfl ?_)
  refine am ?_;refine d8 rfl aJ rfl clsR rfl ⟨?_,?_⟩<;>rfl
theorem fy {L:List T3}(hL:L.length≤2000){r:RS}(s:ByteArray):Ctr prog 122 [.c (.pt 0 0),.c (.v (.string s))] [cO L r] (.tu []) [cO L (mkS L r s)]:=by
 have c1:=mA hL (r:=r) 5 s
 unfold isS at c1
 unfold mkS
 refine ay func122 rfl rfl ?_
 cases h:fW L r 5 s with
 | true =>
  rw [if_pos rfl]
  rw [h,if_pos rfl] at c1
  obtain⟨a,b,d⟩:=r
  unfold cO at *
  dsimp only [RS.up] at c1 ⊢
  repeat' (first|(apply av;first|refine ak ?_|refine aF 0 (c1) ?_|refine bM ?_)|refine aj ?_|refine ab ?_|refine aa fun C=>?_|refine ac ?_|refine al ?_|refine ar rfl ?_)
  exact d8 (x:=.tu []) rfl rfl rfl dX rfl ⟨rfl,rfl⟩
 | false =>
  rw [if_neg (by simp)]
  rw [h,if_neg (by simp)] at c1
  obtain⟨a,b,d⟩:=r
  unfold cO at *
  dsimp only [RS.bd] at c1 ⊢
  repeat' (first|(apply av;first|refine ak ?_|refine ba ?_|refine aF 0 (c1) ?_|refine bg ?_|refine bM ?_|refine az ?_)|refine aj ?_|refine ab ?_|refine aa fun C=>?_|refine ac ?_|refine aq rfl ?_)
  exact d8 (x:=.tu []) rfl rfl rfl dX rfl ⟨rfl,rfl⟩
theorem iO {L:List T3}(hL:L.length≤2000){r:RS}(k:Int):Ctr prog 92 [.c (.pt 0 0),.c (.v (.int .i64 k))] [cO L r] (.ag [.v (.int .i64 (bH L r k).1.1),.v (.int .i64 (bH L r k).1.2.1),.v (.string (bH L r k).1.2.2)]) [cO L (bH L r k).2]:=by
 obtain⟨a,b,d⟩:=r
 have hk:=tks_enc' (l:=L)
 have hlen:L.length=(L.map T3.E).length:=(List.length_map ..).symm
 unfold bH
 refine ay func92 rfl rfl ?_
 unfold cO
 dsimp only
 cases b with
 | true =>
  rw [if_pos (.inl rfl)]
  dsimp only [RS.bd]
  repeat' (first|(apply av;first|refine ak ?_|refine ba ?_|refine bg ?_|refine bI ?_|refine az ?_)|refine aj ?_|refine ab ?_|(apply dc;first|refine fE ?_|(refine fB ?_ ?_<;>intro hG<;>(try cases hG))|(apply dx;refine aH ?_)|refine d5 ?_|refine cg ?_|refine aH ?_)|refine aj ?_|refine ab ?_|refine aa fun C=>?_|refine au (by kernel_rfl) (by kernel_rfl) fun C=>?_|refine ac ?_|refine aq rfl ?_)
  exact rtq5
 | false =>
  by_cases h:a<L.length
  ·obtain⟨⟨k',n,u⟩,ht⟩:∃t,tAt L a=t:=⟨_,rfl⟩
   have hx:=oh h ht
   have hz:((a:Int)+1)-1=((a:Nat):Int):=by omega
   have hz':(((a+1:Nat):Int))-1=((a:Nat):Int):=by omega
   have hlt:¬(((L.map T3.E).length:Int)≤(a:Int)):=by omega
   rw [ht]
   by_cases hkk:k'=k
   ·subst hkk
    rw [if_neg (by simp [h])]
    dsimp only [RS.up]
    repeat' (first|(apply av;refine bI ?_)|refine aj ?_|refine ab ?_|(apply dc;first|refine fE ?_|(refine fB ?_ ?_<;>intro hG<;>(try cases hG))|(apply dx;refine aH ?_)|refine d5 ?_|refine gp ?_|refine cg ?_|refine d9 ?_|refine ez ?_|refine mo ?_|(apply fD;refine aH ?_)|refine aH ?_)|refine aj ?_|refine ab ?_|refine aa fun C=>?_|refine au (by kernel_rfl) (by kernel_rfl) fun C=>?_|refine ac ?_)
    ·exfalso;simp only [decide_eq_true_iff] at hG;exact hlt hG
    ·refine ae (by rfl) (fun hC=>by exfalso;simp at hC) fun hC=>?_
     repeat' (first|(apply av;first|refine ak ?_|refine ba ?_|refine aI ?_|refine bg ?_|refine aw ?_|refine az ?_)|refine aj ?_|refine ab ?_|(apply dc;first|(apply dx;refine aH ?_)|refine d5 ?_|refine cg ?_|refine ew ?_|refine mK ?_|refine mo ?_|refine di ?_|refine aH ?_)|refine aj ?_|refine ab ?_|refine aa fun C=>?_|refine au (by kernel_rfl) (by kernel_rfl) fun C=>?_|refine ac ?_|refine al ?_)
     exact rtq5
   ·rw [if_pos (.inr (.inr hkk))]
    dsimp only [RS.bd]
    repeat' (first|(apply av;refine bI ?_)|refine aj ?_|refine ab ?_|(apply dc;first|refine fE ?_|(refine fB ?_ ?_<;>intro hG<;>(try cases hG))|(apply dx;refine aH ?_)|refine d5 ?_|refine gp ?_|refine cg ?_|refine d9 ?_|refine ez ?_|refine mo ?_|(apply fD;refine aH ?_)|refine aH ?_)|refine aj ?_|refine ab ?_|refine aa fun C=>?_|refine au (by kernel_rfl) (by kernel_rfl) fun C=>?_|refine ac ?_)
    ·exfalso;simp only [decide_eq_true_iff] at hG;exact hlt hG
    ·refine ae (by rfl) (fun hC=>?_) fun hC=>by exfalso;simp at hC;exact hkk hC
     repeat' (first|(apply av;first|refine ak ?_|refine ba ?_|refine bg ?_|refine az ?_)|refine aj ?_|refine ab ?_|refine aa fun C=>?_|refine ac ?_)
     exact rtq5
  ·rw [if_pos (.inr (.inl h))]
   dsimp only [RS.bd]
   repeat' (first|(apply av;refine bI ?_)|refine aj ?_|refine ab ?_|(apply dc;first|refine fE ?_|(refine fB ?_ ?_<;>intro hG<;>(try cases hG))|(apply dx;refine aH ?_)|refine d5 ?_|refine cg ?_|refine ez ?_|(apply fD;refine aH ?_)|refine aH ?_)|refine aj ?_|refine ab ?_|refine aa fun C=>?_|refine au (by kernel_rfl) (by kernel_rfl) fun C=>?_|refine ac ?_)
   ·refine aq rfl ?_
    repeat' (first|(apply av;first|refine ak ?_|refine ba ?_|refine bg ?_|refine az ?_)|refine aj ?_|refine ab ?_|refine aa fun C=>?_|refine ac ?_)
    exact rtq5
   ·exfalso;simp only [decide_eq_false_iff_not] at hG;omega
theorem zx5 {L:List T3}(hL:L.length≤2000)(hok:okL L){r:RS}(ha:r.a≤L.length):Ctr prog 121 [.c (.pt 0 0)] [cO L r] (.c (.v (.string (fX L r).1))) [cO L (fX L r).2]:=by
 have c1:=iO hL (r:=r) 2
 have hs:=(gF hok 2 ha).2.2.2.2.1
 have c2:=eQ (s:=(bH L r 2).1.2.2) omq
 unfold fX
 dsimp only
 generalize bH L r 2=x at *
 obtain⟨⟨k,n,u⟩,⟨a,b,d⟩⟩:=x
 dsimp only at *
 refine ay func121 rfl rfl ?_
 cases h:dT u with
 | true =>
  rw [if_pos rfl]
  rw [h] at c2
  unfold cO at *
  dsimp only at c1 ⊢
  repeat' (first|(apply av;first|refine ak ?_|refine ai ?_|refine aF 0 (c1) ?_|refine aG c2 ?_|refine bM ?_|refine az ?_)|refine aj ?_|refine ab ?_|refine aa fun C=>?_|refine ac ?_|refine al ?_|refine ar rfl ?_)
  refine am ?_;refine d8 rfl aJ rfl clsR rfl ⟨?_,?_⟩<;>rfl
 | false =>
  rw [if_neg (by simp)]
  rw [h] at c2
  unfold cO at *
  dsimp only [RS.bd] at c1 ⊢
  repeat' (first|(apply av;first|refine ak ?_|refine ai ?_|refine ba ?_|refine aF 0 (c1) ?_|refine aG c2 ?_|refine bg ?_|refine bM ?_|refine az ?_)|refine aj ?_|refine ab ?_|refine aa fun C=>?_|refine ac ?_|refine aq rfl ?_)
  refine am ?_;refine d8 rfl aJ rfl clsR rfl ⟨?_,?_⟩<;>rfl
theorem rtq4 {p:Prop}(h:p:=by refine am ?_;refine d8 rfl (iC (bB rfl rfl rfl cls0 aV)) rfl clsR rfl ⟨?_,?_⟩<;>rfl):p:=h
theorem tdy2 {p:Prop}(h:p:=by repeat' (first|exact TmOk.nil|exact RwOk.nil|refine TmOk.cons ?_ ?_|refine RwOk.cons ?_ ?_|rfl|exact fa rfl rfl (sG _ _)|exact fa rfl rfl bX|exact fa rfl rfl (pG _ _)|exact fa rfl rfl dX|(refine rnV_id' rfl ?_;exact byc)|(refine cE ?_;first|rfl|omega|(rw [bA omq omq];omega))|(refine bf rfl ?_;exact byc)|exact dH rfl rfl|(refine rw_mid (by rfl) (by rfl) ?_ ?_<;>exact byc)|(refine rw_rn' rfl rfl ?_;simp;done))):p:=h
def HS (L:List T3)(f:Nat)(g:RS→E×RS):Prop:=∀q:RS,q.a≤L.length→21≤f+q.d→1≤f→q.d≤60→Ctr prog 30 [.c (.pt 0 0)] [cO L q] (.ag (owE (g q).1)) [cO L (g q).2]
theorem xK {L:List T3}{r:RS}:bl (cO L r)=true:=pG L r
theorem zcQ {L:List T3}{g:RS→E×RS}{n:Nat}{l:List E}{r:RS}(h:r.b=true):gJ L g n l r=(l,r):=by
 obtain⟨a,b,d⟩:=r
 have h:b=true:=h
 subst h
 cases n with
 | zero=>rfl
 | succ n=>unfold gJ;rw [if_pos rfl]
def lfin (L:List T3)(m:Int)(x:List E×RS):List E×RS:=(x.1,(mkS L x.2 ⟨#[41]⟩).or (decide (0≤m)&&decide ((x.1.length:Int)≠m)))
theorem l6 {L:List T3}(hL:L.length≤2000){f:Nat}(hf:f≤21)(hf1:1≤f){g:RS→E×RS}(hg:GS L f g)(hi:HS L f g)(m:Int){r:RS}(ha:r.a≤L.length)(hd:21≤f+r.d)(hd2:r.d≤20) :
 Ctr prog 123 [.c (.pt 0 0),.c (.v (.int .i64 m))] [cO L r] (.c (.ow 26 (cv L g m r).1.length 4 (owL (cv L g m r).1))) [cO L (cv L g m r).2]:=by
 have hm1:=sH (L:=L) ⟨#[40]⟩ ha
 have c1:=fy hL (r:=r) ⟨#[40]⟩
 unfold cv
 generalize mkS L r ⟨#[40]⟩=r1 at *
 have c2:=mA hL (r:=r1) 5 ⟨#[41]⟩
 have hi2:=is_f L r1 5 ⟨#[41]⟩
 cases hc:(isS L r1 5 ⟨#[41]⟩).1 with
 | true =>
  have h3:=hi2.1 hc
  rw [if_pos rfl]
  rw [hc] at c2
  clear hg hi
  generalize (isS L r1 5 ⟨#[41]⟩).2=r2 at *
  obtain⟨a,b,d⟩:=r2
  have hb:b=false:=by cases b with
   | false=>rfl
   | true=>exact absurd (show (1:Nat)=0 from h3.2.1) (by decide)
  subst hb
  refine ay func123 rfl rfl ?_
  unfold cO RS.or at *
  dsimp only at c1 c2 ⊢
  repeat' (first|(apply av;first|(refine aK ?_ ?_<;>intro hG<;>(try cases hG))|refine ak ?_|refine ai ?_|refine ba ?_|refine aI ?_|refine aF 0 (c1) ?_|refine aF 0 (c2) ?_|refine bg ?_|refine bu ?_|refine aA ?_|refine ec ?_|refine az ?_)|refine aj ?_|refine ab ?_|refine aa fun C=>?_|refine ac ?_|refine aq rfl ?_)
  exact rtq4
 | false =>
  have h3:=hi2.2.1 hc
  rw [if_neg (by simp)]
  rw [hc,h3] at c2
  have hn0:r1.a≤L.length:=by omega
  obtain⟨tot,htot⟩:∃t,gJ L g (L.length+1) [] r1=t:=⟨_,rfl⟩
  rw [htot]
  show Ctr prog 123 [.c (.pt 0 0),.c (.v (.int .i64 m))] [cO L r] (.c (.ow 26 (lfin L m tot).1.length 4 (owL (lfin L m tot).1))) [cO L (lfin L m tot).2]
  refine ay func123 rfl rfl ?_
  repeat' (first|(apply av;first|refine ak ?_|refine ai ?_|refine aF 0 (c1) ?_ (hl:=cH (by rfl) xK)|refine aF 0 (c2) ?_ (hl:=cH (by rfl) xK)|refine ec ?_)|refine aj ?_|refine ab ?_|refine aa fun C=>?_|refine ac ?_|refine ah ?_|refine al ?_|refine ar rfl ?_)
  refine aZ (fun q:List E×RS×Bool=>⟨e8 [(0,.c (.pt 0 0)),(1,.c (.v (.int .i64 m))),(5,.c (.sl 9 q.1.length)),(6,.c (.v (.bool q.2.2)))],eT [(0,0,⟨0,0,0,true,cO L q.2.1⟩),(9,9,⟨26,4,q.1.length,false,owL q.1⟩)],1,[0,9],59⟩)
   (fun N q=>q.2.1.a≤L.length∧(q.2.2=true→L.length+1≤q.2.1.a+N∧gJ L g N q.1 q.2.1=tot∧(q.2.1.b=false→q.2.1.d=r1.d)∧q.1.length≤q.2.1.a)∧(q.2.2=false→(q.1,q.2.1)=tot)∧q.1.length≤q.2.1.a+1∧r1.d≤q.2.1.d) (L.length+1) ([],r1,true) ⟨hn0,fun _=>⟨by dsimp only;omega,htot,fun _=>rfl,Nat.zero_le _⟩,(fun h=>by cases h),Nat.zero_le _,Nat.le_refl _⟩ ?_ ?_
  ·(refine eu (fun j=>if j=9 then 7 else j) _ _ rfl rfl ?_ ?_<;>exact tdy2)
  clear c1 c2 hi2 hc h3 htot
  rintro N ⟨l,q,again⟩ ⟨k1,k2,k3,k4,k5⟩
  dsimp only at k1 k2 k3 k4 k5 ⊢
  obtain⟨a,b,d⟩:=q
  dsimp only at k1 k2 k3 k4 k5 ⊢
  cases again with
  | false =>
   have hfin:=k3 rfl
   subst hfin
   unfold lfin
   dsimp only
   have cm:=fy hL (r:=⟨a,b,d⟩) ⟨#[41]⟩
   generalize mkS L ⟨a,b,d⟩ ⟨#[41]⟩=r3 at *
   obtain⟨a3,b3,d3⟩:=r3
   clear hi hg k1 k2 k3 k4 k5
   unfold cO RS.or at *
   dsimp only at cm ⊢
   cases b3 with
   | true =>
    rw [Bool.true_or]
    repeat' (first|(apply av;first|refine bC ?_|(refine aK ?_ ?_<;>intro hG<;>(try cases hG))|refine ak ?_|refine ai ?_|refine ba ?_|refine aI ?_|refine aF 0 (cm) ?_|refine bg ?_|refine aA ?_|refine az ?_)|refine aj ?_|refine ab ?_|refine aa fun C=>?_|refine ac ?_|refine aB ?_|refine ar rfl ?_)
    exact rtq4
   | false =>
    rw [Bool.false_or]
    by_cases h0:0≤m
    ·rw [decide_eq_true h0,Bool.true_and]
     by_cases hn:(l.length:Int)=m
     ·rw [decide_eq_false (by simpa using hn)]
      have hne:((l.length:Int) != m)=false:=by simpa using hn
      repeat' (first|(apply av;first|refine bC ?_|(refine aK ?_ ?_<;>intro hG<;>(try cases hG))|refine ak ?_|refine ai ?_|refine ba ?_|refine aI ?_|refine aF 0 (cm) ?_|refine cU ?_|refine bg ?_|refine aQ ?_|refine dR ?_|refine aA ?_|refine az ?_)|refine aj ?_|refine ab ?_|refine aa fun C=>?_|refine ac ?_|refine aB ?_|refine ar rfl ?_)
      ·refine am ?_;refine d8 rfl (iC (bB rfl rfl rfl cls0 aV)) rfl clsR rfl ⟨?_,?_⟩
       ·rfl
       ·rw [hne];rfl
      ·exfalso;simp only [decide_eq_false_iff_not] at hG;exact hG h0
     ·rw [decide_eq_true hn]
      have hne:((l.length:Int) != m)=true:=by simpa using hn
      repeat' (first|(apply av;first|refine bC ?_|(refine aK ?_ ?_<;>intro hG<;>(try cases hG))|refine ak ?_|refine ai ?_|refine ba ?_|refine aI ?_|refine aF 0 (cm) ?_|refine cU ?_|refine bg ?_|refine aQ ?_|refine dR ?_|refine aA ?_|refine az ?_)|refine aj ?_|refine ab ?_|refine aa fun C=>?_|refine ac ?_|refine aB ?_|refine ar rfl ?_)
      ·refine am ?_;refine d8 rfl (iC (bB rfl rfl rfl cls0 aV)) rfl clsR rfl ⟨?_,?_⟩
       ·rfl
       ·rw [hne];rfl
      ·exfalso;simp only [decide_eq_false_iff_not] at hG;exact hG h0
    ·rw [decide_eq_false h0,Bool.false_and]
     repeat' (first|(apply av;first|refine bC ?_|(refine aK ?_ ?_<;>intro hG<;>(try cases hG))|refine ak ?_|refine ai ?_|refine ba ?_|refine aI ?_|refine aF 0 (cm) ?_|refine cU ?_|refine bg ?_|refine aQ ?_|refine dR ?_|refine aA ?_|refine az ?_)|refine aj ?_|refine ab ?_|refine aa fun C=>?_|refine ac ?_|refine aB ?_|refine ar rfl ?_)
     ·exfalso;simp only [decide_eq_true_iff] at hG;exact h0 hG
     ·exact rtq4
  | true =>
   obtain⟨k6,k7,k8,k9⟩:=k2 rfl
   cases b with
   | true =>
    rw [zcQ rfl] at k7
    have hfin:=k7
    subst hfin
    unfold lfin
    dsimp only
    have cm:=fy hL (r:=⟨a,true,d⟩) ⟨#[41]⟩
    generalize mkS L ⟨a,true,d⟩ ⟨#[41]⟩=r3 at *
    obtain⟨a3,b3,d3⟩:=r3
    clear hi hg k1 k2 k3 k4 k5
    unfold cO RS.or at *
    dsimp only at cm ⊢
    cases b3 with
    | true =>
     rw [Bool.true_or]
     repeat' (first|(apply av;first|refine bC ?_|(refine aK ?_ ?_<;>intro hG<;>(try cases hG))|refine ak ?_|refine ai ?_|refine ba ?_|refine aI ?_|refine aF 0 (cm) ?_|refine bg ?_|refine bM ?_|refine aA ?_|refine az ?_)|refine aj ?_|refine ab ?_|refine aa fun C=>?_|refine ac ?_|refine aB ?_|refine ar rfl ?_)
     exact rtq4
    | false =>
     rw [Bool.false_or]
     by_cases h0:0≤m
     ·rw [decide_eq_true h0,Bool.true_and]
      by_cases hn:(l.length:Int)=m
      ·rw [decide_eq_false (by simpa using hn)]
       have hne:((l.length:Int) != m)=false:=by simpa using hn
       repeat' (first|(apply av;first|refine bC ?_|(refine aK ?_ ?_<;>intro hG<;>(try cases hG))|refine ak ?_|refine ai ?_|refine ba ?_|refine aI ?_|refine aF 0 (cm) ?_|refine cU ?_|refine bg ?_|refine aQ ?_|refine dR ?_|refine bM ?_|refine aA ?_|refine az ?_)|refine aj ?_|refine ab ?_|refine aa fun C=>?_|refine ac ?_|refine aB ?_|refine ar rfl ?_)
       ·refine am ?_;refine d8 rfl (iC (bB rfl rfl rfl cls0 aV)) rfl clsR rfl ⟨?_,?_⟩
        ·rfl
        ·rw [hne];rfl
       ·exfalso;simp only [decide_eq_false_iff_not] at hG;exact hG h0
      ·rw [decide_eq_true hn]
       have hne:((l.length:Int) != m)=true:=by simpa using hn
       repeat' (first|(apply av;first|refine bC ?_|(refine aK ?_ ?_<;>intro hG<;>(try cases hG))|refine ak ?_|refine ai ?_|refine ba ?_|refine aI ?_|refine aF 0 (cm) ?_|refine cU ?_|refine bg ?_|refine aQ ?_|refine dR ?_|refine bM ?_|refine aA ?_|refine az ?_)|refine aj ?_|refine ab ?_|refine aa fun C=>?_|refine ac ?_|refine aB ?_|refine ar rfl ?_)
       ·refine am ?_;refine d8 rfl (iC (bB rfl rfl rfl cls0 aV)) rfl clsR rfl ⟨?_,?_⟩
        ·rfl
        ·rw [hne];rfl
       ·exfalso;simp only [decide_eq_false_iff_not] at hG;exact hG h0
     ·rw [decide_eq_false h0,Bool.false_and]
      repeat' (first|(apply av;first|refine bC ?_|(refine aK ?_ ?_<;>intro hG<;>(try cases hG))|refine ak ?_|refine ai ?_|refine ba ?_|refine aI ?_|refine aF 0 (cm) ?_|refine cU ?_|refine bg ?_|refine aQ ?_|refine dR ?_|refine bM ?_|refine aA ?_|refine az ?_)|refine aj ?_|refine ab ?_|refine aa fun C=>?_|refine ac ?_|refine aB ?_|refine ar rfl ?_)
      ·exfalso;simp only [decide_eq_true_iff] at hG;exact h0 hG
      ·exact rtq4
   | false =>
    have hd1:=k8 rfl
    subst hd1
    obtain⟨M,rfl⟩:∃M,N=M+1:=⟨N-1,omq⟩
    have hgd:=hg ⟨a,false,r1.d⟩ k1
    have hic:=hi ⟨a,false,r1.d⟩ k1 (by dsimp only;omega) hf1 (by dsimp only;omega)
    have hst:gJ L g (M+1) l ⟨a,false,r1.d⟩=if (isS L (g ⟨a,false,r1.d⟩).2 5 ⟨#[44]⟩).1=true then gJ L g M (l++[(g ⟨a,false,r1.d⟩).1]) (isS L (g ⟨a,false,r1.d⟩).2 5 ⟨#[44]⟩).2 else (l++[(g ⟨a,false,r1.d⟩).1],(g ⟨a,false,r1.d⟩).2):=by
     conv=>lhs;unfold gJ
     rw [if_neg (by simp)]
    rw [hst] at k7
    clear hst k2 k3 hi hg
    generalize g ⟨a,false,r1.d⟩=x1 at *
    obtain⟨e,q2⟩:=x1
    dsimp only at hgd hic k7
    have hn:=hgd.n
    have hfe:=hgd.fine
    clear hgd
    dsimp only at hn
    have c3:=mA hL (r:=q2) 5 ⟨#[44]⟩
    have hi3:=is_f L q2 5 ⟨#[44]⟩
    obtain⟨⟨ag,q3⟩,hq3⟩:∃x,isS L q2 5 ⟨#[44]⟩=x:=⟨_,rfl⟩
    rw [hq3] at c3 hi3 k7
    dsimp only at c3 hi3 k7
    have bq:=dJ q2.b
    cases hfe with
    | mk k n s w hk hn0 hs hw =>
    have hex:∃k',k'=M:=⟨M,rfl⟩
    have hinv:q3.a≤L.length∧(ag=true→L.length+1≤q3.a+M∧gJ L g M (l++[xE k n s w]) q3=tot∧(q3.b=false→q3.d=r1.d)∧(l++[xE k n s w]).length≤q3.a)∧(ag=false→(l++[xE k n s w],q3)=tot)∧(l++[xE k n s w]).length≤q3.a+1∧r1.d≤q3.d:=by
     cases ag with
     | true =>
      have h4:=hi3.1 rfl
      rw [if_pos rfl] at k7
      refine⟨omq,fun _=>⟨omq,k7,fun _=>by omega,by rw [List.length_append,List.length_singleton];omega⟩,(fun h=>by cases h),?_,omq⟩
      rw [List.length_append,List.length_singleton]
      omega
     | false =>
      have h4:=hi3.2.1 rfl
      rw [if_neg (by simp)] at k7
      subst h4
      refine⟨omq,(fun h=>by cases h),fun _=>k7,?_,omq⟩
      rw [List.length_append,List.length_singleton]
      omega
    clear k7 hi3 hq3 hn bq
    unfold cO at hic c3 ⊢
    dsimp only at hic c3 ⊢
    repeat' (first|(apply av;first|(refine aK ?_ ?_<;>intro hG<;>(try cases hG))|refine ak ?_|refine ai ?_|refine ba ?_|refine aI ?_|refine aF 0 (hic) ?_|refine aF 0 (c3) ?_|refine ip ?_|refine bM ?_|refine aA ?_|refine ec ?_|refine az ?_)|refine aj ?_|refine ab ?_|refine aa fun C=>?_|refine ac ?_|refine ah ?_|refine al ?_|refine aq rfl ?_)
    refine⟨M,(l++[xE k n s w],q3,ag),omq,hinv,?_⟩
    dsimp only
    rw [List.length_append,List.length_singleton]
    refine (dA (i:=36) (j:=3500) rfl rfl rfl (pre:=owL l++[.v (.int .i64 k),.v (.int .i64 n),.v (.string s)]) (post:=[]) (by rw [List.append_assoc];rfl)).trans ?_
    (refine eu (fun j=>if j=9 then 36 else j) _ _ rfl rfl ?_ ?_<;>(repeat' (first|exact TmOk.nil|exact RwOk.nil|refine TmOk.cons ?_ ?_|refine RwOk.cons ?_ ?_|rfl|exact fa rfl rfl (sG _ _)|exact fa rfl rfl bX|exact fa rfl rfl (pG _ _)|exact fa rfl rfl dX|(refine rnV_id' rfl ?_;exact byc)|(refine cE ?_;first|rfl|omega|(rw [bA omq omq];omega))|(refine bf rfl ?_;exact byc)|exact dH rfl rfl|(refine rw_mid (by rfl) (by rfl) ?_ ?_<;>exact byc)|(refine rw_rn' rfl rfl ?_;simp;done))))
    exact fa (r:=⟨26,4,l.length+1,false,(owL l++[.v (.int .i64 k),.v (.int .i64 n),.v (.string s)])++[.ow 26 w.length 4 (owL w)]⟩) rfl (by rw [fj,List.append_assoc];rfl) (by first|rfl|(simp [oO,bl,clo,bi,aL,bj,a8,aX];done))
theorem eY {L:List T3}(hL:L.length≤2000){r:RI}(ha:r.a≤100000)(s:ByteArray):Ctr prog 84 [.c (.pt 0 0),.c (.ro 1 1 [.v (.string s)])] [dz L r] (.tu []) [dz L (waI L r s)]:=by
 have c1:=pH hL ha (j:=0) omq (z:=0) rfl s
 obtain⟨a,b⟩:=r
 obtain⟨b2,hb2⟩:∃x,(b||!isI L ⟨a,b⟩ 0 s)=x:=⟨_,rfl⟩
 unfold waI
 dsimp only at ha ⊢
 rw [hb2]
 unfold dz at *
 dsimp only at c1 ⊢
 refine ay func84 rfl rfl ?_
 repeat' (first|(apply av;first|refine ak ?_|refine bN ?_)|refine aj ?_|refine ab ?_|refine aa fun C=>?_|refine ac ?_|refine ah ?_)
 refine aZ (fun d:Nat×Int×Bool=>⟨e8 [(0,.c (.pt 0 0)),(6,.c (.ro 1 1 [.v (.string s)])),(7,.c (.v (.int .i64 1))),(8,.c (.v (.int .i64 d.1)))],eT [(0,0,⟨0,0,0,true,[.ro (L.map T3.E).length 3 (acL (L.map T3.E)),.v (.int .i64 d.2.1),.v (.bool d.2.2)]⟩)],1,[0],27⟩)
  (fun N d=>(d.1=0∧N=1∧d.2.1=(a:Int)∧d.2.2=b)∨(d.1=1∧d.2.1=((a+1:Nat):Int)∧d.2.2=b2)) 1 (0,(a:Int),b) (.inl ⟨rfl,rfl,rfl,rfl⟩) ?_ ?_
 ·(refine aN _ _ rfl rfl ?_ ?_<;>exact tdy2)
 rintro N ⟨j,x,y⟩ hd
 dsimp only at hd ⊢
 rcases hd with ⟨rfl,rfl,rfl,rfl⟩|⟨rfl,rfl,rfl⟩
 ·cases hi:isI L ⟨a,y⟩ 0 s with
  | true =>
   rw [hi] at c1 hb2
   obtain rfl:y=b2:=by rw [←hb2];simp
   repeat' (first|(apply av;first|refine ak ?_|refine ai ?_|refine ba ?_|refine aI ?_|refine dy ?_|refine aF 0 (c1) ?_|refine bg ?_|(apply qo;refine az ?_)|refine aE ?_|refine aw ?_|refine bM ?_|refine az ?_)|refine aj ?_|refine ab ?_|refine aa fun C=>?_|refine ac ?_|refine ah ?_|refine al ?_|refine aq rfl ?_|refine ar rfl ?_)
   refine⟨0,(1,((a+1:Nat):Int),y),omq,.inr ⟨rfl,rfl,rfl⟩,?_⟩
   (refine aN _ _ rfl rfl ?_ ?_<;>exact tdy2)
  | false =>
   rw [hi] at c1 hb2
   obtain rfl:true=b2:=by rw [←hb2];simp
   repeat' (first|(apply av;first|refine ak ?_|refine ai ?_|refine ba ?_|refine aI ?_|refine dy ?_|refine aF 0 (c1) ?_|refine bg ?_|(apply qo;refine az ?_)|refine aE ?_|refine aw ?_|refine bM ?_|refine az ?_)|refine aj ?_|refine ab ?_|refine aa fun C=>?_|refine ac ?_|refine ah ?_|refine al ?_|refine aq rfl ?_)
   refine⟨0,(1,((a+1:Nat):Int),true),omq,.inr ⟨rfl,rfl,rfl⟩,?_⟩
   (refine aN _ _ rfl rfl ?_ ?_<;>exact tdy2)
 ·repeat' (first|(apply av;refine aE ?_)|refine aj ?_|refine ab ?_|refine aa fun C=>?_|refine ac ?_|refine aB ?_|refine ar rfl ?_)
  exact d8 (x:=.tu []) rfl rfl rfl bX rfl ⟨rfl,rfl⟩
theorem ol {L:List T3}(hL:L.length≤2000){r:RI}(ha:r.a≤100000)(k:Int):Ctr prog 85 [.c (.pt 0 0),.c (.v (.int .i64 k))] [dz L r] (.ag [.v (.int .i64 (taI L r k).1.1),.v (.int .i64 (taI L r k).1.2.1),.v (.string (taI L r k).1.2.2)]) [dz L (taI L r k).2]:=by
 have c1:=gY hL ha (j:=0) omq (z:=0) rfl
 refine ay func85 rfl rfl ?_
 unfold taI
 dsimp only
 rw [Nat.add_zero] at c1
 obtain⟨a,b⟩:=r
 unfold dz at *
 dsimp only at ha c1 ⊢
 generalize tAt L a=t at *
 obtain⟨k',n,u⟩:=t
 dsimp only at c1 ⊢
 by_cases hk:k'=k
 ·subst hk
  rw [show (b||!decide (k'=k'))=b by simp]
  repeat' (first|(apply av;first|refine ak ?_|refine ba ?_|refine aI ?_|refine aF 0 (c1) ?_|refine bg ?_|refine aQ ?_|refine bI ?_)|refine aj ?_|refine ab ?_|refine aa fun C=>?_|refine ac ?_)
  refine ae (by rfl) (fun hC=>by exfalso;simp at hC) fun hC=>?_
  repeat' (first|(apply av;first|refine ak ?_|refine ba ?_|refine aI ?_|refine bL ?_|refine bg ?_|refine aw ?_|refine az ?_)|refine aj ?_|refine ab ?_|refine aa fun C=>?_|refine ac ?_|refine al ?_)
  refine am ?_;refine d8 rfl (bh (aS rfl (aS rfl (aS rfl aV)))) rfl clsR rfl ⟨?_,?_⟩
  ·rfl
  ·rfl
 ·rw [show (b||!decide (k'=k))=true by simp [hk]]
  repeat' (first|(apply av;first|refine ak ?_|refine ba ?_|refine aI ?_|refine aF 0 (c1) ?_|refine bg ?_|refine aQ ?_|refine bI ?_)|refine aj ?_|refine ab ?_|refine aa fun C=>?_|refine ac ?_)
  refine ae (by rfl) (fun hC=>?_) fun hC=>by exfalso;simp at hC;exact hk hC
  repeat' (first|(apply av;first|refine ak ?_|refine ba ?_|refine aI ?_|refine bL ?_|refine bg ?_|refine aw ?_|refine az ?_)|refine aj ?_|refine ab ?_|refine aa fun C=>?_|refine ac ?_)
  refine am ?_;refine d8 rfl (bh (aS rfl (aS rfl (aS rfl aV)))) rfl clsR rfl ⟨?_,?_⟩
  ·rfl
  ·rfl
end Go.Proofs.YtomolhbkdhjofaaGreatDoor
