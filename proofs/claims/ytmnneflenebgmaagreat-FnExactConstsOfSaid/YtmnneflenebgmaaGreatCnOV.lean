/- T -/
import Derived.Test.YtmnneflenebgmaaGreatCnOU
set_option maxHeartbeats 0
set_option maxRecDepth 100000
namespace Go.Proofs.YtmnneflenebgmaaGreat
open Go.RowKit Go.Proofs.Tryz
theorem xT {s:ByteArray}{atom:PS→E×PS}{p:PS}{e:E}{a d:Nat}{b:Bool}(h:atom p=(e,⟨a,d,b⟩)):jC s atom p =
 (if bAt s a=42 then (cU 6 ByteArray.empty [e],⟨a+1,d,b⟩) else if bAt s a=43 then (cU 7 ByteArray.empty [e],⟨a+1,d,b⟩) else if bAt s a=63 then (cU 8 ByteArray.empty [e],⟨a+1,d,b⟩) else (e,⟨a,d,b⟩)):=by
 unfold jC
 rw [h];rfl
theorem zb4 {s:ByteArray}(hs:s.size≤1048576){atom:PS→E×PS}{p:PS}(hg:Good s p (atom p) 1 1 0)
 (ha:Ctr prog 200 [.c (.pt 0 0)] [fb s p] (.ag (owE (atom p).1)) [fb s (atom p).2]) :
 Ctr prog 160 [.c (.pt 0 0)] [fb s p] (.ag (owE (jC s atom p).1)) [fb s (jC s atom p).2]:=by
 obtain⟨⟨e,q⟩,hq⟩:∃r,atom p=r:=⟨_,rfl⟩
 rw [hq] at ha hg
 have hn3:=lW hs (p:=q)
 have hle:q.a≤s.size:=hg.le
 obtain⟨qa,qd,qb⟩:=q
 rw [xT hq]
 clear hq
 have hfi:Fine e:=hg.fine
 clear hg
 unfold fb at *
 dsimp only at ha hn3 hle ⊢
 cases hfi with
 | mk k t l hk ht hl2 =>
 generalize hv:bAt s qa=v at *
 refine av func160 rfl rfl ?_
 have hb3:(⟨5,1,3,false,[.v (.int .u8 42),.v (.int .u8 43),.v (.int .u8 63)]⟩:Row).cs.length=3:=rfl
 repeat' (first|(apply ay;first|refine ao ?_|refine be 0 (ha) ?_|refine cG ?_|refine dn ?_|refine gh ?_)|refine al ?_|refine ab ?_|refine aa fun C=>?_|refine ae ?_)
 refine n_cvm ?_ (e:=5) (by kernel_rfl) (by kernel_rfl)
 repeat' (first|(apply ay;first|refine ao ?_|refine aY ?_)|refine al ?_|refine ab ?_|refine ah ?_)
 refine aP (fun j:Nat=>⟨dA [(0,.c (.pt 0 0)),(2,.c (.pt 2 0)),(3,.c (.pt 3 0)),(9,.c (.ro 3 1 [.v (.int .u8 42),.v (.int .u8 43),.v (.int .u8 63)])),(10,.c (.v (.int .i64 3))),(11,.c (.v (.int .i64 j)))],dq [(0,0,⟨0,0,0,true,[.v (.string s),.v (.int .i64 qa),.v (.int .i64 qd),.v (.bool qb)]⟩),(2,2,⟨39,0,0,true,[.v (.int .i64 0),.v (.string ByteArray.empty),.v (.slice none 0 0)]⟩),(3,3,⟨39,0,0,true,[.v (.int .i64 k),.v (.string t),.sl 5 l.length]⟩),(5,5,⟨39,3,l.length,false,owL l⟩)],1,[0,2,3,5],34⟩)
  (fun N j=>j+N=3∧(1≤j→v≠42)∧(2≤j→v≠43)∧(3≤j→v≠63)) 3 0 ⟨omq,omq,omq,omq⟩ ?_ ?_
 ·(refine fW (fun j=>if j=5 then 800 else j) _ _ rfl rfl ?_ ?_<;>exact tdy0)
 rintro N j ⟨hN,hj1,hj2,hj3⟩
 obtain rfl|rfl|rfl|rfl:j=0∨j=1∨j=2∨j=3:=by omega
 ·by_cases hv0:v=42
  ·rw [if_pos hv0]
   subst hv0
   have hlt:qa<s.size:=da (by rw [hv];decide)
   repeat' (first|(apply ay;first|refine ao ?_|refine ak ?_|refine bd ?_|refine aL ?_|refine dC ?_|refine bu ?_|refine be 0 (hn3) ?_|refine cG ?_|(apply f_ia;refine aS ?_)|refine bQ ?_|refine aO ?_|refine aD ?_|refine gh ?_|refine aS ?_)|refine al ?_|refine ab ?_|refine aa fun C=>?_|refine ae ?_|refine ah ?_|refine ai ?_|refine az rfl ?_)
   refine bH (dN (i:=30) (j:=5) rfl rfl rfl (pre:=[_,_]) (post:=[]) rfl) ?_
   refine am ?_;refine eo rfl (cq (bC rfl (bC rfl (bZ rfl rfl rfl cls0 bj)))) rfl (by first|rfl|(simp [bf,clo,ba,aH,bq,bp,aZ];done)) rfl ⟨?_,?_⟩
   ·rfl
   ·rfl
  ·repeat' (first|(apply ay;first|refine ao ?_|refine ak ?_|refine dC ?_|refine be 0 (hn3) ?_|(apply f_ia;refine aS ?_)|refine bQ ?_|refine aO ?_)|refine al ?_|refine ab ?_|refine aa fun C=>?_|refine ae ?_|refine ah ?_|refine ai ?_|refine az rfl ?_)
   refine aj (by rfl) (fun hC=>absurd (eq_of_beq hC) omq) fun hC=>?_
   repeat' (first|(apply ay;first|refine ao ?_|refine aD ?_)|refine al ?_|refine ab ?_|refine aa fun C=>?_|refine ai ?_)
   refine⟨N-1,1,omq,⟨omq,omq,omq,omq⟩,?_⟩
   (refine aC _ _ rfl rfl ?_ ?_<;>exact tdy0)
 ·by_cases hv1:v=43
  ·rw [if_neg (hj1 omq),if_pos hv1]
   subst hv1
   have hlt:qa<s.size:=da (by rw [hv];decide)
   repeat' (first|(apply ay;first|refine ao ?_|refine ak ?_|refine bd ?_|refine aL ?_|refine dC ?_|refine bu ?_|refine be 0 (hn3) ?_|refine cG ?_|(apply f_ia;refine aS ?_)|refine bQ ?_|refine aO ?_|refine aD ?_|refine gh ?_|refine aS ?_)|refine al ?_|refine ab ?_|refine aa fun C=>?_|refine ae ?_|refine ah ?_|refine ai ?_|refine az rfl ?_)
   refine bH (dN (i:=30) (j:=5) rfl rfl rfl (pre:=[_,_]) (post:=[]) rfl) ?_
   refine am ?_;refine eo rfl (cq (bC rfl (bC rfl (bZ rfl rfl rfl cls0 bj)))) rfl (by first|rfl|(simp [bf,clo,ba,aH,bq,bp,aZ];done)) rfl ⟨?_,?_⟩
   ·rfl
   ·rfl
  ·repeat' (first|(apply ay;first|refine ao ?_|refine ak ?_|refine dC ?_|refine be 0 (hn3) ?_|(apply f_ia;refine aS ?_)|refine bQ ?_|refine aO ?_)|refine al ?_|refine ab ?_|refine aa fun C=>?_|refine ae ?_|refine ah ?_|refine ai ?_|refine az rfl ?_)
   refine aj (by rfl) (fun hC=>absurd (eq_of_beq hC) omq) fun hC=>?_
   repeat' (first|(apply ay;first|refine ao ?_|refine aD ?_)|refine al ?_|refine ab ?_|refine aa fun C=>?_|refine ai ?_)
   refine⟨N-1,2,omq,⟨omq,omq,omq,omq⟩,?_⟩
   (refine aC _ _ rfl rfl ?_ ?_<;>exact tdy0)
 ·by_cases hv2:v=63
  ·rw [if_neg (hj1 omq),if_neg (hj2 omq),if_pos hv2]
   subst hv2
   have hlt:qa<s.size:=da (by rw [hv];decide)
   repeat' (first|(apply ay;first|refine ao ?_|refine ak ?_|refine bd ?_|refine aL ?_|refine dC ?_|refine bu ?_|refine be 0 (hn3) ?_|refine cG ?_|(apply f_ia;refine aS ?_)|refine bQ ?_|refine aO ?_|refine aD ?_|refine gh ?_|refine aS ?_)|refine al ?_|refine ab ?_|refine aa fun C=>?_|refine ae ?_|refine ah ?_|refine ai ?_|refine az rfl ?_)
   refine bH (dN (i:=30) (j:=5) rfl rfl rfl (pre:=[_,_]) (post:=[]) rfl) ?_
   refine am ?_;refine eo rfl (cq (bC rfl (bC rfl (bZ rfl rfl rfl cls0 bj)))) rfl (by first|rfl|(simp [bf,clo,ba,aH,bq,bp,aZ];done)) rfl ⟨?_,?_⟩
   ·rfl
   ·rfl
  ·repeat' (first|(apply ay;first|refine ao ?_|refine ak ?_|refine dC ?_|refine be 0 (hn3) ?_|(apply f_ia;refine aS ?_)|refine bQ ?_|refine aO ?_)|refine al ?_|refine ab ?_|refine aa fun C=>?_|refine ae ?_|refine ah ?_|refine ai ?_|refine az rfl ?_)
   refine aj (by rfl) (fun hC=>absurd (eq_of_beq hC) omq) fun hC=>?_
   repeat' (first|(apply ay;first|refine ao ?_|refine aD ?_)|refine al ?_|refine ab ?_|refine aa fun C=>?_|refine ai ?_)
   refine⟨N-1,3,omq,⟨omq,omq,omq,omq⟩,?_⟩
   (refine aC _ _ rfl rfl ?_ ?_<;>exact tdy0)
 ·rw [if_neg (hj1 omq),if_neg (hj2 omq),if_neg (hj3 omq)]
  repeat' (first|(apply ay;first|refine bu ?_|refine cG ?_|refine aO ?_)|refine al ?_|refine ab ?_|refine aa fun C=>?_|refine ae ?_|refine au ?_|refine aE rfl ?_)
  refine am ?_;refine eo rfl (cq (bC rfl (bC rfl (bZ rfl rfl rfl cls0 bj)))) rfl (by first|rfl|(simp [bf,clo,ba,aH,bq,bp,aZ];done)) rfl ⟨?_,?_⟩
  ·rfl
  ·rfl
theorem pz {s:ByteArray}{item:PS→E×PS}{p:PS}(h:goI s p=false):∀(n:Nat) (l:List E),bX s item n l p=(l,p)
 | 0,_=>rfl
 | n+1,l=>by unfold bX;rw [if_neg (by rw [h];simp)]
theorem oa {s:ByteArray}{a d v:Nat}{b:Bool}(hv:bAt s a=v):goI s ⟨a,d,b⟩=(!b&&!(v==0)&&!(v==124)&&!(v==41)):=by unfold goI;rw [hv]
theorem cat_c {s:ByteArray}(hs:s.size≤1048576){item:PS→E×PS}{p0:PS}(hp:p0.a≤s.size)(hd:p0.d≤1048577)
 (hg:∀q,q.a<s.size→q.d=p0.d→p0.a≤q.a→Good s q (item q) 1 1 0)
 (hi:∀q,q.a<s.size→q.d=p0.d→p0.a≤q.a→Ctr prog 160 [.c (.pt 0 0)] [fb s q] (.ag (owE (item q).1)) [fb s (item q).2]) :
 Ctr prog 110 [.c (.pt 0 0)] [fb s p0] (.ag (owE (sS s item p0).1)) [fb s (sS s item p0).2]:=by
 refine av func110 rfl rfl ?_
 repeat' (first|(apply ay;first|refine ak ?_|refine dn ?_)|refine al ?_|refine ab ?_|refine aa fun C=>?_|refine ae ?_|refine ah ?_)
 refine aP (fun q:List E×PS=>⟨dA [(0,.c (.pt 0 0)),(2,.c (.pt 2 0)),(3,.c (.sl 9 q.1.length))],dq [(0,0,⟨0,0,0,true,fb s q.2⟩),(2,2,⟨39,0,0,true,[.v (.int .i64 0),.v (.string ByteArray.empty),.v (.slice none 0 0)]⟩),(9,9,⟨39,3,q.1.length,false,owL q.1⟩)],1,[0,2,9],44⟩)
  (fun N q=>GoodL s p0 q.1 q.2 0∧s.size+2≤q.2.a+N∧bX s item N q.1 q.2=bX s item (s.size+2) [] p0) (s.size+2) ([],p0) ⟨⟨fun _ h=>absurd h List.not_mem_nil,Nat.le_refl _,hp,rfl,by simp,by simp [E.szL]⟩,by dsimp only;omega,rfl⟩ ?_ ?_
 ·refine (qB 9 (t:=3) 39 3 rfl rfl).trans ?_
  (refine aC _ _ rfl rfl ?_ ?_<;>exact tdy0)
 rintro N ⟨L,q⟩ ⟨hgl,hN,htot⟩
 dsimp only at hgl hN htot ⊢
 obtain⟨k1,k2,k3,k4,k5,k6⟩:=hgl
 have hnx:=lW hs (p:=q)
 obtain⟨M,rfl⟩:∃M,N=M+1:=⟨N-1,omq⟩
 have htail:sS s item p0=if (bX s item (M+1) L q).1.length=0 then (cV,(bX s item (M+1) L q).2.bad) else (jB 4 (bX s item (M+1) L q).1,(bX s item (M+1) L q).2):=by unfold sS;rw [←htot]
 cases hgo:goI s q with
 | true =>
  obtain⟨hb,hlt,-⟩:=zm hgo
  obtain⟨g1,g2,g3,g4,g5⟩:=hg q hlt k4 k2
  have hic:=hi q hlt k4 k2
  have hst:bX s item (M+1) L q=bX s item M (L++[(item q).1]) (item q).2:=by
   show (if goI s q then _ else _)=_
   rw [if_pos hgo]
  rw [hst] at htot
  clear htail hst hi hg
  obtain⟨⟨e,q2⟩,hq2⟩:∃r,item q=r:=⟨_,rfl⟩
  rw [hq2] at hic htot g1 g2 g3 g4 g5
  dsimp only at hic htot g1 g2 g3 g4 g5
  cases g1 with
  | mk k t l hk ht hl2 =>
  obtain⟨a,d,b⟩:=q
  have hb:b=false:=hb
  subst hb
  obtain⟨v,hv⟩:∃v,bAt s a=v:=⟨_,rfl⟩
  rw [oa hv] at hgo
  simp only [Bool.and_eq_true,Bool.not_eq_true',beq_eq_false_iff_ne] at hgo
  have hnx:Ctr prog 111 [.c (.pt 0 0)] [fb s ⟨a,d,false⟩] (.c (.v (.int .u8 (v:Int)))) [fb s ⟨a,d,false⟩]:=by rw [←hv];exact hnx
  unfold fb at hnx hic ⊢
  dsimp only at hnx hic k2 k3 k4 k5 k6 hN g2 g3 g4 g5 ⊢
  repeat' (first|(apply ay;first|refine bO ?_|(refine aU ?_ ?_<;>intro hG<;>(try cases hG))|refine ao ?_|refine bd ?_|refine aL ?_|refine be 0 (hnx) ?_|refine e8 ?_|refine bF ?_|refine aF ?_|refine aS ?_)|refine al ?_|refine ab ?_|refine aa fun C=>?_|refine ae ?_)
  all_goals first
   | (exfalso;simp at hG;omega)
   | skip
  refine aj (by rfl) (fun hC=>?_) fun hC=>absurd (bne_eq_false_iff_eq.1 hC) omq
  repeat' (first|(apply ay;first|refine ao ?_|refine ak ?_|refine be 0 (hic) ?_|refine ll ?_|refine gh ?_)|refine al ?_|refine ab ?_|refine aa fun C=>?_|refine ah ?_|refine ai ?_)
  refine⟨M,(L++[cU k t l],q2),omq,⟨⟨fun x hx=>?_,?_,g3,?_,?_,?_⟩,?_,htot⟩,?_⟩
  ·rcases List.mem_append.1 hx with hx|hx
   ·exact k1 x hx
   ·obtain rfl:=List.mem_singleton.1 hx;exact .mk k t l hk ht hl2
  ·dsimp only;omega
  ·dsimp only;omega
  ·dsimp only;rw [List.length_append,List.length_singleton];omega
  ·dsimp only;rw [iy,List.length_append,List.length_singleton];omega
  ·dsimp only;omega
  ·dsimp only
   rw [List.length_append,List.length_singleton]
   refine (dN (i:=28) (j:=2700) rfl rfl rfl (pre:=owL L++[.v (.int .i64 k),.v (.string t)]) (post:=[]) (by rw [List.append_assoc];rfl)).trans ?_
   (refine fW (fun j=>if j=9 then 28 else j) _ _ rfl rfl ?_ ?_<;>(repeat' (first|exact TmOk.nil|exact RwOk.nil|refine TmOk.cons ?_ ?_|refine RwOk.cons ?_ ?_|rfl|(refine rnV_id' rfl ?_;exact byc)|(refine bv ?_;first|rfl|omega|(rw [aW omq omq];omega))|(refine aK rfl ?_;exact byc)|exact cb rfl rfl|(refine rw_mid (by rfl) (by rfl) ?_ ?_<;>exact byc)|(refine rw_rn' rfl rfl ?_;simp;done))))
   exact lj (r:=⟨39,3,L.length+1,false,(owL L++[.v (.int .i64 k),.v (.string t)])++[.ow 39 l.length 3 (owL l)]⟩) rfl (by rw [ff,List.append_assoc];rfl) (by first|rfl|(simp [rJ,bf,clo,bp,aH,bq,ba,aZ];done))
 | false =>
  rw [pz hgo] at htail
  rw [htail]
  clear htail hi hg htot
  obtain⟨a,d,b⟩:=q
  obtain⟨v,hv⟩:∃v,bAt s a=v:=⟨_,rfl⟩
  rw [oa hv] at hgo
  have hnx:Ctr prog 111 [.c (.pt 0 0)] [fb s ⟨a,d,b⟩] (.c (.v (.int .u8 (v:Int)))) [fb s ⟨a,d,b⟩]:=by rw [←hv];exact hnx
  unfold fb at hnx ⊢
  dsimp only [PS.bad] at hnx k2 k3 k4 k5 k6 hN ⊢
  have hgo':b=true∨v=0∨v=124∨v=41:=by
   cases b with
   | true=>exact .inl rfl
   | false=>right;simp at hgo;omega
  match L,k1 with
  | [],_ =>
   rw [if_pos (show ([]:List E).length=0 from rfl)]
   cases b<;>repeat' (first|(apply ay;first|refine bO ?_|(refine aU ?_ ?_<;>intro hG<;>(try cases hG))|refine ao ?_|refine bd ?_|refine aL ?_|refine be 0 (hnx) ?_|refine e8 ?_|refine bF ?_|refine aF ?_|refine aS ?_)|refine al ?_|refine ab ?_|refine aa fun C=>?_|refine ae ?_)
   all_goals first
    | refine aE rfl ?_
    | refine aj (by rfl) (fun hC=>by exfalso;clear hnx;simp only [bne_iff_ne,ne_eq,Bool.false_eq_true,false_or] at *;omega) fun hC=>?_
   all_goals
    repeat' (first|(apply ay;first|refine ao ?_|refine ak ?_|refine bd ?_|refine gp ?_|refine cG ?_|refine aq ?_|refine aS ?_)|refine al ?_|refine ab ?_|refine aa fun C=>?_|refine ae ?_|refine ah ?_|refine au ?_|refine az rfl ?_)
    refine bH (dZ 900 (i:=2) 39 3 rfl rfl (pre:=[_,_]) (post:=[]) rfl) ?_;refine am ?_;refine eo rfl (cq (bC rfl (bC rfl (bZ rfl rfl rfl cls0 bj)))) rfl (by first|rfl|(simp [bf,clo,ba,aH,bq,bp,aZ];done)) rfl ⟨?_,?_⟩
    ·rfl
    ·rfl
  | [x],hf =>
   rw [if_neg (show ¬[x].length=0 by simp)]
   have hx:=hf x (List.mem_singleton.2 rfl)
   cases hx with
   | mk k t l hk ht hl2 =>
   cases b<;>repeat' (first|(apply ay;first|refine bO ?_|(refine aU ?_ ?_<;>intro hG<;>(try cases hG))|refine ao ?_|refine bd ?_|refine aL ?_|refine be 0 (hnx) ?_|refine e8 ?_|refine bF ?_|refine aF ?_|refine aS ?_)|refine al ?_|refine ab ?_|refine aa fun C=>?_|refine ae ?_)
   all_goals first
    | refine aE rfl ?_
    | refine aj (by rfl) (fun hC=>by exfalso;clear hnx;simp only [bne_iff_ne,ne_eq,Bool.false_eq_true,false_or] at *;omega) fun hC=>?_
   all_goals
    refine bH (gW 800 (i:=9) rfl rfl (pre:=[.v (.int .i64 k),.v (.string t)]) (post:=[]) rfl) ?_
    repeat' (first|(apply ay;first|refine ao ?_|refine ak ?_|refine bu ?_|refine gp ?_|refine cG ?_|(apply f_ia;refine aS ?_)|refine aq ?_)|refine al ?_|refine ab ?_|refine aa fun C=>?_|refine ae ?_|refine ah ?_|refine au ?_|refine az rfl ?_|refine aE rfl ?_)
    refine am ?_;refine eo rfl (cq (bC rfl (bC rfl (bZ rfl rfl rfl cls0 bj)))) rfl (by first|rfl|(simp [bf,clo,ba,aH,bq,bp,aZ];done)) rfl ⟨?_,?_⟩
    ·rfl
    ·rfl
  | x :: y :: r,hf =>
   rw [if_neg (show ¬(x :: y :: r).length=0 by simp)]
   have hlen:(x :: y :: r).length=r.length+2:=rfl
   cases b<;>repeat' (first|(apply ay;first|refine bO ?_|(refine aU ?_ ?_<;>intro hG<;>(try cases hG))|refine ao ?_|refine bd ?_|refine aL ?_|refine be 0 (hnx) ?_|refine e8 ?_|refine bF ?_|refine aF ?_|refine aS ?_)|refine al ?_|refine ab ?_|refine aa fun C=>?_|refine ae ?_)
   all_goals first
    | refine aE rfl ?_
    | refine aj (by rfl) (fun hC=>by exfalso;clear hnx;simp only [bne_iff_ne,ne_eq,Bool.false_eq_true,false_or] at *;omega) fun hC=>?_
   all_goals
    repeat' (first|(apply ay;first|refine ao ?_|refine ak ?_|refine gp ?_|refine aq ?_)|refine al ?_|refine ab ?_|refine aa fun C=>?_|refine ae ?_|refine ah ?_|refine au ?_)
    refine aj (by rfl) (fun hC=>by exfalso;simp at hC;omega) fun hC=>?_
    repeat' (first|(apply ay;first|refine ak ?_|refine aq ?_)|refine al ?_|refine ab ?_|refine aa fun C=>?_|refine ae ?_)
    refine aj (by rfl) (fun hC=>by exfalso;simp at hC;omega) fun hC=>?_
    repeat' (first|(apply ay;first|refine ao ?_|refine cG ?_|refine aS ?_)|refine al ?_|refine ab ?_|refine aa fun C=>?_|refine ae ?_|refine ai ?_)
    refine am ?_;refine eo rfl (cq (bC rfl (bC rfl (bZ rfl rfl rfl cls0 bj)))) rfl (by first|rfl|(simp [bf,clo,ba,aH,bq,bp,aZ];done)) rfl ⟨?_,?_⟩
    ·rfl
    ·rfl
theorem pB {s:ByteArray}{cat:PS→E×PS}{p:PS}(h:wE s p=false):∀(n:Nat) (l:List E),cJ s cat n l p=(l,p)
 | 0,_=>rfl
 | n+1,l=>by unfold cJ;rw [if_neg (by rw [h];simp)]
theorem r7 {s:ByteArray}{a d v:Nat}{b:Bool}(hv:bAt s a=v):wE s ⟨a,d,b⟩=(!b&&(v==124)):=by unfold wE;rw [hv]
theorem alt_c {s:ByteArray}(hs:s.size≤1048576){cat:PS→E×PS}{p:PS}(hp:p.a≤s.size)(hd:p.d≤p.a)
 (hg:∀q,q.a≤s.size→q.d=p.d+1→p.a≤q.a→Good s q (cat q) 0 0 0)
 (hi:∀q,q.a≤s.size→q.d=p.d+1→p.a≤q.a→Ctr prog 110 [.c (.pt 0 0)] [fb s q] (.ag (owE (cat q).1)) [fb s (cat q).2]) :
 Ctr prog 55 [.c (.pt 0 0)] [fb s p] (.ag (owE (xv s cat p).1)) [fb s (xv s cat p).2]:=by
 obtain⟨a,d,b⟩:=p
 dsimp only at hp hd hg hi
 obtain⟨bb,hbb,hcase⟩:∃bb,(b||decide (40<d+1))=bb∧((40<d+1∧bb=true)∨(¬40<d+1∧bb=b)):=by
  by_cases h:40<d+1
  ·exact⟨true,by rw [decide_eq_true h,Bool.or_true],.inl ⟨h,rfl⟩⟩
  ·exact⟨b,by rw [decide_eq_false h,Bool.or_false],.inr ⟨h,rfl⟩⟩
 have hic:=hi ⟨a,d+1,bb⟩ hp rfl (Nat.le_refl _)
 obtain⟨g1,g2,g3,g4,g5⟩:=hg ⟨a,d+1,bb⟩ hp rfl (Nat.le_refl _)
 obtain⟨⟨e,q0⟩,hq0⟩:∃r,cat ⟨a,d+1,bb⟩=r:=⟨_,rfl⟩
 have htot0:xv s cat ⟨a,d,b⟩=(jB 5 (cJ s cat (s.size+1) [e] q0).1,⟨(cJ s cat (s.size+1) [e] q0).2.a,(cJ s cat (s.size+1) [e] q0).2.d-1,(cJ s cat (s.size+1) [e] q0).2.b⟩):=by
  unfold xv
  dsimp only
  rw [hbb,hq0]
 rw [htot0]
 clear htot0 hbb
 rw [hq0] at hic g1 g2 g3 g4 g5
 dsimp only at hic g1 g2 g3 g4 g5
 cases g1 with
 | mk k t l hk ht hl2 =>
 refine av func55 rfl rfl ?_
 unfold fb at hic ⊢
 dsimp only at hic ⊢
 repeat' (first|(apply ay;first|refine ao ?_|refine bd ?_|refine aL ?_|refine cG ?_|refine a8 ?_|refine aD ?_|refine dn ?_|refine aS ?_)|refine al ?_|refine ab ?_|refine aa fun C=>?_|refine ae ?_)
 rcases hcase with ⟨h40,rfl⟩|⟨h40,rfl⟩
 all_goals first
  | refine aj (by rfl) (fun hC=>?_) fun hC=>absurd (of_decide_eq_false hC) (Decidable.not_not.2 omq)
  | refine aj (by rfl) (fun hC=>absurd (of_decide_eq_true hC) omq) fun hC=>?_
 all_goals
  repeat' (first|(apply ay;first|refine ao ?_|refine ak ?_|refine bd ?_|refine be 0 (hic) ?_|refine cG ?_|refine gh ?_|refine aS ?_)|refine al ?_|refine ab ?_|refine aa fun C=>?_|refine ae ?_|refine ah ?_|refine ai ?_)
  refine aP (fun q:List E×PS=>⟨dA [(0,.c (.pt 0 0)),(2,.c (.pt 2 0)),(3,.c (.sl 9 q.1.length))],dq [(0,0,⟨0,0,0,true,fb s q.2⟩),(2,2,⟨39,0,0,true,[.v (.int .i64 0),.v (.string ByteArray.empty),.v (.slice none 0 0)]⟩),(9,9,⟨39,3,q.1.length,false,owL q.1⟩)],1,[0,2,9],59⟩)
   (fun N q=>GoodL s ⟨a,d+1,true⟩ q.1 q.2 1∧0<q.1.length∧s.size+1≤q.2.a+N∧cJ s cat N q.1 q.2=cJ s cat (s.size+1) [cU k t l] q0) (s.size+1) ([cU k t l],q0) ⟨⟨fun x hx=>by obtain rfl:=List.mem_singleton.1 hx;exact .mk k t l hk ht hl2,by dsimp only;omega,g3,g4,by dsimp only;rw [List.length_singleton];omega,by dsimp only;simp only [E.szL,List.length_singleton];omega⟩,by simp,by dsimp only;omega,rfl⟩ ?_ ?_
  ·refine (dN (i:=21) (j:=2100) rfl rfl rfl (pre:=[_,_]) (post:=[]) rfl).trans ?_
   (refine fW (fun j=>if j=9 then 21 else j) _ _ rfl rfl ?_ ?_<;>exact tdy0)
  rintro N ⟨L,q⟩ ⟨hgl,hL0,hN,htot⟩
  dsimp only at hgl hL0 hN htot ⊢
  obtain⟨k1,k2,k3,k4,k5,k6⟩:=hgl
  have hnx:=lW hs (p:=q)
  obtain⟨M,rfl⟩:∃M,N=M+1:=⟨N-1,omq⟩
  obtain⟨qa,qd,qb⟩:=q
  obtain⟨v,hv⟩:∃v,bAt s qa=v:=⟨_,rfl⟩
  have hnx:Ctr prog 111 [.c (.pt 0 0)] [fb s ⟨qa,qd,qb⟩] (.c (.v (.int .u8 (v:Int)))) [fb s ⟨qa,qd,qb⟩]:=by rw [←hv];exact hnx
  have hbar:=r7 (d:=qd) (b:=qb) hv
  dsimp only at k2 k3 k4 k5 k6 hN
  cases hgo:wE s ⟨qa,qd,qb⟩ with
  | true =>
   rw [hgo] at hbar
   have hgo2:=hbar.symm
   simp only [Bool.and_eq_true,Bool.not_eq_true',beq_iff_eq] at hgo2
   obtain⟨rfl,rfl⟩:=hgo2
   have hlt:qa<s.size:=da (by rw [hv];decide)
   have hst:cJ s cat (M+1) L ⟨qa,qd,false⟩=cJ s cat M (L++[(cat ⟨qa+1,qd,false⟩).1]) (cat ⟨qa+1,qd,false⟩).2:=by
    show (if wE s ⟨qa,qd,false⟩ then _ else _)=_
    rw [if_pos hgo];rfl
   rw [hst] at htot
   have hic2:=hi ⟨qa+1,qd,false⟩ (by dsimp only;omega) k4 (by dsimp only;omega)
   obtain⟨e1,e2,e3,e4,e5⟩:=hg ⟨qa+1,qd,false⟩ (by dsimp only;omega) k4 (by dsimp only;omega)
   clear hst hi hg hic
   obtain⟨⟨e',q2⟩,hq2⟩:∃r,cat ⟨qa+1,qd,false⟩=r:=⟨_,rfl⟩
   rw [hq2] at hic2 htot e1 e2 e3 e4 e5
   dsimp only at hic2 htot e1 e2 e3 e4 e5
   cases e1 with
   | mk k' t' l' hk' ht' hl2' =>
   unfold fb at hnx hic2 ⊢
   dsimp only at hnx hic2 ⊢
   repeat' (first|(apply ay;first|(refine aU ?_ ?_<;>intro hG<;>(try cases hG))|refine ao ?_|refine ak ?_|refine bd ?_|refine aL ?_|refine be 0 (hnx) ?_|refine be 0 (hic2) ?_|refine ll ?_|refine cG ?_|refine bQ ?_|refine aD ?_|refine bF ?_|refine aF ?_|refine gh ?_|refine aS ?_)|refine al ?_|refine ab ?_|refine aa fun C=>?_|refine ae ?_|refine ah ?_|refine ai ?_|refine az rfl ?_)
   refine⟨M,(L++[cU k' t' l'],q2),omq,⟨⟨fun x hx=>?_,?_,e3,?_,?_,?_⟩,?_,?_,htot⟩,?_⟩
   ·rcases List.mem_append.1 hx with hx|hx
    ·exact k1 x hx
    ·obtain rfl:=List.mem_singleton.1 hx;exact .mk k' t' l' hk' ht' hl2'
   ·dsimp only;omega
   ·dsimp only;omega
   ·dsimp only;rw [List.length_append,List.length_singleton];omega
   ·dsimp only;rw [iy,List.length_append,List.length_singleton];omega
   ·dsimp only;rw [List.length_append,List.length_singleton];omega
   ·dsimp only;omega
   ·dsimp only
    rw [List.length_append,List.length_singleton]
    refine (dN (i:=43) (j:=4200) rfl rfl rfl (pre:=owL L++[.v (.int .i64 k'),.v (.string t')]) (post:=[]) (by rw [List.append_assoc];rfl)).trans ?_
    (refine fW (fun j=>if j=9 then 43 else j) _ _ rfl rfl ?_ ?_<;>(repeat' (first|exact TmOk.nil|exact RwOk.nil|refine TmOk.cons ?_ ?_|refine RwOk.cons ?_ ?_|rfl|(refine rnV_id' rfl ?_;exact byc)|(refine bv ?_;first|rfl|omega|(rw [aW omq omq];omega))|(refine aK rfl ?_;exact byc)|exact cb rfl rfl|(refine rw_mid (by rfl) (by rfl) ?_ ?_<;>exact byc)|(refine rw_rn' rfl rfl ?_;simp;done))))
    exact lj (r:=⟨39,3,L.length+1,false,(owL L++[.v (.int .i64 k'),.v (.string t')])++[.ow 39 l'.length 3 (owL l')]⟩) rfl (by rw [ff,List.append_assoc];rfl) (by first|rfl|(simp [rJ,bf,clo,bp,aH,bq,ba,aZ];done))
  | false =>
   rw [pB hgo] at htot
   rw [←htot]
   rw [hgo] at hbar
   clear htot hi hg hic
   have hbar':qb=true∨v≠124:=by
    cases qb with
    | true=>exact .inl rfl
    | false=>right;simp at hbar;exact hbar
   have hqd:((qd:Nat):Int)-1=((qd-1:Nat):Int):=by omega
   unfold fb at hnx ⊢
   dsimp only at hnx ⊢
   match L,k1,hL0 with
   | [],_,h0=>exact absurd h0 (by simp)
   | [x],hf,_ =>
    have hx:=hf x (List.mem_singleton.2 rfl)
    cases hx with
    | mk k' t' l' hk' ht' hl2' =>
    cases qb<;>repeat' (first|(apply ay;first|refine bO ?_|(refine aU ?_ ?_<;>intro hG<;>(try cases hG))|refine ao ?_|refine bd ?_|refine aL ?_|refine be 0 (hnx) ?_|refine bQ ?_|refine bF ?_|refine aF ?_|refine aS ?_)|refine al ?_|refine ab ?_|refine aa fun C=>?_|refine ae ?_)
    all_goals first
     | refine aE rfl ?_
     | refine aj (by rfl) (fun hC=>by exfalso;clear hnx;simp only [beq_iff_eq,Bool.false_eq_true,false_or] at *;omega) fun hC=>?_
    all_goals
     refine bH (gW 800 (i:=9) rfl rfl (pre:=[.v (.int .i64 k'),.v (.string t')]) (post:=[]) rfl) ?_
     repeat' (first|(apply ay;first|refine ao ?_|refine bd ?_|refine aL ?_|refine bu ?_|refine gp ?_|refine cG ?_|refine uo ?_|refine aq ?_|refine im ?_|refine aS ?_)|refine al ?_|refine ab ?_|refine aa fun C=>?_|refine ae ?_|refine au ?_|refine az rfl ?_)
     refine am ?_;refine eo rfl (cq (bC rfl (bC rfl (bZ rfl rfl rfl cls0 bj)))) rfl (by first|rfl|(simp [bf,clo,ba,aH,bq,bp,aZ];done)) rfl ⟨?_,?_⟩
     ·rfl
     ·rw [←hqd];rfl
   | x :: y :: r,hf,_ =>
    have hlen:(x :: y :: r).length=r.length+2:=rfl
    cases qb<;>repeat' (first|(apply ay;first|refine bO ?_|(refine aU ?_ ?_<;>intro hG<;>(try cases hG))|refine ao ?_|refine bd ?_|refine aL ?_|refine be 0 (hnx) ?_|refine bQ ?_|refine bF ?_|refine aF ?_|refine aS ?_)|refine al ?_|refine ab ?_|refine aa fun C=>?_|refine ae ?_)
    all_goals first
     | refine aE rfl ?_
     | refine aj (by rfl) (fun hC=>by exfalso;clear hnx;simp only [beq_iff_eq,Bool.false_eq_true,false_or] at *;omega) fun hC=>?_
    all_goals
     repeat' (first|(apply ay;first|refine ao ?_|refine bd ?_|refine aL ?_|refine gp ?_|refine cG ?_|refine aq ?_|refine im ?_|refine aS ?_)|refine al ?_|refine ab ?_|refine aa fun C=>?_|refine ae ?_|refine au ?_)
     refine aj (by rfl) (fun hC=>by exfalso;simp at hC;omega) fun hC=>?_
     repeat' (first|(apply ay;first|refine ao ?_|refine cG ?_|refine aS ?_)|refine al ?_|refine ab ?_|refine aa fun C=>?_|refine ae ?_|refine ai ?_)
     refine am ?_;refine eo rfl (cq (bC rfl (bC rfl (bZ rfl rfl rfl cls0 bj)))) rfl (by first|rfl|(simp [bf,clo,ba,aH,bq,bp,aZ];done)) rfl ⟨?_,?_⟩
     ·rfl
     ·rw [←hqd];rfl
theorem zc4 {s:ByteArray}(hs:s.size≤1048576)(f:Nat):∀p:PS,p.a≤s.size→p.d≤p.a→s.size+1≤p.a+f→Ctr prog 55 [.c (.pt 0 0)] [fb s p] (.ag (owE (sU s f p).1)) [fb s (sU s f p).2]:=by
 induction f with
 | zero=>intro p h1 h2 h3;omega
 | succ f ih =>
  intro p h1 h2 h3
  have hat:∀r:PS,r.a<s.size→p.a≤r.a→Good s r (iV s (sU s f) r) 1 1 0:=fun r hr hra=>lU hs hr (kz hs f _ (by show r.a+1≤_;omega) (by show s.size+1≤r.a+1+f;omega))
  refine alt_c hs h1 h2 (fun q hq hqd hqa=>nY hq fun r hr hrd hra=>i5 (hat r hr omq)) fun q hq hqd hqa=>?_
  refine cat_c hs hq omq (fun r hr hrd hra=>i5 (hat r hr omq)) fun r hr hrd hra=>?_
  refine zb4 hs (hat r hr omq) ?_
  exact zy3 hs hr omq (kz hs f _ (by show r.a+1≤_;omega) (by show s.size+1≤r.a+1+f;omega)) (ih _ (by show r.a+1≤_;omega) (by show r.d≤r.a+1;omega) (by show s.size+1≤r.a+1+f;omega))
theorem i9 {s:ByteArray}(hs:s.size≤1048576):Fine (fB s).1∧(fB s).2.a≤s.size∧(fB s).1.sz≤2*s.size+1:=by
 obtain⟨g1,g2,g3,g4,g5⟩:=kz hs (s.size+8) p00 (Nat.zero_le _) (by show s.size+1≤0+(s.size+8);omega)
 have e0:p00.a=0:=rfl
 exact⟨g1,g3,by unfold fB;omega⟩
theorem lu {s:ByteArray}(hs:s.size≤1048576):Ctr prog 19 [.c (.v (.string s))] [] (.tu [.ag (owE (xF s)),.c (.v (.bool (rW s)))]) []:=by
 have halt:=zc4 hs (s.size+8) p00 (Nat.zero_le _) (Nat.le_refl _) (by show s.size+1≤0+(s.size+8);omega)
 obtain⟨hf,hle,hsz⟩:=i9 hs
 unfold xF rW
 unfold fB at hf hle hsz ⊢
 obtain⟨⟨e,q⟩,hq⟩:∃r,sU s (s.size+8) p00=r:=⟨_,rfl⟩
 rw [hq] at halt hf hle hsz ⊢
 dsimp only at halt hf hle hsz ⊢
 have hty:=hf.ty.1
 have c1:=kE hty omq
 have c2:=mN hty omq
 cases hf with
 | mk k t l hk ht hl2 =>
 obtain⟨qa,qd,qb⟩:=q
 unfold fb at halt
 dsimp only [p00] at halt hle ⊢
 refine av func19 rfl rfl ?_
 repeat' (first|(apply ay;first|refine bO ?_|(refine aU ?_ ?_<;>intro hG<;>(try cases hG))|refine ao ?_|refine ak ?_|refine bd ?_|refine aL ?_|refine bu ?_|refine be 8 (halt) ?_|refine aI c1 ?_|refine aI c2 ?_|refine dk ?_|refine cG ?_|refine aG ?_|refine cu ?_|refine bF ?_|refine aF ?_|refine dn ?_|refine bL ?_|refine aS ?_)|refine al ?_|refine ab ?_|refine aa fun C=>?_|refine ae ?_)
 ·repeat' (first|(apply ay;first|refine ak ?_|refine cG ?_|refine aS ?_)|refine al ?_|refine ab ?_|refine aa fun C=>?_|refine ae ?_|refine az rfl ?_)
  refine bH (dZ 900 (i:=2) 39 3 rfl rfl (pre:=[_,_]) (post:=[]) rfl) ?_
  refine am ?_;refine bi rfl (gR (ca (cq (bC rfl (bC rfl (bZ rfl rfl rfl cls0 bj)))) (ca aN ei))) ⟨?_,rfl⟩
  have hP:(!true&&(qa==s.size)&&d6 (cU k t l)&&(jO (cU k t l)).toList==s.toList)=false:=by clear halt c1 c2;first|(simp_all;done)|(simp_all;(try intros);omega)
  rw [hP];rfl
 ·repeat' (first|(apply ay;first|refine ak ?_|refine cG ?_|refine aS ?_)|refine al ?_|refine ab ?_|refine aa fun C=>?_|refine ae ?_|refine az rfl ?_)
  refine bH (dZ 900 (i:=2) 39 3 rfl rfl (pre:=[_,_]) (post:=[]) rfl) ?_
  refine am ?_;refine bi rfl (gR (ca (cq (bC rfl (bC rfl (bZ rfl rfl rfl cls0 bj)))) (ca aN ei))) ⟨?_,rfl⟩
  have hP:(!false&&(qa==s.size)&&d6 (cU k t l)&&(jO (cU k t l)).toList==s.toList)=false:=by clear halt c1 c2;first|(simp_all;done)|(simp_all;(try intros);omega)
  rw [hP];rfl
 ·repeat' (first|(apply ay;first|refine ak ?_|refine cG ?_|refine aS ?_)|refine al ?_|refine ab ?_|refine aa fun C=>?_|refine ae ?_|refine az rfl ?_)
  refine bH (dZ 900 (i:=2) 39 3 rfl rfl (pre:=[_,_]) (post:=[]) rfl) ?_
  refine am ?_;refine bi rfl (gR (ca (cq (bC rfl (bC rfl (bZ rfl rfl rfl cls0 bj)))) (ca aN ei))) ⟨?_,rfl⟩
  have hP:(!false&&(qa==s.size)&&d6 (cU k t l)&&(jO (cU k t l)).toList==s.toList)=false:=by clear halt c1 c2;first|(simp_all;done)|(simp_all;(try intros);omega)
  rw [hP];rfl
 ·refine aj (by rfl) (fun hC=>?_) fun hC=>?_
  ·repeat' (first|(apply ay;first|refine ak ?_|refine cG ?_|refine aS ?_)|refine al ?_|refine ab ?_|refine aa fun C=>?_|refine ae ?_)
   refine bH (dZ 900 (i:=2) 39 3 rfl rfl (pre:=[_,_]) (post:=[]) rfl) ?_
   refine am ?_;refine bi rfl (gR (ca (cq (bC rfl (bC rfl (bZ rfl rfl rfl cls0 bj)))) (ca aN ei))) ⟨?_,rfl⟩
   have hP:(!false&&(qa==s.size)&&d6 (cU k t l)&&(jO (cU k t l)).toList==s.toList)=false:=by clear halt c1 c2;first|(simp_all;done)|(simp_all;(try intros);omega)
   rw [hP];rfl
  ·repeat' (first|(apply ay;first|refine ak ?_|refine bu ?_|refine cG ?_)|refine al ?_|refine ab ?_|refine aa fun C=>?_|refine ae ?_|refine ai ?_)
   refine am ?_;refine bi rfl (gR (ca (cq (bC rfl (bC rfl (bZ rfl rfl rfl cls0 bj)))) (ca aN ei))) ⟨?_,rfl⟩
   have hP:(!false&&(qa==s.size)&&d6 (cU k t l)&&(jO (cU k t l)).toList==s.toList)=true:=by clear halt c1 c2;first|(simp_all;done)|(simp_all;(try intros);omega)
   rw [hP];rfl
end Go.Proofs.YtmnneflenebgmaaGreat
