/- T -/
import Derived.Test.YtomolhbkdhjofaaGreatDoorExRT
set_option maxHeartbeats 0
set_option maxRecDepth 100000
namespace Go.Proofs.YtomolhbkdhjofaaGreatDoor
open Go.RowKit Go.Proofs.Tryz
theorem q6 {s:ByteArray}{item:PS→E×PS}{p:PS}(h:goI s p=false):∀(n:Nat) (l:List E),cv s item n l p=(l,p)
 | 0,_=>rfl
 | n+1,l=>by unfold cv;rw [if_neg (by rw [h];simp)]
theorem pH {s:ByteArray}{a d v:Nat}{b:Bool}(hv:bAt s a=v):goI s ⟨a,d,b⟩=(!b&&!(v==0)&&!(v==124)&&!(v==41)):=by unfold goI;rw [hv]
theorem cat_c {s:ByteArray}(hs:s.size≤1048576){item:PS→E×PS}{p0:PS}(hp:p0.a≤s.size)(hd:p0.d≤1048577)
 (hg:∀q,q.a<s.size→q.d=p0.d→p0.a≤q.a→Good s q (item q) 1 1 0)
 (hi:∀q,q.a<s.size→q.d=p0.d→p0.a≤q.a→Ctr prog 168 [.c (.pt 0 0)] [gy s q] (.ag (owE (item q).1)) [gy s (item q).2]) :
 Ctr prog 152 [.c (.pt 0 0)] [gy s p0] (.ag (owE (uW s item p0).1)) [gy s (uW s item p0).2]:=by
 refine az func152 rfl rfl ?_
 repeat' (first|(apply ay;first|refine ai ?_|refine bJ ?_)|refine aj ?_|refine ab ?_|refine aa fun C=>?_|refine ac ?_|refine ah ?_)
 refine aY (fun q:List E×PS=>⟨ft [(0,.c (.pt 0 0)),(2,.c (.pt 2 0)),(3,.c (.sl 9 q.1.length))],eW [(0,0,⟨0,0,0,true,gy s q.2⟩),(2,2,⟨112,0,0,true,[.v (.int .i64 0),.v (.string ByteArray.empty),.v (.slice none 0 0)]⟩),(9,9,⟨112,3,q.1.length,false,owL q.1⟩)],1,[0,2,9],44⟩)
  (fun N q=>GoodL s p0 q.1 q.2 0∧s.size+2≤q.2.a+N∧cv s item N q.1 q.2=cv s item (s.size+2) [] p0) (s.size+2) ([],p0) ⟨⟨fun _ h=>absurd h List.not_mem_nil,nlr _,hp,rfl,by simp,by simp [E.szL]⟩,by dsimp only;omega,rfl⟩ ?_ ?_
 ·refine (kz 9 (t:=3) 112 3 rfl rfl).trans ?_
  (refine aL _ _ rfl rfl ?_ ?_<;>exact tdy0)
 rintro N ⟨L,q⟩ ⟨hgl,hN,htot⟩
 dsimp only at hgl hN htot ⊢
 obtain⟨k1,k2,k3,k4,k5,k6⟩:=hgl
 have hnx:=nF hs (p:=q)
 obtain⟨M,rfl⟩:∃M,N=M+1:=⟨N-1,omq⟩
 have htail:uW s item p0=if (cv s item (M+1) L q).1.length=0 then (dv,(cv s item (M+1) L q).2.bad) else (kW 4 (cv s item (M+1) L q).1,(cv s item (M+1) L q).2):=by unfold uW;rw [←htot]
 cases hgo:goI s q with
 | true =>
  obtain⟨hb,hlt,-⟩:=zm2 hgo
  obtain⟨g1,g2,g3,g4,g5⟩:=hg q hlt k4 k2
  have hic:=hi q hlt k4 k2
  have hst:cv s item (M+1) L q=cv s item M (L++[(item q).1]) (item q).2:=by
   show (if goI s q then _ else _)=_
   rw [if_pos hgo]
  rw [hst] at htot
  clear htail hst hi hg
  obtain⟨⟨e,q2⟩,hq2⟩:∃r,item q=r:=⟨_,rfl⟩
  rw [hq2] at hic htot g1 g2 g3 g4 g5
  dsimp only at hic htot g1 g2 g3 g4 g5
  cases g1 with
  | mk k t l hk ht hl2 =>
  obtain⟨a,d,b⟩:=q
  have hb:b=false:=hb
  subst hb
  obtain⟨v,hv⟩:∃v,bAt s a=v:=⟨_,rfl⟩
  rw [pH hv] at hgo
  simp only [baq,bnt,beq_eq_false_iff_ne] at hgo
  have hnx:Ctr prog 153 [.c (.pt 0 0)] [gy s ⟨a,d,false⟩] (.c (.v (.int .u8 (v:Int)))) [gy s ⟨a,d,false⟩]:=by rw [←hv];exact hnx
  unfold gy at hnx hic ⊢
  dsimp only at hnx hic k2 k3 k4 k5 k6 hN g2 g3 g4 g5 ⊢
  repeat' (first|(apply ay;first|refine bH ?_|(refine aK ?_ ?_<;>intro hG<;>(try cases hG))|refine ak ?_|refine bf ?_|refine aI ?_|refine aF 0 (hnx) ?_|refine cH ?_|refine bI ?_|refine aB ?_|refine au ?_)|refine aj ?_|refine ab ?_|refine aa fun C=>?_|refine ac ?_)
  all_goals first
   | (exfalso;simp at hG;omega)
   | skip
  refine ae rqf (fun hC=>?_) fun hC=>absurd (bne_eq_false_iff_eq.1 hC) omq
  repeat' (first|(apply ay;first|refine ak ?_|refine ai ?_|refine aF 0 (hic) ?_|refine dz ?_|refine dT ?_)|refine aj ?_|refine ab ?_|refine aa fun C=>?_|refine ah ?_|refine al ?_)
  refine⟨M,(L++[du k t l],q2),omq,⟨⟨fun x hx=>?_,?_,g3,?_,?_,?_⟩,?_,htot⟩,?_⟩
  ·rcases List.mem_append.1 hx with hx|hx
   ·exact k1 x hx
   ·obtain rfl:=List.mem_singleton.1 hx;exact .mk k t l hk ht hl2
  ·dsimp only;omega
  ·dsimp only;omega
  ·dsimp only;rw [lla,List.length_singleton];omega
  ·dsimp only;rw [gx,lla,List.length_singleton];omega
  ·dsimp only;omega
  ·dsimp only
   rw [lla,List.length_singleton]
   refine (dU (i:=28) (j:=2700) rfl rfl rfl (pre:=owL L++[.v (.int .i64 k),.v (.string t)]) (post:=[]) (by rw [List.append_assoc];rfl)).trans ?_
   (refine eL (fun j=>if j=9 then 28 else j) _ _ rfl rfl ?_ ?_<;>(repeat' (first|exact TmOk.nil|exact RwOk.nil|refine TmOk.cons ?_ ?_|refine RwOk.cons ?_ ?_|rfl|(refine rnV_id' rfl ?_;exact byc)|(refine cK ?_;first|rfl|omega|(rw [bB omq omq];omega))|(refine bg rfl ?_;exact byc)|exact dP rfl rfl|(refine rw_mid rqf rqf ?_ ?_<;>exact byc)|(refine rw_rn' rfl rfl ?_;simp;done))))
   exact fH (r:=⟨112,3,L.length+1,false,(owL L++[.v (.int .i64 k),.v (.string t)])++[.ow 112 l.length 3 (owL l)]⟩) rfl (by rw [fG,List.append_assoc];rfl) (by first|rfl|(simp [oS,bu,clo,bk,aM,bl,a8,aZ];done))
 | false =>
  rw [q6 hgo] at htail
  rw [htail]
  clear htail hi hg htot
  obtain⟨a,d,b⟩:=q
  obtain⟨v,hv⟩:∃v,bAt s a=v:=⟨_,rfl⟩
  rw [pH hv] at hgo
  have hnx:Ctr prog 153 [.c (.pt 0 0)] [gy s ⟨a,d,b⟩] (.c (.v (.int .u8 (v:Int)))) [gy s ⟨a,d,b⟩]:=by rw [←hv];exact hnx
  unfold gy at hnx ⊢
  dsimp only [PS.bad] at hnx k2 k3 k4 k5 k6 hN ⊢
  have hgo':b=true∨v=0∨v=124∨v=41:=by
   cases b with
   | true=>exact .inl rfl
   | false=>right;simp at hgo;omega
  match L,k1 with
  | [],_ =>
   rw [if_pos (show ([]:List E).length=0 from rfl)]
   cases b<;>repeat' (first|(apply ay;first|refine bH ?_|(refine aK ?_ ?_<;>intro hG<;>(try cases hG))|refine ak ?_|refine bf ?_|refine aI ?_|refine aF 0 (hnx) ?_|refine cH ?_|refine bI ?_|refine aB ?_|refine au ?_)|refine aj ?_|refine ab ?_|refine aa fun C=>?_|refine ac ?_)
   all_goals first
    | refine ar rfl ?_
    | refine ae rqf (fun hC=>by exfalso;clear hnx;simp only [bne_iff_ne,ne_eq,Bool.false_eq_true,false_or] at *;omega) fun hC=>?_
   all_goals
    repeat' (first|(apply ay;first|refine ak ?_|refine ai ?_|refine bf ?_|refine cJ ?_|refine bh ?_|refine ao ?_|refine au ?_)|refine aj ?_|refine ab ?_|refine aa fun C=>?_|refine ac ?_|refine ah ?_|refine aE ?_|refine aq rfl ?_)
    refine bc (cR 900 (i:=2) 112 3 rfl rfl (pre:=[_,_]) (post:=[]) rfl) ?_;refine am ?_;refine dO rfl (bi (aO rfl (aO rfl (bE rfl rfl rfl cls0 aQ)))) rfl (by first|rfl|(simp [bu,clo,a8,aM,bl,bk,aZ];done)) rfl ⟨?_,?_⟩
    ·rfl
    ·rfl
  | [x],hf =>
   rw [if_neg (show ¬[x].length=0 by simp)]
   have hx:=hf x (List.mem_singleton.2 rfl)
   cases hx with
   | mk k t l hk ht hl2 =>
   cases b<;>repeat' (first|(apply ay;first|refine bH ?_|(refine aK ?_ ?_<;>intro hG<;>(try cases hG))|refine ak ?_|refine bf ?_|refine aI ?_|refine aF 0 (hnx) ?_|refine cH ?_|refine bI ?_|refine aB ?_|refine au ?_)|refine aj ?_|refine ab ?_|refine aa fun C=>?_|refine ac ?_)
   all_goals first
    | refine ar rfl ?_
    | refine ae rqf (fun hC=>by exfalso;clear hnx;simp only [bne_iff_ne,ne_eq,Bool.false_eq_true,false_or] at *;omega) fun hC=>?_
   all_goals
    refine bc (y8 800 (i:=9) rfl rfl (pre:=[.v (.int .i64 k),.v (.string t)]) (post:=[]) rfl) ?_
    repeat' (first|(apply ay;first|refine ak ?_|refine ai ?_|refine bM ?_|refine cJ ?_|refine bh ?_|(apply mW;refine au ?_)|refine ao ?_)|refine aj ?_|refine ab ?_|refine aa fun C=>?_|refine ac ?_|refine ah ?_|refine aE ?_|refine aq rfl ?_|refine ar rfl ?_)
    refine am ?_;refine dO rfl (bi (aO rfl (aO rfl (bE rfl rfl rfl cls0 aQ)))) rfl (by first|rfl|(simp [bu,clo,a8,aM,bl,bk,aZ];done)) rfl ⟨?_,?_⟩
    ·rfl
    ·rfl
  | x :: y :: r,hf =>
   rw [if_neg (show ¬(x :: y :: r).length=0 by simp)]
   have hlen:(x :: y :: r).length=r.length+2:=rfl
   cases b<;>repeat' (first|(apply ay;first|refine bH ?_|(refine aK ?_ ?_<;>intro hG<;>(try cases hG))|refine ak ?_|refine bf ?_|refine aI ?_|refine aF 0 (hnx) ?_|refine cH ?_|refine bI ?_|refine aB ?_|refine au ?_)|refine aj ?_|refine ab ?_|refine aa fun C=>?_|refine ac ?_)
   all_goals first
    | refine ar rfl ?_
    | refine ae rqf (fun hC=>by exfalso;clear hnx;simp only [bne_iff_ne,ne_eq,Bool.false_eq_true,false_or] at *;omega) fun hC=>?_
   all_goals
    repeat' (first|(apply ay;first|refine ak ?_|refine ai ?_|refine cJ ?_|refine ao ?_)|refine aj ?_|refine ab ?_|refine aa fun C=>?_|refine ac ?_|refine ah ?_|refine aE ?_)
    refine ae rqf (fun hC=>by exfalso;simp at hC;omega) fun hC=>?_
    repeat' (first|(apply ay;first|refine ai ?_|refine ao ?_)|refine aj ?_|refine ab ?_|refine aa fun C=>?_|refine ac ?_)
    refine ae rqf (fun hC=>by exfalso;simp at hC;omega) fun hC=>?_
    repeat' (first|(apply ay;first|refine ak ?_|refine bh ?_|refine au ?_)|refine aj ?_|refine ab ?_|refine aa fun C=>?_|refine ac ?_|refine al ?_)
    refine am ?_;refine dO rfl (bi (aO rfl (aO rfl (bE rfl rfl rfl cls0 aQ)))) rfl (by first|rfl|(simp [bu,clo,a8,aM,bl,bk,aZ];done)) rfl ⟨?_,?_⟩
    ·rfl
    ·rfl
theorem q7 {s:ByteArray}{cat:PS→E×PS}{p:PS}(h:yE s p=false):∀(n:Nat) (l:List E),de s cat n l p=(l,p)
 | 0,_=>rfl
 | n+1,l=>by unfold de;rw [if_neg (by rw [h];simp)]
theorem ux {s:ByteArray}{a d v:Nat}{b:Bool}(hv:bAt s a=v):yE s ⟨a,d,b⟩=(!b&&(v==124)):=by unfold yE;rw [hv]
theorem alt_c {s:ByteArray}(hs:s.size≤1048576){cat:PS→E×PS}{p:PS}(hp:p.a≤s.size)(hd:p.d≤p.a)
 (hg:∀q,q.a≤s.size→q.d=p.d+1→p.a≤q.a→Good s q (cat q) 0 0 0)
 (hi:∀q,q.a≤s.size→q.d=p.d+1→p.a≤q.a→Ctr prog 152 [.c (.pt 0 0)] [gy s q] (.ag (owE (cat q).1)) [gy s (cat q).2]) :
 Ctr prog 136 [.c (.pt 0 0)] [gy s p] (.ag (owE (zv s cat p).1)) [gy s (zv s cat p).2]:=by
 obtain⟨a,d,b⟩:=p
 dsimp only at hp hd hg hi
 obtain⟨bb,hbb,hcase⟩:∃bb,(b||decide (40<d+1))=bb∧((40<d+1∧bb=true)∨(¬40<d+1∧bb=b)):=by
  by_cases h:40<d+1
  ·exact⟨true,by rw [decide_eq_true h,Bool.or_true],.inl ⟨h,rfl⟩⟩
  ·exact⟨b,by rw [decide_eq_false h,Bool.or_false],.inr ⟨h,rfl⟩⟩
 have hic:=hi ⟨a,d+1,bb⟩ hp rfl (nlr _)
 obtain⟨g1,g2,g3,g4,g5⟩:=hg ⟨a,d+1,bb⟩ hp rfl (nlr _)
 obtain⟨⟨e,q0⟩,hq0⟩:∃r,cat ⟨a,d+1,bb⟩=r:=⟨_,rfl⟩
 have htot0:zv s cat ⟨a,d,b⟩=(kW 5 (de s cat (s.size+1) [e] q0).1,⟨(de s cat (s.size+1) [e] q0).2.a,(de s cat (s.size+1) [e] q0).2.d-1,(de s cat (s.size+1) [e] q0).2.b⟩):=by
  unfold zv
  dsimp only
  rw [hbb,hq0]
 rw [htot0]
 clear htot0 hbb
 rw [hq0] at hic g1 g2 g3 g4 g5
 dsimp only at hic g1 g2 g3 g4 g5
 cases g1 with
 | mk k t l hk ht hl2 =>
 refine az func136 rfl rfl ?_
 unfold gy at hic ⊢
 dsimp only at hic ⊢
 repeat' (first|(apply ay;first|refine ak ?_|refine bf ?_|refine aI ?_|refine bh ?_|refine aX ?_|refine aw ?_|refine bJ ?_|refine au ?_)|refine aj ?_|refine ab ?_|refine aa fun C=>?_|refine ac ?_)
 rcases hcase with ⟨h40,rfl⟩|⟨h40,rfl⟩
 all_goals first
  | refine ae rqf (fun hC=>?_) fun hC=>absurd (of_decide_eq_false hC) (Decidable.not_not.2 omq)
  | refine ae rqf (fun hC=>absurd (of_decide_eq_true hC) omq) fun hC=>?_
 all_goals
  repeat' (first|(apply ay;first|refine ak ?_|refine ai ?_|refine bf ?_|refine aF 0 (hic) ?_|refine bh ?_|refine dT ?_|refine au ?_)|refine aj ?_|refine ab ?_|refine aa fun C=>?_|refine ac ?_|refine ah ?_|refine al ?_)
  refine aY (fun q:List E×PS=>⟨ft [(0,.c (.pt 0 0)),(2,.c (.pt 2 0)),(3,.c (.sl 9 q.1.length))],eW [(0,0,⟨0,0,0,true,gy s q.2⟩),(2,2,⟨112,0,0,true,[.v (.int .i64 0),.v (.string ByteArray.empty),.v (.slice none 0 0)]⟩),(9,9,⟨112,3,q.1.length,false,owL q.1⟩)],1,[0,2,9],59⟩)
   (fun N q=>GoodL s ⟨a,d+1,true⟩ q.1 q.2 1∧0<q.1.length∧s.size+1≤q.2.a+N∧de s cat N q.1 q.2=de s cat (s.size+1) [du k t l] q0) (s.size+1) ([du k t l],q0) ⟨⟨fun x hx=>by obtain rfl:=List.mem_singleton.1 hx;exact .mk k t l hk ht hl2,by dsimp only;omega,g3,g4,by dsimp only;rw [List.length_singleton];omega,by dsimp only;simp only [E.szL,List.length_singleton];omega⟩,by simp,by dsimp only;omega,rfl⟩ ?_ ?_
  ·refine (dU (i:=21) (j:=2100) rfl rfl rfl (pre:=[_,_]) (post:=[]) rfl).trans ?_
   (refine eL (fun j=>if j=9 then 21 else j) _ _ rfl rfl ?_ ?_<;>exact tdy0)
  rintro N ⟨L,q⟩ ⟨hgl,hL0,hN,htot⟩
  dsimp only at hgl hL0 hN htot ⊢
  obtain⟨k1,k2,k3,k4,k5,k6⟩:=hgl
  have hnx:=nF hs (p:=q)
  obtain⟨M,rfl⟩:∃M,N=M+1:=⟨N-1,omq⟩
  obtain⟨qa,qd,qb⟩:=q
  obtain⟨v,hv⟩:∃v,bAt s qa=v:=⟨_,rfl⟩
  have hnx:Ctr prog 153 [.c (.pt 0 0)] [gy s ⟨qa,qd,qb⟩] (.c (.v (.int .u8 (v:Int)))) [gy s ⟨qa,qd,qb⟩]:=by rw [←hv];exact hnx
  have hbar:=ux (d:=qd) (b:=qb) hv
  dsimp only at k2 k3 k4 k5 k6 hN
  cases hgo:yE s ⟨qa,qd,qb⟩ with
  | true =>
   rw [hgo] at hbar
   have hgo2:=hbar.symm
   simp only [baq,bnt,beq_iff_eq] at hgo2
   obtain⟨rfl,rfl⟩:=hgo2
   have hlt:qa<s.size:=dG (by rw [hv];decide)
   have hst:de s cat (M+1) L ⟨qa,qd,false⟩=de s cat M (L++[(cat ⟨qa+1,qd,false⟩).1]) (cat ⟨qa+1,qd,false⟩).2:=by
    show (if yE s ⟨qa,qd,false⟩ then _ else _)=_
    rw [if_pos hgo];rfl
   rw [hst] at htot
   have hic2:=hi ⟨qa+1,qd,false⟩ (by dsimp only;omega) k4 (by dsimp only;omega)
   obtain⟨e1,e2,e3,e4,e5⟩:=hg ⟨qa+1,qd,false⟩ (by dsimp only;omega) k4 (by dsimp only;omega)
   clear hst hi hg hic
   obtain⟨⟨e',q2⟩,hq2⟩:∃r,cat ⟨qa+1,qd,false⟩=r:=⟨_,rfl⟩
   rw [hq2] at hic2 htot e1 e2 e3 e4 e5
   dsimp only at hic2 htot e1 e2 e3 e4 e5
   cases e1 with
   | mk k' t' l' hk' ht' hl2' =>
   unfold gy at hnx hic2 ⊢
   dsimp only at hnx hic2 ⊢
   repeat' (first|(apply ay;first|(refine aK ?_ ?_<;>intro hG<;>(try cases hG))|refine ak ?_|refine ai ?_|refine bf ?_|refine aI ?_|refine aF 0 (hnx) ?_|refine aF 0 (hic2) ?_|refine dz ?_|refine bh ?_|refine aR ?_|refine aw ?_|refine bI ?_|refine aB ?_|refine dT ?_|refine au ?_)|refine aj ?_|refine ab ?_|refine aa fun C=>?_|refine ac ?_|refine ah ?_|refine al ?_|refine aq rfl ?_)
   refine⟨M,(L++[du k' t' l'],q2),omq,⟨⟨fun x hx=>?_,?_,e3,?_,?_,?_⟩,?_,?_,htot⟩,?_⟩
   ·rcases List.mem_append.1 hx with hx|hx
    ·exact k1 x hx
    ·obtain rfl:=List.mem_singleton.1 hx;exact .mk k' t' l' hk' ht' hl2'
   ·dsimp only;omega
   ·dsimp only;omega
   ·dsimp only;rw [lla,List.length_singleton];omega
   ·dsimp only;rw [gx,lla,List.length_singleton];omega
   ·dsimp only;rw [lla,List.length_singleton];omega
   ·dsimp only;omega
   ·dsimp only
    rw [lla,List.length_singleton]
    refine (dU (i:=43) (j:=4200) rfl rfl rfl (pre:=owL L++[.v (.int .i64 k'),.v (.string t')]) (post:=[]) (by rw [List.append_assoc];rfl)).trans ?_
    (refine eL (fun j=>if j=9 then 43 else j) _ _ rfl rfl ?_ ?_<;>(repeat' (first|exact TmOk.nil|exact RwOk.nil|refine TmOk.cons ?_ ?_|refine RwOk.cons ?_ ?_|rfl|(refine rnV_id' rfl ?_;exact byc)|(refine cK ?_;first|rfl|omega|(rw [bB omq omq];omega))|(refine bg rfl ?_;exact byc)|exact dP rfl rfl|(refine rw_mid rqf rqf ?_ ?_<;>exact byc)|(refine rw_rn' rfl rfl ?_;simp;done))))
    exact fH (r:=⟨112,3,L.length+1,false,(owL L++[.v (.int .i64 k'),.v (.string t')])++[.ow 112 l'.length 3 (owL l')]⟩) rfl (by rw [fG,List.append_assoc];rfl) (by first|rfl|(simp [oS,bu,clo,bk,aM,bl,a8,aZ];done))
  | false =>
   rw [q7 hgo] at htot
   rw [←htot]
   rw [hgo] at hbar
   clear htot hi hg hic
   have hbar':qb=true∨v≠124:=by
    cases qb with
    | true=>exact .inl rfl
    | false=>right;simp at hbar;exact hbar
   have hqd:((qd:Nat):Int)-1=((qd-1:Nat):Int):=by omega
   unfold gy at hnx ⊢
   dsimp only at hnx ⊢
   match L,k1,hL0 with
   | [],_,h0=>exact absurd h0 (by simp)
   | [x],hf,_ =>
    have hx:=hf x (List.mem_singleton.2 rfl)
    cases hx with
    | mk k' t' l' hk' ht' hl2' =>
    cases qb<;>repeat' (first|(apply ay;first|refine bH ?_|(refine aK ?_ ?_<;>intro hG<;>(try cases hG))|refine ak ?_|refine bf ?_|refine aI ?_|refine aF 0 (hnx) ?_|refine aR ?_|refine bI ?_|refine aB ?_|refine au ?_)|refine aj ?_|refine ab ?_|refine aa fun C=>?_|refine ac ?_)
    all_goals first
     | refine ar rfl ?_
     | refine ae rqf (fun hC=>by exfalso;clear hnx;simp only [beq_iff_eq,Bool.false_eq_true,false_or] at *;omega) fun hC=>?_
    all_goals
     refine bc (y8 800 (i:=9) rfl rfl (pre:=[.v (.int .i64 k'),.v (.string t')]) (post:=[]) rfl) ?_
     repeat' (first|(apply ay;first|refine ak ?_|refine bf ?_|refine aI ?_|refine bM ?_|refine cJ ?_|refine bh ?_|refine eG ?_|refine ao ?_|refine cu ?_|refine au ?_)|refine aj ?_|refine ab ?_|refine aa fun C=>?_|refine ac ?_|refine aE ?_|refine aq rfl ?_)
     refine am ?_;refine dO rfl (bi (aO rfl (aO rfl (bE rfl rfl rfl cls0 aQ)))) rfl (by first|rfl|(simp [bu,clo,a8,aM,bl,bk,aZ];done)) rfl ⟨?_,?_⟩
     ·rfl
     ·rw [←hqd];rfl
   | x :: y :: r,hf,_ =>
    have hlen:(x :: y :: r).length=r.length+2:=rfl
    cases qb<;>repeat' (first|(apply ay;first|refine bH ?_|(refine aK ?_ ?_<;>intro hG<;>(try cases hG))|refine ak ?_|refine bf ?_|refine aI ?_|refine aF 0 (hnx) ?_|refine aR ?_|refine bI ?_|refine aB ?_|refine au ?_)|refine aj ?_|refine ab ?_|refine aa fun C=>?_|refine ac ?_)
    all_goals first
     | refine ar rfl ?_
     | refine ae rqf (fun hC=>by exfalso;clear hnx;simp only [beq_iff_eq,Bool.false_eq_true,false_or] at *;omega) fun hC=>?_
    all_goals
     repeat' (first|(apply ay;first|refine ak ?_|refine bf ?_|refine aI ?_|refine cJ ?_|refine bh ?_|refine ao ?_|refine cu ?_|refine au ?_)|refine aj ?_|refine ab ?_|refine aa fun C=>?_|refine ac ?_|refine aE ?_)
     refine ae rqf (fun hC=>by exfalso;simp at hC;omega) fun hC=>?_
     repeat' (first|(apply ay;first|refine ak ?_|refine bh ?_|refine au ?_)|refine aj ?_|refine ab ?_|refine aa fun C=>?_|refine ac ?_|refine al ?_)
     refine am ?_;refine dO rfl (bi (aO rfl (aO rfl (bE rfl rfl rfl cls0 aQ)))) rfl (by first|rfl|(simp [bu,clo,a8,aM,bl,bk,aZ];done)) rfl ⟨?_,?_⟩
     ·rfl
     ·rw [←hqd];rfl
theorem zg8 {s:ByteArray}(hs:s.size≤1048576)(f:Nat):∀p:PS,p.a≤s.size→p.d≤p.a→s.size+1≤p.a+f→Ctr prog 136 [.c (.pt 0 0)] [gy s p] (.ag (owE (uX s f p).1)) [gy s (uX s f p).2]:=by
 induction f with
 | zero=>intro p h1 h2 h3;omega
 | succ f ih =>
  intro p h1 h2 h3
  have hat:∀r:PS,r.a<s.size→p.a≤r.a→Good s r (kf s (uX s f) r) 1 1 0:=fun r hr hra=>nE hs hr (ml hs f _ (by show r.a+1≤_;omega) (by show s.size+1≤r.a+1+f;omega))
  refine alt_c hs h1 h2 (fun q hq hqd hqa=>pA hq fun r hr hrd hra=>ko (hat r hr omq)) fun q hq hqd hqa=>?_
  refine cat_c hs hq omq (fun r hr hrd hra=>ko (hat r hr omq)) fun r hr hrd hra=>?_
  refine zf8 hs (hat r hr omq) ?_
  exact zc8 hs hr omq (ml hs f _ (by show r.a+1≤_;omega) (by show s.size+1≤r.a+1+f;omega)) (ih _ (by show r.a+1≤_;omega) (by show r.d≤r.a+1;omega) (by show s.size+1≤r.a+1+f;omega))
theorem kr {s:ByteArray}(hs:s.size≤1048576):Fine (gE s).1∧(gE s).2.a≤s.size∧(gE s).1.sz≤2*s.size+1:=by
 obtain⟨g1,g2,g3,g4,g5⟩:=ml hs (s.size+8) p00 (Nat.zero_le _) (by show s.size+1≤0+(s.size+8);omega)
 have e0:p00.a=0:=rfl
 exact⟨g1,g3,by unfold gE;omega⟩
theorem m7 {s:ByteArray}(hs:s.size≤1048576):Ctr prog 111 [.c (.v (.string s))] [] (.tu [.ag (owE (zI s)),.c (.v (.bool (sK s)))]) []:=by
 have halt:=zg8 hs (s.size+8) p00 (Nat.zero_le _) (nlr _) (by show s.size+1≤0+(s.size+8);omega)
 obtain⟨hf,hle,hsz⟩:=kr hs
 unfold zI sK
 unfold gE at hf hle hsz ⊢
 obtain⟨⟨e,q⟩,hq⟩:∃r,uX s (s.size+8) p00=r:=⟨_,rfl⟩
 rw [hq] at halt hf hle hsz ⊢
 dsimp only at halt hf hle hsz ⊢
 have hty:=hf.ty.1
 have c1:=mn hty omq
 have c2:=ox hty omq
 cases hf with
 | mk k t l hk ht hl2 =>
 obtain⟨qa,qd,qb⟩:=q
 unfold gy at halt
 dsimp only [p00] at halt hle ⊢
 refine az func111 rfl rfl ?_
 repeat' (first|(apply ay;first|refine bH ?_|(refine aK ?_ ?_<;>intro hG<;>(try cases hG))|refine ak ?_|refine ai ?_|refine bf ?_|refine aI ?_|refine bM ?_|refine aF 8 (halt) ?_|refine aH c1 ?_|refine aH c2 ?_|refine a7 ?_|refine bh ?_|refine aN ?_|refine dM ?_|refine bI ?_|refine aB ?_|refine bJ ?_|refine cE ?_|refine au ?_)|refine aj ?_|refine ab ?_|refine aa fun C=>?_|refine ac ?_)
 ·repeat' (first|(apply ay;first|refine ai ?_|refine bh ?_|refine au ?_)|refine aj ?_|refine ab ?_|refine aa fun C=>?_|refine ac ?_|refine aq rfl ?_)
  refine bc (cR 900 (i:=2) 112 3 rfl rfl (pre:=[_,_]) (post:=[]) rfl) ?_
  refine am ?_;refine bA rfl (cg (aG (bi (aO rfl (aO rfl (bE rfl rfl rfl cls0 aQ)))) (aG aJ bj))) ⟨?_,rfl⟩
  have hP:(!true&&(qa==s.size)&&eO (du k t l)&&(kZ (du k t l)).toList==s.toList)=false:=by clear halt c1 c2;first|(simp_all;done)|(simp_all;(try intros);omega)
  rw [hP];rfl
 ·repeat' (first|(apply ay;first|refine ai ?_|refine bh ?_|refine au ?_)|refine aj ?_|refine ab ?_|refine aa fun C=>?_|refine ac ?_|refine aq rfl ?_)
  refine bc (cR 900 (i:=2) 112 3 rfl rfl (pre:=[_,_]) (post:=[]) rfl) ?_
  refine am ?_;refine bA rfl (cg (aG (bi (aO rfl (aO rfl (bE rfl rfl rfl cls0 aQ)))) (aG aJ bj))) ⟨?_,rfl⟩
  have hP:(!false&&(qa==s.size)&&eO (du k t l)&&(kZ (du k t l)).toList==s.toList)=false:=by clear halt c1 c2;first|(simp_all;done)|(simp_all;(try intros);omega)
  rw [hP];rfl
 ·repeat' (first|(apply ay;first|refine ai ?_|refine bh ?_|refine au ?_)|refine aj ?_|refine ab ?_|refine aa fun C=>?_|refine ac ?_|refine aq rfl ?_)
  refine bc (cR 900 (i:=2) 112 3 rfl rfl (pre:=[_,_]) (post:=[]) rfl) ?_
  refine am ?_;refine bA rfl (cg (aG (bi (aO rfl (aO rfl (bE rfl rfl rfl cls0 aQ)))) (aG aJ bj))) ⟨?_,rfl⟩
  have hP:(!false&&(qa==s.size)&&eO (du k t l)&&(kZ (du k t l)).toList==s.toList)=false:=by clear halt c1 c2;first|(simp_all;done)|(simp_all;(try intros);omega)
  rw [hP];rfl
 ·refine ae rqf (fun hC=>?_) fun hC=>?_
  ·repeat' (first|(apply ay;first|refine ai ?_|refine bh ?_|refine au ?_)|refine aj ?_|refine ab ?_|refine aa fun C=>?_|refine ac ?_)
   refine bc (cR 900 (i:=2) 112 3 rfl rfl (pre:=[_,_]) (post:=[]) rfl) ?_
   refine am ?_;refine bA rfl (cg (aG (bi (aO rfl (aO rfl (bE rfl rfl rfl cls0 aQ)))) (aG aJ bj))) ⟨?_,rfl⟩
   have hP:(!false&&(qa==s.size)&&eO (du k t l)&&(kZ (du k t l)).toList==s.toList)=false:=by clear halt c1 c2;first|(simp_all;done)|(simp_all;(try intros);omega)
   rw [hP];rfl
  ·repeat' (first|(apply ay;first|refine ai ?_|refine bM ?_|refine bh ?_)|refine aj ?_|refine ab ?_|refine aa fun C=>?_|refine ac ?_|refine al ?_)
   refine am ?_;refine bA rfl (cg (aG (bi (aO rfl (aO rfl (bE rfl rfl rfl cls0 aQ)))) (aG aJ bj))) ⟨?_,rfl⟩
   have hP:(!false&&(qa==s.size)&&eO (du k t l)&&(kZ (du k t l)).toList==s.toList)=true:=by clear halt c1 c2;first|(simp_all;done)|(simp_all;(try intros);omega)
   rw [hP];rfl
theorem zo5 {s:ByteArray}(hs:s.size≤1048576){cat:PS→E×PS}{p0:PS}(hp:Pre s p0)
 (hg:∀q,Pre s q→p0.a≤q.a→GoodS s q (cat q))
 (hi:∀q,Pre s q→p0.a≤q.a→Ctr prog 148 [.c (.pt 0 0)] [fQ s q] (.ag (owE (cat q).1)) [fQ s (cat q).2]) :
 Ctr prog 134 [.c (.pt 0 0)] [fQ s p0] (.ag (owE (zw s cat p0).1)) [fQ s (zw s cat p0).2]:=by
 have hic0:=hi p0 hp (nlr _)
 have hg0:=hg p0 hp (nlr _)
 have hL0:=GoodLS.one hg0
 have hr:zw s cat p0=(kW 5 (cC s cat (s.size+1) [(cat p0).1] (cat p0).2).1,(cC s cat (s.size+1) [(cat p0).1] (cat p0).2).2):=rfl
 rw [hr]
 clear hr
 obtain⟨⟨e,q0⟩,hq0⟩:∃r,cat p0=r:=⟨_,rfl⟩
 rw [hq0] at hic0 hg0 hL0 ⊢
 have hfi:Fine e:=hg0.fine
 dsimp only at hic0 hL0 ⊢
 cases hfi with
 | mk k t l hk ht hl2 =>
 refine az func134 rfl rfl ?_
 repeat' (first|(apply ay;first|refine ak ?_|refine ai ?_|refine aF 0 (hic0) ?_|refine bJ ?_|refine dT ?_)|refine aj ?_|refine ab ?_|refine aa fun C=>?_|refine ac ?_|refine ah ?_)
 refine aY (fun q:List E×PS=>⟨ft [(0,.c (.pt 0 0)),(2,.c (.pt 2 0)),(3,.c (.sl 9 q.1.length))],eW [(0,0,⟨0,0,0,true,fQ s q.2⟩),(2,2,⟨112,0,0,true,[.v (.int .i64 0),.v (.string ByteArray.empty),.v (.slice none 0 0)]⟩),(9,9,⟨112,3,q.1.length,false,owL q.1⟩)],1,[0,2,9],22⟩)
  (fun N q=>GoodLS s p0 q.1 q.2∧s.size+1≤q.2.a+N∧cC s cat N q.1 q.2=cC s cat (s.size+1) [du k t l] q0) (s.size+1) ([du k t l],q0) ⟨hL0,by dsimp only;omega,rfl⟩ ?_ ?_
 ·refine (dU (i:=6) (j:=600) rfl rfl rfl (pre:=[_,_]) (post:=[]) rfl).trans ?_
  (refine eL (fun j=>if j=9 then 6 else j) _ _ rfl rfl ?_ ?_<;>exact tdy0)
 rintro N ⟨L,q⟩ ⟨hgl,hN,htot⟩
 dsimp only at hgl hN htot ⊢
 have hpre:=hgl.pre hp
 have hbar:=mr hs (c:=124) omq (p:=q)
 obtain⟨a,d,b⟩:=q
 have hlen:=hgl.len.1
 have hale:a≤s.size:=hgl.le
 dsimp only at hlen hN
 cases hgo:isB s 124 ⟨a,d,b⟩ with
 | true =>
  obtain⟨hb,hlt,hv⟩:=kP hgo
  dsimp only at hb hlt hv
  subst hb
  rw [jp hgo,hgo] at hbar
  obtain⟨M,rfl⟩:∃M,N=M+1:=⟨N-1,omq⟩
  have hpre2:Pre s ⟨a+1,d,false⟩:=⟨by show a+1≤_;omega,hpre.2.1,hpre.2.2⟩
  have hge:p0.a≤a:=hgl.ge
  have hic:=hi ⟨a+1,d,false⟩ hpre2 (by show p0.a≤a+1;omega)
  have hgd:=hg ⟨a+1,d,false⟩ hpre2 (by show p0.a≤a+1;omega)
  have hst:cC s cat (M+1) L ⟨a,d,false⟩=cC s cat M (L++[(cat ⟨a+1,d,false⟩).1]) (cat ⟨a+1,d,false⟩).2:=by
   show (if isB s 124 ⟨a,d,false⟩ then _ else _)=_
   rw [if_pos hgo];rfl
  rw [hst] at htot
  clear hst hi hg hic0
  have hge2:a+1≤(cat ⟨a+1,d,false⟩).2.a:=hgd.ge
  have hgl2:=hgl.step rfl (r:=cat ⟨a+1,d,false⟩) ⟨⟨hgd.fine,by show a≤_;omega,hgd.le,hgd.dg,hgd.dl,hgd.nb⟩,fun _=>by show a<_;omega⟩
  obtain⟨⟨e2,q2⟩,hq2⟩:∃r,cat ⟨a+1,d,false⟩=r:=⟨_,rfl⟩
  rw [hq2] at hic htot hgd hgl2 hge2
  dsimp only at hic htot hgd hgl2 hge2
  have hfi2:Fine e2:=hgd.fine
  cases hfi2 with
  | mk k' t' l' hk' ht' hl2' =>
  unfold fQ at hbar hic ⊢
  dsimp only [PS.go] at hbar hic ⊢
  repeat' (first|(apply ay;first|refine ak ?_|refine ai ?_|refine aF 0 (hbar) ?_|refine aF 0 (hic) ?_|refine dz ?_|refine dT ?_)|refine aj ?_|refine ab ?_|refine aa fun C=>?_|refine ac ?_|refine ah ?_|refine al ?_|refine aq rfl ?_)
  refine⟨M,(L++[du k' t' l'],q2),omq,⟨hgl2,by dsimp only;omega,htot⟩,?_⟩
  dsimp only
  rw [lla,List.length_singleton]
  refine (dU (i:=13) (j:=1200) rfl rfl rfl (pre:=owL L++[.v (.int .i64 k'),.v (.string t')]) (post:=[]) (by rw [List.append_assoc];rfl)).trans ?_
  (refine eL (fun j=>if j=9 then 13 else j) _ _ rfl rfl ?_ ?_<;>(repeat' (first|exact TmOk.nil|exact RwOk.nil|refine TmOk.cons ?_ ?_|refine RwOk.cons ?_ ?_|rfl|(refine rnV_id' rfl ?_;exact byc)|(refine cK ?_;first|rfl|omega|(rw [bB omq omq];omega))|(refine bg rfl ?_;exact byc)|exact dP rfl rfl|(refine rw_mid rqf rqf ?_ ?_<;>exact byc)|(refine rw_rn' rfl rfl ?_;simp;done))))
  exact fH (r:=⟨112,3,L.length+1,false,(owL L++[.v (.int .i64 k'),.v (.string t')])++[.ow 112 l'.length 3 (owL l')]⟩) rfl (by rw [fG,List.append_assoc];rfl) (by first|rfl|(simp [oS,bu,clo,bk,aM,bl,a8,aZ];done))
 | false =>
  rw [qZ hgo] at htot
  rw [←htot]
  rw [mt hgo,hgo] at hbar
  have hfine:=hgl.fine
  have hne:=hgl.ne
  clear htot hi hg hic0 hL0 hgl hpre hg0
  unfold fQ at hbar ⊢
  dsimp only at hbar ⊢
  match L,hfine,hne with
  | [],_,h0=>exact absurd h0 (by simp)
  | [x],hf,_ =>
   have hx:=hf x (List.mem_singleton.2 rfl)
   cases hx with
   | mk k' t' l' hk' ht' hl2' =>
   repeat' (first|(apply ay;first|refine ak ?_|refine aF 0 (hbar) ?_)|refine aj ?_|refine ab ?_|refine aa fun C=>?_|refine ac ?_)
   refine ar rfl ?_
   refine bc (y8 800 (i:=9) rfl rfl (pre:=[.v (.int .i64 k'),.v (.string t')]) (post:=[]) rfl) ?_
   repeat' (first|(apply ay;first|refine ak ?_|refine bM ?_|refine cJ ?_|refine bh ?_|refine eG ?_|refine ao ?_)|refine aj ?_|refine ab ?_|refine aa fun C=>?_|refine ac ?_|refine aE ?_|refine aq rfl ?_)
   exact qn
  | x :: y :: r,hf,_ =>
   have hlen2:(x :: y :: r).length=r.length+2:=rfl
   repeat' (first|(apply ay;first|refine ak ?_|refine aF 0 (hbar) ?_|refine cJ ?_|refine bh ?_|refine ao ?_|refine au ?_)|refine aj ?_|refine ab ?_|refine aa fun C=>?_|refine ac ?_|refine al ?_|refine aE ?_|refine ar rfl ?_)
   exact qn
theorem zh8 {s:ByteArray}(hs:s.size≤1048576)(f:Nat):∀p:PS,Pre s p→s.size+1≤p.a+f→Ctr prog 134 [.c (.pt 0 0)] [fQ s p] (.ag (owE (ja s f p).1)) [fQ s (ja s f p).2]:=by
 induction f with
 | zero=>intro p h1 h2;have:=h1.1;omega
 | succ f ih =>
  intro p h1 h2
  have hkid:∀r:PS,Pre s r→p.a≤r.a→r.b=false→r.a<s.size→r.d≤7→GoodS s ⟨r.a+1,r.d+1,r.b⟩ (ja s f ⟨r.a+1,r.d+1,r.b⟩):=fun r hr hra hb hlt hd=>pF hs f _ ⟨by show r.a+1≤_;omega,by show r.d+1≤9;omega,fun _=>by show r.d+1≤8;omega⟩ (by show s.size+1≤r.a+1+f;omega)
  have hat:∀r:PS,Pre s r→p.a≤r.a→GoodS s r (dR s (ja s f) r)∧((dR s (ja s f) r).2.b=false→r.a<(dR s (ja s f) r).2.a):=fun r hr hra=>nG hs hr fun hb hlt hd=>hkid r hr hra hb hlt hd
  refine zo5 hs h1 (fun q hq hqa=>pE hq fun r hr hra=>kq (hat r hr omq)) fun q hq hqa=>?_
  refine zn5 hs hq (fun r hr hra=>kq (hat r hr omq)) fun r hr hra=>?_
  refine zV hs (hat r hr omq).1 ?_
  have hpre:r.b=false→r.a<s.size→Pre s (r.go 1):=fun hb hlt=>⟨by show r.a+1≤_;omega,hr.2.1,hr.2.2⟩
  refine zU hs hr (fun hb hlt=>?_) fun hb hlt=>mo (hpre hb hlt) hb fun hd=>hkid r hr omq hb hlt hd
  exact xn hs (hpre hb hlt) hb (fun hd=>hkid r hr omq hb hlt hd) fun hd=>ih _ ⟨by show r.a+1≤_;omega,by have:=hd;show r.d+1≤9;have h7:r.d≤7:=hd;omega,fun _=>by show r.d+1≤8;have h7:r.d≤7:=hd;omega⟩ (by show s.size+1≤r.a+1+f;omega)
theorem m8 {s:ByteArray}(hs:s.size≤1048576):Ctr prog 108 [.c (.v (.string s))] [] (.tu [.ag (owE (zI s)),.c (.v (.bool (sK s)))]) []:=by
 rw [zx7,sL]
 by_cases hbig:1000<s.size
 ·have hP:wY s=false:=by unfold wY;rw [decide_eq_false omq];rfl
  rw [hP]
  refine az func108 rfl rfl ?_
  repeat' (first|(apply ay;first|refine ak ?_|refine ai ?_|refine a7 ?_|refine aX ?_|refine bJ ?_)|refine aj ?_|refine ab ?_|refine aa fun C=>?_|refine ac ?_)
  refine ae rqf (fun hC=>?_) fun hC=>by exfalso;simp only [dqn] at hC;omega
  repeat' (first|(apply ay;first|refine ai ?_|refine bh ?_|refine au ?_)|refine aj ?_|refine ab ?_|refine aa fun C=>?_|refine ac ?_)
  refine bc (cR 900 (i:=2) 112 3 rfl rfl (pre:=[_,_]) (post:=[]) rfl) ?_
  refine am ?_;refine bA rfl (cg (aG (bi (aO rfl (aO rfl (bE rfl rfl rfl cls0 aQ)))) (aG aJ bj))) ⟨?_,rfl⟩
  rfl
 have hpre:Pre s p00:=⟨Nat.zero_le _,by show (0:Nat)≤9;omega,fun _=>by show (0:Nat)≤8;omega⟩
 have halt:=zh8 hs (s.size+8) p00 hpre (by show s.size+1≤0+(s.size+8);omega)
 have hgd:=pF hs (s.size+8) p00 hpre (by show s.size+1≤0+(s.size+8);omega)
 have hsz:(ja s (s.size+8) p00).2.b=false→(ja s (s.size+8) p00).1.sz≤4194304:=fun hb=>by
  have h1:=(sG (s.size+8) p00 rfl (by show (0:Nat)≤8;omega) hb).1
  have h2:=(kr hs).2.2
  unfold gE at h2
  rw [h1] at h2;omega
 unfold wY
 unfold mi
 rw [decide_eq_true (show s.size≤1000 by omega)]
 obtain⟨⟨e,q⟩,hq⟩:∃r,ja s (s.size+8) p00=r:=⟨_,rfl⟩
 rw [hq] at halt hgd hsz ⊢
 have hf:Fine e:=hgd.fine
 dsimp only at halt hsz ⊢
 have hty:=hf.ty.1
 obtain⟨qa,qd,qb⟩:=q
 dsimp only at hsz
 cases qb with
 | true =>
  cases hf with
  | mk k t l hk ht hl2 =>
  unfold fQ at halt
  dsimp only [p00] at halt ⊢
  refine az func108 rfl rfl ?_
  repeat' (first|(apply ay;first|refine ak ?_|refine ai ?_|refine a7 ?_|refine aX ?_|refine bJ ?_)|refine aj ?_|refine ab ?_|refine aa fun C=>?_|refine ac ?_)
  refine ae rqf (fun hC=>by exfalso;simp only [dqt] at hC;omega) fun hC=>?_
  repeat' (first|(apply ay;first|refine bH ?_|(refine aK ?_ ?_<;>intro hG<;>(try cases hG))|refine ak ?_|refine ai ?_|refine bf ?_|refine aI ?_|refine aF 12 (halt) ?_|refine bh ?_|refine aB ?_|refine bJ ?_|refine cE ?_|refine au ?_)|refine aj ?_|refine ab ?_|refine aa fun C=>?_|refine ac ?_|refine al ?_|refine aq rfl ?_)
  refine bc (cR 900 (i:=2) 112 3 rfl rfl (pre:=[_,_]) (post:=[]) rfl) ?_
  refine am ?_;refine bA rfl (cg (aG (bi (aO rfl (aO rfl (bE rfl rfl rfl cls0 aQ)))) (aG aJ bj))) ⟨?_,rfl⟩
  rfl
 | false =>
  have c2:=oz hty (hsz rfl)
  cases hf with
  | mk k t l hk ht hl2 =>
  unfold fQ at halt
  dsimp only [p00] at halt ⊢
  refine az func108 rfl rfl ?_
  repeat' (first|(apply ay;first|refine ak ?_|refine ai ?_|refine a7 ?_|refine aX ?_|refine bJ ?_)|refine aj ?_|refine ab ?_|refine aa fun C=>?_|refine ac ?_)
  refine ae rqf (fun hC=>by exfalso;simp only [dqt] at hC;omega) fun hC=>?_
  repeat' (first|(apply ay;first|refine bH ?_|(refine aK ?_ ?_<;>intro hG<;>(try cases hG))|refine ak ?_|refine ai ?_|refine bf ?_|refine aI ?_|refine bM ?_|refine aF 12 (halt) ?_|refine aH c2 ?_|refine a7 ?_|refine bh ?_|refine aN ?_|refine dM ?_|refine aB ?_|refine bJ ?_|refine cE ?_|refine au ?_)|refine aj ?_|refine ab ?_|refine aa fun C=>?_|refine ac ?_|refine al ?_)
  ·repeat' (first|(apply ay;first|refine ai ?_|refine bh ?_|refine au ?_)|refine aj ?_|refine ab ?_|refine aa fun C=>?_|refine ac ?_|refine aq rfl ?_)
   refine bc (cR 900 (i:=2) 112 3 rfl rfl (pre:=[_,_]) (post:=[]) rfl) ?_
   refine am ?_;refine bA rfl (cg (aG (bi (aO rfl (aO rfl (bE rfl rfl rfl cls0 aQ)))) (aG aJ bj))) ⟨?_,rfl⟩
   have hP:(true&&!false&&(qa==s.size)&&(kZ (du k t l)).toList==s.toList)=false:=by clear halt c2;first|(simp_all;done)|(simp_all;(try intros);omega)
   rw [hP];rfl
  ·refine ae rqf (fun hC=>?_) fun hC=>?_
   ·repeat' (first|(apply ay;first|refine ai ?_|refine bh ?_|refine au ?_)|refine aj ?_|refine ab ?_|refine aa fun C=>?_|refine ac ?_)
    refine bc (cR 900 (i:=2) 112 3 rfl rfl (pre:=[_,_]) (post:=[]) rfl) ?_
    refine am ?_;refine bA rfl (cg (aG (bi (aO rfl (aO rfl (bE rfl rfl rfl cls0 aQ)))) (aG aJ bj))) ⟨?_,rfl⟩
    have hP:(true&&!false&&(qa==s.size)&&(kZ (du k t l)).toList==s.toList)=false:=by clear halt c2;first|(simp_all;done)|(simp_all;(try intros);omega)
    rw [hP];rfl
   ·repeat' (first|(apply ay;first|refine ai ?_|refine bM ?_|refine bh ?_)|refine aj ?_|refine ab ?_|refine aa fun C=>?_|refine ac ?_|refine al ?_)
    refine am ?_;refine bA rfl (cg (aG (bi (aO rfl (aO rfl (bE rfl rfl rfl cls0 aQ)))) (aG aJ bj))) ⟨?_,rfl⟩
    have hP:(true&&!false&&(qa==s.size)&&(kZ (du k t l)).toList==s.toList)=true:=by clear halt c2;first|(simp_all;done)|(simp_all;(try intros);omega)
    rw [hP];rfl
def ql (s:ByteArray):Bool:=sK s&&decide (s.size≤200)
theorem pI {s:ByteArray}(hs:s.size≤1048576):Fine (zI s):=by
 unfold zI
 split
 ·exact (kr hs).1
 ·exact Fine.zero
theorem nH {s:ByteArray}(hs:s.size≤1048576):Ctr prog 82 [.c (.v (.string s))] [] (.c (.v (.bool (ql s)))) []:=by
 have hc:=m7 hs
 have hf:=pI hs
 generalize zI s=e at hc hf
 cases hf with
 | mk k t l hk ht hl2 =>
 refine az func82 rfl rfl ?_
 unfold ql
 generalize sK s=b at *
 repeat' (first|(apply ay;first|refine bH ?_|(refine aK ?_ ?_<;>intro hG<;>(try cases hG))|refine ak ?_|refine cI (v:=.tu _) ?_|refine ai ?_|refine db hc ?_|refine a7 ?_|refine bh ?_|refine bp ?_|refine aB ?_|refine b9 ?_|refine dA (v:=.ag _) ?_|refine bJ ?_)|refine aj ?_|refine ab ?_|refine aa fun C=>?_|refine ac ?_)
 all_goals
  (first|refine am ?_|skip);refine bA rfl aJ ⟨?_,rfl⟩;refine congrArg (fun s=>AV.c (AC.v (Value.bool s))) ?_
  first
   | rfl
   | (simp only [Bool.true_and];(rw [Bool.eq_iff_iff];(try simp only [baq,Bool.or_eq_true,bnt,dqt,dqn,beq_iff_eq,Bool.and_eq_false_iff,Bool.or_eq_false_iff,bne_iff_ne,ne_eq,Bool.true_eq_false,Bool.false_eq_true,true_iff,false_iff,iff_true,iff_false] at *);first|omega|(simp at *;omega)))
theorem xq {s:ByteArray}(hs:s.size≤1048576):Ctr prog 76 [.c (.v (.string s))] [] (.c (.v (.bool (ql s)))) []:=by
 have hc:=m8 hs
 have hf:=pI hs
 generalize zI s=e at hc hf
 cases hf with
 | mk k t l hk ht hl2 =>
 refine az func76 rfl rfl ?_
 unfold ql
 generalize sK s=b at *
 repeat' (first|(apply ay;first|refine bH ?_|(refine aK ?_ ?_<;>intro hG<;>(try cases hG))|refine ak ?_|refine cI (v:=.tu _) ?_|refine ai ?_|refine db hc ?_|refine a7 ?_|refine bh ?_|refine bp ?_|refine aB ?_|refine b9 ?_|refine dA (v:=.ag _) ?_|refine bJ ?_)|refine aj ?_|refine ab ?_|refine aa fun C=>?_|refine ac ?_)
 all_goals
  (first|refine am ?_|skip);refine bA rfl aJ ⟨?_,rfl⟩;refine congrArg (fun s=>AV.c (AC.v (Value.bool s))) ?_
  first
   | rfl
   | (simp only [Bool.true_and];(rw [Bool.eq_iff_iff];(try simp only [baq,Bool.or_eq_true,bnt,dqt,dqn,beq_iff_eq,Bool.and_eq_false_iff,Bool.or_eq_false_iff,bne_iff_ne,ne_eq,Bool.true_eq_false,Bool.false_eq_true,true_iff,false_iff,iff_true,iff_false] at *);first|omega|(simp at *;omega)))
theorem q8 {l:List E}(hl:∀e∈l,e.Ty prog 9)(hk:∀e∈l,e.enc.length=1)(hlen:l.length≤1073741824)(v:ByteArray):Ctr prog 110 [.c (.ro l.length 1 (acL l)),.c (.v (.string v))] [] (.c (.v (.int .i64 (qh (fun e=>v.toList==(lu e).toList) l)))) []:=by
 refine az func110 rfl rfl ?_
 repeat (first|refine ac ?_|refine ah ?_|refine al ?_|refine aE ?_|refine am ?_|refine aa fun C=>?_|refine av krq krq fun C=>?_|refine ab ?_|refine cV ?_|refine jr ?_|refine j5 ?_|refine kA ?_|refine x_mv ?_|refine iX ?_|refine x_sk0 ?_|refine kB ?_|refine fu ?_|refine x_sto ?_|refine fx ?_|refine x_app0 ?_|refine kC ?_)
 refine aY (fun k:Nat=>⟨ft [(0,.c (.ro l.length 1 (acL l))),(1,.c (.v (.string v))),(7,.c (.v (.int .i64 l.length))),(8,.c (.v (.int .i64 k)))],eW [],0,[],19⟩)
  (fun N k=>k+N=l.length∧∀j y,j<k→l[j]? = some y→(fun e=>v.toList==(lu e).toList) y=false) l.length 0 ⟨omq,omq⟩ ?_ ?_
 ·(refine aL _ _ rfl rfl ?_ ?_<;>exact tdy0)
 rintro N k ⟨hN,hno⟩
 repeat (first|refine ac ?_|refine ah ?_|refine al ?_|refine aE ?_|refine am ?_|refine aa fun C=>?_|refine av krq krq fun C=>?_|refine ab ?_|refine cV ?_|refine jr ?_|refine j5 ?_|refine kA ?_|refine x_mv ?_|refine iX ?_|refine x_sk0 ?_|refine kB ?_|refine fu ?_|refine x_sto ?_|refine fx ?_|refine x_app0 ?_|refine kC ?_)
 refine dn rqf (fun h1=>?_) fun h1=>?_
 ·have hk':k<l.length:=by simpa using h1
  obtain⟨x,hx⟩:∃x,l[k]? = some x:=⟨_,List.getElem?_eq_getElem hk'⟩
  have hxt:=hl x (mge hx)
  obtain⟨y0,rfl,-⟩:=hxt.str_ underlying9
  repeat (first|refine ac ?_|refine ah ?_|refine al ?_|refine aE ?_|refine am ?_|refine aa fun C=>?_|refine av krq krq fun C=>?_|refine ab ?_|refine cV ?_|refine jr ?_|refine j5 ?_|refine kA ?_|refine x_mv ?_|refine iX ?_|refine x_sk0 ?_|refine kB ?_|refine fu ?_|refine x_sto ?_|refine fx ?_|refine x_app0 ?_|refine kC ?_)
  refine dn rqf (fun h2=>?_) fun h2=>?_
  ·repeat (first|refine ac ?_|refine ah ?_|refine al ?_|refine aE ?_|refine am ?_|refine aa fun C=>?_|refine av krq krq fun C=>?_|refine ab ?_|refine cV ?_|refine jr ?_|refine j5 ?_|refine kA ?_|refine x_mv ?_|refine iX ?_|refine x_sk0 ?_|refine kB ?_|refine fu ?_|refine x_sto ?_|refine fx ?_|refine x_app0 ?_|refine kC ?_)
   refine bA (x:=.c (.v (.int .i64 k))) rfl aJ ⟨?_,rfl⟩
   rw [qC hno hx (by simpa [lu] using h2)]
  ·repeat (first|refine ac ?_|refine ah ?_|refine al ?_|refine aE ?_|refine am ?_|refine aa fun C=>?_|refine av krq krq fun C=>?_|refine ab ?_|refine cV ?_|refine jr ?_|refine j5 ?_|refine kA ?_|refine x_mv ?_|refine iX ?_|refine x_sk0 ?_|refine kB ?_|refine fu ?_|refine x_sto ?_|refine fx ?_|refine x_app0 ?_|refine kC ?_)
   refine⟨N-1,k+1,omq,⟨omq,fun j z hj hz=>?_⟩,?_⟩
   ·by_cases e:j=k
    ·rw [e,hx] at hz;injection hz with hz;subst hz;simpa [lu] using h2
    ·exact hno j z omq hz
   ·(refine aL _ _ rfl rfl ?_ ?_<;>exact tdy0)
 ·have hk':¬k<l.length:=by simpa using h1
  repeat (first|refine ac ?_|refine ah ?_|refine al ?_|refine aE ?_|refine am ?_|refine aa fun C=>?_|refine av krq krq fun C=>?_|refine ab ?_|refine cV ?_|refine jr ?_|refine j5 ?_|refine kA ?_|refine x_mv ?_|refine iX ?_|refine x_sk0 ?_|refine kB ?_|refine fu ?_|refine x_sto ?_|refine fx ?_|refine x_app0 ?_|refine kC ?_)
  refine bA (x:=.c (.v (.int .i64 (-1)))) rfl aJ ⟨?_,rfl⟩
  rw [jA fun j y hj hy=>hno j y omq hy]
theorem mu {l:List E}(hl:∀e∈l,e.Ty prog 9)(hk:∀e∈l,e.enc.length=1)(hlen:l.length≤1073741824)(v:ByteArray):Ctr prog 80 [.c (.ro l.length 1 (acL l)),.c (.v (.string v))] [] (.c (.v (.bool (l.any (fun e=>v.toList==(lu e).toList))))) []:=by
 refine az func80 rfl rfl ?_
 have hcc:=q8 hl hk hlen v
 repeat (first|refine ac ?_|refine ah ?_|refine al ?_|refine aE ?_|refine am ?_|refine aa fun C=>?_|refine av krq krq fun C=>?_|refine ab ?_|refine cV ?_|refine jr ?_|refine j5 ?_|refine kA ?_|refine x_mv ?_|refine iX ?_|refine x_sk0 ?_|refine kB ?_|refine fu ?_|refine x_sto ?_|refine fx ?_|refine x_app0 ?_|refine kC ?_)
 refine m0 hcc ?_
 repeat (first|refine ac ?_|refine ah ?_|refine al ?_|refine aE ?_|refine am ?_|refine aa fun C=>?_|refine av krq krq fun C=>?_|refine ab ?_|refine cV ?_|refine jr ?_|refine j5 ?_|refine kA ?_|refine x_mv ?_|refine iX ?_|refine x_sk0 ?_|refine kB ?_|refine fu ?_|refine x_sto ?_|refine fx ?_|refine x_app0 ?_|refine kC ?_)
 refine bA (x:=.c (.v (.bool (decide (qh (fun e=>v.toList==(lu e).toList) l ≥ 0))))) rfl aJ ⟨?_,rfl⟩
 rw [n7]
end Go.Proofs.YtomolhbkdhjofaaGreatDoor
