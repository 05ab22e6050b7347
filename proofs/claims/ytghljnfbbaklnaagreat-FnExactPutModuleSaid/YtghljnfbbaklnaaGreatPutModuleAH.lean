/- The program's reader of regular expressions: rows of items: by the abstract machine. -/
import Derived.Test.YtghljnfbbaklnaaGreatPutModuleAG
namespace Go.Proofs.YtghljnfbbaklnaaGreat
open Go.RowKit
set_option maxRecDepth 100000
theorem zo18 {s:ByteArray}{item:PS→E×PS}{p:PS}(h:goI s p=false):∀(n:Nat) (l:List E),catLoopI s item n l p=(l,p)
 | 0,_=>rfl
 | n+1,l=>by unfold catLoopI;rw [if_neg (by rw [h];simp)]
theorem zz16 {s:ByteArray}{a d v:Nat}{b:Bool}(hv:bAt s a=v):goI s ⟨a,d,b⟩=(!b&&!(v==0)&&!(v==124)&&!(v==41)):=by unfold goI;rw [hv]
set_option maxHeartbeats 8000000 in
theorem cat_c {s:ByteArray}(hs:s.size≤1048576){item:PS→E×PS}{p0:PS}(hp:p0.a≤s.size)(hd:p0.d≤1048577)
 (hg:∀q,q.a<s.size→q.d=p0.d→p0.a≤q.a→Good s q (item q) 1 1 0)
 (hi:∀q,q.a<s.size→q.d=p0.d→p0.a≤q.a→Ctr Tryz.prog 215 [.c (.pt 0 0)] [rdrI s q] (.ag (owE (item q).1)) [rdrI s (item q).2]) :
 Ctr Tryz.prog 206 [.c (.pt 0 0)] [rdrI s p0] (.ag (owE (catI s item p0).1)) [rdrI s (catI s item p0).2]:=by
 refine zo2 Tryz.func206 rfl rfl ?_
 repeat' (first|(apply f_wo;first|(apply f_gs;refine n_sk ?_)|(apply f_mv;first|(refine zb2 ?_ ?_<;>intro hG<;>(try cases hG))|refine zj1 (v:=.c _) ?_|refine za ?_)|(apply f_as;first|refine zi1 (v:=.c _) ?_|refine za ?_)|(apply f_fa;first|refine n_fa ?_|refine zm1 ?_)|(apply f_ld;first|refine zq1 ?_|refine zx ?_|refine zw ?_|refine zo1 ?_|refine n_ld ?_)|(apply f_bi;first|refine zb1 ?_|refine za1 ?_|refine zc1 ?_|refine zc2 ?_|refine zc2 (hnu:=ze _) ?_|refine zp1 ?_|refine zp1 (hnu:=ze _) ?_|refine za ?_)|(apply f_st;first|refine n_st ?_|refine zx1 ?_)|(apply f_ia;first|refine n_ix ?_|refine zz1 ?_|refine za ?_)|(apply ze2;first|refine zy ?_|refine za ?_)|(apply zm3;first|refine zi2 ?_|refine za ?_)|(apply f_no;first|refine zh2 ?_|refine za ?_)|(apply f_pk;first|refine za2 (v:=.c _) ?_|refine za ?_)|refine n_al ?_|refine n_bs ?_|refine za ?_)|(apply f_w;first|refine zv ?_|refine zc ?_)|refine zb fun C=>?_|refine zh ?_|refine zd ?_|refine zf ?_|refine zg ?_)
 refine ze3 (fun q:List E×PS=>⟨tmsF [(0,.c (.pt 0 0)),(2,.c (.pt 2 0)),(3,.c (.sl 9 q.1.length))],hpsF [(0,0,⟨0,0,0,true,rdrI s q.2⟩),(2,2,⟨208,0,0,true,[.v (.int .i64 0),.v (.string ByteArray.empty),.v (.slice none 0 0)]⟩),(9,9,⟨208,3,q.1.length,false,owL q.1⟩)],1,[0,2,9],44⟩)
  (fun N q=>GoodL s p0 q.1 q.2 0∧s.size+2≤q.2.a+N∧catLoopI s item N q.1 q.2=catLoopI s item (s.size+2) [] p0) (s.size+2) ([],p0) ⟨⟨fun _ h=>absurd h List.not_mem_nil,Nat.le_refl _,hp,rfl,by simp,by simp [E.szL]⟩,by dsimp only;omega,rfl⟩ ?_ ?_
 ·refine (zf19 9 (t:=3) 208 3 rfl rfl).trans ?_
  (refine zr2 _ _ rfl rfl ?_ ?_<;>(repeat' (first|exact TmOk.nil|exact RwOk.nil|refine TmOk.cons ?_ ?_|refine RwOk.cons ?_ ?_|rfl|(refine rnV_id' rfl ?_;exact byc)|(refine zv2 ?_;first|rfl|omega|(rw [zv1 (by omega) (by omega)];omega))|(refine zl1 rfl ?_;exact byc)|exact zz3 rfl rfl|(refine zw2 (by rfl) (by rfl) ?_ ?_<;>exact byc)|(refine rw_rn' rfl rfl ?_;simp;done))))
 rintro N ⟨L,q⟩ ⟨hgl,hN,htot⟩
 dsimp only at hgl hN htot ⊢
 obtain⟨k1,k2,k3,k4,k5,k6⟩:=hgl
 have hnx:=zv13 hs (p:=q)
 obtain⟨M,rfl⟩:∃M,N=M+1:=⟨N-1,by omega⟩
 have htail:catI s item p0=if (catLoopI s item (M+1) L q).1.length=0 then (zeroR,(catLoopI s item (M+1) L q).2.bad) else (oneOr 4 (catLoopI s item (M+1) L q).1,(catLoopI s item (M+1) L q).2):=by unfold catI;rw [←htot]
 cases hgo:goI s q with
 | true =>
  obtain⟨hb,hlt,-⟩:=goI_lt hgo
  obtain⟨g1,g2,g3,g4,g5⟩:=hg q hlt k4 k2
  have hic:=hi q hlt k4 k2
  have hst:catLoopI s item (M+1) L q=catLoopI s item M (L++[(item q).1]) (item q).2:=by
   show (if goI s q then _ else _)=_
   rw [if_pos hgo]
  rw [hst] at htot
  clear htail hst hi hg
  obtain⟨⟨e,q2⟩,hq2⟩:∃r,item q=r:=⟨_,rfl⟩
  rw [hq2] at hic htot g1 g2 g3 g4 g5
  dsimp only at hic htot g1 g2 g3 g4 g5
  cases g1 with
  | mk k t l hk ht hl2 =>
  obtain⟨a,d,b⟩:=q
  have hb:b=false:=hb
  subst hb
  obtain⟨v,hv⟩:∃v,bAt s a=v:=⟨_,rfl⟩
  rw [zz16 hv] at hgo
  simp only [Bool.and_eq_true,Bool.not_eq_true',beq_eq_false_iff_ne] at hgo
  have hnx:Ctr Tryz.prog 207 [.c (.pt 0 0)] [rdrI s ⟨a,d,false⟩] (.c (.v (.int .u8 (v:Int)))) [rdrI s ⟨a,d,false⟩]:=by rw [←hv];exact hnx
  unfold rdrI at hnx hic ⊢
  dsimp only at hnx hic k2 k3 k4 k5 k6 hN g2 g3 g4 g5 ⊢
  repeat' (first|(apply f_wo;first|(apply f_gs;refine n_sk ?_)|(apply f_mv;first|(refine zb2 ?_ ?_<;>intro hG<;>(try cases hG))|refine zj1 (v:=.c _) ?_|refine za ?_)|(apply f_as;first|refine zi1 (v:=.c _) ?_|refine za ?_)|(apply f_fa;first|refine n_fa ?_|refine zm1 ?_)|(apply f_ld;first|refine zq1 ?_|refine zx ?_|refine zw ?_|refine zo1 ?_|refine n_ld ?_)|(apply f_ca;first|refine za3 0 (hnx) ?_|refine za3 0 (hic) ?_)|(apply f_bi;first|refine zb1 ?_|refine za1 ?_|refine zc1 ?_|refine zc2 ?_|refine zc2 (hnu:=ze _) ?_|refine zp1 ?_|refine zp1 (hnu:=ze _) ?_|refine za ?_)|(apply f_st;first|refine n_st ?_|refine zx1 ?_)|(apply f_ia;first|refine n_ix ?_|refine zz1 ?_|refine za ?_)|(apply ze2;first|refine zy ?_|refine za ?_)|(apply zm3;first|refine zi2 ?_|refine za ?_)|(apply f_no;first|refine zh2 ?_|refine za ?_)|(apply f_pk;first|refine za2 (v:=.c _) ?_|refine za ?_)|refine n_al ?_|refine n_bs ?_|refine za ?_)|(apply f_w;first|refine zv ?_|refine zc ?_)|refine zb fun C=>?_|refine zh ?_|refine zd ?_|refine zf ?_|refine zg ?_)
  all_goals first
   | (exfalso;simp at hG;omega)
   | skip
  refine zn (by rfl) (fun hC=>?_) fun hC=>absurd (bne_eq_false_iff_eq.1 hC) (by omega)
  repeat' (first|(apply f_wo;first|(apply f_gs;refine n_sk ?_)|(apply f_mv;first|(refine zb2 ?_ ?_<;>intro hG<;>(try cases hG))|refine zj1 (v:=.c _) ?_|refine za ?_)|(apply f_as;first|refine zi1 (v:=.c _) ?_|refine za ?_)|(apply f_fa;first|refine n_fa ?_|refine zm1 ?_)|(apply f_ld;first|refine zq1 ?_|refine zx ?_|refine zw ?_|refine zo1 ?_|refine n_ld ?_)|(apply f_ca;first|refine za3 0 (hnx) ?_|refine za3 0 (hic) ?_)|(apply f_bi;first|refine zb1 ?_|refine za1 ?_|refine zc1 ?_|refine zc2 ?_|refine zc2 (hnu:=ze _) ?_|refine zp1 ?_|refine zp1 (hnu:=ze _) ?_|refine za ?_)|(apply f_st;first|refine n_st ?_|refine zx1 ?_)|(apply f_ia;first|refine n_ix ?_|refine zz1 ?_|refine za ?_)|(apply ze2;first|refine zy ?_|refine za ?_)|(apply zm3;first|refine zi2 ?_|refine za ?_)|(apply f_no;first|refine zh2 ?_|refine za ?_)|(apply f_pk;first|refine za2 (v:=.c _) ?_|refine za ?_)|refine n_al ?_|refine n_bs ?_|refine za ?_)|(apply f_w;first|refine zv ?_|refine zc ?_)|refine zb fun C=>?_|refine zh ?_|refine zd ?_|refine zf ?_|refine zg ?_|refine zt rfl ?_|refine zp rfl ?_)
  refine⟨M,(L++[rexE k t l],q2),by omega,⟨⟨fun x hx=>?_,?_,g3,?_,?_,?_⟩,?_,htot⟩,?_⟩
  ·rcases List.mem_append.1 hx with hx|hx
   ·exact k1 x hx
   ·obtain rfl:=List.mem_singleton.1 hx;exact .mk k t l hk ht hl2
  ·dsimp only;omega
  ·dsimp only;omega
  ·dsimp only;rw [List.length_append,List.length_singleton];omega
  ·dsimp only;rw [zl9,List.length_append,List.length_singleton];omega
  ·dsimp only;omega
  ·dsimp only
   rw [List.length_append,List.length_singleton]
   refine (zx9 (i:=28) (j:=2700) rfl rfl rfl (pre:=owL L++[.v (.int .i64 k),.v (.string t)]) (post:=[]) (by rw [List.append_assoc];rfl)).trans ?_
   (refine za6 (fun j=>if j=9 then 28 else j) _ _ rfl rfl ?_ ?_<;>(repeat' (first|exact TmOk.nil|exact RwOk.nil|refine TmOk.cons ?_ ?_|refine RwOk.cons ?_ ?_|rfl|(refine rnV_id' rfl ?_;exact byc)|(refine zv2 ?_;first|rfl|omega|(rw [zv1 (by omega) (by omega)];omega))|(refine zl1 rfl ?_;exact byc)|exact zz3 rfl rfl|(refine zw2 (by rfl) (by rfl) ?_ ?_<;>exact byc)|(refine rw_rn' rfl rfl ?_;simp;done))))
   exact zz17 (r:=⟨208,3,L.length+1,false,(owL L++[.v (.int .i64 k),.v (.string t)])++[.ow 208 l.length 3 (owL l)]⟩) rfl (by rw [zw9,List.append_assoc];rfl) (by first|rfl|(simp [cloV,cloL,clo,zd1,zo,ze1,zq,zr];done))
 | false =>
  rw [zo18 hgo] at htail
  rw [htail]
  clear htail hi hg htot
  obtain⟨a,d,b⟩:=q
  obtain⟨v,hv⟩:∃v,bAt s a=v:=⟨_,rfl⟩
  rw [zz16 hv] at hgo
  have hnx:Ctr Tryz.prog 207 [.c (.pt 0 0)] [rdrI s ⟨a,d,b⟩] (.c (.v (.int .u8 (v:Int)))) [rdrI s ⟨a,d,b⟩]:=by rw [←hv];exact hnx
  unfold rdrI at hnx ⊢
  dsimp only [PS.bad] at hnx k2 k3 k4 k5 k6 hN ⊢
  have hgo':b=true∨v=0∨v=124∨v=41:=by
   cases b with
   | true=>exact .inl rfl
   | false=>right;simp at hgo;omega
  match L,k1 with
  | [],_ =>
   rw [if_pos (show ([]:List E).length=0 from rfl)]
   cases b<;>repeat' (first|(apply f_wo;first|(apply f_gs;refine n_sk ?_)|(apply f_mv;first|(refine zb2 ?_ ?_<;>intro hG<;>(try cases hG))|refine zj1 (v:=.c _) ?_|refine za ?_)|(apply f_as;first|refine zi1 (v:=.c _) ?_|refine za ?_)|(apply f_fa;first|refine n_fa ?_|refine zm1 ?_)|(apply f_ld;first|refine zq1 ?_|refine zx ?_|refine zw ?_|refine zo1 ?_|refine n_ld ?_)|(apply f_ca;first|refine za3 0 (hnx) ?_)|(apply f_bi;first|refine zb1 ?_|refine za1 ?_|refine zc1 ?_|refine zc2 ?_|refine zc2 (hnu:=ze _) ?_|refine zp1 ?_|refine zp1 (hnu:=ze _) ?_|refine za ?_)|(apply f_st;first|refine n_st ?_|refine zx1 ?_)|(apply f_ia;first|refine n_ix ?_|refine zz1 ?_|refine za ?_)|(apply ze2;first|refine zy ?_|refine za ?_)|(apply zm3;first|refine zi2 ?_|refine za ?_)|(apply f_no;first|refine zh2 ?_|refine za ?_)|(apply f_pk;first|refine za2 (v:=.c _) ?_|refine za ?_)|refine n_al ?_|refine n_bs ?_|refine za ?_)|(apply f_w;first|refine zv ?_|refine zc ?_)|refine zb fun C=>?_|refine zh ?_|refine zd ?_|refine zf ?_|refine zg ?_)
   all_goals first
    | refine zp rfl ?_
    | refine zn (by rfl) (fun hC=>by exfalso;clear hnx;simp only [bne_iff_ne,ne_eq,Bool.false_eq_true,false_or] at *;omega) fun hC=>?_
   all_goals
    repeat' (first|(apply f_wo;first|(apply f_gs;refine n_sk ?_)|(apply f_mv;first|(refine zb2 ?_ ?_<;>intro hG<;>(try cases hG))|refine zj1 (v:=.c _) ?_|refine za ?_)|(apply f_as;first|refine zi1 (v:=.c _) ?_|refine za ?_)|(apply f_fa;first|refine n_fa ?_|refine zm1 ?_)|(apply f_ld;first|refine zq1 ?_|refine zx ?_|refine zw ?_|refine zo1 ?_|refine n_ld ?_)|(apply f_bi;first|refine zb1 ?_|refine za1 ?_|refine zc1 ?_|refine zc2 ?_|refine zc2 (hnu:=ze _) ?_|refine zp1 ?_|refine zp1 (hnu:=ze _) ?_|refine za ?_)|(apply f_st;first|refine n_st ?_|refine zx1 ?_)|(apply f_ia;first|refine n_ix ?_|refine zz1 ?_|refine za ?_)|(apply ze2;first|refine zy ?_|refine za ?_)|(apply zm3;first|refine zi2 ?_|refine za ?_)|(apply f_no;first|refine zh2 ?_|refine za ?_)|(apply f_pk;first|refine za2 (v:=.c _) ?_|refine za ?_)|refine n_al ?_|refine n_bs ?_|refine za ?_)|(apply f_w;first|refine zv ?_|refine zc ?_)|refine zb fun C=>?_|refine zh ?_|refine zd ?_|refine zf ?_|refine zg ?_|refine zt rfl ?_|refine zp rfl ?_)
    refine zs4 (zs6 900 (i:=2) 208 3 rfl rfl (pre:=[_,_]) (post:=[]) rfl) ?_;refine zu ?_;refine ret1 rfl (zy3 (zi3 rfl (zi3 rfl (zk3 rfl rfl rfl (by first|exact zq _|exact zo _|exact bytC_clo _|(simp [cloL,clo,zq,zo,ze1,zd1,zr];done)|(simp [cloL,clo,opC,opL,zq,zo,ze1,zd1,zr];done)) zn2)))) rfl (by first|rfl|(simp [cloL,clo,zq,zo,ze1,zd1,zr];done)) rfl ⟨?_,?_⟩
    ·rfl
    ·rfl
  | [x],hf =>
   rw [if_neg (show ¬[x].length=0 by simp)]
   have hx:=hf x (List.mem_singleton.2 rfl)
   cases hx with
   | mk k t l hk ht hl2 =>
   cases b<;>repeat' (first|(apply f_wo;first|(apply f_gs;refine n_sk ?_)|(apply f_mv;first|(refine zb2 ?_ ?_<;>intro hG<;>(try cases hG))|refine zj1 (v:=.c _) ?_|refine za ?_)|(apply f_as;first|refine zi1 (v:=.c _) ?_|refine za ?_)|(apply f_fa;first|refine n_fa ?_|refine zm1 ?_)|(apply f_ld;first|refine zq1 ?_|refine zx ?_|refine zw ?_|refine zo1 ?_|refine n_ld ?_)|(apply f_ca;first|refine za3 0 (hnx) ?_)|(apply f_bi;first|refine zb1 ?_|refine za1 ?_|refine zc1 ?_|refine zc2 ?_|refine zc2 (hnu:=ze _) ?_|refine zp1 ?_|refine zp1 (hnu:=ze _) ?_|refine za ?_)|(apply f_st;first|refine n_st ?_|refine zx1 ?_)|(apply f_ia;first|refine n_ix ?_|refine zz1 ?_|refine za ?_)|(apply ze2;first|refine zy ?_|refine za ?_)|(apply zm3;first|refine zi2 ?_|refine za ?_)|(apply f_no;first|refine zh2 ?_|refine za ?_)|(apply f_pk;first|refine za2 (v:=.c _) ?_|refine za ?_)|refine n_al ?_|refine n_bs ?_|refine za ?_)|(apply f_w;first|refine zv ?_|refine zc ?_)|refine zb fun C=>?_|refine zh ?_|refine zd ?_|refine zf ?_|refine zg ?_)
   all_goals first
    | refine zp rfl ?_
    | refine zn (by rfl) (fun hC=>by exfalso;clear hnx;simp only [bne_iff_ne,ne_eq,Bool.false_eq_true,false_or] at *;omega) fun hC=>?_
   all_goals
    refine zs4 (g_rev 800 (i:=9) rfl rfl (pre:=[.v (.int .i64 k),.v (.string t)]) (post:=[]) rfl) ?_
    repeat' (first|(apply f_wo;first|(apply f_gs;refine n_sk ?_)|(apply f_mv;first|(refine zb2 ?_ ?_<;>intro hG<;>(try cases hG))|refine zj1 (v:=.c _) ?_|refine za ?_)|(apply f_as;first|refine zi1 (v:=.c _) ?_|refine za ?_)|(apply f_fa;first|refine n_fa ?_|refine zm1 ?_)|(apply f_ld;first|refine zq1 ?_|refine zx ?_|refine zw ?_|refine zo1 ?_|refine n_ld ?_)|(apply f_bi;first|refine zb1 ?_|refine za1 ?_|refine zc1 ?_|refine zc2 ?_|refine zc2 (hnu:=ze _) ?_|refine zp1 ?_|refine zp1 (hnu:=ze _) ?_|refine za ?_)|(apply f_st;first|refine n_st ?_|refine zx1 ?_)|(apply f_ia;first|refine n_ix ?_|refine zz1 ?_|refine za ?_)|(apply ze2;first|refine zy ?_|refine za ?_)|(apply zm3;first|refine zi2 ?_|refine za ?_)|(apply f_no;first|refine zh2 ?_|refine za ?_)|(apply f_pk;first|refine za2 (v:=.c _) ?_|refine za ?_)|refine n_al ?_|refine n_bs ?_|refine za ?_)|(apply f_w;first|refine zv ?_|refine zc ?_)|refine zb fun C=>?_|refine zh ?_|refine zd ?_|refine zf ?_|refine zg ?_|refine zt rfl ?_|refine zp rfl ?_)
    refine zu ?_;refine ret1 rfl (zy3 (zi3 rfl (zi3 rfl (zk3 rfl rfl rfl (by first|exact zq _|exact zo _|exact bytC_clo _|(simp [cloL,clo,zq,zo,ze1,zd1,zr];done)|(simp [cloL,clo,opC,opL,zq,zo,ze1,zd1,zr];done)) zn2)))) rfl (by first|rfl|(simp [cloL,clo,zq,zo,ze1,zd1,zr];done)) rfl ⟨?_,?_⟩
    ·rfl
    ·rfl
  | x :: y :: r,hf =>
   rw [if_neg (show ¬(x :: y :: r).length=0 by simp)]
   have hlen:(x :: y :: r).length=r.length+2:=rfl
   cases b<;>repeat' (first|(apply f_wo;first|(apply f_gs;refine n_sk ?_)|(apply f_mv;first|(refine zb2 ?_ ?_<;>intro hG<;>(try cases hG))|refine zj1 (v:=.c _) ?_|refine za ?_)|(apply f_as;first|refine zi1 (v:=.c _) ?_|refine za ?_)|(apply f_fa;first|refine n_fa ?_|refine zm1 ?_)|(apply f_ld;first|refine zq1 ?_|refine zx ?_|refine zw ?_|refine zo1 ?_|refine n_ld ?_)|(apply f_ca;first|refine za3 0 (hnx) ?_)|(apply f_bi;first|refine zb1 ?_|refine za1 ?_|refine zc1 ?_|refine zc2 ?_|refine zc2 (hnu:=ze _) ?_|refine zp1 ?_|refine zp1 (hnu:=ze _) ?_|refine za ?_)|(apply f_st;first|refine n_st ?_|refine zx1 ?_)|(apply f_ia;first|refine n_ix ?_|refine zz1 ?_|refine za ?_)|(apply ze2;first|refine zy ?_|refine za ?_)|(apply zm3;first|refine zi2 ?_|refine za ?_)|(apply f_no;first|refine zh2 ?_|refine za ?_)|(apply f_pk;first|refine za2 (v:=.c _) ?_|refine za ?_)|refine n_al ?_|refine n_bs ?_|refine za ?_)|(apply f_w;first|refine zv ?_|refine zc ?_)|refine zb fun C=>?_|refine zh ?_|refine zd ?_|refine zf ?_|refine zg ?_)
   all_goals first
    | refine zp rfl ?_
    | refine zn (by rfl) (fun hC=>by exfalso;clear hnx;simp only [bne_iff_ne,ne_eq,Bool.false_eq_true,false_or] at *;omega) fun hC=>?_
   all_goals
    repeat' (first|(apply f_wo;first|(apply f_gs;refine n_sk ?_)|(apply f_mv;first|(refine zb2 ?_ ?_<;>intro hG<;>(try cases hG))|refine zj1 (v:=.c _) ?_|refine za ?_)|(apply f_as;first|refine zi1 (v:=.c _) ?_|refine za ?_)|(apply f_fa;first|refine n_fa ?_|refine zm1 ?_)|(apply f_ld;first|refine zq1 ?_|refine zx ?_|refine zw ?_|refine zo1 ?_|refine n_ld ?_)|(apply f_bi;first|refine zb1 ?_|refine za1 ?_|refine zc1 ?_|refine zc2 ?_|refine zc2 (hnu:=ze _) ?_|refine zp1 ?_|refine zp1 (hnu:=ze _) ?_|refine za ?_)|(apply f_st;first|refine n_st ?_|refine zx1 ?_)|(apply f_ia;first|refine n_ix ?_|refine zz1 ?_|refine za ?_)|(apply ze2;first|refine zy ?_|refine za ?_)|(apply zm3;first|refine zi2 ?_|refine za ?_)|(apply f_no;first|refine zh2 ?_|refine za ?_)|(apply f_pk;first|refine za2 (v:=.c _) ?_|refine za ?_)|refine n_al ?_|refine n_bs ?_|refine za ?_)|(apply f_w;first|refine zv ?_|refine zc ?_)|refine zb fun C=>?_|refine zh ?_|refine zd ?_|refine zf ?_|refine zg ?_)
    refine zn (by rfl) (fun hC=>by exfalso;simp at hC;omega) fun hC=>?_
    repeat' (first|(apply f_wo;first|(apply f_gs;refine n_sk ?_)|(apply f_mv;first|(refine zb2 ?_ ?_<;>intro hG<;>(try cases hG))|refine zj1 (v:=.c _) ?_|refine za ?_)|(apply f_as;first|refine zi1 (v:=.c _) ?_|refine za ?_)|(apply f_fa;first|refine n_fa ?_|refine zm1 ?_)|(apply f_ld;first|refine zq1 ?_|refine zx ?_|refine zw ?_|refine zo1 ?_|refine n_ld ?_)|(apply f_bi;first|refine zb1 ?_|refine za1 ?_|refine zc1 ?_|refine zc2 ?_|refine zc2 (hnu:=ze _) ?_|refine zp1 ?_|refine zp1 (hnu:=ze _) ?_|refine za ?_)|(apply f_st;first|refine n_st ?_|refine zx1 ?_)|(apply f_ia;first|refine n_ix ?_|refine zz1 ?_|refine za ?_)|(apply ze2;first|refine zy ?_|refine za ?_)|(apply zm3;first|refine zi2 ?_|refine za ?_)|(apply f_no;first|refine zh2 ?_|refine za ?_)|(apply f_pk;first|refine za2 (v:=.c _) ?_|refine za ?_)|refine n_al ?_|refine n_bs ?_|refine za ?_)|(apply f_w;first|refine zv ?_|refine zc ?_)|refine zb fun C=>?_|refine zh ?_|refine zd ?_|refine zf ?_|refine zg ?_)
    refine zn (by rfl) (fun hC=>by exfalso;simp at hC;omega) fun hC=>?_
    repeat' (first|(apply f_wo;first|(apply f_gs;refine n_sk ?_)|(apply f_mv;first|(refine zb2 ?_ ?_<;>intro hG<;>(try cases hG))|refine zj1 (v:=.c _) ?_|refine za ?_)|(apply f_as;first|refine zi1 (v:=.c _) ?_|refine za ?_)|(apply f_fa;first|refine n_fa ?_|refine zm1 ?_)|(apply f_ld;first|refine zq1 ?_|refine zx ?_|refine zw ?_|refine zo1 ?_|refine n_ld ?_)|(apply f_bi;first|refine zb1 ?_|refine za1 ?_|refine zc1 ?_|refine zc2 ?_|refine zc2 (hnu:=ze _) ?_|refine zp1 ?_|refine zp1 (hnu:=ze _) ?_|refine za ?_)|(apply f_st;first|refine n_st ?_|refine zx1 ?_)|(apply f_ia;first|refine n_ix ?_|refine zz1 ?_|refine za ?_)|(apply ze2;first|refine zy ?_|refine za ?_)|(apply zm3;first|refine zi2 ?_|refine za ?_)|(apply f_no;first|refine zh2 ?_|refine za ?_)|(apply f_pk;first|refine za2 (v:=.c _) ?_|refine za ?_)|refine n_al ?_|refine n_bs ?_|refine za ?_)|(apply f_w;first|refine zv ?_|refine zc ?_)|refine zb fun C=>?_|refine zh ?_|refine zd ?_|refine zf ?_|refine zg ?_)
    refine zu ?_;refine ret1 rfl (zy3 (zi3 rfl (zi3 rfl (zk3 rfl rfl rfl (by first|exact zq _|exact zo _|exact bytC_clo _|(simp [cloL,clo,zq,zo,ze1,zd1,zr];done)|(simp [cloL,clo,opC,opL,zq,zo,ze1,zd1,zr];done)) zn2)))) rfl (by first|rfl|(simp [cloL,clo,zq,zo,ze1,zd1,zr];done)) rfl ⟨?_,?_⟩
    ·rfl
    ·rfl
end Go.Proofs.YtghljnfbbaklnaaGreat
