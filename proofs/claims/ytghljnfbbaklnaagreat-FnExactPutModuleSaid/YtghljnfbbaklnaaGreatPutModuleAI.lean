/- The program's reader of regular expressions: alternatives: by the abstract machine. -/
import Derived.Test.YtghljnfbbaklnaaGreatPutModuleAH
namespace Go.Proofs.YtghljnfbbaklnaaGreat
open Go.RowKit
set_option maxRecDepth 100000
theorem zp18 {s:ByteArray}{cat:PS→E×PS}{p:PS}(h:barI s p=false):∀(n:Nat) (l:List E),altLoopI s cat n l p=(l,p)
 | 0,_=>rfl
 | n+1,l=>by unfold altLoopI;rw [if_neg (by rw [h];simp)]
theorem zl21 {s:ByteArray}{a d v:Nat}{b:Bool}(hv:bAt s a=v):barI s ⟨a,d,b⟩=(!b&&(v==124)):=by unfold barI;rw [hv]
set_option maxHeartbeats 8000000 in
theorem alt_c {s:ByteArray}(hs:s.size≤1048576){cat:PS→E×PS}{p:PS}(hp:p.a≤s.size)(hd:p.d≤p.a)
 (hg:∀q,q.a≤s.size→q.d=p.d+1→p.a≤q.a→Good s q (cat q) 0 0 0)
 (hi:∀q,q.a≤s.size→q.d=p.d+1→p.a≤q.a→Ctr Tryz.prog 206 [.c (.pt 0 0)] [rdrI s q] (.ag (owE (cat q).1)) [rdrI s (cat q).2]) :
 Ctr Tryz.prog 188 [.c (.pt 0 0)] [rdrI s p] (.ag (owE (altB s cat p).1)) [rdrI s (altB s cat p).2]:=by
 obtain⟨a,d,b⟩:=p
 dsimp only at hp hd hg hi
 obtain⟨bb,hbb,hcase⟩:∃bb,(b||decide (40<d+1))=bb∧((40<d+1∧bb=true)∨(¬40<d+1∧bb=b)):=by
  by_cases h:40<d+1
  ·exact⟨true,by rw [decide_eq_true h,Bool.or_true],.inl ⟨h,rfl⟩⟩
  ·exact⟨b,by rw [decide_eq_false h,Bool.or_false],.inr ⟨h,rfl⟩⟩
 have hic:=hi ⟨a,d+1,bb⟩ hp rfl (Nat.le_refl _)
 obtain⟨g1,g2,g3,g4,g5⟩:=hg ⟨a,d+1,bb⟩ hp rfl (Nat.le_refl _)
 obtain⟨⟨e,q0⟩,hq0⟩:∃r,cat ⟨a,d+1,bb⟩=r:=⟨_,rfl⟩
 have htot0:altB s cat ⟨a,d,b⟩=(oneOr 5 (altLoopI s cat (s.size+1) [e] q0).1,⟨(altLoopI s cat (s.size+1) [e] q0).2.a,(altLoopI s cat (s.size+1) [e] q0).2.d-1,(altLoopI s cat (s.size+1) [e] q0).2.b⟩):=by
  unfold altB
  dsimp only
  rw [hbb,hq0]
 rw [htot0]
 clear htot0 hbb
 rw [hq0] at hic g1 g2 g3 g4 g5
 dsimp only at hic g1 g2 g3 g4 g5
 cases g1 with
 | mk k t l hk ht hl2 =>
 refine zo2 Tryz.func188 rfl rfl ?_
 unfold rdrI at hic ⊢
 dsimp only at hic ⊢
 repeat' (first|(apply f_wo;first|(apply f_gs;refine n_sk ?_)|(apply f_mv;first|(refine zb2 ?_ ?_<;>intro hG<;>(try cases hG))|refine zj1 (v:=.c _) ?_|refine za ?_)|(apply f_as;first|refine zi1 (v:=.c _) ?_|refine za ?_)|(apply f_fa;first|refine n_fa ?_|refine zm1 ?_)|(apply f_ld;first|refine zq1 ?_|refine zx ?_|refine zw ?_|refine zo1 ?_|refine n_ld ?_)|(apply f_bi;first|refine zb1 ?_|refine za1 ?_|refine zc1 ?_|refine zc2 ?_|refine zc2 (hnu:=ze _) ?_|refine zp1 ?_|refine zp1 (hnu:=ze _) ?_|refine za ?_)|(apply f_st;first|refine n_st ?_|refine zx1 ?_)|(apply f_ia;first|refine n_ix ?_|refine zz1 ?_|refine za ?_)|(apply ze2;first|refine zy ?_|refine zj2 ?_|refine za ?_)|(apply zx3;first|refine zr1 ?_|refine za ?_)|(apply zu1;first|refine zk ?_|refine zt1 ?_|refine za ?_)|(apply f_no;first|refine zh2 ?_|refine za ?_)|(apply f_pk;first|refine za2 (v:=.c _) ?_|refine za ?_)|(apply f_bb;first|refine zf2 ?_|refine zg2 ?_|refine za ?_)|refine n_al ?_|refine n_bs ?_|refine za ?_)|(apply f_w;first|refine zv ?_|refine zc ?_)|refine zb fun C=>?_|refine zh ?_|refine zd ?_|refine zf ?_|refine zg ?_)
 rcases hcase with ⟨h40,rfl⟩|⟨h40,rfl⟩
 all_goals first
  | refine zn (by rfl) (fun hC=>?_) fun hC=>absurd (of_decide_eq_false hC) (Decidable.not_not.2 (by omega))
  | refine zn (by rfl) (fun hC=>absurd (of_decide_eq_true hC) (by omega)) fun hC=>?_
 all_goals
  repeat' (first|(apply f_wo;first|(apply f_gs;refine n_sk ?_)|(apply f_mv;first|(refine zb2 ?_ ?_<;>intro hG<;>(try cases hG))|refine zj1 (v:=.c _) ?_|refine za ?_)|(apply f_as;first|refine zi1 (v:=.c _) ?_|refine za ?_)|(apply f_fa;first|refine n_fa ?_|refine zm1 ?_)|(apply f_ld;first|refine zq1 ?_|refine zx ?_|refine zw ?_|refine zo1 ?_|refine n_ld ?_)|(apply f_ca;first|refine za3 0 (hic) ?_)|(apply f_bi;first|refine zb1 ?_|refine za1 ?_|refine zc1 ?_|refine zc2 ?_|refine zc2 (hnu:=ze _) ?_|refine zp1 ?_|refine zp1 (hnu:=ze _) ?_|refine za ?_)|(apply f_st;first|refine n_st ?_|refine zx1 ?_)|(apply f_ia;first|refine n_ix ?_|refine zz1 ?_|refine za ?_)|(apply ze2;first|refine zy ?_|refine zj2 ?_|refine za ?_)|(apply zx3;first|refine zr1 ?_|refine za ?_)|(apply zu1;first|refine zk ?_|refine zt1 ?_|refine za ?_)|(apply f_no;first|refine zh2 ?_|refine za ?_)|(apply f_pk;first|refine za2 (v:=.c _) ?_|refine za ?_)|(apply f_bb;first|refine zf2 ?_|refine zg2 ?_|refine za ?_)|refine n_al ?_|refine n_bs ?_|refine za ?_)|(apply f_w;first|refine zv ?_|refine zc ?_)|refine zb fun C=>?_|refine zh ?_|refine zd ?_|refine zf ?_|refine zg ?_)
  refine ze3 (fun q:List E×PS=>⟨tmsF [(0,.c (.pt 0 0)),(2,.c (.pt 2 0)),(3,.c (.sl 9 q.1.length))],hpsF [(0,0,⟨0,0,0,true,rdrI s q.2⟩),(2,2,⟨208,0,0,true,[.v (.int .i64 0),.v (.string ByteArray.empty),.v (.slice none 0 0)]⟩),(9,9,⟨208,3,q.1.length,false,owL q.1⟩)],1,[0,2,9],59⟩)
   (fun N q=>GoodL s ⟨a,d+1,true⟩ q.1 q.2 1∧0<q.1.length∧s.size+1≤q.2.a+N∧altLoopI s cat N q.1 q.2=altLoopI s cat (s.size+1) [rexE k t l] q0) (s.size+1) ([rexE k t l],q0) ⟨⟨fun x hx=>by obtain rfl:=List.mem_singleton.1 hx;exact .mk k t l hk ht hl2,by dsimp only;omega,g3,g4,by dsimp only;rw [List.length_singleton];omega,by dsimp only;simp only [E.szL,List.length_singleton];omega⟩,by simp,by dsimp only;omega,rfl⟩ ?_ ?_
  ·refine (zx9 (i:=21) (j:=2100) rfl rfl rfl (pre:=[_,_]) (post:=[]) rfl).trans ?_
   (refine za6 (fun j=>if j=9 then 21 else j) _ _ rfl rfl ?_ ?_<;>(repeat' (first|exact TmOk.nil|exact RwOk.nil|refine TmOk.cons ?_ ?_|refine RwOk.cons ?_ ?_|rfl|(refine rnV_id' rfl ?_;exact byc)|(refine zv2 ?_;first|rfl|omega|(rw [zv1 (by omega) (by omega)];omega))|(refine zl1 rfl ?_;exact byc)|exact zz3 rfl rfl|(refine zw2 (by rfl) (by rfl) ?_ ?_<;>exact byc)|(refine rw_rn' rfl rfl ?_;simp;done))))
  rintro N ⟨L,q⟩ ⟨hgl,hL0,hN,htot⟩
  dsimp only at hgl hL0 hN htot ⊢
  obtain⟨k1,k2,k3,k4,k5,k6⟩:=hgl
  have hnx:=zv13 hs (p:=q)
  obtain⟨M,rfl⟩:∃M,N=M+1:=⟨N-1,by omega⟩
  obtain⟨qa,qd,qb⟩:=q
  obtain⟨v,hv⟩:∃v,bAt s qa=v:=⟨_,rfl⟩
  have hnx:Ctr Tryz.prog 207 [.c (.pt 0 0)] [rdrI s ⟨qa,qd,qb⟩] (.c (.v (.int .u8 (v:Int)))) [rdrI s ⟨qa,qd,qb⟩]:=by rw [←hv];exact hnx
  have hbar:=zl21 (d:=qd) (b:=qb) hv
  dsimp only at k2 k3 k4 k5 k6 hN
  cases hgo:barI s ⟨qa,qd,qb⟩ with
  | true =>
   rw [hgo] at hbar
   have hgo2:=hbar.symm
   simp only [Bool.and_eq_true,Bool.not_eq_true',beq_iff_eq] at hgo2
   obtain⟨rfl,rfl⟩:=hgo2
   have hlt:qa<s.size:=zb5 (by rw [hv];decide)
   have hst:altLoopI s cat (M+1) L ⟨qa,qd,false⟩=altLoopI s cat M (L++[(cat ⟨qa+1,qd,false⟩).1]) (cat ⟨qa+1,qd,false⟩).2:=by
    show (if barI s ⟨qa,qd,false⟩ then _ else _)=_
    rw [if_pos hgo];rfl
   rw [hst] at htot
   have hic2:=hi ⟨qa+1,qd,false⟩ (by dsimp only;omega) k4 (by dsimp only;omega)
   obtain⟨e1,e2,e3,e4,e5⟩:=hg ⟨qa+1,qd,false⟩ (by dsimp only;omega) k4 (by dsimp only;omega)
   clear hst hi hg hic
   obtain⟨⟨e',q2⟩,hq2⟩:∃r,cat ⟨qa+1,qd,false⟩=r:=⟨_,rfl⟩
   rw [hq2] at hic2 htot e1 e2 e3 e4 e5
   dsimp only at hic2 htot e1 e2 e3 e4 e5
   cases e1 with
   | mk k' t' l' hk' ht' hl2' =>
   unfold rdrI at hnx hic2 ⊢
   dsimp only at hnx hic2 ⊢
   repeat' (first|(apply f_wo;first|(apply f_gs;refine n_sk ?_)|(apply f_mv;first|(refine zb2 ?_ ?_<;>intro hG<;>(try cases hG))|refine zj1 (v:=.c _) ?_|refine za ?_)|(apply f_as;first|refine zi1 (v:=.c _) ?_|refine za ?_)|(apply f_fa;first|refine n_fa ?_|refine zm1 ?_)|(apply f_ld;first|refine zq1 ?_|refine zx ?_|refine zw ?_|refine zo1 ?_|refine n_ld ?_)|(apply f_ca;first|refine za3 0 (hnx) ?_|refine za3 0 (hic2) ?_)|(apply f_bi;first|refine zb1 ?_|refine za1 ?_|refine zc1 ?_|refine zc2 ?_|refine zc2 (hnu:=ze _) ?_|refine zp1 ?_|refine zp1 (hnu:=ze _) ?_|refine za ?_)|(apply f_st;first|refine n_st ?_|refine zx1 ?_)|(apply f_ia;first|refine n_ix ?_|refine zz1 ?_|refine za ?_)|(apply ze2;first|refine zy ?_|refine zj2 ?_|refine za ?_)|(apply zx3;first|refine zr1 ?_|refine za ?_)|(apply zu1;first|refine zk ?_|refine zt1 ?_|refine za ?_)|(apply f_no;first|refine zh2 ?_|refine za ?_)|(apply f_pk;first|refine za2 (v:=.c _) ?_|refine za ?_)|(apply f_bb;first|refine zf2 ?_|refine zg2 ?_|refine za ?_)|refine n_al ?_|refine n_bs ?_|refine za ?_)|(apply f_w;first|refine zv ?_|refine zc ?_)|refine zb fun C=>?_|refine zh ?_|refine zd ?_|refine zf ?_|refine zg ?_|refine zt rfl ?_|refine zp rfl ?_)
   refine⟨M,(L++[rexE k' t' l'],q2),by omega,⟨⟨fun x hx=>?_,?_,e3,?_,?_,?_⟩,?_,?_,htot⟩,?_⟩
   ·rcases List.mem_append.1 hx with hx|hx
    ·exact k1 x hx
    ·obtain rfl:=List.mem_singleton.1 hx;exact .mk k' t' l' hk' ht' hl2'
   ·dsimp only;omega
   ·dsimp only;omega
   ·dsimp only;rw [List.length_append,List.length_singleton];omega
   ·dsimp only;rw [zl9,List.length_append,List.length_singleton];omega
   ·dsimp only;rw [List.length_append,List.length_singleton];omega
   ·dsimp only;omega
   ·dsimp only
    rw [List.length_append,List.length_singleton]
    refine (zx9 (i:=43) (j:=4200) rfl rfl rfl (pre:=owL L++[.v (.int .i64 k'),.v (.string t')]) (post:=[]) (by rw [List.append_assoc];rfl)).trans ?_
    (refine za6 (fun j=>if j=9 then 43 else j) _ _ rfl rfl ?_ ?_<;>(repeat' (first|exact TmOk.nil|exact RwOk.nil|refine TmOk.cons ?_ ?_|refine RwOk.cons ?_ ?_|rfl|(refine rnV_id' rfl ?_;exact byc)|(refine zv2 ?_;first|rfl|omega|(rw [zv1 (by omega) (by omega)];omega))|(refine zl1 rfl ?_;exact byc)|exact zz3 rfl rfl|(refine zw2 (by rfl) (by rfl) ?_ ?_<;>exact byc)|(refine rw_rn' rfl rfl ?_;simp;done))))
    exact zz17 (r:=⟨208,3,L.length+1,false,(owL L++[.v (.int .i64 k'),.v (.string t')])++[.ow 208 l'.length 3 (owL l')]⟩) rfl (by rw [zw9,List.append_assoc];rfl) (by first|rfl|(simp [cloV,cloL,clo,zd1,zo,ze1,zq,zr];done))
  | false =>
   rw [zp18 hgo] at htot
   rw [←htot]
   rw [hgo] at hbar
   clear htot hi hg hic
   have hbar':qb=true∨v≠124:=by
    cases qb with
    | true=>exact .inl rfl
    | false=>right;simp at hbar;exact hbar
   have hqd:((qd:Nat):Int)-1=((qd-1:Nat):Int):=by omega
   unfold rdrI at hnx ⊢
   dsimp only at hnx ⊢
   match L,k1,hL0 with
   | [],_,h0=>exact absurd h0 (by simp)
   | [x],hf,_ =>
    have hx:=hf x (List.mem_singleton.2 rfl)
    cases hx with
    | mk k' t' l' hk' ht' hl2' =>
    cases qb<;>repeat' (first|(apply f_wo;first|(apply f_gs;refine n_sk ?_)|(apply f_mv;first|(refine zb2 ?_ ?_<;>intro hG<;>(try cases hG))|refine zj1 (v:=.c _) ?_|refine za ?_)|(apply f_as;first|refine zi1 (v:=.c _) ?_|refine za ?_)|(apply f_fa;first|refine n_fa ?_|refine zm1 ?_)|(apply f_ld;first|refine zq1 ?_|refine zx ?_|refine zw ?_|refine zo1 ?_|refine n_ld ?_)|(apply f_ca;first|refine za3 0 (hnx) ?_)|(apply f_bi;first|refine zb1 ?_|refine za1 ?_|refine zc1 ?_|refine zc2 ?_|refine zc2 (hnu:=ze _) ?_|refine zp1 ?_|refine zp1 (hnu:=ze _) ?_|refine za ?_)|(apply f_st;first|refine n_st ?_|refine zx1 ?_)|(apply f_ia;first|refine n_ix ?_|refine zz1 ?_|refine za ?_)|(apply ze2;first|refine zy ?_|refine zj2 ?_|refine za ?_)|(apply zx3;first|refine zr1 ?_|refine za ?_)|(apply zu1;first|refine zk ?_|refine zt1 ?_|refine za ?_)|(apply f_no;first|refine zh2 ?_|refine za ?_)|(apply f_pk;first|refine za2 (v:=.c _) ?_|refine za ?_)|(apply f_bb;first|refine zf2 ?_|refine zg2 ?_|refine za ?_)|refine n_al ?_|refine n_bs ?_|refine za ?_)|(apply f_w;first|refine zv ?_|refine zc ?_)|refine zb fun C=>?_|refine zh ?_|refine zd ?_|refine zf ?_|refine zg ?_)
    all_goals first
     | refine zp rfl ?_
     | refine zn (by rfl) (fun hC=>by exfalso;clear hnx;simp only [beq_iff_eq,Bool.false_eq_true,false_or] at *;omega) fun hC=>?_
    all_goals
     refine zs4 (g_rev 800 (i:=9) rfl rfl (pre:=[.v (.int .i64 k'),.v (.string t')]) (post:=[]) rfl) ?_
     repeat' (first|(apply f_wo;first|(apply f_gs;refine n_sk ?_)|(apply f_mv;first|(refine zb2 ?_ ?_<;>intro hG<;>(try cases hG))|refine zj1 (v:=.c _) ?_|refine za ?_)|(apply f_as;first|refine zi1 (v:=.c _) ?_|refine za ?_)|(apply f_fa;first|refine n_fa ?_|refine zm1 ?_)|(apply f_ld;first|refine zq1 ?_|refine zx ?_|refine zw ?_|refine zo1 ?_|refine n_ld ?_)|(apply f_bi;first|refine zb1 ?_|refine za1 ?_|refine zc1 ?_|refine zc2 ?_|refine zc2 (hnu:=ze _) ?_|refine zp1 ?_|refine zp1 (hnu:=ze _) ?_|refine za ?_)|(apply f_st;first|refine n_st ?_|refine zx1 ?_)|(apply f_ia;first|refine n_ix ?_|refine zz1 ?_|refine za ?_)|(apply ze2;first|refine zy ?_|refine zj2 ?_|refine za ?_)|(apply zx3;first|refine zr1 ?_|refine za ?_)|(apply zu1;first|refine zk ?_|refine zt1 ?_|refine za ?_)|(apply f_no;first|refine zh2 ?_|refine za ?_)|(apply f_pk;first|refine za2 (v:=.c _) ?_|refine za ?_)|(apply f_bb;first|refine zf2 ?_|refine zg2 ?_|refine za ?_)|refine n_al ?_|refine n_bs ?_|refine za ?_)|(apply f_w;first|refine zv ?_|refine zc ?_)|refine zb fun C=>?_|refine zh ?_|refine zd ?_|refine zf ?_|refine zg ?_|refine zt rfl ?_|refine zp rfl ?_)
     refine zu ?_;refine ret1 rfl (zy3 (zi3 rfl (zi3 rfl (zk3 rfl rfl rfl (by first|exact zq _|exact zo _|exact bytC_clo _|(simp [cloL,clo,zq,zo,ze1,zd1,zr];done)|(simp [cloL,clo,opC,opL,zq,zo,ze1,zd1,zr];done)) zn2)))) rfl (by first|rfl|(simp [cloL,clo,zq,zo,ze1,zd1,zr];done)) rfl ⟨?_,?_⟩
     ·rfl
     ·rw [←hqd];rfl
   | x :: y :: r,hf,_ =>
    have hlen:(x :: y :: r).length=r.length+2:=rfl
    cases qb<;>repeat' (first|(apply f_wo;first|(apply f_gs;refine n_sk ?_)|(apply f_mv;first|(refine zb2 ?_ ?_<;>intro hG<;>(try cases hG))|refine zj1 (v:=.c _) ?_|refine za ?_)|(apply f_as;first|refine zi1 (v:=.c _) ?_|refine za ?_)|(apply f_fa;first|refine n_fa ?_|refine zm1 ?_)|(apply f_ld;first|refine zq1 ?_|refine zx ?_|refine zw ?_|refine zo1 ?_|refine n_ld ?_)|(apply f_ca;first|refine za3 0 (hnx) ?_)|(apply f_bi;first|refine zb1 ?_|refine za1 ?_|refine zc1 ?_|refine zc2 ?_|refine zc2 (hnu:=ze _) ?_|refine zp1 ?_|refine zp1 (hnu:=ze _) ?_|refine za ?_)|(apply f_st;first|refine n_st ?_|refine zx1 ?_)|(apply f_ia;first|refine n_ix ?_|refine zz1 ?_|refine za ?_)|(apply ze2;first|refine zy ?_|refine zj2 ?_|refine za ?_)|(apply zx3;first|refine zr1 ?_|refine za ?_)|(apply zu1;first|refine zk ?_|refine zt1 ?_|refine za ?_)|(apply f_no;first|refine zh2 ?_|refine za ?_)|(apply f_pk;first|refine za2 (v:=.c _) ?_|refine za ?_)|(apply f_bb;first|refine zf2 ?_|refine zg2 ?_|refine za ?_)|refine n_al ?_|refine n_bs ?_|refine za ?_)|(apply f_w;first|refine zv ?_|refine zc ?_)|refine zb fun C=>?_|refine zh ?_|refine zd ?_|refine zf ?_|refine zg ?_)
    all_goals first
     | refine zp rfl ?_
     | refine zn (by rfl) (fun hC=>by exfalso;clear hnx;simp only [beq_iff_eq,Bool.false_eq_true,false_or] at *;omega) fun hC=>?_
    all_goals
     repeat' (first|(apply f_wo;first|(apply f_gs;refine n_sk ?_)|(apply f_mv;first|(refine zb2 ?_ ?_<;>intro hG<;>(try cases hG))|refine zj1 (v:=.c _) ?_|refine za ?_)|(apply f_as;first|refine zi1 (v:=.c _) ?_|refine za ?_)|(apply f_fa;first|refine n_fa ?_|refine zm1 ?_)|(apply f_ld;first|refine zq1 ?_|refine zx ?_|refine zw ?_|refine zo1 ?_|refine n_ld ?_)|(apply f_bi;first|refine zb1 ?_|refine za1 ?_|refine zc1 ?_|refine zc2 ?_|refine zc2 (hnu:=ze _) ?_|refine zp1 ?_|refine zp1 (hnu:=ze _) ?_|refine za ?_)|(apply f_st;first|refine n_st ?_|refine zx1 ?_)|(apply f_ia;first|refine n_ix ?_|refine zz1 ?_|refine za ?_)|(apply ze2;first|refine zy ?_|refine zj2 ?_|refine za ?_)|(apply zx3;first|refine zr1 ?_|refine za ?_)|(apply zu1;first|refine zk ?_|refine zt1 ?_|refine za ?_)|(apply f_no;first|refine zh2 ?_|refine za ?_)|(apply f_pk;first|refine za2 (v:=.c _) ?_|refine za ?_)|(apply f_bb;first|refine zf2 ?_|refine zg2 ?_|refine za ?_)|refine n_al ?_|refine n_bs ?_|refine za ?_)|(apply f_w;first|refine zv ?_|refine zc ?_)|refine zb fun C=>?_|refine zh ?_|refine zd ?_|refine zf ?_|refine zg ?_)
     refine zn (by rfl) (fun hC=>by exfalso;simp at hC;omega) fun hC=>?_
     repeat' (first|(apply f_wo;first|(apply f_gs;refine n_sk ?_)|(apply f_mv;first|(refine zb2 ?_ ?_<;>intro hG<;>(try cases hG))|refine zj1 (v:=.c _) ?_|refine za ?_)|(apply f_as;first|refine zi1 (v:=.c _) ?_|refine za ?_)|(apply f_fa;first|refine n_fa ?_|refine zm1 ?_)|(apply f_ld;first|refine zq1 ?_|refine zx ?_|refine zw ?_|refine zo1 ?_|refine n_ld ?_)|(apply f_bi;first|refine zb1 ?_|refine za1 ?_|refine zc1 ?_|refine zc2 ?_|refine zc2 (hnu:=ze _) ?_|refine zp1 ?_|refine zp1 (hnu:=ze _) ?_|refine za ?_)|(apply f_st;first|refine n_st ?_|refine zx1 ?_)|(apply f_ia;first|refine n_ix ?_|refine zz1 ?_|refine za ?_)|(apply ze2;first|refine zy ?_|refine zj2 ?_|refine za ?_)|(apply zx3;first|refine zr1 ?_|refine za ?_)|(apply zu1;first|refine zk ?_|refine zt1 ?_|refine za ?_)|(apply f_no;first|refine zh2 ?_|refine za ?_)|(apply f_pk;first|refine za2 (v:=.c _) ?_|refine za ?_)|(apply f_bb;first|refine zf2 ?_|refine zg2 ?_|refine za ?_)|refine n_al ?_|refine n_bs ?_|refine za ?_)|(apply f_w;first|refine zv ?_|refine zc ?_)|refine zb fun C=>?_|refine zh ?_|refine zd ?_|refine zf ?_|refine zg ?_)
     refine zu ?_;refine ret1 rfl (zy3 (zi3 rfl (zi3 rfl (zk3 rfl rfl rfl (by first|exact zq _|exact zo _|exact bytC_clo _|(simp [cloL,clo,zq,zo,ze1,zd1,zr];done)|(simp [cloL,clo,opC,opL,zq,zo,ze1,zd1,zr];done)) zn2)))) rfl (by first|rfl|(simp [cloL,clo,zq,zo,ze1,zd1,zr];done)) rfl ⟨?_,?_⟩
     ·rfl
     ·rw [←hqd];rfl
theorem altI_c {s:ByteArray}(hs:s.size≤1048576)(f:Nat):∀p:PS,p.a≤s.size→p.d≤p.a→s.size+1≤p.a+f→Ctr Tryz.prog 188 [.c (.pt 0 0)] [rdrI s p] (.ag (owE (altI s f p).1)) [rdrI s (altI s f p).2]:=by
 induction f with
 | zero=>intro p h1 h2 h3;omega
 | succ f ih =>
  intro p h1 h2 h3
  have hat:∀r:PS,r.a<s.size→p.a≤r.a→Good s r (atomI s (altI s f) r) 1 1 0:=fun r hr hra=>zt13 hs hr (zh12 hs f _ (by show r.a+1≤_;omega) (by show s.size+1≤r.a+1+f;omega))
  refine alt_c hs h1 h2 (fun q hq hqd hqa=>zs16 hq fun r hr hrd hra=>zf10 (hat r hr (by omega))) fun q hq hqd hqa=>?_
  refine cat_c hs hq (by omega) (fun r hr hrd hra=>zf10 (hat r hr (by omega))) fun r hr hrd hra=>?_
  refine item_c hs (hat r hr (by omega)) ?_
  exact atom_c hs hr (by omega) (zh12 hs f _ (by show r.a+1≤_;omega) (by show s.size+1≤r.a+1+f;omega)) (ih _ (by show r.a+1≤_;omega) (by show r.d≤r.a+1;omega) (by show s.size+1≤r.a+1+f;omega))
theorem zi10 {s:ByteArray}(hs:s.size≤1048576):Fine (readI s).1∧(readI s).2.a≤s.size∧(readI s).1.sz≤2*s.size+1:=by
 obtain⟨g1,g2,g3,g4,g5⟩:=zh12 hs (s.size+8) p00 (Nat.zero_le _) (by show s.size+1≤0+(s.size+8);omega)
 have e0:p00.a=0:=rfl
 exact⟨g1,g3,by unfold readI;omega⟩
set_option maxHeartbeats 4000000 in
theorem zf13 {s:ByteArray}(hs:s.size≤1048576):Ctr Tryz.prog 165 [.c (.v (.string s))] [] (.tu [.ag (owE (rexR s)),.c (.v (.bool (parI s)))]) []:=by
 have halt:=altI_c hs (s.size+8) p00 (Nat.zero_le _) (Nat.le_refl _) (by show s.size+1≤0+(s.size+8);omega)
 obtain⟨hf,hle,hsz⟩:=zi10 hs
 unfold rexR parI
 unfold readI at hf hle hsz ⊢
 obtain⟨⟨e,q⟩,hq⟩:∃r,altI s (s.size+8) p00=r:=⟨_,rfl⟩
 rw [hq] at halt hf hle hsz ⊢
 dsimp only at halt hf hle hsz ⊢
 have hty:=hf.ty.1
 have c1:=zj12 hty (by omega)
 have c2:=za15 hty (by omega)
 cases hf with
 | mk k t l hk ht hl2 =>
 obtain⟨qa,qd,qb⟩:=q
 unfold rdrI at halt
 dsimp only [p00] at halt hle ⊢
 refine zo2 Tryz.func165 rfl rfl ?_
 repeat' (first|(apply f_wo;first|(apply f_gs;refine n_sk ?_)|(apply f_mv;first|(refine zb2 ?_ ?_<;>intro hG<;>(try cases hG))|refine zj1 (v:=.c _) ?_|refine za ?_)|(apply f_as;first|refine zi1 (v:=.c _) ?_|refine za ?_)|(apply f_fa;first|refine n_fa ?_|refine zm1 ?_)|(apply f_ld;first|refine zq1 ?_|refine zx ?_|refine zw ?_|refine zo1 ?_|refine n_ld ?_)|(apply f_ca;first|refine za3 8 (halt) ?_|refine zz2 c1 ?_|refine zx2 c1 ?_|refine zz2 c2 ?_|refine zx2 c2 ?_)|(apply f_bi;first|refine zb1 ?_|refine za1 ?_|refine zc1 ?_|refine za ?_)|(apply f_st;first|refine n_st ?_|refine zx1 ?_)|(apply zm3;first|refine zy2 ?_|refine zx5 ?_|refine za ?_)|(apply f_no;first|refine zh2 ?_|refine za ?_)|(apply f_pk;first|refine za2 (v:=.c _) ?_|refine za ?_)|refine n_al ?_|refine n_bo ?_|refine za ?_)|(apply f_w;first|refine zv ?_|refine zc ?_)|refine zb fun C=>?_|refine zh ?_|refine zd ?_|refine zf ?_|refine zg ?_)
 ·repeat' (first|(apply f_wo;first|(apply f_gs;refine n_sk ?_)|(apply f_mv;first|(refine zb2 ?_ ?_<;>intro hG<;>(try cases hG))|refine zj1 (v:=.c _) ?_|refine za ?_)|(apply f_as;first|refine zi1 (v:=.c _) ?_|refine za ?_)|(apply f_fa;first|refine n_fa ?_|refine zm1 ?_)|(apply f_ld;first|refine zq1 ?_|refine zx ?_|refine zw ?_|refine zo1 ?_|refine n_ld ?_)|(apply f_bi;first|refine zb1 ?_|refine za1 ?_|refine zc1 ?_|refine za ?_)|(apply f_st;first|refine n_st ?_|refine zx1 ?_)|(apply zm3;first|refine zy2 ?_|refine zx5 ?_|refine za ?_)|(apply f_no;first|refine zh2 ?_|refine za ?_)|(apply f_pk;first|refine za2 (v:=.c _) ?_|refine za ?_)|refine n_al ?_|refine n_bo ?_|refine za ?_)|(apply f_w;first|refine zv ?_|refine zc ?_)|refine zb fun C=>?_|refine zh ?_|refine zd ?_|refine zf ?_|refine zg ?_|refine zt rfl ?_|refine zp rfl ?_)
  refine zs4 (zs6 900 (i:=2) 208 3 rfl rfl (pre:=[_,_]) (post:=[]) rfl) ?_
  refine zu ?_;refine ret0 rfl (zg8 (zl4 (zy3 (zi3 rfl (zi3 rfl (zk3 rfl rfl rfl (by first|exact zq _|exact zo _|exact bytC_clo _|(simp [cloL,clo,zq,zo,ze1,zd1,zr];done)|(simp [cloL,clo,opC,opL,zq,zo,ze1,zd1,zr];done)) zn2)))) (zl4 zf3 zh6))) ⟨?_,rfl⟩
  have hP:(!true&&(qa==s.size)&&rexOkI (rexE k t l)&&(rexT (rexE k t l)).toList==s.toList)=false:=by clear halt c1 c2;first|(simp_all;done)|(simp_all;(try intros);omega)
  rw [hP];rfl
 ·repeat' (first|(apply f_wo;first|(apply f_gs;refine n_sk ?_)|(apply f_mv;first|(refine zb2 ?_ ?_<;>intro hG<;>(try cases hG))|refine zj1 (v:=.c _) ?_|refine za ?_)|(apply f_as;first|refine zi1 (v:=.c _) ?_|refine za ?_)|(apply f_fa;first|refine n_fa ?_|refine zm1 ?_)|(apply f_ld;first|refine zq1 ?_|refine zx ?_|refine zw ?_|refine zo1 ?_|refine n_ld ?_)|(apply f_bi;first|refine zb1 ?_|refine za1 ?_|refine zc1 ?_|refine za ?_)|(apply f_st;first|refine n_st ?_|refine zx1 ?_)|(apply zm3;first|refine zy2 ?_|refine zx5 ?_|refine za ?_)|(apply f_no;first|refine zh2 ?_|refine za ?_)|(apply f_pk;first|refine za2 (v:=.c _) ?_|refine za ?_)|refine n_al ?_|refine n_bo ?_|refine za ?_)|(apply f_w;first|refine zv ?_|refine zc ?_)|refine zb fun C=>?_|refine zh ?_|refine zd ?_|refine zf ?_|refine zg ?_|refine zt rfl ?_|refine zp rfl ?_)
  refine zs4 (zs6 900 (i:=2) 208 3 rfl rfl (pre:=[_,_]) (post:=[]) rfl) ?_
  refine zu ?_;refine ret0 rfl (zg8 (zl4 (zy3 (zi3 rfl (zi3 rfl (zk3 rfl rfl rfl (by first|exact zq _|exact zo _|exact bytC_clo _|(simp [cloL,clo,zq,zo,ze1,zd1,zr];done)|(simp [cloL,clo,opC,opL,zq,zo,ze1,zd1,zr];done)) zn2)))) (zl4 zf3 zh6))) ⟨?_,rfl⟩
  have hP:(!false&&(qa==s.size)&&rexOkI (rexE k t l)&&(rexT (rexE k t l)).toList==s.toList)=false:=by clear halt c1 c2;first|(simp_all;done)|(simp_all;(try intros);omega)
  rw [hP];rfl
 ·repeat' (first|(apply f_wo;first|(apply f_gs;refine n_sk ?_)|(apply f_mv;first|(refine zb2 ?_ ?_<;>intro hG<;>(try cases hG))|refine zj1 (v:=.c _) ?_|refine za ?_)|(apply f_as;first|refine zi1 (v:=.c _) ?_|refine za ?_)|(apply f_fa;first|refine n_fa ?_|refine zm1 ?_)|(apply f_ld;first|refine zq1 ?_|refine zx ?_|refine zw ?_|refine zo1 ?_|refine n_ld ?_)|(apply f_bi;first|refine zb1 ?_|refine za1 ?_|refine zc1 ?_|refine za ?_)|(apply f_st;first|refine n_st ?_|refine zx1 ?_)|(apply zm3;first|refine zy2 ?_|refine zx5 ?_|refine za ?_)|(apply f_no;first|refine zh2 ?_|refine za ?_)|(apply f_pk;first|refine za2 (v:=.c _) ?_|refine za ?_)|refine n_al ?_|refine n_bo ?_|refine za ?_)|(apply f_w;first|refine zv ?_|refine zc ?_)|refine zb fun C=>?_|refine zh ?_|refine zd ?_|refine zf ?_|refine zg ?_|refine zt rfl ?_|refine zp rfl ?_)
  refine zs4 (zs6 900 (i:=2) 208 3 rfl rfl (pre:=[_,_]) (post:=[]) rfl) ?_
  refine zu ?_;refine ret0 rfl (zg8 (zl4 (zy3 (zi3 rfl (zi3 rfl (zk3 rfl rfl rfl (by first|exact zq _|exact zo _|exact bytC_clo _|(simp [cloL,clo,zq,zo,ze1,zd1,zr];done)|(simp [cloL,clo,opC,opL,zq,zo,ze1,zd1,zr];done)) zn2)))) (zl4 zf3 zh6))) ⟨?_,rfl⟩
  have hP:(!false&&(qa==s.size)&&rexOkI (rexE k t l)&&(rexT (rexE k t l)).toList==s.toList)=false:=by clear halt c1 c2;first|(simp_all;done)|(simp_all;(try intros);omega)
  rw [hP];rfl
 ·refine zn (by rfl) (fun hC=>?_) fun hC=>?_
  ·repeat' (first|(apply f_wo;first|(apply f_gs;refine n_sk ?_)|(apply f_mv;first|(refine zb2 ?_ ?_<;>intro hG<;>(try cases hG))|refine zj1 (v:=.c _) ?_|refine za ?_)|(apply f_as;first|refine zi1 (v:=.c _) ?_|refine za ?_)|(apply f_fa;first|refine n_fa ?_|refine zm1 ?_)|(apply f_ld;first|refine zq1 ?_|refine zx ?_|refine zw ?_|refine zo1 ?_|refine n_ld ?_)|(apply f_bi;first|refine zb1 ?_|refine za1 ?_|refine zc1 ?_|refine za ?_)|(apply f_st;first|refine n_st ?_|refine zx1 ?_)|(apply zm3;first|refine zy2 ?_|refine zx5 ?_|refine za ?_)|(apply f_no;first|refine zh2 ?_|refine za ?_)|(apply f_pk;first|refine za2 (v:=.c _) ?_|refine za ?_)|refine n_al ?_|refine n_bo ?_|refine za ?_)|(apply f_w;first|refine zv ?_|refine zc ?_)|refine zb fun C=>?_|refine zh ?_|refine zd ?_|refine zf ?_|refine zg ?_|refine zt rfl ?_|refine zp rfl ?_)
   refine zs4 (zs6 900 (i:=2) 208 3 rfl rfl (pre:=[_,_]) (post:=[]) rfl) ?_
   refine zu ?_;refine ret0 rfl (zg8 (zl4 (zy3 (zi3 rfl (zi3 rfl (zk3 rfl rfl rfl (by first|exact zq _|exact zo _|exact bytC_clo _|(simp [cloL,clo,zq,zo,ze1,zd1,zr];done)|(simp [cloL,clo,opC,opL,zq,zo,ze1,zd1,zr];done)) zn2)))) (zl4 zf3 zh6))) ⟨?_,rfl⟩
   have hP:(!false&&(qa==s.size)&&rexOkI (rexE k t l)&&(rexT (rexE k t l)).toList==s.toList)=false:=by clear halt c1 c2;first|(simp_all;done)|(simp_all;(try intros);omega)
   rw [hP];rfl
  ·repeat' (first|(apply f_wo;first|(apply f_gs;refine n_sk ?_)|(apply f_mv;first|(refine zb2 ?_ ?_<;>intro hG<;>(try cases hG))|refine zj1 (v:=.c _) ?_|refine za ?_)|(apply f_as;first|refine zi1 (v:=.c _) ?_|refine za ?_)|(apply f_fa;first|refine n_fa ?_|refine zm1 ?_)|(apply f_ld;first|refine zq1 ?_|refine zx ?_|refine zw ?_|refine zo1 ?_|refine n_ld ?_)|(apply f_bi;first|refine zb1 ?_|refine za1 ?_|refine zc1 ?_|refine za ?_)|(apply f_st;first|refine n_st ?_|refine zx1 ?_)|(apply zm3;first|refine zy2 ?_|refine zx5 ?_|refine za ?_)|(apply f_no;first|refine zh2 ?_|refine za ?_)|(apply f_pk;first|refine za2 (v:=.c _) ?_|refine za ?_)|refine n_al ?_|refine n_bo ?_|refine za ?_)|(apply f_w;first|refine zv ?_|refine zc ?_)|refine zb fun C=>?_|refine zh ?_|refine zd ?_|refine zf ?_|refine zg ?_|refine zt rfl ?_|refine zp rfl ?_)
   refine zu ?_;refine ret0 rfl (zg8 (zl4 (zy3 (zi3 rfl (zi3 rfl (zk3 rfl rfl rfl (by first|exact zq _|exact zo _|exact bytC_clo _|(simp [cloL,clo,zq,zo,ze1,zd1,zr];done)|(simp [cloL,clo,opC,opL,zq,zo,ze1,zd1,zr];done)) zn2)))) (zl4 zf3 zh6))) ⟨?_,rfl⟩
   have hP:(!false&&(qa==s.size)&&rexOkI (rexE k t l)&&(rexT (rexE k t l)).toList==s.toList)=true:=by clear halt c1 c2;first|(simp_all;done)|(simp_all;(try intros);omega)
   rw [hP];rfl
end Go.Proofs.YtghljnfbbaklnaaGreat
