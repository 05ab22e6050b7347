/- GetModule: rows of constants and of texts, read by the reference. -/
import Derived.Test.YtghljnfbbaklnaaGreatGetModuleAG
-- BIT
-- MVP
namespace Go.Proofs.YtghljnfbbaklnaaGreat
open Go.RowKit
set_option maxRecDepth 100000
theorem zj5 {l:List E}{e:E}:owL (l++[e])=owL l++owE e:=by rw [zc7];show owL l++(owE e++[])=_;rw [List.append_nil]
theorem zk5 {f:Int→E×RS}{n:Nat}{a:Int}:rdL f (n+1) (a,false)=((f a).1 :: (rdL f n (f a).2).1,(rdL f n (f a).2).2):=by
 conv=>lhs;unfold rdL
 rfl
theorem zx6 {f:Int→E×RS}{n:Nat}{s:RS}(h:n=0∨s.2=true):rdL f n s=([],s):=by
 rcases h with rfl|h
 ·rfl
 ·obtain⟨a,b⟩:=s
  obtain rfl:b=true:=h
  exact zc18 n
set_option maxHeartbeats 4000000 in
theorem zq9 {bs:List UInt8}{s:RS}(h0:0≤s.1)(h1:s.1≤bs.length)(hn:bs.length≤1073741824):Ctr Tryz.prog 82 [.c (.pt 0 0)] [rdrM bs s] (.c (.ow 75 (rdN true 400 (fV bs) bs s).1.length 3 (owL (rdN true 400 (fV bs) bs s).1))) [rdrM bs (rdN true 400 (fV bs) bs s).2]:=by
 have cN:=zp4 h0 h1 hn
 obtain⟨⟨g0,g1⟩,g2,g3,-⟩:=zl3 (bs:=bs) h0 h1
 unfold rdN capS
 obtain⟨⟨c,⟨a,b⟩⟩,hr⟩:∃r,numR bs s=r:=⟨_,rfl⟩
 rw [hr] at cN g0 g1 g2 g3 ⊢
 dsimp only at cN g0 g1 g2 g3 ⊢
 obtain⟨n,rfl⟩:∃n:Nat,c=(n:Int):=⟨c.toNat,by omega⟩
 rw [Int.toNat_natCast,Bool.true_and]
 obtain⟨⟨L,S⟩,hL⟩:∃r,rdL (fV bs) n (a,b||decide (400<(n:Int)))=r:=⟨_,rfl⟩
 rw [hL]
 dsimp only
 refine zi1 Tryz.func82 rfl rfl ?_
 unfold rdrM at cN ⊢
 dsimp only at cN ⊢
 have hdone:∀(m:Nat) (X:List E) (q:RS),m=0∨q.2=true→X++(rdL (fV bs) m q).1=L∧(rdL (fV bs) m q).2=S→X=L∧q=S:=fun m X q hm ⟨e1,e2⟩=>by
  rw [zx6 hm] at e1 e2
  exact⟨by rw [←e1];simp,e2⟩
 obtain⟨B,hB⟩:∃B,(b||decide (400<(n:Int)))=B:=⟨_,rfl⟩
 rw [hB] at hL
 cases b<;>repeat' (first|(apply f_wo;first|(apply f_gs;refine n_sk ?_)|(apply f_mv;first|(refine zs1 ?_ ?_<;>intro hG<;>(try cases hG))|refine zt (v:=.c _) ?_)|(apply f_as;refine zu (v:=.c _) ?_)|(apply f_fa;refine n_fa ?_)|(apply f_ld;refine zn1 ?_)|(apply f_ca;refine zy1 0 (cN) ?_ (hl:=zq4 (by rfl) zj2))|(apply f_st;refine n_st ?_)|(apply zi4;refine zh2 ?_)|(apply f_pk;refine zr1 (v:=.c _) ?_)|refine n_bs ?_|refine zh1 ?_)|(apply f_w;first|refine zo ?_|refine zc ?_)|refine za fun C=>?_|refine zd ?_|refine zg ?_)
 all_goals
  simp only [Bool.false_or,Bool.true_or] at hB
  subst hB
  clear cN hr g0
 all_goals
  refine zt1 (fun d:Nat×List E×RS=>⟨tmsF [(0,.c (.pt 0 0)),(3,.c (.sl 9 d.2.1.length)),(4,.c (.v (.int .i64 (n:Int)))),(5,.c (.v (.int .i64 (d.1:Int))))],hpsF [(0,0,⟨0,0,0,true,[.ro bs.length 1 (acL (bI bs)),.v (.int .i64 d.2.2.1),.v (.bool d.2.2.2)]⟩),(9,9,⟨75,3,d.2.1.length,false,owL d.2.1⟩)],1,[0,9],62⟩)
   (fun N d=>(d.2.1++(rdL (fV bs) N d.2.2).1=L∧(rdL (fV bs) N d.2.2).2=S)∧(d.1+N=n∧d.2.1.length≤d.1)∧0≤d.2.2.1∧d.2.2.1≤bs.length) n (0,[],(a,_)) ⟨⟨by rw [hL];rfl,by rw [hL]⟩,⟨by dsimp only;omega,Nat.le_refl _⟩,g2,g3⟩ ?_ ?_
 all_goals first
  | (show Gh _ _
     (refine zk1 _ _ rfl rfl ?_ ?_<;>(repeat' (first|exact TmOk.nil|exact RwOk.nil|refine TmOk.cons ?_ ?_|refine RwOk.cons ?_ ?_|rfl|exact zv rfl (by assumption)|exact zv rfl (zw1 _)|(refine rnV_id' rfl ?_;exact byc)|(refine zo1 ?_;first|rfl|omega|(rw [za1 (by omega) (by omega)];omega))|(refine zv rfl ?_;exact byc)|exact zg2 rfl rfl|(refine zp1 (by rfl) (by rfl) ?_ ?_<;>exact byc)|(refine rw_rn' rfl rfl ?_;simp;done)))))
  | skip
 all_goals
  rintro N ⟨i,X,q,qb⟩ ⟨⟨e1,e2⟩,⟨hi,hX⟩,q0,q1⟩
  dsimp only at e1 e2 hi hX q0 q1 ⊢
  cases N with
  | zero =>
   obtain⟨rfl,rfl⟩:=hdone 0 X (q,qb) (.inl rfl) ⟨e1,e2⟩
   clear hdone e1 e2 hL
   repeat' (first|(apply f_wo;first|(apply f_gs;refine n_sk ?_)|(apply f_mv;first|(refine zs1 ?_ ?_<;>intro hG<;>(try cases hG))|refine zt (v:=.c _) ?_)|(apply f_as;refine zu (v:=.c _) ?_)|(apply f_fa;refine n_fa ?_)|(apply f_ld;refine zn1 ?_)|(apply zw2;refine zf1 ?_)|(apply f_no;refine za2 ?_)|(apply f_pk;refine zr1 (v:=.c _) ?_)|refine zh1 ?_)|(apply f_w;first|refine zo ?_|refine zc ?_)|refine za fun C=>?_|refine zd ?_|refine zw ?_|refine zr rfl ?_)
   all_goals first
    | (exfalso;simp only [decide_eq_true_iff] at hG;omega)
    | skip
   refine zi ?_
   refine ret1 rfl (zo20 (zl1 (rw:=⟨75,3,X.length,false,owL X⟩) rfl rfl rfl (zf _) ze1)) rfl zj2 rfl ⟨rfl,rfl⟩
  | succ N =>
   cases qb with
   | true =>
    obtain⟨rfl,rfl⟩:=hdone (N+1) X (q,true) (.inr rfl) ⟨e1,e2⟩
    clear hdone e1 e2 hL
    repeat' (first|(apply f_wo;first|(apply f_gs;refine n_sk ?_)|(apply f_mv;first|(refine zs1 ?_ ?_<;>intro hG<;>(try cases hG))|refine zt (v:=.c _) ?_)|(apply f_as;refine zu (v:=.c _) ?_)|(apply f_fa;refine n_fa ?_)|(apply f_ld;refine zn1 ?_)|(apply zw2;refine zf1 ?_)|(apply f_no;refine za2 ?_)|(apply f_pk;refine zr1 (v:=.c _) ?_)|refine zh1 ?_)|(apply f_w;first|refine zo ?_|refine zc ?_)|refine za fun C=>?_|refine zd ?_|refine zw ?_|refine zr rfl ?_)
    all_goals first
     | (exfalso;simp only [decide_eq_false_iff_not] at hG;omega)
     | skip
    refine zi ?_
    refine ret1 rfl (zo20 (zl1 (rw:=⟨75,3,X.length,false,owL X⟩) rfl rfl rfl (zf _) ze1)) rfl zj2 rfl ⟨rfl,rfl⟩
   | false =>
    rw [zk5] at e1 e2
    dsimp only at e1 e2
    obtain⟨⟨p0,p1⟩,-,-⟩:=zd18 hn q q0 q1
    have c2:=zp16 (bs:=bs) q (by omega) hn
    obtain⟨⟨gk,gn,gs,gp,go⟩,hg⟩:∃g,getV bs q=g:=⟨_,rfl⟩
    have hfV:fV bs q=(E.agg [.int .i64 gk,.int .i64 gn,.str gs],(gp,!go)):=by unfold fV;rw [hg]
    rw [hfV] at e1 e2 p0 p1
    rw [hg] at c2
    unfold gvR at c2
    dsimp only at c2 e1 e2 p0 p1
    clear hdone hL hg hfV
    repeat' (first|(apply f_wo;first|(apply f_gs;refine n_sk ?_)|(apply f_mv;first|(refine zs1 ?_ ?_<;>intro hG<;>(try cases hG))|refine zt (v:=.c _) ?_)|(apply f_as;refine zu (v:=.c _) ?_)|(apply f_fa;refine n_fa ?_)|(apply f_ld;first|refine zn1 ?_|refine zq2 ?_)|(apply f_bi;refine zi6 ?_)|(apply f_st;refine n_st ?_)|(apply zw2;refine zf1 ?_)|(apply zb2;refine zx ?_)|(apply f_no;refine za2 ?_)|(apply f_pk;refine zr1 (v:=.c _) ?_)|refine n_bs ?_|refine zh1 ?_)|(apply f_w;first|refine zo ?_|refine zc ?_)|(apply d_wo;first|(apply d_mv;first|refine zx3 (.c _) ?_|refine zx3 (.tu _) ?_)|(apply d_as;refine zp9 (.c (.v _)) ?_)|(apply d_fa;refine o_fa ?_)|(apply d_ld;refine zn3 ?_)|(apply d_ca;refine zu5 c2 ?_)|(apply d_st;refine o_st ?_)|refine o_al ?_|refine zf2 ?_)|(apply d_w;first|refine zo ?_|refine zc ?_)|refine za fun C=>?_|refine zp (by kernel_rfl) (by kernel_rfl) fun C=>?_|refine zd ?_|refine zg ?_|refine zk ?_|refine zw ?_|refine zq rfl ?_|refine zr rfl ?_)
    all_goals first
     | (exfalso;simp only [decide_eq_false_iff_not] at hG;omega)
     | skip
    refine⟨N,(i+1,X++[E.agg [.int .i64 gk,.int .i64 gn,.str gs]],(gp,!go)),by omega,⟨⟨by rw [←e1];simp,e2⟩,⟨by dsimp only;omega,by dsimp only;rw [List.length_append,List.length_singleton];omega⟩,p0,p1⟩,?_⟩
    dsimp only
    rw [List.length_append,List.length_singleton]
    (refine zf4 (fun j=>if j=9 then 60 else j) _ _ rfl rfl ?_ ?_<;>(repeat' (first|exact TmOk.nil|exact RwOk.nil|refine TmOk.cons ?_ ?_|refine RwOk.cons ?_ ?_|rfl|exact zv rfl (by assumption)|exact zv rfl (zw1 _)|(refine rnV_id' rfl ?_;exact byc)|(refine zo1 ?_;first|rfl|omega|(rw [za1 (by omega) (by omega)];omega))|(refine zv rfl ?_;exact byc)|exact zg2 rfl rfl|(refine zp1 (by rfl) (by rfl) ?_ ?_<;>exact byc)|(refine rw_rn' rfl rfl ?_;simp;done))))
    exact zd7 (r:=⟨75,3,X.length+1,false,owL X++[.v (.int .i64 gk),.v (.int .i64 gn),.v (.string gs)]⟩) rfl (by rw [zj5];rfl) (zf _)
set_option maxHeartbeats 4000000 in
theorem zq11 {bs:List UInt8}{s:RS}(h0:0≤s.1)(h1:s.1≤bs.length)(hn:bs.length≤1073741824):Ctr Tryz.prog 83 [.c (.pt 0 0)] [rdrM bs s] (.c (.ow 9 (rdN true 100 (fT bs) bs s).1.length 1 (owL (rdN true 100 (fT bs) bs s).1))) [rdrM bs (rdN true 100 (fT bs) bs s).2]:=by
 have cN:=zp4 h0 h1 hn
 obtain⟨⟨g0,g1⟩,g2,g3,-⟩:=zl3 (bs:=bs) h0 h1
 unfold rdN capS
 obtain⟨⟨c,⟨a,b⟩⟩,hr⟩:∃r,numR bs s=r:=⟨_,rfl⟩
 rw [hr] at cN g0 g1 g2 g3 ⊢
 dsimp only at cN g0 g1 g2 g3 ⊢
 obtain⟨n,rfl⟩:∃n:Nat,c=(n:Int):=⟨c.toNat,by omega⟩
 rw [Int.toNat_natCast,Bool.true_and]
 obtain⟨⟨L,S⟩,hL⟩:∃r,rdL (fT bs) n (a,b||decide (100<(n:Int)))=r:=⟨_,rfl⟩
 rw [hL]
 dsimp only
 refine zi1 Tryz.func83 rfl rfl ?_
 unfold rdrM at cN ⊢
 dsimp only at cN ⊢
 have hdone:∀(m:Nat) (X:List E) (q:RS),m=0∨q.2=true→X++(rdL (fT bs) m q).1=L∧(rdL (fT bs) m q).2=S→X=L∧q=S:=fun m X q hm ⟨e1,e2⟩=>by
  rw [zx6 hm] at e1 e2
  exact⟨by rw [←e1];simp,e2⟩
 obtain⟨B,hB⟩:∃B,(b||decide (100<(n:Int)))=B:=⟨_,rfl⟩
 rw [hB] at hL
 cases b<;>repeat' (first|(apply f_wo;first|(apply f_gs;refine n_sk ?_)|(apply f_mv;first|(refine zs1 ?_ ?_<;>intro hG<;>(try cases hG))|refine zt (v:=.c _) ?_)|(apply f_as;refine zu (v:=.c _) ?_)|(apply f_fa;refine n_fa ?_)|(apply f_ld;refine zn1 ?_)|(apply f_ca;refine zy1 0 (cN) ?_ (hl:=zq4 (by rfl) zj2))|(apply f_st;refine n_st ?_)|(apply zi4;refine zh2 ?_)|(apply f_pk;refine zr1 (v:=.c _) ?_)|refine n_bs ?_|refine zh1 ?_)|(apply f_w;first|refine zo ?_|refine zc ?_)|refine za fun C=>?_|refine zd ?_|refine zg ?_)
 all_goals
  simp only [Bool.false_or,Bool.true_or] at hB
  subst hB
  clear cN hr g0
 all_goals
  refine zt1 (fun d:Nat×List E×RS=>⟨tmsF [(0,.c (.pt 0 0)),(3,.c (.sl 9 d.2.1.length)),(4,.c (.v (.int .i64 (n:Int)))),(5,.c (.v (.int .i64 (d.1:Int))))],hpsF [(0,0,⟨0,0,0,true,[.ro bs.length 1 (acL (bI bs)),.v (.int .i64 d.2.2.1),.v (.bool d.2.2.2)]⟩),(9,9,⟨9,1,d.2.1.length,false,owL d.2.1⟩)],1,[0,9],62⟩)
   (fun N d=>(d.2.1++(rdL (fT bs) N d.2.2).1=L∧(rdL (fT bs) N d.2.2).2=S)∧(d.1+N=n∧d.2.1.length≤d.1)∧0≤d.2.2.1∧d.2.2.1≤bs.length) n (0,[],(a,_)) ⟨⟨by rw [hL];rfl,by rw [hL]⟩,⟨by dsimp only;omega,Nat.le_refl _⟩,g2,g3⟩ ?_ ?_
 all_goals first
  | (show Gh _ _
     (refine zk1 _ _ rfl rfl ?_ ?_<;>(repeat' (first|exact TmOk.nil|exact RwOk.nil|refine TmOk.cons ?_ ?_|refine RwOk.cons ?_ ?_|rfl|exact zv rfl (by assumption)|exact zv rfl (zw1 _)|(refine rnV_id' rfl ?_;exact byc)|(refine zo1 ?_;first|rfl|omega|(rw [za1 (by omega) (by omega)];omega))|(refine zv rfl ?_;exact byc)|exact zg2 rfl rfl|(refine zp1 (by rfl) (by rfl) ?_ ?_<;>exact byc)|(refine rw_rn' rfl rfl ?_;simp;done)))))
  | skip
 all_goals
  rintro N ⟨i,X,q,qb⟩ ⟨⟨e1,e2⟩,⟨hi,hX⟩,q0,q1⟩
  dsimp only at e1 e2 hi hX q0 q1 ⊢
  cases N with
  | zero =>
   obtain⟨rfl,rfl⟩:=hdone 0 X (q,qb) (.inl rfl) ⟨e1,e2⟩
   clear hdone e1 e2 hL
   repeat' (first|(apply f_wo;first|(apply f_gs;refine n_sk ?_)|(apply f_mv;first|(refine zs1 ?_ ?_<;>intro hG<;>(try cases hG))|refine zt (v:=.c _) ?_)|(apply f_as;refine zu (v:=.c _) ?_)|(apply f_fa;refine n_fa ?_)|(apply f_ld;refine zn1 ?_)|(apply zw2;refine zf1 ?_)|(apply f_no;refine za2 ?_)|(apply f_pk;refine zr1 (v:=.c _) ?_)|refine zh1 ?_)|(apply f_w;first|refine zo ?_|refine zc ?_)|refine za fun C=>?_|refine zd ?_|refine zw ?_|refine zr rfl ?_)
   all_goals first
    | (exfalso;simp only [decide_eq_true_iff] at hG;omega)
    | skip
   refine zi ?_
   refine ret1 rfl (zo20 (zl1 (rw:=⟨9,1,X.length,false,owL X⟩) rfl rfl rfl (zf _) ze1)) rfl zj2 rfl ⟨rfl,rfl⟩
  | succ N =>
   cases qb with
   | true =>
    obtain⟨rfl,rfl⟩:=hdone (N+1) X (q,true) (.inr rfl) ⟨e1,e2⟩
    clear hdone e1 e2 hL
    repeat' (first|(apply f_wo;first|(apply f_gs;refine n_sk ?_)|(apply f_mv;first|(refine zs1 ?_ ?_<;>intro hG<;>(try cases hG))|refine zt (v:=.c _) ?_)|(apply f_as;refine zu (v:=.c _) ?_)|(apply f_fa;refine n_fa ?_)|(apply f_ld;refine zn1 ?_)|(apply zw2;refine zf1 ?_)|(apply f_no;refine za2 ?_)|(apply f_pk;refine zr1 (v:=.c _) ?_)|refine zh1 ?_)|(apply f_w;first|refine zo ?_|refine zc ?_)|refine za fun C=>?_|refine zd ?_|refine zw ?_|refine zr rfl ?_)
    all_goals first
     | (exfalso;simp only [decide_eq_false_iff_not] at hG;omega)
     | skip
    refine zi ?_
    refine ret1 rfl (zo20 (zl1 (rw:=⟨9,1,X.length,false,owL X⟩) rfl rfl rfl (zf _) ze1)) rfl zj2 rfl ⟨rfl,rfl⟩
   | false =>
    rw [zk5] at e1 e2
    dsimp only at e1 e2
    obtain⟨⟨p0,p1⟩,-,-⟩:=ze18 hn q q0 q1
    have c2:=zj8 (bs:=bs) q (by omega) hn
    obtain⟨⟨gs,gp,go⟩,hg⟩:∃g,getT bs q=g:=⟨_,rfl⟩
    have hfV:fT bs q=(E.str gs,((gp:Int),!go)):=by unfold fT;rw [hg]
    rw [hfV] at e1 e2 p0 p1
    rw [hg] at c2
    dsimp only at c2 e1 e2 p0 p1
    clear hdone hL hg hfV
    repeat' (first|(apply f_wo;first|(apply f_gs;refine n_sk ?_)|(apply f_mv;first|(refine zs1 ?_ ?_<;>intro hG<;>(try cases hG))|refine zt (v:=.c _) ?_)|(apply f_as;refine zu (v:=.c _) ?_)|(apply f_fa;refine n_fa ?_)|(apply f_ld;refine zn1 ?_)|(apply f_bi;refine zi6 ?_)|(apply f_st;refine n_st ?_)|(apply zw2;refine zf1 ?_)|(apply zb2;refine zx ?_)|(apply f_no;refine za2 ?_)|(apply f_pk;refine zr1 (v:=.c _) ?_)|refine n_bs ?_|refine zh1 ?_)|(apply f_w;first|refine zo ?_|refine zc ?_)|(apply d_wo;first|(apply d_mv;first|refine zx3 (.c _) ?_|refine zx3 (.tu _) ?_)|(apply d_as;refine zp9 (.c (.v _)) ?_)|(apply d_fa;refine o_fa ?_)|(apply d_ld;refine zn3 ?_)|(apply d_ca;refine zu5 c2 ?_)|refine zf2 ?_)|(apply d_w;first|refine zo ?_|refine zc ?_)|refine za fun C=>?_|refine zp (by kernel_rfl) (by kernel_rfl) fun C=>?_|refine zd ?_|refine zg ?_|refine zk ?_|refine zw ?_|refine zq rfl ?_|refine zr rfl ?_)
    all_goals first
     | (exfalso;simp only [decide_eq_false_iff_not] at hG;omega)
     | skip
    refine⟨N,(i+1,X++[E.str gs],((gp:Int),!go)),by omega,⟨⟨by rw [←e1];simp,e2⟩,⟨by dsimp only;omega,by dsimp only;rw [List.length_append,List.length_singleton];omega⟩,p0,p1⟩,?_⟩
    dsimp only
    rw [List.length_append,List.length_singleton]
    (refine zf4 (fun j=>if j=9 then 60 else j) _ _ rfl rfl ?_ ?_<;>(repeat' (first|exact TmOk.nil|exact RwOk.nil|refine TmOk.cons ?_ ?_|refine RwOk.cons ?_ ?_|rfl|exact zv rfl (by assumption)|exact zv rfl (zw1 _)|(refine rnV_id' rfl ?_;exact byc)|(refine zo1 ?_;first|rfl|omega|(rw [za1 (by omega) (by omega)];omega))|(refine zv rfl ?_;exact byc)|exact zg2 rfl rfl|(refine zp1 (by rfl) (by rfl) ?_ ?_<;>exact byc)|(refine rw_rn' rfl rfl ?_;simp;done))))
    exact zd7 (r:=⟨9,1,X.length+1,false,owL X++[.v (.string gs)]⟩) rfl (by rw [zj5];rfl) (zf _)
end Go.Proofs.YtghljnfbbaklnaaGreat
-- BIT
-- MVP
namespace Go.Proofs.YtghljnfbbaklnaaGreat
open Go.RowKit
set_option maxRecDepth 100000
theorem zo14 {bs:List UInt8}(at_:Int)(hat : -9223372036854775808≤at_∧at_≤9223372036854775807)(hn:bs.length≤1073741824):Ctr Tryz.prog 152 [.c (.ro bs.length 1 (acL (bI bs))),.c (.v (.int .i64 at_))] [] (.tu [.ag [.v (.int .i64 (getIns bs at_).o),.v (.int .i64 (getIns bs at_).n)],.c (.v (.int .i64 (getIns bs at_).p)),.c (.v (.bool (getIns bs at_).ok))]) []:=by
 rw [←zv4];exact zq15 at_ hat hn
set_option maxHeartbeats 4000000 in
theorem zr16 {bs:List UInt8}{s:RS}(h0:0≤s.1)(h1:s.1≤bs.length)(hn:bs.length≤1073741824):Ctr Tryz.prog 84 [.c (.pt 0 0)] [rdrM bs s] (.ag (owE (rdF true bs s).1)) [rdrM bs (rdF true bs s).2]:=by
 have cM:=zp4 h0 h1 hn
 obtain⟨-,f2,f3,-⟩:=zl3 (bs:=bs) h0 h1
 unfold rdF
 obtain⟨⟨pp,s1⟩,hr1⟩:∃r,numR bs s=r:=⟨_,rfl⟩
 rw [hr1] at cM f2 f3 ⊢
 dsimp only at cM f2 f3 ⊢
 have cN:=zp4 f2 f3 hn
 obtain⟨⟨g0,g1⟩,g2,g3,-⟩:=zl3 (bs:=bs) f2 f3
 unfold rdN capS
 obtain⟨⟨c,⟨a,b⟩⟩,hr⟩:∃r,numR bs s1=r:=⟨_,rfl⟩
 rw [hr] at cN g0 g1 g2 g3 ⊢
 dsimp only at cN g0 g1 g2 g3 ⊢
 obtain⟨n,rfl⟩:∃n:Nat,c=(n:Int):=⟨c.toNat,by omega⟩
 rw [Int.toNat_natCast,Bool.true_and]
 obtain⟨⟨L,S⟩,hL⟩:∃r,rdL (fIn bs) n (a,b||decide (3000<(n:Int)))=r:=⟨_,rfl⟩
 rw [hL]
 show Ctr _ _ _ _ (.ag [.v (.int .i64 pp),.ow 82 L.length 2 (owL L)]) _
 refine zi1 Tryz.func84 rfl rfl ?_
 unfold rdrM at cM cN ⊢
 dsimp only at cM cN ⊢
 have hdone:∀(m:Nat) (X:List E) (q:RS),m=0∨q.2=true→X++(rdL (fIn bs) m q).1=L∧(rdL (fIn bs) m q).2=S→X=L∧q=S:=fun m X q hm ⟨e1,e2⟩=>by
  rw [zx6 hm] at e1 e2
  exact⟨by rw [←e1];simp,e2⟩
 obtain⟨B,hB⟩:∃B,(b||decide (3000<(n:Int)))=B:=⟨_,rfl⟩
 rw [hB] at hL
 cases b<;>repeat' (first|(apply f_wo;first|(apply f_gs;refine n_sk ?_)|(apply f_mv;first|(refine zs1 ?_ ?_<;>intro hG<;>(try cases hG))|refine zt (v:=.c _) ?_)|(apply f_as;refine zu (v:=.c _) ?_)|(apply f_fa;refine n_fa ?_)|(apply f_ld;refine zn1 ?_)|(apply f_ca;first|refine zy1 0 (cM) ?_ (hl:=zq4 (by rfl) zj2)|refine zy1 0 (cN) ?_ (hl:=zq4 (by rfl) zj2))|(apply f_st;refine n_st ?_)|(apply zi4;refine zh2 ?_)|(apply f_pk;refine zr1 (v:=.c _) ?_)|refine n_al ?_|refine zh1 ?_)|(apply f_w;first|refine zo ?_|refine zc ?_)|refine za fun C=>?_|refine zd ?_|refine zg ?_)
 all_goals
  simp only [Bool.false_or,Bool.true_or] at hB
  subst hB
  clear cN cM hr hr1 g0
 all_goals
  refine zt1 (fun d:Nat×List E×RS=>⟨tmsF [(0,.c (.pt 0 0)),(2,.c (.pt 2 0)),(3,.c (.pt 3 0)),(4,.c (.v (.int .i64 (n:Int)))),(5,.c (.v (.int .i64 (d.1:Int))))],hpsF [(0,0,⟨0,0,0,true,[.ro bs.length 1 (acL (bI bs)),.v (.int .i64 d.2.2.1),.v (.bool d.2.2.2)]⟩),(2,2,⟨79,0,0,true,[.v (.int .i64 0),.v (.slice none 0 0)]⟩),(3,3,⟨79,0,0,true,[.v (.int .i64 pp),.sl 990 d.2.1.length]⟩),(990,990,⟨82,2,d.2.1.length,false,owL d.2.1⟩)],1,[0,2,3,990],66⟩)
   (fun N d=>(d.2.1++(rdL (fIn bs) N d.2.2).1=L∧(rdL (fIn bs) N d.2.2).2=S)∧(d.1+N=n∧d.2.1.length≤d.1)∧0≤d.2.2.1∧d.2.2.1≤bs.length) n (0,[],(a,_)) ⟨⟨by rw [hL];rfl,by rw [hL]⟩,⟨by dsimp only;omega,Nat.le_refl _⟩,g2,g3⟩ ?_ ?_
 all_goals first
  | (show Gh _ _
     refine (zb3 990 (i:=3) 82 2 rfl rfl (pre:=[_]) (post:=[]) rfl).trans ?_
     (refine zk1 _ _ rfl rfl ?_ ?_<;>(repeat' (first|exact TmOk.nil|exact RwOk.nil|refine TmOk.cons ?_ ?_|refine RwOk.cons ?_ ?_|rfl|exact zv rfl (by assumption)|exact zv rfl (zw1 _)|(refine rnV_id' rfl ?_;exact byc)|(refine zo1 ?_;first|rfl|omega|(rw [za1 (by omega) (by omega)];omega))|(refine zv rfl ?_;exact byc)|exact zg2 rfl rfl|(refine zp1 (by rfl) (by rfl) ?_ ?_<;>exact byc)|(refine rw_rn' rfl rfl ?_;simp;done)))))
  | skip
 all_goals
  rintro N ⟨i,X,q,qb⟩ ⟨⟨e1,e2⟩,⟨hi,hX⟩,q0,q1⟩
  dsimp only at e1 e2 hi hX q0 q1 ⊢
  cases N with
  | zero =>
   obtain⟨rfl,rfl⟩:=hdone 0 X (q,qb) (.inl rfl) ⟨e1,e2⟩
   clear hdone e1 e2 hL
   repeat' (first|(apply f_wo;first|(apply f_gs;refine n_sk ?_)|(apply f_mv;first|(refine zs1 ?_ ?_<;>intro hG<;>(try cases hG))|refine zt (v:=.c _) ?_)|(apply f_fa;refine n_fa ?_)|(apply f_ld;first|refine zn1 ?_|refine zq2 ?_)|(apply f_st;refine n_st ?_)|(apply zw2;refine zf1 ?_)|(apply f_no;refine za2 ?_)|(apply f_pk;refine zr1 (v:=.c _) ?_)|refine zh1 ?_)|(apply f_w;first|refine zo ?_|refine zc ?_)|refine za fun C=>?_|refine zd ?_|refine zw ?_|refine zr rfl ?_)
   all_goals first
    | (exfalso;simp only [decide_eq_true_iff] at hG;omega)
    | skip
   refine zi ?_
   refine ret1 rfl (zq1 (zd1 rfl (zl1 (rw:=⟨82,2,X.length,false,owL X⟩) rfl rfl rfl (zf _) ze1))) rfl zj2 rfl ⟨rfl,rfl⟩
  | succ N =>
   cases qb with
   | true =>
    obtain⟨rfl,rfl⟩:=hdone (N+1) X (q,true) (.inr rfl) ⟨e1,e2⟩
    clear hdone e1 e2 hL
    repeat' (first|(apply f_wo;first|(apply f_gs;refine n_sk ?_)|(apply f_mv;first|(refine zs1 ?_ ?_<;>intro hG<;>(try cases hG))|refine zt (v:=.c _) ?_)|(apply f_fa;refine n_fa ?_)|(apply f_ld;first|refine zn1 ?_|refine zq2 ?_)|(apply f_st;refine n_st ?_)|(apply zw2;refine zf1 ?_)|(apply f_no;refine za2 ?_)|(apply f_pk;refine zr1 (v:=.c _) ?_)|refine zh1 ?_)|(apply f_w;first|refine zo ?_|refine zc ?_)|refine za fun C=>?_|refine zd ?_|refine zw ?_|refine zr rfl ?_)
    all_goals first
     | (exfalso;simp only [decide_eq_false_iff_not] at hG;omega)
     | skip
    refine zi ?_
    refine ret1 rfl (zq1 (zd1 rfl (zl1 (rw:=⟨82,2,X.length,false,owL X⟩) rfl rfl rfl (zf _) ze1))) rfl zj2 rfl ⟨rfl,rfl⟩
   | false =>
    rw [zk5] at e1 e2
    dsimp only at e1 e2
    obtain⟨⟨p0,p1⟩,-,-⟩:=zn14 (bs:=bs) q q0 q1
    have c2:=zo14 (bs:=bs) q (by omega) hn
    obtain⟨⟨go,gn,gp,gk⟩,hg⟩:∃g,getIns bs q=g:=⟨_,rfl⟩
    have hfV:fIn bs q=(E.agg [.int .i64 go,.int .i64 gn],((gp:Int),!gk)):=by unfold fIn;rw [hg]
    rw [hfV] at e1 e2 p0 p1
    rw [hg] at c2
    dsimp only at c2 e1 e2 p0 p1
    clear hdone hL hg hfV
    repeat' (first|(apply f_wo;first|(apply f_gs;refine n_sk ?_)|(apply f_mv;first|(refine zs1 ?_ ?_<;>intro hG<;>(try cases hG))|refine zt (v:=.c _) ?_)|(apply f_as;refine zu (v:=.c _) ?_)|(apply f_fa;refine n_fa ?_)|(apply f_ld;first|refine zn1 ?_|refine zq2 ?_)|(apply f_bi;refine zi6 ?_)|(apply f_st;refine n_st ?_)|(apply zw2;refine zf1 ?_)|(apply zb2;refine zx ?_)|(apply f_no;refine za2 ?_)|(apply f_pk;refine zr1 (v:=.c _) ?_)|refine n_bs ?_|refine zh1 ?_)|(apply f_w;first|refine zo ?_|refine zc ?_)|(apply d_wo;first|(apply d_mv;first|refine zx3 (.c _) ?_|refine zx3 (.tu _) ?_)|(apply d_as;refine zp9 (.c (.v _)) ?_)|(apply d_fa;refine o_fa ?_)|(apply d_ld;refine zn3 ?_)|(apply d_ca;refine zu5 c2 ?_)|(apply d_st;refine o_st ?_)|refine o_al ?_|refine zf2 ?_)|(apply d_w;first|refine zo ?_|refine zc ?_)|refine za fun C=>?_|refine zp (by kernel_rfl) (by kernel_rfl) fun C=>?_|refine zd ?_|refine zg ?_|refine zk ?_|refine zw ?_|refine zq rfl ?_|refine zr rfl ?_)
    all_goals first
     | (exfalso;simp only [decide_eq_false_iff_not] at hG;omega)
     | skip
    refine⟨N,(i+1,X++[E.agg [.int .i64 go,.int .i64 gn]],((gp:Int),!gk)),by omega,⟨⟨by rw [←e1];simp,e2⟩,⟨by dsimp only;omega,by dsimp only;rw [List.length_append,List.length_singleton];omega⟩,p0,p1⟩,?_⟩
    dsimp only
    rw [List.length_append,List.length_singleton]
    (refine zf4 (fun j=>if j=990 then 63 else j) _ _ rfl rfl ?_ ?_<;>(repeat' (first|exact TmOk.nil|exact RwOk.nil|refine TmOk.cons ?_ ?_|refine RwOk.cons ?_ ?_|rfl|exact zv rfl (by assumption)|exact zv rfl (zw1 _)|(refine rnV_id' rfl ?_;exact byc)|(refine zo1 ?_;first|rfl|omega|(rw [za1 (by omega) (by omega)];omega))|(refine zv rfl ?_;exact byc)|exact zg2 rfl rfl|(refine zp1 (by rfl) (by rfl) ?_ ?_<;>exact byc)|(refine rw_rn' rfl rfl ?_;simp;done))))
    exact zd7 (r:=⟨82,2,X.length+1,false,owL X++[.v (.int .i64 go),.v (.int .i64 gn)]⟩) rfl (by rw [zj5];rfl) (zf _)
theorem zp14 {bs:List UInt8}(at_:Int)(hat : -9223372036854775808≤at_∧at_≤9223372036854775807)(hn:bs.length≤1073741824):Ctr Tryz.prog 155 [.c (.ro bs.length 1 (acL (bI bs))),.c (.v (.int .i64 at_))] [] (.tu [.ag [.v (.int .i64 (getIns bs at_).o),.v (.int .i64 (getIns bs at_).n)],.c (.v (.int .i64 (getIns bs at_).p)),.c (.v (.bool (getIns bs at_).ok))]) []:=by
 rw [←zv4];exact zp15 at_ hat hn
set_option maxHeartbeats 4000000 in
theorem zs16 {bs:List UInt8}{s:RS}(h0:0≤s.1)(h1:s.1≤bs.length)(hn:bs.length≤1073741824):Ctr Tryz.prog 88 [.c (.pt 0 0)] [rdrM bs s] (.ag (owE (rdF false bs s).1)) [rdrM bs (rdF false bs s).2]:=by
 have cM:=zo4 h0 h1 hn
 obtain⟨-,f2,f3,-⟩:=zl3 (bs:=bs) h0 h1
 unfold rdF
 obtain⟨⟨pp,s1⟩,hr1⟩:∃r,numR bs s=r:=⟨_,rfl⟩
 rw [hr1] at cM f2 f3 ⊢
 dsimp only at cM f2 f3 ⊢
 have cN:=zo4 f2 f3 hn
 obtain⟨⟨g0,g1⟩,g2,g3,-⟩:=zl3 (bs:=bs) f2 f3
 unfold rdN capS
 obtain⟨⟨c,⟨a,b⟩⟩,hr⟩:∃r,numR bs s1=r:=⟨_,rfl⟩
 rw [hr] at cN g0 g1 g2 g3 ⊢
 dsimp only at cN g0 g1 g2 g3 ⊢
 obtain⟨n,rfl⟩:∃n:Nat,c=(n:Int):=⟨c.toNat,by omega⟩
 rw [Int.toNat_natCast,Bool.false_and,Bool.or_false]
 obtain⟨⟨L,S⟩,hL⟩:∃r,rdL (fIn bs) n (a,b)=r:=⟨_,rfl⟩
 rw [hL]
 show Ctr _ _ _ _ (.ag [.v (.int .i64 pp),.ow 82 L.length 2 (owL L)]) _
 refine zi1 Tryz.func88 rfl rfl ?_
 unfold rdrM at cM cN ⊢
 dsimp only at cM cN ⊢
 have hdone:∀(m:Nat) (X:List E) (q:RS),m=0∨q.2=true→X++(rdL (fIn bs) m q).1=L∧(rdL (fIn bs) m q).2=S→X=L∧q=S:=fun m X q hm ⟨e1,e2⟩=>by
  rw [zx6 hm] at e1 e2
  exact⟨by rw [←e1];simp,e2⟩
 repeat' (first|(apply f_wo;first|(apply f_mv;refine zt (v:=.c _) ?_)|(apply f_as;refine zu (v:=.c _) ?_)|(apply f_ca;first|refine zy1 0 (cM) ?_ (hl:=zq4 (by rfl) zj2)|refine zy1 0 (cN) ?_ (hl:=zq4 (by rfl) zj2))|(apply f_st;refine n_st ?_)|refine n_al ?_|refine zh1 ?_)|(apply f_w;first|refine zo ?_|refine zc ?_)|refine za fun C=>?_|refine zd ?_|refine zg ?_)
 all_goals
  clear cN cM hr hr1 g0
 all_goals
  refine zt1 (fun d:Nat×List E×RS=>⟨tmsF [(0,.c (.pt 0 0)),(2,.c (.pt 2 0)),(3,.c (.pt 3 0)),(4,.c (.v (.int .i64 (n:Int)))),(5,.c (.v (.int .i64 (d.1:Int))))],hpsF [(0,0,⟨0,0,0,true,[.ro bs.length 1 (acL (bI bs)),.v (.int .i64 d.2.2.1),.v (.bool d.2.2.2)]⟩),(2,2,⟨79,0,0,true,[.v (.int .i64 0),.v (.slice none 0 0)]⟩),(3,3,⟨79,0,0,true,[.v (.int .i64 pp),.sl 990 d.2.1.length]⟩),(990,990,⟨82,2,d.2.1.length,false,owL d.2.1⟩)],1,[0,2,3,990],55⟩)
   (fun N d=>(d.2.1++(rdL (fIn bs) N d.2.2).1=L∧(rdL (fIn bs) N d.2.2).2=S)∧(d.1+N=n∧d.2.1.length≤d.1)∧0≤d.2.2.1∧d.2.2.1≤bs.length) n (0,[],(a,_)) ⟨⟨by rw [hL];rfl,by rw [hL]⟩,⟨by dsimp only;omega,Nat.le_refl _⟩,g2,g3⟩ ?_ ?_
 all_goals first
  | (show Gh _ _
     refine (zb3 990 (i:=3) 82 2 rfl rfl (pre:=[_]) (post:=[]) rfl).trans ?_
     (refine zk1 _ _ rfl rfl ?_ ?_<;>(repeat' (first|exact TmOk.nil|exact RwOk.nil|refine TmOk.cons ?_ ?_|refine RwOk.cons ?_ ?_|rfl|exact zv rfl (by assumption)|exact zv rfl (zw1 _)|(refine rnV_id' rfl ?_;exact byc)|(refine zo1 ?_;first|rfl|omega|(rw [za1 (by omega) (by omega)];omega))|(refine zv rfl ?_;exact byc)|exact zg2 rfl rfl|(refine zp1 (by rfl) (by rfl) ?_ ?_<;>exact byc)|(refine rw_rn' rfl rfl ?_;simp;done)))))
  | skip
 all_goals
  rintro N ⟨i,X,q,qb⟩ ⟨⟨e1,e2⟩,⟨hi,hX⟩,q0,q1⟩
  dsimp only at e1 e2 hi hX q0 q1 ⊢
  cases N with
  | zero =>
   obtain⟨rfl,rfl⟩:=hdone 0 X (q,qb) (.inl rfl) ⟨e1,e2⟩
   clear hdone e1 e2 hL
   repeat' (first|(apply f_wo;first|(apply f_gs;refine n_sk ?_)|(apply f_mv;first|(refine zs1 ?_ ?_<;>intro hG<;>(try cases hG))|refine zt (v:=.c _) ?_)|(apply f_fa;refine n_fa ?_)|(apply f_ld;first|refine zn1 ?_|refine zq2 ?_)|(apply f_st;refine n_st ?_)|(apply zw2;refine zf1 ?_)|(apply f_no;refine za2 ?_)|(apply f_pk;refine zr1 (v:=.c _) ?_)|refine zh1 ?_)|(apply f_w;first|refine zo ?_|refine zc ?_)|refine za fun C=>?_|refine zd ?_|refine zw ?_|refine zr rfl ?_)
   all_goals first
    | (exfalso;simp only [decide_eq_true_iff] at hG;omega)
    | skip
   refine zi ?_
   refine ret1 rfl (zq1 (zd1 rfl (zl1 (rw:=⟨82,2,X.length,false,owL X⟩) rfl rfl rfl (zf _) ze1))) rfl zj2 rfl ⟨rfl,rfl⟩
  | succ N =>
   cases qb with
   | true =>
    obtain⟨rfl,rfl⟩:=hdone (N+1) X (q,true) (.inr rfl) ⟨e1,e2⟩
    clear hdone e1 e2 hL
    repeat' (first|(apply f_wo;first|(apply f_gs;refine n_sk ?_)|(apply f_mv;first|(refine zs1 ?_ ?_<;>intro hG<;>(try cases hG))|refine zt (v:=.c _) ?_)|(apply f_fa;refine n_fa ?_)|(apply f_ld;first|refine zn1 ?_|refine zq2 ?_)|(apply f_st;refine n_st ?_)|(apply zw2;refine zf1 ?_)|(apply f_no;refine za2 ?_)|(apply f_pk;refine zr1 (v:=.c _) ?_)|refine zh1 ?_)|(apply f_w;first|refine zo ?_|refine zc ?_)|refine za fun C=>?_|refine zd ?_|refine zw ?_|refine zr rfl ?_)
    all_goals first
     | (exfalso;simp only [decide_eq_false_iff_not] at hG;omega)
     | skip
    refine zi ?_
    refine ret1 rfl (zq1 (zd1 rfl (zl1 (rw:=⟨82,2,X.length,false,owL X⟩) rfl rfl rfl (zf _) ze1))) rfl zj2 rfl ⟨rfl,rfl⟩
   | false =>
    rw [zk5] at e1 e2
    dsimp only at e1 e2
    obtain⟨⟨p0,p1⟩,-,-⟩:=zn14 (bs:=bs) q q0 q1
    have c2:=zp14 (bs:=bs) q (by omega) hn
    obtain⟨⟨go,gn,gp,gk⟩,hg⟩:∃g,getIns bs q=g:=⟨_,rfl⟩
    have hfV:fIn bs q=(E.agg [.int .i64 go,.int .i64 gn],((gp:Int),!gk)):=by unfold fIn;rw [hg]
    rw [hfV] at e1 e2 p0 p1
    rw [hg] at c2
    dsimp only at c2 e1 e2 p0 p1
    clear hdone hL hg hfV
    repeat' (first|(apply f_wo;first|(apply f_gs;refine n_sk ?_)|(apply f_mv;first|(refine zs1 ?_ ?_<;>intro hG<;>(try cases hG))|refine zt (v:=.c _) ?_)|(apply f_as;refine zu (v:=.c _) ?_)|(apply f_fa;refine n_fa ?_)|(apply f_ld;first|refine zn1 ?_|refine zq2 ?_)|(apply f_bi;refine zi6 ?_)|(apply f_st;refine n_st ?_)|(apply zw2;refine zf1 ?_)|(apply zb2;refine zx ?_)|(apply f_no;refine za2 ?_)|(apply f_pk;refine zr1 (v:=.c _) ?_)|refine n_bs ?_|refine zh1 ?_)|(apply f_w;first|refine zo ?_|refine zc ?_)|(apply d_wo;first|(apply d_mv;first|refine zx3 (.c _) ?_|refine zx3 (.tu _) ?_)|(apply d_as;refine zp9 (.c (.v _)) ?_)|(apply d_fa;refine o_fa ?_)|(apply d_ld;refine zn3 ?_)|(apply d_ca;refine zu5 c2 ?_)|(apply d_st;refine o_st ?_)|refine o_al ?_|refine zf2 ?_)|(apply d_w;first|refine zo ?_|refine zc ?_)|refine za fun C=>?_|refine zp (by kernel_rfl) (by kernel_rfl) fun C=>?_|refine zd ?_|refine zg ?_|refine zk ?_|refine zw ?_|refine zq rfl ?_|refine zr rfl ?_)
    all_goals first
     | (exfalso;simp only [decide_eq_false_iff_not] at hG;omega)
     | skip
    refine⟨N,(i+1,X++[E.agg [.int .i64 go,.int .i64 gn]],((gp:Int),!gk)),by omega,⟨⟨by rw [←e1];simp,e2⟩,⟨by dsimp only;omega,by dsimp only;rw [List.length_append,List.length_singleton];omega⟩,p0,p1⟩,?_⟩
    dsimp only
    rw [List.length_append,List.length_singleton]
    (refine zf4 (fun j=>if j=990 then 52 else j) _ _ rfl rfl ?_ ?_<;>(repeat' (first|exact TmOk.nil|exact RwOk.nil|refine TmOk.cons ?_ ?_|refine RwOk.cons ?_ ?_|rfl|exact zv rfl (by assumption)|exact zv rfl (zw1 _)|(refine rnV_id' rfl ?_;exact byc)|(refine zo1 ?_;first|rfl|omega|(rw [za1 (by omega) (by omega)];omega))|(refine zv rfl ?_;exact byc)|exact zg2 rfl rfl|(refine zp1 (by rfl) (by rfl) ?_ ?_<;>exact byc)|(refine rw_rn' rfl rfl ?_;simp;done))))
    exact zd7 (r:=⟨82,2,X.length+1,false,owL X++[.v (.int .i64 go),.v (.int .i64 gn)]⟩) rfl (by rw [zj5];rfl) (zf _)
end Go.Proofs.YtghljnfbbaklnaaGreat
namespace Go.Proofs.YtghljnfbbaklnaaGreat
open Go.RowKit
set_option maxRecDepth 100000
variable {bs:List UInt8}
theorem zc6:0≤(gm1 bs).1∧(gm1 bs).1≤bs.length:=by
 obtain⟨-,h1,h2,-⟩:=zl3 (bs:=bs) (s:=(0,false)) (by decide) (by show (0:Int)≤_;omega)
 exact⟨h1,h2⟩
theorem zn4 (cp:Bool)(hn:bs.length≤1073741824):(0≤(gmA cp bs).2.1∧(gmA cp bs).2.1≤bs.length)∧(∀e∈(gmA cp bs).1,e.Ty Tryz.prog 75∧e.enc.length=3)∧((gmA cp bs).2.2=false→(gm1 bs).1+1+(gmA cp bs).1.length+E.szL (gmA cp bs).1≤(gmA cp bs).2.1):=ze10 (zd18 hn) zc6.1 zc6.2
theorem zl5 (cp:Bool)(hn:bs.length≤1073741824):(0≤(gmB cp bs).2.1∧(gmB cp bs).2.1≤bs.length)∧(∀e∈(gmB cp bs).1,e.Ty Tryz.prog 9∧e.enc.length=1)∧((gmB cp bs).2.2=false→(gmA cp bs).2.1+1+(gmB cp bs).1.length+E.szL (gmB cp bs).1≤(gmB cp bs).2.1):=ze10 (ze18 hn) (zn4 cp hn).1.1 (zn4 cp hn).1.2
theorem zm5 (cp:Bool)(hn:bs.length≤1073741824):(0≤(gmX cp bs).1∧(gmX cp bs).1≤2147483647)∧0≤(gmX cp bs).2.1∧(gmX cp bs).2.1≤bs.length∧((gmX cp bs).2.2=false→(gmB cp bs).2.1+1≤(gmX cp bs).2.1):=zl3 (zl5 cp hn).1.1 (zl5 cp hn).1.2
theorem zz3 (cp:Bool)(hn:bs.length≤1073741824):(0≤(gmY cp bs).1∧(gmY cp bs).1≤2147483647)∧0≤(gmY cp bs).2.1∧(gmY cp bs).2.1≤bs.length∧((gmY cp bs).2.2=false→(gmX cp bs).2.1+1≤(gmY cp bs).2.1):=zl3 (zm5 cp hn).2.1 (zm5 cp hn).2.2.1
theorem zq14 (cp:Bool)(hn:bs.length≤1073741824):(0≤(gmC cp bs).2.1∧(gmC cp bs).2.1≤bs.length)∧(∀e∈(gmC cp bs).1,e.Ty Tryz.prog 79∧e.enc.length=2)∧((gmC cp bs).2.2=false→(gmY cp bs).2.1+1+(gmC cp bs).1.length+E.szL (gmC cp bs).1≤(gmC cp bs).2.1):=ze10 zf18 (zz3 cp hn).2.1 (zz3 cp hn).2.2.1
theorem mE_Ty {l0 l1 l4:List E}{x2 x3:Int}(h0:∀e∈l0,e.Ty Tryz.prog 75∧e.enc.length=3)(h1:∀e∈l1,e.Ty Tryz.prog 9∧e.enc.length=1)(h2:0≤x2∧x2≤2147483647)(h3:0≤x3∧x3≤2147483647)(h4:∀e∈l4,e.Ty Tryz.prog 79∧e.enc.length=2):(mE l0 l1 x2 x3 l4).Ty Tryz.prog 33 :=
 E.Ty.mk_agg Tryz.underlying33 (E.TyF.mk_cons (E.Ty.mk_lst Tryz.underlying30 (by kernel_rfl) (fun e he=>(h0 e he).1) (fun e he=>(h0 e he).2)) (E.TyF.mk_cons (E.Ty.mk_lst Tryz.underlying23 (by kernel_rfl) (fun e he=>(h1 e he).1) (fun e he=>(h1 e he).2)) (E.TyF.mk_cons (zp11 (by omega) (by omega)) (E.TyF.mk_cons (zp11 (by omega) (by omega)) (E.TyF.mk_cons (E.Ty.mk_lst Tryz.underlying31 (by kernel_rfl) (fun e he=>(h4 e he).1) (fun e he=>(h4 e he).2)) E.TyF.mk_nil)))))
theorem za20 (cp:Bool)(hn:bs.length≤1073741824):(gmE cp bs).Ty Tryz.prog 33:=mE_Ty (zn4 cp hn).2.1 (zl5 cp hn).2.1 (zm5 cp hn).1 (zz3 cp hn).1 (zq14 cp hn).2.1
theorem gmE_sz (cp:Bool)(hn:bs.length≤1073741824)(h:(gmC cp bs).2.2=false):((gmE cp bs).sz:Int)≤bs.length:=by
 have hY:(gmY cp bs).2.2=false:=zo11 h
 have hX:(gmX cp bs).2.2=false:=zz8 hY
 have hB:(gmB cp bs).2.2=false:=zz8 hX
 have hA:(gmA cp bs).2.2=false:=zo11 hB
 have a:=(zn4 cp hn).2.2 hA
 have b:=(zl5 cp hn).2.2 hB
 have x:=(zm5 cp hn).2.2.2 hX
 have y:=(zz3 cp hn).2.2.2 hY
 have c:=(zq14 cp hn).2.2 h
 have c1:=(zq14 cp hn).1.2
 have z:=(zc6 (bs:=bs)).1
 unfold gmE mE
 simp only [E.sz,E.szL]
 push_cast
 omega
end Go.Proofs.YtghljnfbbaklnaaGreat
