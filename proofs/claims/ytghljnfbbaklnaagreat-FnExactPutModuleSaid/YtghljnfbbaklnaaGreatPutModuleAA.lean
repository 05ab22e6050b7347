/- The reference's RexOk: by the abstract machine. -/
import Derived.Test.YtghljnfbbaklnaaGreatPutModuleZ
namespace Go.Proofs.YtghljnfbbaklnaaGreat
open Go.RowKit
set_option maxRecDepth 100000
theorem zb15 {c:Nat}(hc:c<256):Ctr Tryz.prog 225 [.c (.v (.int .u8 (c:Int)))] [] (.c (.v (.bool (litB c)))) []:=by
 have h2:=l2Digit_c hc
 refine zo2 Tryz.func225 rfl rfl ?_
 repeat' (first|(apply f_wo;first|(apply f_gs;refine n_sk ?_)|(apply f_mv;first|(refine zb2 ?_ ?_<;>intro hG<;>(try cases hG))|refine zj1 (v:=.c _) ?_|refine za ?_)|(apply f_as;first|refine zi1 (v:=.c _) ?_|refine za ?_)|(apply f_ca;first|refine zz2 ((za7 _ _ _)) ?_|refine zx2 ((za7 _ _ _)) ?_|refine zz2 h2 ?_|refine zx2 h2 ?_)|(apply ze2;first|refine zj2 ?_|refine za ?_)|(apply f_pk;first|refine za2 (v:=.c _) ?_|refine za ?_)|(apply f_cv;first|refine n_int_cv ?_|refine za ?_)|refine za ?_)|(apply f_w;first|refine zv ?_|refine zc ?_)|refine zb fun C=>?_|refine zh ?_|refine zd ?_|refine zf ?_|refine zg ?_|(refine zn (by rfl) ?_ ?_<;>intro hC<;>(try cases hC)))
 all_goals
  (first|refine zu ?_|skip);refine ret0 rfl zf3 ⟨?_,rfl⟩;refine congrArg (fun s=>AV.c (AC.v (Value.bool s))) ?_
  clear h2
  unfold litB
  simp only [inR,digB,Bool.or_eq_true,Bool.and_eq_true,decide_eq_true_iff,beq_iff_eq,Bool.and_eq_false_iff,decide_eq_false_iff_not] at *
  (rw [Bool.eq_iff_iff];(try simp only [Bool.and_eq_true,Bool.or_eq_true,Bool.not_eq_true',decide_eq_true_iff,decide_eq_false_iff_not,beq_iff_eq,Bool.and_eq_false_iff,Bool.or_eq_false_iff,bne_iff_ne,ne_eq,Bool.true_eq_false,Bool.false_eq_true,true_iff,false_iff,iff_true,iff_false] at *);first|omega|(simp at *;omega))
theorem ze6 (k:Int):Ctr Tryz.prog 224 [.c (.v (.int .i64 k))] [] (.c (.v (.bool (loopK k)))) []:=by
 refine zo2 Tryz.func224 rfl rfl ?_
 repeat' (first|(apply f_wo;first|(apply f_gs;refine n_sk ?_)|(apply f_mv;first|(refine zb2 ?_ ?_<;>intro hG<;>(try cases hG))|refine zj1 (v:=.c _) ?_|refine za ?_)|(apply f_as;first|refine zi1 (v:=.c _) ?_|refine za ?_)|(apply ze2;first|refine zy ?_|refine za ?_)|(apply f_pk;first|refine za2 (v:=.c _) ?_|refine za ?_)|refine za ?_)|(apply f_w;first|refine zv ?_|refine zc ?_)|refine zb fun C=>?_|refine zh ?_|refine zd ?_|refine zf ?_|refine zg ?_|(refine zn (by rfl) ?_ ?_<;>intro hC<;>(try cases hC)))
 all_goals
  (first|refine zu ?_|skip);refine ret0 rfl zf3 ⟨?_,rfl⟩;refine congrArg (fun s=>AV.c (AC.v (Value.bool s))) ?_
  unfold loopK
  (rw [Bool.eq_iff_iff];(try simp only [Bool.and_eq_true,Bool.or_eq_true,Bool.not_eq_true',decide_eq_true_iff,decide_eq_false_iff_not,beq_iff_eq,Bool.and_eq_false_iff,Bool.or_eq_false_iff,bne_iff_ne,ne_eq,Bool.true_eq_false,Bool.false_eq_true,true_iff,false_iff,iff_true,iff_false] at *);first|omega|(simp at *;omega))
theorem l3Set_c {s:ByteArray}(hs:s.size≤1073741824):Ctr Tryz.prog 226 [.c (.v (.string s))] [] (.c (.v (.bool (setOkB s)))) []:=by
 refine zo2 Tryz.func226 rfl rfl ?_
 repeat' (first|(apply f_wo;first|(apply f_gs;refine n_sk ?_)|(apply f_mv;first|(refine zb2 ?_ ?_<;>intro hG<;>(try cases hG))|refine zj1 (v:=.c _) ?_|refine za ?_)|(apply f_as;first|refine zi1 (v:=.c _) ?_|refine za ?_)|(apply f_bi;first|refine zb1 ?_|refine za1 ?_|refine zc1 ?_|refine za ?_)|(apply zw1;first|refine zl ?_|refine za ?_)|(apply zx3;first|refine zr1 ?_|refine za ?_)|(apply za4;first|refine zx8 ?_|refine za ?_)|(apply zu1;first|refine zk ?_|refine zt1 ?_|refine za ?_)|(apply f_no;first|refine zh2 ?_|refine za ?_)|(apply f_pk;first|refine za2 (v:=.c _) ?_|refine za ?_)|(apply f_bb;first|refine zf2 ?_|refine zg2 ?_|refine za ?_)|refine zg4 ?_|refine za ?_)|(apply f_w;first|refine zv ?_|refine zc ?_)|(apply d_wo;first|(apply d_gs;first|refine o_sk ?_|refine zm4 ?_)|(apply d_bo;(refine o_gm ?_ ?_<;>intro hG<;>(try cases hG)))|(apply d_mv;refine zi ?_)|(apply d_as;refine zi ?_)|(apply d_bi;first|refine zt2 ?_|refine zs2 ?_|refine zu2 ?_|refine zd2 ?_|refine zd2 (hnu:=ze _) ?_|refine zn1 ?_|refine zn1 (hnu:=ze _) ?_|refine zi ?_)|(apply d_bb;first|refine zf1 ?_|refine zg1 ?_|refine zh1 ?_|refine zl3 ?_|refine zi ?_)|refine zu4 ?_|refine zi ?_)|(apply d_w;first|refine zv ?_|refine zc ?_)|refine zb fun C=>?_|refine zj (by kernel_rfl) (by kernel_rfl) fun C=>?_|refine zh ?_|refine zd ?_|refine zf ?_|refine zg ?_)
 refine ze3 (fun k:Nat=>⟨tmsF [(0,.c (.v (.string s))),(3,.c (.v (.int .i64 k)))],hpsF [],0,[],32⟩) (fun N k=>k+N=s.size∧∀j,j<k→setAtB s j=true) s.size 0 ⟨by omega,fun j hj=>by omega⟩ ?_ ?_
 ·(refine zr2 _ _ rfl rfl ?_ ?_<;>(repeat' (first|exact TmOk.nil|exact RwOk.nil|refine TmOk.cons ?_ ?_|refine RwOk.cons ?_ ?_|rfl|(refine rnV_id' rfl ?_;exact byc)|(refine zv2 ?_;first|rfl|omega|(rw [zv1 (by omega) (by omega)];omega))|(refine zl1 rfl ?_;exact byc)|exact zz3 rfl rfl|(refine zw2 (by rfl) (by rfl) ?_ ?_<;>exact byc)|(refine rw_rn' rfl rfl ?_;simp;done))))
 rintro N k ⟨hN,hall⟩
 repeat' (first|(apply f_wo;first|(apply f_gs;refine n_sk ?_)|(apply f_mv;first|(refine zb2 ?_ ?_<;>intro hG<;>(try cases hG))|refine zj1 (v:=.c _) ?_|refine za ?_)|(apply f_as;first|refine zi1 (v:=.c _) ?_|refine za ?_)|(apply f_bi;first|refine zb1 ?_|refine za1 ?_|refine zc1 ?_|refine za ?_)|(apply zw1;first|refine zl ?_|refine za ?_)|(apply zx3;first|refine zr1 ?_|refine za ?_)|(apply za4;first|refine zx8 ?_|refine za ?_)|(apply zu1;first|refine zk ?_|refine zt1 ?_|refine za ?_)|(apply f_no;first|refine zh2 ?_|refine za ?_)|(apply f_pk;first|refine za2 (v:=.c _) ?_|refine za ?_)|(apply f_bb;first|refine zf2 ?_|refine zg2 ?_|refine za ?_)|refine zg4 ?_|refine za ?_)|(apply f_w;first|refine zv ?_|refine zc ?_)|(apply d_wo;first|(apply d_gs;first|refine o_sk ?_|refine zm4 ?_)|(apply d_bo;(refine o_gm ?_ ?_<;>intro hG<;>(try cases hG)))|(apply d_mv;refine zi ?_)|(apply d_as;refine zi ?_)|(apply d_bi;first|refine zt2 ?_|refine zs2 ?_|refine zu2 ?_|refine zd2 ?_|refine zd2 (hnu:=ze _) ?_|refine zn1 ?_|refine zn1 (hnu:=ze _) ?_|refine zi ?_)|(apply d_bb;first|refine zf1 ?_|refine zg1 ?_|refine zh1 ?_|refine zl3 ?_|refine zi ?_)|refine zu4 ?_|refine zi ?_)|(apply d_w;first|refine zv ?_|refine zc ?_)|refine zb fun C=>?_|refine zj (by kernel_rfl) (by kernel_rfl) fun C=>?_|refine zh ?_|refine zd ?_|refine zf ?_|refine zg ?_)
 refine zn (by rfl) (fun h1=>?_) fun h1=>?_
 ·have hk:k<s.size:=by simpa using h1
  have hl:=zb15 (zw8 s k)
  cases k with
  | zero =>
   repeat' (first|(apply f_wo;first|(apply f_gs;refine n_sk ?_)|(apply f_mv;first|(refine zb2 ?_ ?_<;>intro hG<;>(try cases hG))|refine zj1 (v:=.c _) ?_|refine za ?_)|(apply f_as;first|refine zi1 (v:=.c _) ?_|refine za ?_)|(apply f_ca;first|refine zz2 hl ?_|refine zx2 hl ?_)|(apply f_bi;first|refine zb1 ?_|refine za1 ?_|refine zc1 ?_|refine za ?_)|(apply zw1;first|refine zl ?_|refine za ?_)|(apply zx3;first|refine zr1 ?_|refine za ?_)|(apply za4;first|refine zx8 ?_|refine za ?_)|(apply zu1;first|refine zk ?_|refine zt1 ?_|refine za ?_)|(apply f_no;first|refine zh2 ?_|refine za ?_)|(apply f_pk;first|refine za2 (v:=.c _) ?_|refine za ?_)|(apply f_bb;first|refine zf2 ?_|refine zg2 ?_|refine za ?_)|refine zg4 ?_|refine za ?_)|(apply f_w;first|refine zv ?_|refine zc ?_)|(apply d_wo;first|(apply d_gs;first|refine o_sk ?_|refine zm4 ?_)|(apply d_bo;(refine o_gm ?_ ?_<;>intro hG<;>(try cases hG)))|(apply d_mv;refine zi ?_)|(apply d_as;refine zi ?_)|(apply d_ca;first|refine zi5 hl ?_)|(apply d_bi;first|refine zt2 ?_|refine zs2 ?_|refine zu2 ?_|refine zd2 ?_|refine zd2 (hnu:=ze _) ?_|refine zn1 ?_|refine zn1 (hnu:=ze _) ?_|refine zi ?_)|(apply d_bb;first|refine zf1 ?_|refine zg1 ?_|refine zh1 ?_|refine zl3 ?_|refine zi ?_)|refine zu4 ?_|refine zi ?_)|(apply d_w;first|refine zv ?_|refine zc ?_)|refine zb fun C=>?_|refine zj (by kernel_rfl) (by kernel_rfl) fun C=>?_|refine zh ?_|refine zd ?_|refine zf ?_|refine zg ?_|(refine zn (by rfl) ?_ ?_<;>intro hC<;>(try cases hC)))
   all_goals first
    | (exfalso;revert hG;simp;done)
    | (refine zu ?_
       refine ret0 (x:=.c (.v (.bool false))) rfl zf3 ⟨?_,rfl⟩
       rw [zh11 hk (by unfold setAtB;simp_all)])
    | (refine⟨N-1,1,by omega,⟨by omega,fun j hj=>?_⟩,?_⟩
       ·obtain rfl:j=0:=by omega
        unfold setAtB;simp_all
       ·(refine zr2 _ _ rfl rfl ?_ ?_<;>(repeat' (first|exact TmOk.nil|exact RwOk.nil|refine TmOk.cons ?_ ?_|refine RwOk.cons ?_ ?_|rfl|(refine rnV_id' rfl ?_;exact byc)|(refine zv2 ?_;first|rfl|omega|(rw [zv1 (by omega) (by omega)];omega))|(refine zl1 rfl ?_;exact byc)|exact zz3 rfl rfl|(refine zw2 (by rfl) (by rfl) ?_ ?_<;>exact byc)|(refine rw_rn' rfl rfl ?_;simp;done)))))
  | succ m =>
   have hm:((m+1:Nat):Int)-1=(m:Int):=by omega
   repeat' (first|(apply f_wo;first|(apply f_gs;refine n_sk ?_)|(apply f_mv;first|(refine zb2 ?_ ?_<;>intro hG<;>(try cases hG))|refine zj1 (v:=.c _) ?_|refine za ?_)|(apply f_as;first|refine zi1 (v:=.c _) ?_|refine za ?_)|(apply f_ca;first|refine zz2 hl ?_|refine zx2 hl ?_)|(apply f_bi;first|refine zb1 ?_|refine za1 ?_|refine zc1 ?_|refine za ?_)|(apply zw1;first|refine zl ?_|refine za ?_)|(apply zx3;first|refine zr1 ?_|refine za ?_)|(apply za4;first|refine zx8 ?_|refine za ?_)|(apply zu1;first|refine zk ?_|refine zt1 ?_|refine za ?_)|(apply f_no;first|refine zh2 ?_|refine za ?_)|(apply f_pk;first|refine za2 (v:=.c _) ?_|refine za ?_)|(apply f_bb;first|refine zf2 ?_|refine zg2 ?_|refine za ?_)|refine zg4 ?_|refine za ?_)|(apply f_w;first|refine zv ?_|refine zc ?_)|(apply d_wo;first|(apply d_gs;first|refine o_sk ?_|refine zm4 ?_)|(apply d_bo;(refine o_gm ?_ ?_<;>intro hG<;>(try cases hG)))|(apply d_mv;refine zi ?_)|(apply d_as;refine zi ?_)|(apply d_ca;first|refine zi5 hl ?_)|(apply d_bi;first|refine zt2 ?_|refine zs2 ?_|refine zu2 ?_|refine zd2 ?_|refine zd2 (hnu:=ze _) ?_|refine zn1 ?_|refine zn1 (hnu:=ze _) ?_|refine zi ?_)|(apply d_bb;first|refine zf1 ?_|refine zg1 ?_|refine zh1 ?_|refine zl3 ?_|refine zi ?_)|refine zu4 ?_|refine zi ?_)|(apply d_w;first|refine zv ?_|refine zc ?_)|refine zb fun C=>?_|refine zj (by kernel_rfl) (by kernel_rfl) fun C=>?_|refine zh ?_|refine zd ?_|refine zf ?_|refine zg ?_|(refine zn (by rfl) ?_ ?_<;>intro hC<;>(try cases hC)))
   all_goals first
    | (refine zu ?_
       refine ret0 (x:=.c (.v (.bool false))) rfl zf3 ⟨?_,rfl⟩
       rw [zh11 hk (by unfold setAtB;simp_all;try omega)])
    | (refine⟨N-1,m+2,by omega,⟨by omega,fun j hj=>?_⟩,?_⟩
       ·rcases Nat.lt_or_ge j (m+1) with h|h
        ·exact hall j h
        ·obtain rfl:j=m+1:=by omega
         unfold setAtB;simp_all;try omega
       ·(refine zr2 _ _ rfl rfl ?_ ?_<;>(repeat' (first|exact TmOk.nil|exact RwOk.nil|refine TmOk.cons ?_ ?_|refine RwOk.cons ?_ ?_|rfl|(refine rnV_id' rfl ?_;exact byc)|(refine zv2 ?_;first|rfl|omega|(rw [zv1 (by omega) (by omega)];omega))|(refine zl1 rfl ?_;exact byc)|exact zz3 rfl rfl|(refine zw2 (by rfl) (by rfl) ?_ ?_<;>exact byc)|(refine rw_rn' rfl rfl ?_;simp;done)))))
    | skip
 ·repeat' (first|(apply f_wo;first|(apply f_gs;refine n_sk ?_)|(apply f_mv;first|(refine zb2 ?_ ?_<;>intro hG<;>(try cases hG))|refine zj1 (v:=.c _) ?_|refine za ?_)|(apply f_as;first|refine zi1 (v:=.c _) ?_|refine za ?_)|(apply f_ca;first|refine zz2 ((za7 _ _ _)) ?_|refine zx2 ((za7 _ _ _)) ?_)|(apply f_bi;first|refine zb1 ?_|refine za1 ?_|refine zc1 ?_|refine za ?_)|(apply zw1;first|refine zl ?_|refine za ?_)|(apply zx3;first|refine zr1 ?_|refine za ?_)|(apply za4;first|refine zx8 ?_|refine za ?_)|(apply zu1;first|refine zk ?_|refine zt1 ?_|refine za ?_)|(apply f_no;first|refine zh2 ?_|refine za ?_)|(apply f_pk;first|refine za2 (v:=.c _) ?_|refine za ?_)|(apply f_bb;first|refine zf2 ?_|refine zg2 ?_|refine za ?_)|refine zg4 ?_|refine za ?_)|(apply f_w;first|refine zv ?_|refine zc ?_)|(apply d_wo;first|(apply d_gs;first|refine o_sk ?_|refine zm4 ?_)|(apply d_bo;(refine o_gm ?_ ?_<;>intro hG<;>(try cases hG)))|(apply d_mv;refine zi ?_)|(apply d_as;refine zi ?_)|(apply d_ca;first|refine zi5 ((za7 _ _ _)) ?_)|(apply d_bi;first|refine zt2 ?_|refine zs2 ?_|refine zu2 ?_|refine zd2 ?_|refine zd2 (hnu:=ze _) ?_|refine zn1 ?_|refine zn1 (hnu:=ze _) ?_|refine zi ?_)|(apply d_bb;first|refine zf1 ?_|refine zg1 ?_|refine zh1 ?_|refine zl3 ?_|refine zi ?_)|refine zu4 ?_|refine zi ?_)|(apply d_w;first|refine zv ?_|refine zc ?_)|refine zb fun C=>?_|refine zj (by kernel_rfl) (by kernel_rfl) fun C=>?_|refine zh ?_|refine zd ?_|refine zf ?_|refine zg ?_|(refine zn (by rfl) ?_ ?_<;>intro hC<;>(try cases hC)))
  refine zu ?_
  refine ret0 rfl zf3 ⟨?_,rfl⟩
  rw [zt16 fun j hj=>hall j (by simp at h1;omega)]
  refine congrArg (fun s=>AV.c (AC.v (Value.bool s))) ?_
  unfold inR
  (rw [Bool.eq_iff_iff];(try simp only [Bool.and_eq_true,Bool.or_eq_true,Bool.not_eq_true',decide_eq_true_iff,decide_eq_false_iff_not,beq_iff_eq,Bool.and_eq_false_iff,Bool.or_eq_false_iff,bne_iff_ne,ne_eq,Bool.true_eq_false,Bool.false_eq_true,true_iff,false_iff,iff_true,iff_false] at *);first|omega|(simp at *;omega))
theorem sumS_le {g:E→Nat}{B:Nat}:∀(l:List E) (n:Nat),(∀x∈l,g x≤B)→sumS g l n≤max n (60+B)
 | [],n,_=>by unfold sumS;omega
 | x :: r,n,h=>by
  unfold sumS
  split
  ·have h1:=h x List.mem_cons_self
   have:=sumS_le r (n+g x) fun y hy=>h y (List.mem_cons_of_mem _ hy)
   omega
  ·omega
theorem zy16:∀(f:Nat) (e:E),partsS f e≤61+60*f
 | 0,_=>by unfold partsS;omega
 | f+1,e=>by
  have:=sumS_le e.rl 1 fun x _=>zy16 f x
  unfold partsS;omega
theorem sumS_done {g:E→Nat}:∀(l:List E) {n:Nat},60<n→sumS g l n=n
 | [],_,_=>rfl
 | x :: r,n,h=>by unfold sumS;rw [if_neg (by omega)]
set_option maxHeartbeats 4000000 in
theorem l3Parts_n (f:Nat):∀(e:E) (deep:Nat),f≤6→e.Ty Tryz.prog 208→e.sz≤4194304→deep+f=7→Ctr Tryz.prog 211 [.ag (acE e),.c (.v (.int .i64 (deep:Int)))] [] (.c (.v (.int .i64 ((partsS f e:Nat):Int)))) []:=by
 induction f with
 | zero =>
  intro e deep hf he hsz hd
  obtain⟨x0,x1,x2A,x2c,l,rfl,gx0,gx1,gx2,-⟩:=zy1 he
  obtain rfl:deep=7:=by omega
  refine zo2 Tryz.func211 rfl rfl ?_
  repeat' (first|(apply f_wo;first|(apply f_gs;refine n_sk ?_)|(apply f_mv;first|(refine zb2 ?_ ?_<;>intro hG<;>(try cases hG))|refine zj1 (v:=.c _) ?_|refine za ?_)|(apply f_as;first|refine zi1 (v:=.c _) ?_|refine za ?_)|(apply f_fa;first|refine n_fa ?_|refine zm1 ?_)|(apply f_ld;first|refine zw ?_|refine zo1 ?_|refine n_ld ?_)|(apply f_bi;first|refine zb1 ?_|refine za1 ?_|refine zc1 ?_|refine za ?_)|(apply f_ia;first|refine n_ix ?_|refine zz1 ?_|refine za ?_)|(apply zw1;first|refine zl ?_|refine za ?_)|(apply zl6;first|refine zw3 ?_|refine za ?_)|(apply zx3;first|refine zr1 ?_|refine za ?_)|(apply zu1;first|refine zk ?_|refine zt1 ?_|refine za ?_)|(apply f_pk;first|refine za2 (v:=.c _) ?_|refine za ?_)|refine n_bo ?_|refine za ?_)|(apply f_w;first|refine zv ?_|refine zc ?_)|refine zb fun C=>?_|refine zh ?_|refine zd ?_|refine zf ?_|refine zg ?_|refine zt rfl ?_|refine zp rfl ?_)
  refine zu ?_
  exact ret0 (x:=.c (.v (.int .i64 61))) rfl zf3 ⟨rfl,rfl⟩
 | succ f ih =>
  intro e deep hf he hsz hd
  obtain⟨x0,x1,x2A,x2c,l,rfl,gx0,gx1,gx2,-⟩:=zy1 he
  simp only [E.sz,E.szL] at hsz
  have hl:l.length≤4194304:=by omega
  refine zo2 Tryz.func211 rfl rfl ?_
  have hres:partsS (f+1) (E.agg [.int .i64 x0,.str x1,.lst 3 208 x2A x2c l])=sumS (partsS f) l 1:=rfl
  rw [hres]
  clear hres
  generalize hT:sumS (partsS f) l 1=tot
  repeat' (first|(apply f_wo;first|(apply f_gs;refine n_sk ?_)|(apply f_mv;first|(refine zb2 ?_ ?_<;>intro hG<;>(try cases hG))|refine zj1 (v:=.c _) ?_|refine za ?_)|(apply f_as;first|refine zi1 (v:=.c _) ?_|refine za ?_)|(apply f_fa;first|refine n_fa ?_|refine zm1 ?_)|(apply f_ld;first|refine zw ?_|refine zo1 ?_|refine n_ld ?_)|(apply f_bi;first|refine zb1 ?_|refine za1 ?_|refine zc1 ?_|refine za ?_)|(apply f_ia;first|refine n_ix ?_|refine zz1 ?_|refine za ?_)|(apply zw1;first|refine zl ?_|refine za ?_)|(apply zl6;first|refine zw3 ?_|refine za ?_)|(apply zx3;first|refine zr1 ?_|refine za ?_)|(apply zu1;first|refine zk ?_|refine zt1 ?_|refine za ?_)|(apply f_pk;first|refine za2 (v:=.c _) ?_|refine za ?_)|refine n_bo ?_|refine za ?_)|(apply f_w;first|refine zv ?_|refine zc ?_)|refine zb fun C=>?_|refine zh ?_|refine zd ?_|refine zf ?_|refine zg ?_)
  refine zn (by rfl) (fun h=>by exfalso;simp at h;omega) fun _=>?_
  repeat' (first|(apply f_wo;first|(apply f_gs;refine n_sk ?_)|(apply f_mv;first|(refine zb2 ?_ ?_<;>intro hG<;>(try cases hG))|refine zj1 (v:=.c _) ?_|refine za ?_)|(apply f_as;first|refine zi1 (v:=.c _) ?_|refine za ?_)|(apply f_fa;first|refine n_fa ?_|refine zm1 ?_)|(apply f_ld;first|refine zw ?_|refine zo1 ?_|refine n_ld ?_)|(apply f_bi;first|refine zb1 ?_|refine za1 ?_|refine zc1 ?_|refine za ?_)|(apply f_ia;first|refine n_ix ?_|refine zz1 ?_|refine za ?_)|(apply zw1;first|refine zl ?_|refine za ?_)|(apply zl6;first|refine zw3 ?_|refine za ?_)|(apply zx3;first|refine zr1 ?_|refine za ?_)|(apply zu1;first|refine zk ?_|refine zt1 ?_|refine za ?_)|(apply f_pk;first|refine za2 (v:=.c _) ?_|refine za ?_)|refine n_bo ?_|refine za ?_)|(apply f_w;first|refine zv ?_|refine zc ?_)|refine zb fun C=>?_|refine zh ?_|refine zd ?_|refine zf ?_|refine zg ?_)
  refine ze3 (fun d:Nat×Nat=>⟨tmsF [(1,.c (.v (.int .i64 (deep:Int)))),(2,.c (.pt 2 0)),(5,.c (.v (.int .i64 (d.2:Int)))),(6,.c (.v (.int .i64 (d.1:Int))))],hpsF [(2,2,⟨208,0,0,true,[.v (.int .i64 x0),.v (.string x1),.ro l.length 3 (acL l)]⟩)],0,[2],31⟩) (fun N d=>d.1+N=l.length∧d.2≤600∧sumS (partsS f) (l.drop d.1) d.2=tot) l.length (0,1) ⟨by simp,by simp,hT⟩ ?_ ?_
  ·(refine zr2 _ _ rfl rfl ?_ ?_<;>(repeat' (first|exact TmOk.nil|exact RwOk.nil|refine TmOk.cons ?_ ?_|refine RwOk.cons ?_ ?_|rfl|(refine rnV_id' rfl ?_;exact byc)|(refine zv2 ?_;first|rfl|omega|(rw [zv1 (by omega) (by omega)];omega))|(refine zl1 rfl ?_;exact byc)|exact zz3 rfl rfl|(refine zw2 (by rfl) (by rfl) ?_ ?_<;>exact byc)|(refine rw_rn' rfl rfl ?_;simp;done))))
  rintro N ⟨k,n⟩ ⟨hN,hn,hs⟩
  dsimp only at hN hn hs ⊢
  repeat' (first|(apply f_wo;first|(apply f_gs;refine n_sk ?_)|(apply f_mv;first|(refine zb2 ?_ ?_<;>intro hG<;>(try cases hG))|refine zj1 (v:=.c _) ?_|refine za ?_)|(apply f_as;first|refine zi1 (v:=.c _) ?_|refine za ?_)|(apply f_fa;first|refine n_fa ?_|refine zm1 ?_)|(apply f_ld;first|refine zw ?_|refine zo1 ?_|refine n_ld ?_)|(apply f_bi;first|refine zb1 ?_|refine za1 ?_|refine zc1 ?_|refine za ?_)|(apply f_ia;first|refine n_ix ?_|refine zz1 ?_|refine za ?_)|(apply zw1;first|refine zl ?_|refine za ?_)|(apply zl6;first|refine zw3 ?_|refine za ?_)|(apply zx3;first|refine zr1 ?_|refine za ?_)|(apply zu1;first|refine zk ?_|refine zt1 ?_|refine za ?_)|(apply f_pk;first|refine za2 (v:=.c _) ?_|refine za ?_)|refine n_bo ?_|refine za ?_)|(apply f_w;first|refine zv ?_|refine zc ?_)|refine zb fun C=>?_|refine zh ?_|refine zd ?_|refine zf ?_|refine zg ?_)
  ·have hk:k<l.length:=by simpa using hG
   obtain⟨x,hx⟩:∃x,l[k]? = some x:=⟨_,List.getElem?_eq_getElem hk⟩
   have hd1:l.drop k=x :: l.drop (k+1):=by rw [List.drop_eq_getElem_cons hk];congr 1;rw [List.getElem?_eq_getElem hk] at hx;exact Option.some.inj hx
   refine zn (by rfl) (fun h2=>?_) fun h2=>?_
   ·have hn2:n≤60:=by simp only [decide_eq_true_iff] at h2;omega
    have hxt:=gx2.1 x (List.mem_of_getElem? hx)
    have hxs:=E.szL_mem (List.mem_of_getElem? hx)
    have hc:=ih x (deep+1) (by omega) hxt (by omega) (by omega)
    have hb:=zy16 f x
    rw [hd1] at hs
    unfold sumS at hs
    rw [if_pos hn2] at hs
    have hgk:=gx2.2
    obtain⟨y0,y1,y2A,y2c,y2l,rfl,gy0,gy1,gy2,-⟩:=zy1 hxt
    repeat' (first|(apply f_wo;first|(apply f_gs;refine n_sk ?_)|(apply f_mv;first|(refine zb2 ?_ ?_<;>intro hG<;>(try cases hG))|refine zj1 (v:=.c _) ?_|refine za ?_)|(apply f_as;first|refine zi1 (v:=.c _) ?_|refine za ?_)|(apply f_fa;first|refine n_fa ?_|refine zm1 ?_)|(apply f_ld;first|refine zw ?_|refine zo1 ?_|refine n_ld ?_)|(apply f_ca;first|refine zz2 hc ?_|refine zx2 hc ?_)|(apply f_bi;first|refine zb1 ?_|refine za1 ?_|refine zc1 ?_|refine za ?_)|(apply f_ia;first|refine n_ix ?_|refine zz1 ?_|refine za ?_)|(apply zw1;first|refine zl ?_|refine za ?_)|(apply zl6;first|refine zw3 ?_|refine za ?_)|(apply zx3;first|refine zr1 ?_|refine za ?_)|(apply zu1;first|refine zk ?_|refine zt1 ?_|refine za ?_)|(apply f_pk;first|refine za2 (v:=.c _) ?_|refine za ?_)|refine n_bo ?_|refine za ?_)|(apply f_w;first|refine zv ?_|refine zc ?_)|refine zb fun C=>?_|refine zh ?_|refine zd ?_|refine zf ?_|refine zg ?_|(refine zn (by rfl) ?_ ?_<;>intro hC<;>(try cases hC)))
    refine⟨N-1,(k+1,n+partsS f (E.agg [.int .i64 y0,.str y1,.lst 3 208 y2A y2c y2l])),by omega,⟨by dsimp only;omega,by dsimp only;omega,hs⟩,?_⟩
    (refine zr2 _ _ rfl rfl ?_ ?_<;>(repeat' (first|exact TmOk.nil|exact RwOk.nil|refine TmOk.cons ?_ ?_|refine RwOk.cons ?_ ?_|rfl|(refine rnV_id' rfl ?_;exact byc)|(refine zv2 ?_;first|rfl|omega|(rw [zv1 (by omega) (by omega)];omega))|(refine zl1 rfl ?_;exact byc)|exact zz3 rfl rfl|(refine zw2 (by rfl) (by rfl) ?_ ?_<;>exact byc)|(refine rw_rn' rfl rfl ?_;simp;done))))
   ·have hn2:60<n:=by simp only [decide_eq_false_iff_not] at h2;omega
    rw [sumS_done _ hn2] at hs
    repeat' (first|(apply f_wo;first|(apply f_gs;refine n_sk ?_)|(apply f_mv;first|(refine zb2 ?_ ?_<;>intro hG<;>(try cases hG))|refine zj1 (v:=.c _) ?_|refine za ?_)|(apply f_as;first|refine zi1 (v:=.c _) ?_|refine za ?_)|(apply f_fa;first|refine n_fa ?_|refine zm1 ?_)|(apply f_ld;first|refine zw ?_|refine zo1 ?_|refine n_ld ?_)|(apply f_bi;first|refine zb1 ?_|refine za1 ?_|refine zc1 ?_|refine za ?_)|(apply f_ia;first|refine n_ix ?_|refine zz1 ?_|refine za ?_)|(apply zw1;first|refine zl ?_|refine za ?_)|(apply zl6;first|refine zw3 ?_|refine za ?_)|(apply zx3;first|refine zr1 ?_|refine za ?_)|(apply zu1;first|refine zk ?_|refine zt1 ?_|refine za ?_)|(apply f_pk;first|refine za2 (v:=.c _) ?_|refine za ?_)|refine n_bo ?_|refine za ?_)|(apply f_w;first|refine zv ?_|refine zc ?_)|refine zb fun C=>?_|refine zh ?_|refine zd ?_|refine zf ?_|refine zg ?_|(refine zn (by rfl) ?_ ?_<;>intro hC<;>(try cases hC)))
    refine zu ?_
    refine ret0 (x:=.c (.v (.int .i64 (n:Int)))) rfl zf3 ⟨?_,rfl⟩
    rw [hs]
  ·have hk:k=l.length:=by simp at hG;omega
   repeat' (first|(apply f_wo;first|(apply f_gs;refine n_sk ?_)|(apply f_mv;first|(refine zb2 ?_ ?_<;>intro hG<;>(try cases hG))|refine zj1 (v:=.c _) ?_|refine za ?_)|(apply f_as;first|refine zi1 (v:=.c _) ?_|refine za ?_)|(apply f_fa;first|refine n_fa ?_|refine zm1 ?_)|(apply f_ld;first|refine zw ?_|refine zo1 ?_|refine n_ld ?_)|(apply f_bi;first|refine zb1 ?_|refine za1 ?_|refine zc1 ?_|refine za ?_)|(apply f_ia;first|refine n_ix ?_|refine zz1 ?_|refine za ?_)|(apply zw1;first|refine zl ?_|refine za ?_)|(apply zl6;first|refine zw3 ?_|refine za ?_)|(apply zx3;first|refine zr1 ?_|refine za ?_)|(apply zu1;first|refine zk ?_|refine zt1 ?_|refine za ?_)|(apply f_pk;first|refine za2 (v:=.c _) ?_|refine za ?_)|refine n_bo ?_|refine za ?_)|(apply f_w;first|refine zv ?_|refine zc ?_)|refine zb fun C=>?_|refine zh ?_|refine zd ?_|refine zf ?_|refine zg ?_|refine zt rfl ?_|refine zp rfl ?_)
   refine zu ?_
   refine ret0 (x:=.c (.v (.int .i64 (n:Int)))) rfl zf3 ⟨?_,rfl⟩
   rw [hk,List.drop_length] at hs
   rw [←hs];rfl
end Go.Proofs.YtghljnfbbaklnaaGreat
