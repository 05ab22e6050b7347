/- The reference's RexOk, RexText: by the abstract machine. -/
import Derived.Test.YtghljnfbbaklnaaGreatPutModuleAA
namespace Go.Proofs.YtghljnfbbaklnaaGreat
open Go.RowKit
set_option maxRecDepth 100000
theorem partsS_to {f:Nat}{e:E}(h:partsS (f+1) e≤60):∀x∈e.rl,partsS f x≤60:=by unfold partsS at h;exact (zc12 h).2
def kidOk (f:Nat)(k:Int)(x:E):Bool:=okS f x&&!(x.rk==k&&!loopK k)
theorem okS_all {f:Nat}{x0:Int}{x1:ByteArray}{A:Option Addr}{c:Nat}{l:List E}:okS (f+1) (E.agg [.int .i64 x0,.str x1,.lst 3 208 A c l])=(l.all (kidOk f x0)&&headR x0 x1 l):=rfl
theorem ze20 {p:E→Bool}{l:List E}{k:Nat}{x:E}(hx:l[k]? = some x)(h:p x=false):l.all p=false:=List.all_eq_false.2 ⟨x,List.mem_of_getElem? hx,by simp [h]⟩
theorem zc15 {p:E→Bool}{l:List E}(h:∀j y,j<l.length→l[j]? = some y→p y=true):l.all p=true:=List.all_eq_true.2 fun y hy=>by
 obtain⟨j,hj,rfl⟩:=List.getElem_of_mem hy
 exact h j _ hj (List.getElem?_eq_getElem hj)
set_option maxHeartbeats 8000000 in
theorem l3Ok_n (f:Nat):∀(e:E),e.Ty Tryz.prog 208→e.sz≤4194304→partsS f e≤60→Ctr Tryz.prog 212 [.ag (acE e)] [] (.c (.v (.bool (okS f e)))) []:=by
 induction f with
 | zero=>intro e _ _ h;exact absurd h (by unfold partsS;omega)
 | succ f ih =>
  intro e he hsz hp
  have hkid:=partsS_to hp
  obtain⟨x0,x1,x2A,x2c,l,rfl,gx0,gx1,gx2,-⟩:=zy1 he
  have hkid:∀x∈l,partsS f x≤60:=hkid
  simp only [E.sz,E.szL] at hsz
  have hl:l.length≤4194304:=by omega
  rw [okS_all]
  refine zo2 Tryz.func212 rfl rfl ?_
  repeat' (first|(apply f_wo;first|(apply f_gs;refine n_sk ?_)|(apply f_mv;first|(refine zb2 ?_ ?_<;>intro hG<;>(try cases hG))|refine zj1 (v:=.c _) ?_|refine za ?_)|(apply f_as;first|refine zi1 (v:=.c _) ?_|refine za ?_)|(apply f_fa;first|refine n_fa ?_|refine zm1 ?_)|(apply f_ld;first|refine zq1 ?_|refine zx ?_|refine zw ?_|refine zo1 ?_|refine n_ld ?_)|(apply f_bi;first|refine zb1 ?_|refine za1 ?_|refine zc1 ?_|refine za ?_)|(apply f_ia;first|refine n_ix ?_|refine zz1 ?_|refine za ?_)|(apply ze2;first|refine zy ?_|refine zw4 ?_|refine za ?_)|(apply zw1;first|refine zl ?_|refine za ?_)|(apply zu1;first|refine zk ?_|refine zt1 ?_|refine za ?_)|(apply f_no;first|refine zh2 ?_|refine za ?_)|(apply f_pk;first|refine za2 (v:=.c _) ?_|refine za ?_)|refine n_bo ?_|refine zg4 ?_|refine za ?_)|(apply f_w;first|refine zv ?_|refine zc ?_)|(apply d_wo;first|(apply d_gs;first|refine o_sk ?_|refine zm4 ?_)|(apply d_bo;(refine o_gm ?_ ?_<;>intro hG<;>(try cases hG)))|(apply d_mv;refine zi ?_)|(apply d_as;refine zi ?_)|(apply d_fa;first|refine o_fa ?_|refine zn3 ?_)|(apply d_ld;first|refine zo3 ?_|refine zk2 ?_|refine zl2 ?_|refine zp3 ?_|refine zi ?_|refine o_ld ?_)|(apply d_bi;first|refine zt2 ?_|refine zs2 ?_|refine zu2 ?_|refine zd2 ?_|refine zd2 (hnu:=ze _) ?_|refine zn1 ?_|refine zn1 (hnu:=ze _) ?_|refine zi ?_)|(apply d_ia;first|refine o_ix ?_|refine zx4 ?_|refine zi ?_)|(apply d_bb;first|refine zf1 ?_|refine zg1 ?_|refine zh1 ?_|refine zl3 ?_|refine zi ?_)|refine o_bo ?_|refine zu4 ?_|refine zi ?_)|(apply d_w;first|refine zv ?_|refine zc ?_)|refine zb fun C=>?_|refine zj (by kernel_rfl) (by kernel_rfl) fun C=>?_|refine zh ?_|refine zd ?_|refine zf ?_|refine zg ?_)
  refine ze3 (fun k:Nat=>⟨tmsF [(1,.c (.pt 1 0)),(3,.c (.v (.int .i64 (k:Int))))],hpsF [(1,1,⟨208,0,0,true,[.v (.int .i64 x0),.v (.string x1),.ro l.length 3 (acL l)]⟩)],0,[1],114⟩) (fun N k=>k+N=l.length∧∀j y,j<k→l[j]? = some y→kidOk f x0 y=true) l.length 0 ⟨by omega,by omega⟩ ?_ ?_
  ·(refine zr2 _ _ rfl rfl ?_ ?_<;>(repeat' (first|exact TmOk.nil|exact RwOk.nil|refine TmOk.cons ?_ ?_|refine RwOk.cons ?_ ?_|rfl|(refine rnV_id' rfl ?_;exact byc)|(refine zv2 ?_;first|rfl|omega|(rw [zv1 (by omega) (by omega)];omega))|(refine zl1 rfl ?_;exact byc)|exact zz3 rfl rfl|(refine zw2 (by rfl) (by rfl) ?_ ?_<;>exact byc)|(refine rw_rn' rfl rfl ?_;simp;done))))
  rintro N k ⟨hN,hno⟩
  repeat' (first|(apply f_wo;first|(apply f_gs;refine n_sk ?_)|(apply f_mv;first|(refine zb2 ?_ ?_<;>intro hG<;>(try cases hG))|refine zj1 (v:=.c _) ?_|refine za ?_)|(apply f_as;first|refine zi1 (v:=.c _) ?_|refine za ?_)|(apply f_fa;first|refine n_fa ?_|refine zm1 ?_)|(apply f_ld;first|refine zq1 ?_|refine zx ?_|refine zw ?_|refine zo1 ?_|refine n_ld ?_)|(apply f_bi;first|refine zb1 ?_|refine za1 ?_|refine zc1 ?_|refine za ?_)|(apply f_ia;first|refine n_ix ?_|refine zz1 ?_|refine za ?_)|(apply ze2;first|refine zy ?_|refine zw4 ?_|refine za ?_)|(apply zw1;first|refine zl ?_|refine za ?_)|(apply zu1;first|refine zk ?_|refine zt1 ?_|refine za ?_)|(apply f_no;first|refine zh2 ?_|refine za ?_)|(apply f_pk;first|refine za2 (v:=.c _) ?_|refine za ?_)|refine n_bo ?_|refine zg4 ?_|refine za ?_)|(apply f_w;first|refine zv ?_|refine zc ?_)|(apply d_wo;first|(apply d_gs;first|refine o_sk ?_|refine zm4 ?_)|(apply d_bo;(refine o_gm ?_ ?_<;>intro hG<;>(try cases hG)))|(apply d_mv;refine zi ?_)|(apply d_as;refine zi ?_)|(apply d_fa;first|refine o_fa ?_|refine zn3 ?_)|(apply d_ld;first|refine zo3 ?_|refine zk2 ?_|refine zl2 ?_|refine zp3 ?_|refine zi ?_|refine o_ld ?_)|(apply d_bi;first|refine zt2 ?_|refine zs2 ?_|refine zu2 ?_|refine zd2 ?_|refine zd2 (hnu:=ze _) ?_|refine zn1 ?_|refine zn1 (hnu:=ze _) ?_|refine zi ?_)|(apply d_ia;first|refine o_ix ?_|refine zx4 ?_|refine zi ?_)|(apply d_bb;first|refine zf1 ?_|refine zg1 ?_|refine zh1 ?_|refine zl3 ?_|refine zi ?_)|refine o_bo ?_|refine zu4 ?_|refine zi ?_)|(apply d_w;first|refine zv ?_|refine zc ?_)|refine zb fun C=>?_|refine zj (by kernel_rfl) (by kernel_rfl) fun C=>?_|refine zh ?_|refine zd ?_|refine zf ?_|refine zg ?_)
  refine zn (by rfl) (fun h1=>?_) fun h1=>?_
  ·have hk':k<l.length:=by simpa using h1
   obtain⟨x,hx⟩:∃x,l[k]? = some x:=⟨_,List.getElem?_eq_getElem hk'⟩
   have hxm:=List.mem_of_getElem? hx
   have hxt:=gx2.1 x hxm
   have hxz:=E.szL_mem hxm
   have hgk:=gx2.2
   have hc:=ih x hxt (by omega) (hkid x hxm)
   have hrk:∀y0 y1 A c l',x=E.agg [.int .i64 y0,.str y1,.lst 3 208 A c l']→kidOk f x0 x=(okS f x&&!(y0==x0&&!loopK x0)):=fun y0 y1 A c l' e=>by subst e;rfl
   obtain⟨y0,y1,y2A,y2c,y2l,rfl,gy0,gy1,gy2,-⟩:=zy1 hxt
   have hrk:=hrk _ _ _ _ _ rfl
   generalize hok:okS f (E.agg [E.int IntKind.i64 y0,E.str y1,E.lst 3 208 y2A y2c y2l])=ok at hc hrk
   repeat' (first|(apply f_wo;first|(apply f_gs;refine n_sk ?_)|(apply f_mv;first|(refine zb2 ?_ ?_<;>intro hG<;>(try cases hG))|refine zj1 (v:=.c _) ?_|refine za ?_)|(apply f_as;first|refine zi1 (v:=.c _) ?_|refine za ?_)|(apply f_fa;first|refine n_fa ?_|refine zm1 ?_)|(apply f_ld;first|refine zq1 ?_|refine zx ?_|refine zw ?_|refine zo1 ?_|refine n_ld ?_)|(apply f_ca;first|refine zz2 hc ?_|refine zx2 hc ?_|refine zz2 ((ze6 _)) ?_|refine zx2 ((ze6 _)) ?_)|(apply f_bi;first|refine zb1 ?_|refine za1 ?_|refine zc1 ?_|refine za ?_)|(apply f_ia;first|refine n_ix ?_|refine zz1 ?_|refine za ?_)|(apply ze2;first|refine zy ?_|refine zw4 ?_|refine za ?_)|(apply zw1;first|refine zl ?_|refine za ?_)|(apply zu1;first|refine zk ?_|refine zt1 ?_|refine za ?_)|(apply f_no;first|refine zh2 ?_|refine za ?_)|(apply f_pk;first|refine za2 (v:=.c _) ?_|refine za ?_)|refine n_bo ?_|refine zg4 ?_|refine za ?_)|(apply f_w;first|refine zv ?_|refine zc ?_)|(apply d_wo;first|(apply d_gs;first|refine o_sk ?_|refine zm4 ?_)|(apply d_bo;(refine o_gm ?_ ?_<;>intro hG<;>(try cases hG)))|(apply d_mv;refine zi ?_)|(apply d_as;refine zi ?_)|(apply d_fa;first|refine o_fa ?_|refine zn3 ?_)|(apply d_ld;first|refine zo3 ?_|refine zk2 ?_|refine zl2 ?_|refine zp3 ?_|refine zi ?_|refine o_ld ?_)|(apply d_ca;first|refine zi5 hc ?_|refine zi5 ((ze6 _)) ?_)|(apply d_bi;first|refine zt2 ?_|refine zs2 ?_|refine zu2 ?_|refine zd2 ?_|refine zd2 (hnu:=ze _) ?_|refine zn1 ?_|refine zn1 (hnu:=ze _) ?_|refine zi ?_)|(apply d_ia;first|refine o_ix ?_|refine zx4 ?_|refine zi ?_)|(apply d_bb;first|refine zf1 ?_|refine zg1 ?_|refine zh1 ?_|refine zl3 ?_|refine zi ?_)|refine o_bo ?_|refine zu4 ?_|refine zi ?_)|(apply d_w;first|refine zv ?_|refine zc ?_)|refine zb fun C=>?_|refine zj (by kernel_rfl) (by kernel_rfl) fun C=>?_|refine zh ?_|refine zd ?_|refine zf ?_|refine zg ?_|(refine zn (by rfl) ?_ ?_<;>intro hC<;>(try cases hC)))
   all_goals first
    | (refine zu ?_
       refine ret0 (x:=.c (.v (.bool false))) rfl zf3 ⟨?_,rfl⟩
       rw [ze20 hx (by rw [hrk];clear hc ih;simp_all),Bool.false_and])
    | (refine⟨N-1,k+1,by omega,⟨by omega,fun j z hj hz=>?_⟩,?_⟩
       ·by_cases e:j=k
        ·rw [e,hx] at hz;injection hz with hz;subst hz;rw [hrk];clear hc ih;simp_all
        ·exact hno j z (by omega) hz
       ·(refine zr2 _ _ rfl rfl ?_ ?_<;>(repeat' (first|exact TmOk.nil|exact RwOk.nil|refine TmOk.cons ?_ ?_|refine RwOk.cons ?_ ?_|rfl|(refine rnV_id' rfl ?_;exact byc)|(refine zv2 ?_;first|rfl|omega|(rw [zv1 (by omega) (by omega)];omega))|(refine zl1 rfl ?_;exact byc)|exact zz3 rfl rfl|(refine zw2 (by rfl) (by rfl) ?_ ?_<;>exact byc)|(refine rw_rn' rfl rfl ?_;simp;done)))))
  ·have hk':¬k<l.length:=by simpa using h1
   rw [zc15 (p:=kidOk f x0) fun j y hj hy=>hno j y (by omega) hy,Bool.true_and]
   clear hno h1 ih hN hp
   have c1:=l3Set_c (s:=x1) (by omega)
   have c2:=zb15 (zw8 x1 0)
   by_cases hin:x0=1∨x0=2∨x0=3∨x0=4∨x0=5∨x0=9∨x0=10∨x0=11
   ·rcases hin with rfl|rfl|rfl|rfl|rfl|rfl|rfl|rfl
    all_goals
     repeat' (first|(apply f_wo;first|(apply f_gs;refine n_sk ?_)|(apply f_mv;first|(refine zb2 ?_ ?_<;>intro hG<;>(try cases hG))|refine zj1 (v:=.c _) ?_|refine za ?_)|(apply f_as;first|refine zi1 (v:=.c _) ?_|refine za ?_)|(apply f_fa;first|refine n_fa ?_|refine zm1 ?_)|(apply f_ld;first|refine zq1 ?_|refine zx ?_|refine zw ?_|refine zo1 ?_|refine n_ld ?_)|(apply f_ca;first|refine zz2 c1 ?_|refine zx2 c1 ?_|refine zz2 c2 ?_|refine zx2 c2 ?_|refine zz2 ((za7 _ _ _)) ?_|refine zx2 ((za7 _ _ _)) ?_)|(apply f_bi;first|refine zb1 ?_|refine za1 ?_|refine zc1 ?_|refine za ?_)|(apply f_ia;first|refine n_ix ?_|refine zz1 ?_|refine za ?_)|(apply ze2;first|refine zy ?_|refine zw4 ?_|refine za ?_)|(apply zw1;first|refine zl ?_|refine za ?_)|(apply zu1;first|refine zk ?_|refine zt1 ?_|refine za ?_)|(apply f_no;first|refine zh2 ?_|refine za ?_)|(apply f_pk;first|refine za2 (v:=.c _) ?_|refine za ?_)|refine n_bo ?_|refine zg4 ?_|refine za ?_)|(apply f_w;first|refine zv ?_|refine zc ?_)|(apply d_wo;first|(apply d_gs;first|refine o_sk ?_|refine zm4 ?_)|(apply d_bo;(refine o_gm ?_ ?_<;>intro hG<;>(try cases hG)))|(apply d_mv;refine zi ?_)|(apply d_as;refine zi ?_)|(apply d_fa;first|refine o_fa ?_|refine zn3 ?_)|(apply d_ld;first|refine zo3 ?_|refine zk2 ?_|refine zl2 ?_|refine zp3 ?_|refine zi ?_|refine o_ld ?_)|(apply d_ca;first|refine zi5 c1 ?_|refine zi5 c2 ?_|refine zi5 ((za7 _ _ _)) ?_)|(apply d_bi;first|refine zt2 ?_|refine zs2 ?_|refine zu2 ?_|refine zd2 ?_|refine zd2 (hnu:=ze _) ?_|refine zn1 ?_|refine zn1 (hnu:=ze _) ?_|refine zi ?_)|(apply d_ia;first|refine o_ix ?_|refine zx4 ?_|refine zi ?_)|(apply d_bb;first|refine zf1 ?_|refine zg1 ?_|refine zh1 ?_|refine zl3 ?_|refine zi ?_)|refine o_bo ?_|refine zu4 ?_|refine zi ?_)|(apply d_w;first|refine zv ?_|refine zc ?_)|refine zb fun C=>?_|refine zj (by kernel_rfl) (by kernel_rfl) fun C=>?_|refine zh ?_|refine zd ?_|refine zf ?_|refine zg ?_|(refine zn (by rfl) ?_ ?_<;>intro hC<;>(try cases hC)))
    all_goals
     (first|refine zu ?_|skip);refine ret0 rfl zf3 ⟨?_,rfl⟩;refine congrArg (fun s=>AV.c (AC.v (Value.bool s))) ?_
     clear c1 c2 gx0 gx1 gx2 he hsz hkid
     unfold headR
     (try simp only [zy14,ib0,ib1,inR28] at *)
     first
      | (simp_all;done)
      | (simp_all;intros;omega)
   by_cases hlp:x0=6∨x0=7∨x0=8
   ·by_cases hl1:l.length=1
    ·obtain⟨y,hy⟩:∃y,l[0]? = some y:=⟨_,List.getElem?_eq_getElem (by omega)⟩
     have hl2:l=[y]:=za20 hl1 hy
     have hyt:=gx2.1 y (List.mem_of_getElem? hy)
     have hgk:=gx2.2
     obtain⟨y0,y1,y2A,y2c,y2l,rfl,gy0,gy1,gy2,-⟩:=zy1 hyt
     have hr:headR x0 x1 l=(x1.size==0&&!(loopK y0)):=by
      rw [hl2];unfold headR
      rcases hlp with rfl|rfl|rfl<;>simp [E.rk]
     rw [hr]
     clear hr
     rcases hlp with rfl|rfl|rfl
     all_goals
      repeat' (first|(apply f_wo;first|(apply f_gs;refine n_sk ?_)|(apply f_mv;first|(refine zb2 ?_ ?_<;>intro hG<;>(try cases hG))|refine zj1 (v:=.c _) ?_|refine za ?_)|(apply f_as;first|refine zi1 (v:=.c _) ?_|refine za ?_)|(apply f_fa;first|refine n_fa ?_|refine zm1 ?_)|(apply f_ld;first|refine zq1 ?_|refine zx ?_|refine zw ?_|refine zo1 ?_|refine n_ld ?_)|(apply f_ca;first|refine zz2 ((ze6 _)) ?_|refine zx2 ((ze6 _)) ?_)|(apply f_bi;first|refine zb1 ?_|refine za1 ?_|refine zc1 ?_|refine za ?_)|(apply f_ia;first|refine n_ix ?_|refine zz1 ?_|refine za ?_)|(apply ze2;first|refine zy ?_|refine zw4 ?_|refine za ?_)|(apply zw1;first|refine zl ?_|refine za ?_)|(apply zu1;first|refine zk ?_|refine zt1 ?_|refine za ?_)|(apply f_no;first|refine zh2 ?_|refine za ?_)|(apply f_pk;first|refine za2 (v:=.c _) ?_|refine za ?_)|refine n_bo ?_|refine zg4 ?_|refine za ?_)|(apply f_w;first|refine zv ?_|refine zc ?_)|(apply d_wo;first|(apply d_gs;first|refine o_sk ?_|refine zm4 ?_)|(apply d_bo;(refine o_gm ?_ ?_<;>intro hG<;>(try cases hG)))|(apply d_mv;refine zi ?_)|(apply d_as;refine zi ?_)|(apply d_fa;first|refine o_fa ?_|refine zn3 ?_)|(apply d_ld;first|refine zo3 ?_|refine zk2 ?_|refine zl2 ?_|refine zp3 ?_|refine zi ?_|refine o_ld ?_)|(apply d_ca;first|refine zi5 ((ze6 _)) ?_)|(apply d_bi;first|refine zt2 ?_|refine zs2 ?_|refine zu2 ?_|refine zd2 ?_|refine zd2 (hnu:=ze _) ?_|refine zn1 ?_|refine zn1 (hnu:=ze _) ?_|refine zi ?_)|(apply d_ia;first|refine o_ix ?_|refine zx4 ?_|refine zi ?_)|(apply d_bb;first|refine zf1 ?_|refine zg1 ?_|refine zh1 ?_|refine zl3 ?_|refine zi ?_)|refine o_bo ?_|refine zu4 ?_|refine zi ?_)|(apply d_w;first|refine zv ?_|refine zc ?_)|refine zb fun C=>?_|refine zj (by kernel_rfl) (by kernel_rfl) fun C=>?_|refine zh ?_|refine zd ?_|refine zf ?_|refine zg ?_|(refine zn (by rfl) ?_ ?_<;>intro hC<;>(try cases hC)))
     all_goals
      (first|refine zu ?_|skip);refine ret0 rfl zf3 ⟨?_,rfl⟩;refine congrArg (fun s=>AV.c (AC.v (Value.bool s))) ?_
      clear c1 c2 gx0 gx1 gx2 he hsz hkid hgk hyt gy0 gy1 gy2
      (try simp only [zy14,ib0,ib1,inR28] at *)
      first
       | (simp_all;done)
       | (simp_all;intros;omega)
    ·have hr:headR x0 x1 l=false:=by
      unfold headR
      rcases hlp with rfl|rfl|rfl<;>simp [hl1]
     have hl1':((l.length:Int)==1)=false:=by rw [ib1];simpa using hl1
     rw [hr]
     clear hr
     rcases hlp with rfl|rfl|rfl
     all_goals
      repeat' (first|(apply f_wo;first|(apply f_gs;refine n_sk ?_)|(apply f_mv;first|(refine zb2 ?_ ?_<;>intro hG<;>(try cases hG))|refine zj1 (v:=.c _) ?_|refine za ?_)|(apply f_as;first|refine zi1 (v:=.c _) ?_|refine za ?_)|(apply f_fa;first|refine n_fa ?_|refine zm1 ?_)|(apply f_ld;first|refine zq1 ?_|refine zx ?_|refine zw ?_|refine zo1 ?_|refine n_ld ?_)|(apply f_bi;first|refine zb1 ?_|refine za1 ?_|refine zc1 ?_|refine za ?_)|(apply f_ia;first|refine n_ix ?_|refine zz1 ?_|refine za ?_)|(apply ze2;first|refine zy ?_|refine zw4 ?_|refine za ?_)|(apply zw1;first|refine zl ?_|refine za ?_)|(apply zu1;first|refine zk ?_|refine zt1 ?_|refine za ?_)|(apply f_no;first|refine zh2 ?_|refine za ?_)|(apply f_pk;first|refine za2 (v:=.c _) ?_|refine za ?_)|refine n_bo ?_|refine zg4 ?_|refine za ?_)|(apply f_w;first|refine zv ?_|refine zc ?_)|(apply d_wo;first|(apply d_gs;first|refine o_sk ?_|refine zm4 ?_)|(apply d_bo;(refine o_gm ?_ ?_<;>intro hG<;>(try cases hG)))|(apply d_mv;refine zi ?_)|(apply d_as;refine zi ?_)|(apply d_fa;first|refine o_fa ?_|refine zn3 ?_)|(apply d_ld;first|refine zo3 ?_|refine zk2 ?_|refine zl2 ?_|refine zp3 ?_|refine zi ?_|refine o_ld ?_)|(apply d_bi;first|refine zt2 ?_|refine zs2 ?_|refine zu2 ?_|refine zd2 ?_|refine zd2 (hnu:=ze _) ?_|refine zn1 ?_|refine zn1 (hnu:=ze _) ?_|refine zi ?_)|(apply d_ia;first|refine o_ix ?_|refine zx4 ?_|refine zi ?_)|(apply d_bb;first|refine zf1 ?_|refine zg1 ?_|refine zh1 ?_|refine zl3 ?_|refine zi ?_)|refine o_bo ?_|refine zu4 ?_|refine zi ?_)|(apply d_w;first|refine zv ?_|refine zc ?_)|refine zb fun C=>?_|refine zj (by kernel_rfl) (by kernel_rfl) fun C=>?_|refine zh ?_|refine zd ?_|refine zf ?_|refine zg ?_|(refine zn (by rfl) ?_ ?_<;>intro hC<;>(try cases hC)))
     all_goals first
      | (exfalso;rw [hl1'] at hG;cases hG;done)
      | ((first|refine zu ?_|skip);refine ret0 rfl zf3 ⟨?_,rfl⟩;refine congrArg (fun s=>AV.c (AC.v (Value.bool s))) ?_;rfl)
   have hk0:∀k:Int,1≤k→k≤11→x0≠k:=fun k g1 g2 g3=>by omega
   rw [zb20 hk0]
   repeat' (first|(apply f_wo;first|(apply f_gs;refine n_sk ?_)|(apply f_mv;first|(refine zb2 ?_ ?_<;>intro hG<;>(try cases hG))|refine zj1 (v:=.c _) ?_|refine za ?_)|(apply f_as;first|refine zi1 (v:=.c _) ?_|refine za ?_)|(apply f_fa;first|refine n_fa ?_|refine zm1 ?_)|(apply f_ld;first|refine zq1 ?_|refine zx ?_|refine zw ?_|refine zo1 ?_|refine n_ld ?_)|(apply f_bi;first|refine zb1 ?_|refine za1 ?_|refine zc1 ?_|refine za ?_)|(apply f_ia;first|refine n_ix ?_|refine zz1 ?_|refine za ?_)|(apply ze2;first|refine zy ?_|refine zw4 ?_|refine za ?_)|(apply zw1;first|refine zl ?_|refine za ?_)|(apply zu1;first|refine zk ?_|refine zt1 ?_|refine za ?_)|(apply f_no;first|refine zh2 ?_|refine za ?_)|(apply f_pk;first|refine za2 (v:=.c _) ?_|refine za ?_)|refine n_bo ?_|refine zg4 ?_|refine za ?_)|(apply f_w;first|refine zv ?_|refine zc ?_)|(apply d_wo;first|(apply d_gs;first|refine o_sk ?_|refine zm4 ?_)|(apply d_bo;(refine o_gm ?_ ?_<;>intro hG<;>(try cases hG)))|(apply d_mv;refine zi ?_)|(apply d_as;refine zi ?_)|(apply d_fa;first|refine o_fa ?_|refine zn3 ?_)|(apply d_ld;first|refine zo3 ?_|refine zk2 ?_|refine zl2 ?_|refine zp3 ?_|refine zi ?_|refine o_ld ?_)|(apply d_bi;first|refine zt2 ?_|refine zs2 ?_|refine zu2 ?_|refine zd2 ?_|refine zd2 (hnu:=ze _) ?_|refine zn1 ?_|refine zn1 (hnu:=ze _) ?_|refine zi ?_)|(apply d_ia;first|refine o_ix ?_|refine zx4 ?_|refine zi ?_)|(apply d_bb;first|refine zf1 ?_|refine zg1 ?_|refine zh1 ?_|refine zl3 ?_|refine zi ?_)|refine o_bo ?_|refine zu4 ?_|refine zi ?_)|(apply d_w;first|refine zv ?_|refine zc ?_)|refine zb fun C=>?_|refine zj (by kernel_rfl) (by kernel_rfl) fun C=>?_|refine zh ?_|refine zd ?_|refine zf ?_|refine zg ?_)
   iterate 20
    (first
      | refine zp rfl ?_
      | refine zn (by rfl) (fun hC=>absurd (eq_of_beq hC) (hk0 _ (by omega) (by omega))) fun hC=>?_
      | skip)<;>repeat' (first|(apply f_wo;first|(apply f_gs;refine n_sk ?_)|(apply f_mv;first|(refine zb2 ?_ ?_<;>intro hG<;>(try cases hG))|refine zj1 (v:=.c _) ?_|refine za ?_)|(apply f_as;first|refine zi1 (v:=.c _) ?_|refine za ?_)|(apply f_fa;first|refine n_fa ?_|refine zm1 ?_)|(apply f_ld;first|refine zq1 ?_|refine zx ?_|refine zw ?_|refine zo1 ?_|refine n_ld ?_)|(apply f_bi;first|refine zb1 ?_|refine za1 ?_|refine zc1 ?_|refine za ?_)|(apply f_ia;first|refine n_ix ?_|refine zz1 ?_|refine za ?_)|(apply ze2;first|refine zy ?_|refine zw4 ?_|refine za ?_)|(apply zw1;first|refine zl ?_|refine za ?_)|(apply zu1;first|refine zk ?_|refine zt1 ?_|refine za ?_)|(apply f_no;first|refine zh2 ?_|refine za ?_)|(apply f_pk;first|refine za2 (v:=.c _) ?_|refine za ?_)|refine n_bo ?_|refine zg4 ?_|refine za ?_)|(apply f_w;first|refine zv ?_|refine zc ?_)|(apply d_wo;first|(apply d_gs;first|refine o_sk ?_|refine zm4 ?_)|(apply d_bo;(refine o_gm ?_ ?_<;>intro hG<;>(try cases hG)))|(apply d_mv;refine zi ?_)|(apply d_as;refine zi ?_)|(apply d_fa;first|refine o_fa ?_|refine zn3 ?_)|(apply d_ld;first|refine zo3 ?_|refine zk2 ?_|refine zl2 ?_|refine zp3 ?_|refine zi ?_|refine o_ld ?_)|(apply d_bi;first|refine zt2 ?_|refine zs2 ?_|refine zu2 ?_|refine zd2 ?_|refine zd2 (hnu:=ze _) ?_|refine zn1 ?_|refine zn1 (hnu:=ze _) ?_|refine zi ?_)|(apply d_ia;first|refine o_ix ?_|refine zx4 ?_|refine zi ?_)|(apply d_bb;first|refine zf1 ?_|refine zg1 ?_|refine zh1 ?_|refine zl3 ?_|refine zi ?_)|refine o_bo ?_|refine zu4 ?_|refine zi ?_)|(apply d_w;first|refine zv ?_|refine zc ?_)|refine zb fun C=>?_|refine zj (by kernel_rfl) (by kernel_rfl) fun C=>?_|refine zh ?_|refine zd ?_|refine zf ?_|refine zg ?_)
   (first|refine zu ?_|skip);refine ret0 rfl zf3 ⟨?_,rfl⟩;refine congrArg (fun s=>AV.c (AC.v (Value.bool s))) ?_
   rfl
theorem zl18 {e:E}(he:e.Ty Tryz.prog 208)(hsz:e.sz≤4194304):Ctr Tryz.prog 204 [.ag (acE e)] [] (.c (.v (.bool (rexOkS e)))) []:=by
 have c1:=l3Parts_n 6 e 1 (by omega) he hsz rfl
 by_cases hp:partsS 6 e≤60
 ·have c2:=l3Ok_n 6 e he hsz hp
  have hr:rexOkS e=okS 6 e:=by unfold rexOkS;rw [decide_eq_true hp,Bool.true_and]
  rw [hr]
  clear hr
  obtain⟨x0,x1,x2A,x2c,l,rfl,gx0,gx1,gx2,-⟩:=zy1 he
  refine zo2 Tryz.func204 rfl rfl ?_
  repeat' (first|(apply f_wo;first|(apply f_gs;refine n_sk ?_)|(apply f_mv;first|(refine zb2 ?_ ?_<;>intro hG<;>(try cases hG))|refine zj1 (v:=.c _) ?_|refine za ?_)|(apply f_as;first|refine zi1 (v:=.c _) ?_|refine za ?_)|(apply f_ld;first|refine zw ?_|refine zo1 ?_|refine n_ld ?_)|(apply f_ca;first|refine zz2 c1 ?_|refine zx2 c1 ?_|refine zz2 c2 ?_|refine zx2 c2 ?_)|(apply zl6;first|refine zw3 ?_|refine za ?_)|(apply f_pk;first|refine za2 (v:=.c _) ?_|refine za ?_)|refine n_bo ?_|refine za ?_)|(apply f_w;first|refine zv ?_|refine zc ?_)|refine zb fun C=>?_|refine zh ?_|refine zd ?_|refine zf ?_|refine zg ?_)
  ·(first|refine zu ?_|skip);refine ret0 rfl zf3 ⟨?_,rfl⟩;refine congrArg (fun s=>AV.c (AC.v (Value.bool s))) ?_
   rfl
  ·exfalso;simp only [decide_eq_false_iff_not] at hG;omega
 ·have hr:rexOkS e=false:=by unfold rexOkS;rw [decide_eq_false hp,Bool.false_and]
  rw [hr]
  clear hr
  obtain⟨x0,x1,x2A,x2c,l,rfl,gx0,gx1,gx2,-⟩:=zy1 he
  refine zo2 Tryz.func204 rfl rfl ?_
  repeat' (first|(apply f_wo;first|(apply f_gs;refine n_sk ?_)|(apply f_mv;first|(refine zb2 ?_ ?_<;>intro hG<;>(try cases hG))|refine zj1 (v:=.c _) ?_|refine za ?_)|(apply f_as;first|refine zi1 (v:=.c _) ?_|refine za ?_)|(apply f_ld;first|refine zw ?_|refine zo1 ?_|refine n_ld ?_)|(apply f_ca;first|refine zz2 c1 ?_|refine zx2 c1 ?_)|(apply zl6;first|refine zw3 ?_|refine za ?_)|(apply f_pk;first|refine za2 (v:=.c _) ?_|refine za ?_)|refine n_bo ?_|refine za ?_)|(apply f_w;first|refine zv ?_|refine zc ?_)|refine zb fun C=>?_|refine zh ?_|refine zd ?_|refine zf ?_|refine zg ?_)
  ·exfalso;simp only [decide_eq_true_iff] at hG;omega
  ·repeat' (first|(apply f_wo;first|(apply f_gs;refine n_sk ?_)|(apply f_mv;first|(refine zb2 ?_ ?_<;>intro hG<;>(try cases hG))|refine zj1 (v:=.c _) ?_|refine za ?_)|(apply f_as;first|refine zi1 (v:=.c _) ?_|refine za ?_)|(apply f_ld;first|refine zw ?_|refine zo1 ?_|refine n_ld ?_)|(apply zl6;first|refine zw3 ?_|refine za ?_)|(apply f_pk;first|refine za2 (v:=.c _) ?_|refine za ?_)|refine n_bo ?_|refine za ?_)|(apply f_w;first|refine zv ?_|refine zc ?_)|refine zb fun C=>?_|refine zh ?_|refine zd ?_|refine zf ?_|refine zg ?_|refine zt rfl ?_|refine zp rfl ?_)
   (first|refine zu ?_|skip);refine ret0 rfl zf3 ⟨?_,rfl⟩;refine congrArg (fun s=>AV.c (AC.v (Value.bool s))) ?_
   rfl
end Go.Proofs.YtghljnfbbaklnaaGreat
