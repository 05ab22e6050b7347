/- The reference's RexOk: by the abstract machine. -/
import Derived.Test.YtnjfnhoipnbpeaaGreatDoorTxtPP
namespace Go.Proofs.YtnjfnhoipnbpeaaGreatDoor
open Go.RowKit
set_option maxRecDepth 100000
theorem zd14 {c:Nat}(hc:c<256):Ctr Tryz.prog 159 [.c (.v (.int .u8 (c:Int)))] [] (.c (.v (.bool (litB c)))) []:=by
 have h2:=zi15 hc
 refine ze1 Tryz.func159 rfl rfl ?_
 repeat' (first|(apply f_wo;first|(apply f_gs;refine n_sk ?_)|(apply f_mv;first|(refine zx1 ?_ ?_<;>intro hG<;>(try cases hG))|refine zv (v:=.c _) ?_)|(apply f_as;refine zq (v:=.c _) ?_)|(apply f_ca;first|refine zk1 ((zo7 _ _ _)) ?_|refine zk1 h2 ?_)|(apply zr1;refine zv2 ?_)|(apply f_pk;refine zw1 (v:=.c _) ?_)|(apply f_cv;refine zr7 ?_))|(apply f_w;first|refine zj ?_|refine zb ?_)|refine za fun C=>?_|refine zd ?_)
 all_goals
  (first|refine zh ?_|skip);refine ret0 rfl zg1 ⟨?_,rfl⟩;refine congrArg (fun s=>AV.c (AC.v (Value.bool s))) ?_
  clear h2
  unfold litB
  simp only [inR,digB,Bool.or_eq_true,Bool.and_eq_true,decide_eq_true_iff,beq_iff_eq,Bool.and_eq_false_iff,decide_eq_false_iff_not] at *
  (rw [Bool.eq_iff_iff];(try simp only [Bool.and_eq_true,Bool.or_eq_true,Bool.not_eq_true',decide_eq_true_iff,decide_eq_false_iff_not,beq_iff_eq,Bool.and_eq_false_iff,Bool.or_eq_false_iff,bne_iff_ne,ne_eq,Bool.true_eq_false,Bool.false_eq_true,true_iff,false_iff,iff_true,iff_false] at *);first|omega|(simp at *;omega))
theorem zd11 (k:Int):Ctr Tryz.prog 158 [.c (.v (.int .i64 k))] [] (.c (.v (.bool (loopK k)))) []:=by
 refine ze1 Tryz.func158 rfl rfl ?_
 repeat' (first|(apply f_wo;first|(apply f_gs;refine n_sk ?_)|(apply f_mv;first|(refine zx1 ?_ ?_<;>intro hG<;>(try cases hG))|refine zv (v:=.c _) ?_)|(apply f_as;refine zq (v:=.c _) ?_)|(apply zr1;refine zm ?_)|(apply f_pk;refine zw1 (v:=.c _) ?_))|(apply f_w;first|refine zj ?_|refine zb ?_)|refine za fun C=>?_|refine zd ?_)
 all_goals
  (first|refine zh ?_|skip);refine ret0 rfl zg1 ⟨?_,rfl⟩;refine congrArg (fun s=>AV.c (AC.v (Value.bool s))) ?_
  unfold loopK
  (rw [Bool.eq_iff_iff];(try simp only [Bool.and_eq_true,Bool.or_eq_true,Bool.not_eq_true',decide_eq_true_iff,decide_eq_false_iff_not,beq_iff_eq,Bool.and_eq_false_iff,Bool.or_eq_false_iff,bne_iff_ne,ne_eq,Bool.true_eq_false,Bool.false_eq_true,true_iff,false_iff,iff_true,iff_false] at *);first|omega|(simp at *;omega))
theorem l3Set_c {s:ByteArray}(hs:s.size≤1073741824):Ctr Tryz.prog 160 [.c (.v (.string s))] [] (.c (.v (.bool (setOkB s)))) []:=by
 refine ze1 Tryz.func160 rfl rfl ?_
 repeat' (first|(apply f_wo;(apply f_as;refine zq (v:=.c _) ?_))|(apply f_w;first|refine zj ?_|refine zb ?_)|refine za fun C=>?_|refine zd ?_|refine ze ?_)
 refine zv1 (fun k:Nat=>⟨tmsF [(0,.c (.v (.string s))),(3,.c (.v (.int .i64 k)))],hpsF [],0,[],32⟩) (fun N k=>k+N=s.size∧∀j,j<k→setAtB s j=true) s.size 0 ⟨by omega,fun j hj=>by omega⟩ ?_ ?_
 ·(refine zl1 _ _ rfl rfl ?_ ?_<;>(repeat' (first|exact TmOk.nil|exact RwOk.nil|refine TmOk.cons ?_ ?_|refine RwOk.cons ?_ ?_|rfl|(refine rnV_id' rfl ?_;exact byc)|(refine zp1 ?_;first|rfl|omega|(rw [zw (by omega) (by omega)];omega))|(refine zb1 rfl ?_;exact byc)|exact zc2 rfl rfl|(refine zq1 (by rfl) (by rfl) ?_ ?_<;>exact byc)|(refine rw_rn' rfl rfl ?_;simp;done))))
 rintro N k ⟨hN,hall⟩
 repeat' (first|(apply f_wo;first|(apply f_mv;refine zv (v:=.c _) ?_)|(apply f_bi;refine za4 ?_)|(apply zg3;refine zs1 ?_))|(apply f_w;first|refine zj ?_|refine zb ?_)|refine za fun C=>?_|refine zd ?_)
 refine zi (by rfl) (fun h1=>?_) fun h1=>?_
 ·have hk:k<s.size:=by simpa using h1
  have hl:=zd14 (zq5 s k)
  cases k with
  | zero =>
   repeat' (first|(apply f_wo;first|(apply f_mv;refine zv (v:=.c _) ?_)|(apply f_as;refine zq (v:=.c _) ?_)|(apply zd2;refine zj1 ?_))|(apply f_w;first|refine zj ?_|refine zb ?_)|(apply d_wo;first|(apply d_gs;refine o_sk ?_)|(apply d_bo;(refine o_gm ?_ ?_<;>intro hG<;>(try cases hG)))|(apply d_mv;refine ze2 ?_)|(apply d_ca;refine zu3 hl ?_)|(apply d_bb;refine ze2 ?_)|refine zl8 ?_|refine ze2 ?_)|(apply d_w;first|refine zj ?_|refine zb ?_)|refine za fun C=>?_|refine zn (by kernel_rfl) (by kernel_rfl) fun C=>?_|refine zd ?_|refine ze ?_|refine zg ?_|(refine zi (by rfl) ?_ ?_<;>intro hC<;>(try cases hC)))
   all_goals first
    | (exfalso;revert hG;simp;done)
    | (refine zh ?_
       refine ret0 (x:=.c (.v (.bool false))) rfl zg1 ⟨?_,rfl⟩
       rw [zx9 hk (by unfold setAtB;simp_all)])
    | (refine⟨N-1,1,by omega,⟨by omega,fun j hj=>?_⟩,?_⟩
       ·obtain rfl:j=0:=by omega
        unfold setAtB;simp_all
       ·(refine zl1 _ _ rfl rfl ?_ ?_<;>(repeat' (first|exact TmOk.nil|exact RwOk.nil|refine TmOk.cons ?_ ?_|refine RwOk.cons ?_ ?_|rfl|(refine rnV_id' rfl ?_;exact byc)|(refine zp1 ?_;first|rfl|omega|(rw [zw (by omega) (by omega)];omega))|(refine zb1 rfl ?_;exact byc)|exact zc2 rfl rfl|(refine zq1 (by rfl) (by rfl) ?_ ?_<;>exact byc)|(refine rw_rn' rfl rfl ?_;simp;done)))))
  | succ m =>
   have hm:((m+1:Nat):Int)-1=(m:Int):=by omega
   repeat' (first|(apply f_wo;first|(apply f_mv;refine zv (v:=.c _) ?_)|(apply f_as;refine zq (v:=.c _) ?_)|(apply zd2;refine zj1 ?_))|(apply f_w;first|refine zj ?_|refine zb ?_)|(apply d_wo;first|(apply d_gs;refine o_sk ?_)|(apply d_bo;(refine o_gm ?_ ?_<;>intro hG<;>(try cases hG)))|(apply d_mv;refine ze2 ?_)|(apply d_ca;refine zu3 hl ?_)|(apply d_bb;first|refine zg15 ?_|refine ze2 ?_)|refine zl8 ?_|refine ze2 ?_)|(apply d_w;first|refine zj ?_|refine zb ?_)|refine za fun C=>?_|refine zn (by kernel_rfl) (by kernel_rfl) fun C=>?_|refine zd ?_|refine ze ?_|refine zg ?_|(refine zi (by rfl) ?_ ?_<;>intro hC<;>(try cases hC)))
   all_goals first
    | (refine zh ?_
       refine ret0 (x:=.c (.v (.bool false))) rfl zg1 ⟨?_,rfl⟩
       rw [zx9 hk (by unfold setAtB;simp_all;try omega)])
    | (refine⟨N-1,m+2,by omega,⟨by omega,fun j hj=>?_⟩,?_⟩
       ·rcases Nat.lt_or_ge j (m+1) with h|h
        ·exact hall j h
        ·obtain rfl:j=m+1:=by omega
         unfold setAtB;simp_all;try omega
       ·(refine zl1 _ _ rfl rfl ?_ ?_<;>(repeat' (first|exact TmOk.nil|exact RwOk.nil|refine TmOk.cons ?_ ?_|refine RwOk.cons ?_ ?_|rfl|(refine rnV_id' rfl ?_;exact byc)|(refine zp1 ?_;first|rfl|omega|(rw [zw (by omega) (by omega)];omega))|(refine zb1 rfl ?_;exact byc)|exact zc2 rfl rfl|(refine zq1 (by rfl) (by rfl) ?_ ?_<;>exact byc)|(refine rw_rn' rfl rfl ?_;simp;done)))))
    | skip
 ·repeat' (first|(apply f_wo;first|(apply f_mv;refine zv (v:=.c _) ?_)|(apply f_as;refine zq (v:=.c _) ?_)|(apply f_ca;refine zk1 ((zo7 _ _ _)) ?_)|(apply f_bi;refine za4 ?_))|(apply f_w;first|refine zj ?_|refine zb ?_)|refine za fun C=>?_|refine zd ?_|refine zu ?_)
  refine zh ?_
  refine ret0 rfl zg1 ⟨?_,rfl⟩
  rw [zr15 fun j hj=>hall j (by simp at h1;omega)]
  refine congrArg (fun s=>AV.c (AC.v (Value.bool s))) ?_
  unfold inR
  (rw [Bool.eq_iff_iff];(try simp only [Bool.and_eq_true,Bool.or_eq_true,Bool.not_eq_true',decide_eq_true_iff,decide_eq_false_iff_not,beq_iff_eq,Bool.and_eq_false_iff,Bool.or_eq_false_iff,bne_iff_ne,ne_eq,Bool.true_eq_false,Bool.false_eq_true,true_iff,false_iff,iff_true,iff_false] at *);first|omega|(simp at *;omega))
theorem sumS_le {g:E→Nat}{B:Nat}:∀(l:List E) (n:Nat),(∀x∈l,g x≤B)→sumS g l n≤max n (60+B)
 | [],n,_=>by unfold sumS;omega
 | x :: r,n,h=>by
  unfold sumS
  split
  ·have h1:=h x List.mem_cons_self
   have:=sumS_le r (n+g x) fun y hy=>h y (List.mem_cons_of_mem _ hy)
   omega
  ·omega
theorem zw15:∀(f:Nat) (e:E),partsS f e≤61+60*f
 | 0,_=>by unfold partsS;omega
 | f+1,e=>by
  have:=sumS_le e.rl 1 fun x _=>zw15 f x
  unfold partsS;omega
theorem sumS_done {g:E→Nat}:∀(l:List E) {n:Nat},60<n→sumS g l n=n
 | [],_,_=>rfl
 | x :: r,n,h=>by unfold sumS;rw [if_neg (by omega)]
set_option maxHeartbeats 4000000 in
theorem l3Parts_n (f:Nat):∀(e:E) (deep:Nat),f≤6→e.Ty Tryz.prog 140→e.sz≤4194304→deep+f=7→Ctr Tryz.prog 146 [.ag (acE e),.c (.v (.int .i64 (deep:Int)))] [] (.c (.v (.int .i64 ((partsS f e:Nat):Int)))) []:=by
 induction f with
 | zero =>
  intro e deep hf he hsz hd
  obtain⟨x0,x1,x2A,x2c,l,rfl,gx0,gx1,gx2,-⟩:=zu1 he
  obtain rfl:deep=7:=by omega
  refine ze1 Tryz.func146 rfl rfl ?_
  repeat' (first|(apply f_wo;first|(apply f_mv;refine zv (v:=.c _) ?_)|(apply f_as;refine zq (v:=.c _) ?_)|(apply zn3;refine za2 ?_)|refine n_bo ?_)|(apply f_w;first|refine zj ?_|refine zb ?_)|refine za fun C=>?_|refine zd ?_|refine za1 rfl ?_)
  refine zh ?_
  exact ret0 (x:=.c (.v (.int .i64 61))) rfl zg1 ⟨rfl,rfl⟩
 | succ f ih =>
  intro e deep hf he hsz hd
  obtain⟨x0,x1,x2A,x2c,l,rfl,gx0,gx1,gx2,-⟩:=zu1 he
  simp only [E.sz,E.szL] at hsz
  have hl:l.length≤4194304:=by omega
  refine ze1 Tryz.func146 rfl rfl ?_
  have hres:partsS (f+1) (E.agg [.int .i64 x0,.str x1,.lst 3 140 x2A x2c l])=sumS (partsS f) l 1:=rfl
  rw [hres]
  clear hres
  generalize hT:sumS (partsS f) l 1=tot
  repeat' (first|(apply f_wo;first|(apply f_mv;refine zv (v:=.c _) ?_)|(apply f_as;refine zq (v:=.c _) ?_)|(apply zn3;refine za2 ?_)|refine n_bo ?_)|(apply f_w;first|refine zj ?_|refine zb ?_)|refine za fun C=>?_|refine zd ?_)
  refine zi (by rfl) (fun h=>by exfalso;simp at h;omega) fun _=>?_
  repeat' (first|(apply f_wo;(apply f_as;refine zq (v:=.c _) ?_))|(apply f_w;first|refine zj ?_|refine zb ?_)|refine za fun C=>?_|refine zd ?_|refine ze ?_|refine zg ?_)
  refine zv1 (fun d:Nat×Nat=>⟨tmsF [(1,.c (.v (.int .i64 (deep:Int)))),(2,.c (.pt 2 0)),(5,.c (.v (.int .i64 (d.2:Int)))),(6,.c (.v (.int .i64 (d.1:Int))))],hpsF [(2,2,⟨140,0,0,true,[.v (.int .i64 x0),.v (.string x1),.ro l.length 3 (acL l)]⟩)],0,[2],31⟩) (fun N d=>d.1+N=l.length∧d.2≤600∧sumS (partsS f) (l.drop d.1) d.2=tot) l.length (0,1) ⟨by simp,by simp,hT⟩ ?_ ?_
  ·(refine zl1 _ _ rfl rfl ?_ ?_<;>(repeat' (first|exact TmOk.nil|exact RwOk.nil|refine TmOk.cons ?_ ?_|refine RwOk.cons ?_ ?_|rfl|(refine rnV_id' rfl ?_;exact byc)|(refine zp1 ?_;first|rfl|omega|(rw [zw (by omega) (by omega)];omega))|(refine zb1 rfl ?_;exact byc)|exact zc2 rfl rfl|(refine zq1 (by rfl) (by rfl) ?_ ?_<;>exact byc)|(refine rw_rn' rfl rfl ?_;simp;done))))
  rintro N ⟨k,n⟩ ⟨hN,hn,hs⟩
  dsimp only at hN hn hs ⊢
  repeat' (first|(apply f_wo;first|(apply f_gs;refine n_sk ?_)|(apply f_mv;first|(refine zx1 ?_ ?_<;>intro hG<;>(try cases hG))|refine zv (v:=.c _) ?_)|(apply f_fa;refine n_fa ?_)|(apply f_bi;refine zy1 ?_)|(apply zg3;refine zs1 ?_)|(apply zo4;refine zl2 ?_)|(apply f_pk;refine zw1 (v:=.c _) ?_)|refine zz1 ?_)|(apply f_w;first|refine zj ?_|refine zb ?_)|refine za fun C=>?_|refine zd ?_)
  ·have hk:k<l.length:=by simpa using hG
   obtain⟨x,hx⟩:∃x,l[k]? = some x:=⟨_,List.getElem?_eq_getElem hk⟩
   have hd1:l.drop k=x :: l.drop (k+1):=by rw [List.drop_eq_getElem_cons hk];congr 1;rw [List.getElem?_eq_getElem hk] at hx;exact Option.some.inj hx
   refine zi (by rfl) (fun h2=>?_) fun h2=>?_
   ·have hn2:n≤60:=by simp only [decide_eq_true_iff] at h2;omega
    have hxt:=gx2.1 x (List.mem_of_getElem? hx)
    have hxs:=E.szL_mem (List.mem_of_getElem? hx)
    have hc:=ih x (deep+1) (by omega) hxt (by omega) (by omega)
    have hb:=zw15 f x
    rw [hd1] at hs
    unfold sumS at hs
    rw [if_pos hn2] at hs
    have hgk:=gx2.2
    obtain⟨y0,y1,y2A,y2c,y2l,rfl,gy0,gy1,gy2,-⟩:=zu1 hxt
    repeat' (first|(apply f_wo;first|(apply f_mv;refine zv (v:=.c _) ?_)|(apply f_as;refine zq (v:=.c _) ?_)|(apply f_fa;refine n_fa ?_)|(apply f_ld;refine zq2 ?_)|(apply f_ca;refine zk1 hc ?_)|(apply f_ia;refine n_ix ?_)|(apply zd2;refine zj1 ?_)|refine zz1 ?_)|(apply f_w;first|refine zj ?_|refine zb ?_)|refine za fun C=>?_|refine zd ?_|refine ze ?_|refine zg ?_)
    refine⟨N-1,(k+1,n+partsS f (E.agg [.int .i64 y0,.str y1,.lst 3 140 y2A y2c y2l])),by omega,⟨by dsimp only;omega,by dsimp only;omega,hs⟩,?_⟩
    (refine zl1 _ _ rfl rfl ?_ ?_<;>(repeat' (first|exact TmOk.nil|exact RwOk.nil|refine TmOk.cons ?_ ?_|refine RwOk.cons ?_ ?_|rfl|(refine rnV_id' rfl ?_;exact byc)|(refine zp1 ?_;first|rfl|omega|(rw [zw (by omega) (by omega)];omega))|(refine zb1 rfl ?_;exact byc)|exact zc2 rfl rfl|(refine zq1 (by rfl) (by rfl) ?_ ?_<;>exact byc)|(refine rw_rn' rfl rfl ?_;simp;done))))
   ·have hn2:60<n:=by simp only [decide_eq_false_iff_not] at h2;omega
    rw [sumS_done _ hn2] at hs
    repeat' (first|(apply f_wo;first|(apply f_mv;refine zv (v:=.c _) ?_)|(apply f_as;refine zq (v:=.c _) ?_))|(apply f_w;first|refine zj ?_|refine zb ?_)|refine za fun C=>?_|refine zd ?_|refine zu ?_)
    refine zh ?_
    refine ret0 (x:=.c (.v (.int .i64 (n:Int)))) rfl zg1 ⟨?_,rfl⟩
    rw [hs]
  ·have hk:k=l.length:=by simp at hG;omega
   repeat' (first|(apply f_wo;first|(apply f_mv;refine zv (v:=.c _) ?_)|(apply f_as;refine zq (v:=.c _) ?_))|(apply f_w;first|refine zj ?_|refine zb ?_)|refine za fun C=>?_|refine zd ?_|refine zu ?_|refine zf1 rfl ?_)
   refine zh ?_
   refine ret0 (x:=.c (.v (.int .i64 (n:Int)))) rfl zg1 ⟨?_,rfl⟩
   rw [hk,List.drop_length] at hs
   rw [←hs];rfl
theorem partsS_to {f:Nat}{e:E}(h:partsS (f+1) e≤60):∀x∈e.rl,partsS f x≤60:=by unfold partsS at h;exact (zt10 h).2
def kidOk (f:Nat)(k:Int)(x:E):Bool:=okS f x&&!(x.rk==k&&!loopK k)
theorem okS_all {f:Nat}{x0:Int}{x1:ByteArray}{A:Option Addr}{c:Nat}{l:List E}:okS (f+1) (E.agg [.int .i64 x0,.str x1,.lst 3 140 A c l])=(l.all (kidOk f x0)&&headR x0 x1 l):=rfl
theorem all_no {p:E→Bool}{l:List E}{k:Nat}{x:E}(hx:l[k]? = some x)(h:p x=false):l.all p=false:=List.all_eq_false.2 ⟨x,List.mem_of_getElem? hx,by simp [h]⟩
theorem all_yes {p:E→Bool}{l:List E}(h:∀j y,j<l.length→l[j]? = some y→p y=true):l.all p=true:=List.all_eq_true.2 fun y hy=>by
 obtain⟨j,hj,rfl⟩:=List.getElem_of_mem hy
 exact h j _ hj (List.getElem?_eq_getElem hj)
set_option maxHeartbeats 8000000 in
theorem l3Ok_n (f:Nat):∀(e:E),e.Ty Tryz.prog 140→e.sz≤4194304→partsS f e≤60→Ctr Tryz.prog 147 [.ag (acE e)] [] (.c (.v (.bool (okS f e)))) []:=by
 induction f with
 | zero=>intro e _ _ h;exact absurd h (by unfold partsS;omega)
 | succ f ih =>
  intro e he hsz hp
  have hkid:=partsS_to hp
  obtain⟨x0,x1,x2A,x2c,l,rfl,gx0,gx1,gx2,-⟩:=zu1 he
  have hkid:∀x∈l,partsS f x≤60:=hkid
  simp only [E.sz,E.szL] at hsz
  have hl:l.length≤4194304:=by omega
  rw [okS_all]
  refine ze1 Tryz.func147 rfl rfl ?_
  repeat' (first|(apply f_wo;first|(apply f_as;refine zq (v:=.c _) ?_)|refine n_bo ?_)|(apply f_w;first|refine zj ?_|refine zb ?_)|refine za fun C=>?_|refine zd ?_|refine ze ?_)
  refine zv1 (fun k:Nat=>⟨tmsF [(1,.c (.pt 1 0)),(3,.c (.v (.int .i64 (k:Int))))],hpsF [(1,1,⟨140,0,0,true,[.v (.int .i64 x0),.v (.string x1),.ro l.length 3 (acL l)]⟩)],0,[1],114⟩) (fun N k=>k+N=l.length∧∀j y,j<k→l[j]? = some y→kidOk f x0 y=true) l.length 0 ⟨by omega,by omega⟩ ?_ ?_
  ·(refine zl1 _ _ rfl rfl ?_ ?_<;>(repeat' (first|exact TmOk.nil|exact RwOk.nil|refine TmOk.cons ?_ ?_|refine RwOk.cons ?_ ?_|rfl|(refine rnV_id' rfl ?_;exact byc)|(refine zp1 ?_;first|rfl|omega|(rw [zw (by omega) (by omega)];omega))|(refine zb1 rfl ?_;exact byc)|exact zc2 rfl rfl|(refine zq1 (by rfl) (by rfl) ?_ ?_<;>exact byc)|(refine rw_rn' rfl rfl ?_;simp;done))))
  rintro N k ⟨hN,hno⟩
  repeat' (first|(apply f_wo;first|(apply f_mv;refine zv (v:=.c _) ?_)|(apply f_fa;refine n_fa ?_)|(apply f_ld;refine zn1 ?_)|(apply f_bi;refine zy1 ?_)|(apply zg3;refine zs1 ?_))|(apply f_w;first|refine zj ?_|refine zb ?_)|refine za fun C=>?_|refine zd ?_)
  refine zi (by rfl) (fun h1=>?_) fun h1=>?_
  ·have hk':k<l.length:=by simpa using h1
   obtain⟨x,hx⟩:∃x,l[k]? = some x:=⟨_,List.getElem?_eq_getElem hk'⟩
   have hxm:=List.mem_of_getElem? hx
   have hxt:=gx2.1 x hxm
   have hxz:=E.szL_mem hxm
   have hgk:=gx2.2
   have hc:=ih x hxt (by omega) (hkid x hxm)
   have hrk:∀y0 y1 A c l',x=E.agg [.int .i64 y0,.str y1,.lst 3 140 A c l']→kidOk f x0 x=(okS f x&&!(y0==x0&&!loopK x0)):=fun y0 y1 A c l' e=>by subst e;rfl
   obtain⟨y0,y1,y2A,y2c,y2l,rfl,gy0,gy1,gy2,-⟩:=zu1 hxt
   have hrk:=hrk _ _ _ _ _ rfl
   generalize hok:okS f (E.agg [E.int IntKind.i64 y0,E.str y1,E.lst 3 140 y2A y2c y2l])=ok at hc hrk
   repeat' (first|(apply f_wo;first|(apply f_mv;refine zv (v:=.c _) ?_)|(apply f_as;refine zq (v:=.c _) ?_)|(apply zd2;refine zj1 ?_))|(apply f_w;first|refine zj ?_|refine zb ?_)|(apply d_wo;first|(apply d_gs;refine o_sk ?_)|(apply d_bo;(refine o_gm ?_ ?_<;>intro hG<;>(try cases hG)))|(apply d_mv;refine ze2 ?_)|(apply d_fa;first|refine o_fa ?_|refine o_far ?_)|(apply d_ld;first|refine zp3 ?_|refine zo19 ?_|refine zs10 ?_)|(apply d_ca;first|refine zu3 hc ?_|refine zu3 ((zd11 _)) ?_)|(apply d_ia;refine o_ix ?_)|(apply d_bb;refine ze2 ?_)|refine ze2 ?_)|(apply d_w;first|refine zj ?_|refine zb ?_)|refine za fun C=>?_|refine zn (by kernel_rfl) (by kernel_rfl) fun C=>?_|refine zd ?_|refine ze ?_|refine zg ?_|(refine zi (by rfl) ?_ ?_<;>intro hC<;>(try cases hC)))
   all_goals first
    | (refine zh ?_
       refine ret0 (x:=.c (.v (.bool false))) rfl zg1 ⟨?_,rfl⟩
       rw [all_no hx (by rw [hrk];clear hc ih;simp_all),Bool.false_and])
    | (refine⟨N-1,k+1,by omega,⟨by omega,fun j z hj hz=>?_⟩,?_⟩
       ·by_cases e:j=k
        ·rw [e,hx] at hz;injection hz with hz;subst hz;rw [hrk];clear hc ih;simp_all
        ·exact hno j z (by omega) hz
       ·(refine zl1 _ _ rfl rfl ?_ ?_<;>(repeat' (first|exact TmOk.nil|exact RwOk.nil|refine TmOk.cons ?_ ?_|refine RwOk.cons ?_ ?_|rfl|(refine rnV_id' rfl ?_;exact byc)|(refine zp1 ?_;first|rfl|omega|(rw [zw (by omega) (by omega)];omega))|(refine zb1 rfl ?_;exact byc)|exact zc2 rfl rfl|(refine zq1 (by rfl) (by rfl) ?_ ?_<;>exact byc)|(refine rw_rn' rfl rfl ?_;simp;done)))))
  ·have hk':¬k<l.length:=by simpa using h1
   rw [all_yes (p:=kidOk f x0) fun j y hj hy=>hno j y (by omega) hy,Bool.true_and]
   clear hno h1 ih hN hp
   have c1:=l3Set_c (s:=x1) (by omega)
   have c2:=zd14 (zq5 x1 0)
   by_cases hin:x0=1∨x0=2∨x0=3∨x0=4∨x0=5∨x0=9∨x0=10∨x0=11
   ·rcases hin with rfl|rfl|rfl|rfl|rfl|rfl|rfl|rfl
    all_goals
     repeat' (first|(apply f_wo;first|(apply f_gs;refine n_sk ?_)|(apply f_mv;(refine zx1 ?_ ?_<;>intro hG<;>(try cases hG)))|(apply f_as;refine zq (v:=.c _) ?_)|(apply f_fa;refine n_fa ?_)|(apply f_ld;refine zn1 ?_)|(apply f_ca;first|refine zk1 c1 ?_|refine zk1 c2 ?_|refine zk1 ((zo7 _ _ _)) ?_)|(apply f_bi;first|refine zy1 ?_|refine za4 ?_)|(apply zr1;first|refine zm ?_|refine zr2 ?_)|(apply f_pk;refine zw1 (v:=.c _) ?_)|refine zw6 ?_)|(apply f_w;first|refine zj ?_|refine zb ?_)|refine za fun C=>?_|refine zd ?_|refine ze ?_|refine zg ?_|refine zu ?_|(refine zi (by rfl) ?_ ?_<;>intro hC<;>(try cases hC)))
    all_goals
     (first|refine zh ?_|skip);refine ret0 rfl zg1 ⟨?_,rfl⟩;refine congrArg (fun s=>AV.c (AC.v (Value.bool s))) ?_
     clear c1 c2 gx0 gx1 gx2 he hsz hkid
     unfold headR
     (try simp only [za14,ib0,ib1,inR28] at *)
     first
      | (simp_all;done)
      | (simp_all;intros;omega)
   by_cases hlp:x0=6∨x0=7∨x0=8
   ·by_cases hl1:l.length=1
    ·obtain⟨y,hy⟩:∃y,l[0]? = some y:=⟨_,List.getElem?_eq_getElem (by omega)⟩
     have hl2:l=[y]:=zx19 hl1 hy
     have hyt:=gx2.1 y (List.mem_of_getElem? hy)
     have hgk:=gx2.2
     obtain⟨y0,y1,y2A,y2c,y2l,rfl,gy0,gy1,gy2,-⟩:=zu1 hyt
     have hr:headR x0 x1 l=(x1.size==0&&!(loopK y0)):=by
      rw [hl2];unfold headR
      rcases hlp with rfl|rfl|rfl<;>simp [E.rk]
     rw [hr]
     clear hr
     rcases hlp with rfl|rfl|rfl
     all_goals
      repeat' (first|(apply f_wo;first|(apply f_gs;refine n_sk ?_)|(apply f_mv;(refine zx1 ?_ ?_<;>intro hG<;>(try cases hG)))|(apply f_as;refine zq (v:=.c _) ?_)|(apply f_fa;first|refine n_fa ?_|refine zc7 ?_)|(apply f_ld;first|refine zn1 ?_|refine zz3 ?_)|(apply f_ca;refine zk1 ((zd11 _)) ?_)|(apply f_bi;refine zy1 ?_)|(apply f_ia;refine n_ix ?_)|(apply zr1;first|refine zm ?_|refine zr2 ?_)|(apply f_no;refine zu2 ?_)|(apply f_pk;refine zw1 (v:=.c _) ?_))|(apply f_w;first|refine zj ?_|refine zb ?_)|refine za fun C=>?_|refine zd ?_|refine ze ?_|refine zg ?_|refine zu ?_|(refine zi (by rfl) ?_ ?_<;>intro hC<;>(try cases hC)))
     all_goals
      (first|refine zh ?_|skip);refine ret0 rfl zg1 ⟨?_,rfl⟩;refine congrArg (fun s=>AV.c (AC.v (Value.bool s))) ?_
      clear c1 c2 gx0 gx1 gx2 he hsz hkid hgk hyt gy0 gy1 gy2
      (try simp only [za14,ib0,ib1,inR28] at *)
      first
       | (simp_all;done)
       | (simp_all;intros;omega)
    ·have hr:headR x0 x1 l=false:=by
      unfold headR
      rcases hlp with rfl|rfl|rfl<;>simp [hl1]
     have hl1':((l.length:Int)==1)=false:=by rw [ib1];simpa using hl1
     rw [hr]
     clear hr
     rcases hlp with rfl|rfl|rfl
     all_goals
      repeat' (first|(apply f_wo;first|(apply f_gs;refine n_sk ?_)|(apply f_mv;(refine zx1 ?_ ?_<;>intro hG<;>(try cases hG)))|(apply f_as;refine zq (v:=.c _) ?_)|(apply f_fa;refine n_fa ?_)|(apply f_ld;refine zn1 ?_)|(apply f_bi;refine zy1 ?_)|(apply zr1;refine zm ?_)|(apply f_pk;refine zw1 (v:=.c _) ?_))|(apply f_w;first|refine zj ?_|refine zb ?_)|refine za fun C=>?_|refine zd ?_|refine ze ?_|refine zg ?_|refine zu ?_|(refine zi (by rfl) ?_ ?_<;>intro hC<;>(try cases hC)))
     all_goals first
      | (exfalso;rw [hl1'] at hG;cases hG;done)
      | ((first|refine zh ?_|skip);refine ret0 rfl zg1 ⟨?_,rfl⟩;refine congrArg (fun s=>AV.c (AC.v (Value.bool s))) ?_;rfl)
   have hk0:∀k:Int,1≤k→k≤11→x0≠k:=fun k g1 g2 g3=>by omega
   rw [zy19 hk0]
   repeat' (first|(apply f_wo;first|(apply f_as;refine zq (v:=.c _) ?_)|(apply f_fa;refine n_fa ?_)|(apply f_ld;refine zn1 ?_)|(apply zr1;refine zm ?_))|(apply f_w;first|refine zj ?_|refine zb ?_)|refine za fun C=>?_|refine zd ?_|refine ze ?_|refine zu ?_)
   iterate 20
    (first
      | refine zf1 rfl ?_
      | refine zi (by rfl) (fun hC=>absurd (eq_of_beq hC) (hk0 _ (by omega) (by omega))) fun hC=>?_
      | skip)<;>repeat' (first|(apply f_wo;first|(apply f_as;refine zq (v:=.c _) ?_)|(apply zr1;refine zm ?_))|(apply f_w;first|refine zj ?_|refine zb ?_)|refine za fun C=>?_|refine zd ?_|refine zg ?_)
   (first|refine zh ?_|skip);refine ret0 rfl zg1 ⟨?_,rfl⟩;refine congrArg (fun s=>AV.c (AC.v (Value.bool s))) ?_
   rfl
theorem zu17 {e:E}(he:e.Ty Tryz.prog 140)(hsz:e.sz≤4194304):Ctr Tryz.prog 139 [.ag (acE e)] [] (.c (.v (.bool (rexOkS e)))) []:=by
 have c1:=l3Parts_n 6 e 1 (by omega) he hsz rfl
 by_cases hp:partsS 6 e≤60
 ·have c2:=l3Ok_n 6 e he hsz hp
  have hr:rexOkS e=okS 6 e:=by unfold rexOkS;rw [decide_eq_true hp,Bool.true_and]
  rw [hr]
  clear hr
  obtain⟨x0,x1,x2A,x2c,l,rfl,gx0,gx1,gx2,-⟩:=zu1 he
  refine ze1 Tryz.func139 rfl rfl ?_
  repeat' (first|(apply f_wo;first|(apply f_gs;refine n_sk ?_)|(apply f_mv;(refine zx1 ?_ ?_<;>intro hG<;>(try cases hG)))|(apply f_as;refine zq (v:=.c _) ?_)|(apply f_ld;refine zs2 ?_)|(apply f_ca;first|refine zk1 c1 ?_|refine zk1 c2 ?_)|(apply zo4;refine zl2 ?_)|(apply f_pk;refine zw1 (v:=.c _) ?_)|refine n_bo ?_)|(apply f_w;first|refine zj ?_|refine zb ?_)|refine za fun C=>?_|refine zd ?_)
  ·(first|refine zh ?_|skip);refine ret0 rfl zg1 ⟨?_,rfl⟩;refine congrArg (fun s=>AV.c (AC.v (Value.bool s))) ?_
   rfl
  ·exfalso;simp only [decide_eq_false_iff_not] at hG;omega
 ·have hr:rexOkS e=false:=by unfold rexOkS;rw [decide_eq_false hp,Bool.false_and]
  rw [hr]
  clear hr
  obtain⟨x0,x1,x2A,x2c,l,rfl,gx0,gx1,gx2,-⟩:=zu1 he
  refine ze1 Tryz.func139 rfl rfl ?_
  repeat' (first|(apply f_wo;first|(apply f_gs;refine n_sk ?_)|(apply f_mv;(refine zx1 ?_ ?_<;>intro hG<;>(try cases hG)))|(apply f_as;refine zq (v:=.c _) ?_)|(apply f_ld;refine zs2 ?_)|(apply f_ca;refine zk1 c1 ?_)|(apply zo4;refine zl2 ?_)|(apply f_pk;refine zw1 (v:=.c _) ?_)|refine n_bo ?_)|(apply f_w;first|refine zj ?_|refine zb ?_)|refine za fun C=>?_|refine zd ?_)
  ·exfalso;simp only [decide_eq_true_iff] at hG;omega
  ·skip
   (first|refine zh ?_|skip);refine ret0 rfl zg1 ⟨?_,rfl⟩;refine congrArg (fun s=>AV.c (AC.v (Value.bool s))) ?_
   rfl
end Go.Proofs.YtnjfnhoipnbpeaaGreatDoor
