/- ProgOk of the program. -/
import Derived.Test.YtnjfnhoipnbpeaaGreatDoorTxtPAL
namespace Go.Proofs.YtnjfnhoipnbpeaaGreatDoor
open Go.RowKit
set_option maxRecDepth 100000
theorem any_not {l:List E}{p:E→Bool}:(l.any fun e=>!p e)=!l.all p:=by
 induction l with
 | nil=>rfl
 | cons x r ih=>rw [List.any_cons,List.all_cons,ih];cases p x<;>rfl
theorem zt22 {e:E}(he:e.Ty Tryz.prog 71)(hsz:e.sz≤1048576):Ctr Tryz.prog 88 [.ag (acE e)] [] (.c (.v (.bool (!stmtB e)))) []:=by
 have c1:=zp9 he hsz
 generalize stmtB e=b at c1 ⊢
 obtain⟨z0,z1,z2,zA,zc,zx,yA,yc,ya,wA,wc,yb,rfl,-⟩:=zt1 he
 refine ze1 Tryz.func88 rfl rfl ?_
 repeat' (first|(apply f_wo;first|(apply f_as;refine zq (v:=.c _) ?_)|(apply f_ld;refine zs2 ?_)|(apply f_ca;refine zk1 c1 ?_)|(apply f_no;refine zu2 ?_)|refine n_bo ?_)|(apply f_w;first|refine zj ?_|refine zb ?_)|refine za fun C=>?_|refine zd ?_)
 refine zh ?_;refine ret0 rfl zg1 ⟨?_,rfl⟩;rfl
theorem zq16 {l:List E}(hl:∀e∈l,e.Ty Tryz.prog 71)(hk:∀e∈l,e.enc.length=6)(hlen:l.length+E.szL l≤1048576):Ctr Tryz.prog 61 [.c (.ro l.length 6 (acL l))] [] (.c (.v (.bool (bodyB l)))) []:=by
 have c1:=zq22 hl hk (by omega) (fun e=>!stmtB e) 88 fun x hx=>zt22 (hl x hx) (by have:=E.szL_mem hx;omega)
 rw [any_not] at c1
 unfold bodyB
 generalize l.all stmtB=b at c1 ⊢
 by_cases h:l.length≤20
 ·rw [show decide (l.length≤20)=true from decide_eq_true h,Bool.true_and]
  refine ze1 Tryz.func61 rfl rfl ?_
  repeat' (first|(apply f_wo;first|(apply f_gs;refine n_sk ?_)|(apply f_mv;first|(refine zx1 ?_ ?_<;>intro hG<;>(try cases hG))|refine zv (v:=.c _) ?_)|(apply f_as;refine zq (v:=.c _) ?_)|(apply f_ca;refine zk1 c1 ?_)|(apply f_bi;refine zy1 ?_)|(apply zo4;refine zl2 ?_)|(apply f_no;refine zu2 ?_)|(apply f_pk;refine zw1 (v:=.c _) ?_))|(apply f_w;first|refine zj ?_|refine zb ?_)|refine za fun C=>?_|refine zd ?_)
  all_goals first
   | (exfalso;simp only [decide_eq_true_iff,decide_eq_false_iff_not] at *;omega)
   | (refine zh ?_;refine ret0 rfl zg1 ⟨?_,rfl⟩;cases b<;>rfl)
 ·rw [show decide (l.length≤20)=false from decide_eq_false h,Bool.false_and]
  refine ze1 Tryz.func61 rfl rfl ?_
  repeat' (first|(apply f_wo;first|(apply f_gs;refine n_sk ?_)|(apply f_mv;first|(refine zx1 ?_ ?_<;>intro hG<;>(try cases hG))|refine zv (v:=.c _) ?_)|(apply f_as;refine zq (v:=.c _) ?_)|(apply f_ca;refine zk1 c1 ?_)|(apply f_bi;refine zy1 ?_)|(apply zo4;refine zl2 ?_)|(apply f_no;refine zu2 ?_)|(apply f_pk;refine zw1 (v:=.c _) ?_))|(apply f_w;first|refine zj ?_|refine zb ?_)|refine za fun C=>?_|refine zd ?_)
  all_goals first
   | (exfalso;simp only [decide_eq_true_iff,decide_eq_false_iff_not] at *;omega)
   | (refine zh ?_;refine ret0 rfl zg1 ⟨?_,rfl⟩;rfl)
def zX:E:=.agg [.int .i64 0,.int .i64 0,.str ByteArray.empty,.lst 4 45 none 0 []]
theorem zX_Ty:zX.Ty Tryz.prog 45:=E.Ty.mk_agg Tryz.underlying45 (E.TyF.mk_cons (zj4 (by decide)) (E.TyF.mk_cons (zj4 (by decide)) (E.TyF.mk_cons (by simp only [E.Ty];exact⟨Tryz.underlying9,by decide⟩) (E.TyF.mk_cons (E.Ty.mk_lst Tryz.underlying43 (by kernel_rfl) (by simp) (by simp)) E.TyF.mk_nil))))
theorem eqDL_em (l:List E):eqDL l []=decide (l.length=0):=by
 cases l with
 | nil=>exact zc10
 | cons x r=>rw [zp20 (by simp)];rfl
theorem eqD_zX {e:E}(he:e.Ty Tryz.prog 45):eqD e zX=zeroX e:=by
 obtain⟨k0,n0,s0,xA,xc,l,rfl,-⟩:=zh1 he
 unfold zX
 rw [eqD_agg,zv5,zv5,zv5,zv5,zc10,zu18,zu18,eqD_str,eqD_lst,eqDL_em,Bool.and_true]
 show ((k0==0)&&((n0==0)&&(emB s0&&decide (l.length=0))))=(decide (k0=0)&&(decide (n0=0)&&(emB s0&&decide (l.length=0))))
 rfl
theorem sameZ_c {e:E}(he:e.Ty Tryz.prog 45)(hsz:e.sz≤1048576):Ctr Tryz.prog 63 [.ag (acE e),.ag [.v (.int .i64 0),.v (.int .i64 0),.v (.string ByteArray.empty),.v (.slice none 0 0)]] [] (.c (.v (.bool (zeroX e)))) []:=by
 rw [←eqD_zX he]
 refine zq17 (ze12 he zX_Ty hsz (by decide)) fun w St φ K us h=>?_
 simp only [VRL] at h ⊢
 obtain⟨u,us1,rfl,h1,v,us2,rfl,h2,rfl⟩:=h
 refine⟨u,[v],rfl,h1,v,[],rfl,?_,rfl⟩
 simp only [VR] at h2 ⊢
 obtain⟨vs,rfl,h3⟩:=h2
 refine⟨vs,rfl,?_⟩
 simp only [zX,acE,acL,CRL,CR,List.append_nil,List.cons_append,List.nil_append,List.length_nil] at h3 ⊢
 obtain⟨u1,r1,f1,g1,rfl,e1,⟨rfl,s1,rfl⟩,u2,r2,f2,g2,rfl,e2,⟨rfl,s2,rfl⟩,u3,r3,f3,g3,rfl,e3,⟨rfl,s3,rfl⟩,u4,r4,f4,g4,rfl,e4,⟨rfl,s4,rfl⟩,rfl,rfl⟩:=h3
 refine⟨_,_,[],[],rfl,rfl,⟨rfl,rfl,rfl⟩,_,_,[],[],rfl,rfl,⟨rfl,rfl,rfl⟩,_,_,[],[],rfl,rfl,⟨rfl,rfl,rfl⟩,_,_,[],[],rfl,rfl,⟨rfl,none,0,rfl,⟨Nat.le_refl _,by unfold maxLen;omega,fun _=>rfl⟩,by simp,fun h=>absurd h (Nat.lt_irrefl 0)⟩,rfl,rfl⟩
theorem ruleOk_c {k:Int}{p:E}{l:List E}(hp:p.Ty Tryz.prog 45)(hpz:p.sz≤1048576)(hl:∀e∈l,e.Ty Tryz.prog 71)(hk:∀e∈l,e.enc.length=6)(hlen:l.length+E.szL l≤1048576):Ctr Tryz.prog 36 [.ag (.v (.int .i64 k) :: (acE p++[.ro l.length 6 (acL l)]))] [] (.c (.v (.bool (ruleB k p l)))) []:=by
 have c1:=zq16 hl hk hlen
 have c2:=sameZ_c hp hpz
 have c3:=zn9 hp hpz
 have cw:=zy5 k 1 4
 obtain⟨k0,n0,s0,xA,xc,pl,rfl,-⟩:=zh1 hp
 unfold ruleB
 generalize bodyB l=b1 at c1 ⊢
 generalize zeroX _=b2 at c2 ⊢
 generalize exprB _=b3 at c3 ⊢
 by_cases h4:k=4
 ·subst h4
  rw [if_pos rfl,show inR 4 1 4=true from rfl] at *
  cases b1
  all_goals
   refine ze1 Tryz.func36 rfl rfl ?_
   repeat' (first|(apply f_wo;first|(apply f_mv;(refine zx1 ?_ ?_<;>intro hG<;>(try cases hG)))|(apply f_as;refine zq (v:=.c _) ?_)|(apply f_fa;refine n_fa ?_)|(apply f_ld;refine zn1 ?_)|(apply f_ca;first|refine zk1 cw ?_|refine zk1 c1 ?_|refine zk1 c3 ?_)|(apply zr1;refine zm ?_)|(apply f_no;refine zu2 ?_)|(apply f_pk;refine zw1 (v:=.c _) ?_)|refine n_bo ?_|refine zz1 ?_)|(apply f_w;first|refine zj ?_|refine zb ?_)|refine za fun C=>?_|refine zd ?_|refine zg ?_|refine za1 rfl ?_|refine zf1 rfl ?_)
   refine zh ?_;refine ret0 rfl zg1 ⟨?_,rfl⟩;rfl
 ·rw [if_neg h4]
  generalize inR k 1 4=bw at cw ⊢
  cases bw<;>cases b1
  case true.true =>
   refine ze1 Tryz.func36 rfl rfl ?_
   repeat' (first|(apply f_wo;first|(apply f_mv;(refine zx1 ?_ ?_<;>intro hG<;>(try cases hG)))|(apply f_as;refine zq (v:=.c _) ?_)|(apply f_fa;refine n_fa ?_)|(apply f_ld;refine zn1 ?_)|(apply f_ca;first|refine zk1 cw ?_|refine zk1 c1 ?_)|(apply zr1;refine zm ?_)|(apply f_no;refine zu2 ?_)|(apply f_pk;refine zw1 (v:=.c _) ?_)|refine n_bo ?_)|(apply f_w;first|refine zj ?_|refine zb ?_)|refine za fun C=>?_|refine zd ?_|refine zg ?_|refine zf1 rfl ?_)
   refine zi (by rfl) (fun hC=>absurd (eq_of_beq hC) h4) fun hC=>?_
   repeat' (first|(apply f_wo;first|(apply f_as;refine zq (v:=.c _) ?_)|(apply f_fa;refine n_fa ?_)|(apply f_ca;refine zk1 c2 ?_)|refine zz1 ?_)|(apply f_w;first|refine zj ?_|refine zb ?_)|refine za fun C=>?_|refine zd ?_|refine zg ?_)
   refine zh ?_;refine ret0 rfl zg1 ⟨?_,rfl⟩;rfl
  all_goals
   refine ze1 Tryz.func36 rfl rfl ?_
   repeat' (first|(apply f_wo;first|(apply f_gs;refine n_sk ?_)|(apply f_mv;(refine zx1 ?_ ?_<;>intro hG<;>(try cases hG)))|(apply f_as;refine zq (v:=.c _) ?_)|(apply f_fa;refine n_fa ?_)|(apply f_ld;refine zn1 ?_)|(apply f_ca;first|refine zk1 cw ?_|refine zk1 c1 ?_)|(apply f_no;refine zu2 ?_)|(apply f_pk;refine zw1 (v:=.c _) ?_)|refine n_bo ?_)|(apply f_w;first|refine zj ?_|refine zb ?_)|refine za fun C=>?_|refine zd ?_|refine za1 rfl ?_)
   refine zh ?_;refine ret0 rfl zg1 ⟨?_,rfl⟩;rfl
set_option maxHeartbeats 2000000 in
theorem fnOk_c {s:ByteArray}{ps l:List E}(hs:s.size≤1048576)(hp:∀e∈ps,e.Ty Tryz.prog 9)(kp:∀e∈ps,e.enc.length=1)(zp:ps.length+E.szL ps≤1048576)(hl:∀e∈l,e.Ty Tryz.prog 71)(hk:∀e∈l,e.enc.length=6)(hlen:l.length+E.szL l≤1048576):Ctr Tryz.prog 37 [.ag [.v (.string s),.ro ps.length 1 (acL ps),.ro l.length 6 (acL l)]] [] (.c (.v (.bool (nameK s&&(decide (ps.length≤4)&&(bodyB l&&parB ps)))))) []:=by
 have c1:=zr3 hs
 have c2:=zq16 hl hk hlen
 generalize nameK s=b1 at c1 ⊢
 generalize bodyB l=b2 at c2 ⊢
 by_cases h:b1=true∧ps.length≤4∧b2=true
 ·obtain⟨rfl,h4,rfl⟩:=h
  rw [show decide (ps.length≤4)=true from decide_eq_true h4,Bool.true_and,Bool.true_and,Bool.true_and]
  refine ze1 Tryz.func37 rfl rfl ?_
  repeat' (first|(apply f_wo;first|(apply f_gs;refine n_sk ?_)|(apply f_mv;first|(refine zx1 ?_ ?_<;>intro hG<;>(try cases hG))|refine zv (v:=.c _) ?_)|(apply f_as;refine zq (v:=.c _) ?_)|(apply f_fa;refine n_fa ?_)|(apply f_ld;refine zn1 ?_)|(apply f_ca;first|refine zk1 c1 ?_|refine zk1 c2 ?_)|(apply f_bi;refine zy1 ?_)|(apply zn3;refine za2 ?_)|(apply f_no;refine zu2 ?_)|(apply f_pk;refine zw1 (v:=.c _) ?_)|refine n_bo ?_)|(apply f_w;first|refine zj ?_|refine zb ?_)|refine za fun C=>?_|refine zd ?_|refine ze ?_|refine zg ?_|refine za1 rfl ?_|refine zf1 rfl ?_)
  all_goals try (exfalso;simp only [decide_eq_true_iff] at hG;omega)
  refine zv1 (fun k:Nat=>⟨tmsF [(1,.c (.pt 1 0)),(22,.c (.ro ps.length 1 (acL ps))),(23,.c (.v (.int .i64 ps.length))),(24,.c (.v (.int .i64 (k:Int))))],hpsF [(1,1,⟨41,0,0,true,[.v (.string s),.ro ps.length 1 (acL ps),.ro l.length 6 (acL l)]⟩)],0,[1],41⟩)
   (fun N k=>k+N=ps.length∧∀j,j<k→parAt ps j=true) ps.length 0 ⟨by omega,fun j hj=>absurd hj (Nat.not_lt_zero j)⟩ ?_ ?_
  ·(refine zl1 _ _ rfl rfl ?_ ?_<;>(repeat' (first|exact TmOk.nil|exact RwOk.nil|refine TmOk.cons ?_ ?_|refine RwOk.cons ?_ ?_|rfl|(refine rnV_id' rfl ?_;exact byc)|(refine zp1 ?_;first|rfl|omega|(rw [zw (by omega) (by omega)];omega))|(refine zb1 rfl ?_;exact byc)|exact zc2 rfl rfl|(refine zq1 (by rfl) (by rfl) ?_ ?_<;>exact byc)|(refine rw_rn' rfl rfl ?_;simp;done))))
  rintro N k ⟨hN,hr⟩
  try dsimp only
  repeat' (first|(apply f_wo;(apply zg3;refine zs1 ?_))|(apply f_w;first|refine zj ?_|refine zb ?_)|refine za fun C=>?_|refine zd ?_)
  refine zi (by rfl) (fun h1=>?_) fun h1=>?_
  ·have hk':k<ps.length:=by simpa using h1
   obtain⟨x,hx'⟩:∃x,ps[k]? = some x:=⟨_,List.getElem?_eq_getElem hk'⟩
   have hxz:=E.szL_mem (List.mem_of_getElem? hx')
   obtain⟨z,rfl,-⟩:=(hp x (List.mem_of_getElem? hx')).str_ Tryz.underlying9
   simp only [E.sz] at hxz
   have d1:=zr3 (s:=z) (by omega)
   have hll:(ps.take k).length≤1073741824:=by rw [List.length_take];omega
   have d2:Ctr Tryz.prog 65 [.c (.ro (ps.take k).length 1 (acL (ps.take k))),.c (.v (.string z))] [] (.c (.v (.bool (hasB (ps.take k) z)))) []:=zg7 (fun e he=>hp e (List.mem_of_mem_take he)) (fun e he=>kp e (List.mem_of_mem_take he)) hll z
   have ep:parAt ps k=(nameK z&&!hasB (ps.take k) z):=by unfold parAt;rw [hx'];rfl
   generalize nameK z=e1 at d1 ep
   generalize hasB (ps.take k) z=e2 at d2 ep
   cases e1<;>cases e2
   case true.false =>
    repeat' (first|(apply f_wo;refine n_hd k kp (by omega) rfl ?_)|(apply f_wo;first|(apply f_mv;first|(refine zx1 ?_ ?_<;>intro hG<;>(try cases hG))|refine zv (v:=.c _) ?_)|(apply f_as;refine zq (v:=.c _) ?_)|(apply f_fa;refine n_fa ?_)|(apply f_ld;first|refine zn1 ?_|refine zz3 ?_)|(apply f_ca;first|refine zk1 d1 ?_|refine zk1 d2 ?_)|(apply f_ia;refine n_ix ?_)|(apply zd2;refine zj1 ?_)|(apply f_no;refine zu2 ?_)|(apply f_pk;refine zw1 (v:=.c _) ?_))|(apply f_w;first|refine zj ?_|refine zb ?_)|refine za fun C=>?_|refine zd ?_|refine ze ?_|refine zg ?_|refine zf1 rfl ?_)
    refine⟨N-1,k+1,by omega,⟨by omega,fun j hj=>?_⟩,?_⟩
    ·by_cases e:j=k
     ·subst e;exact ep
     ·exact hr j (by omega)
    ·(refine zl1 _ _ rfl rfl ?_ ?_<;>(repeat' (first|exact TmOk.nil|exact RwOk.nil|refine TmOk.cons ?_ ?_|refine RwOk.cons ?_ ?_|rfl|(refine rnV_id' rfl ?_;exact byc)|(refine zp1 ?_;first|rfl|omega|(rw [zw (by omega) (by omega)];omega))|(refine zb1 rfl ?_;exact byc)|exact zc2 rfl rfl|(refine zq1 (by rfl) (by rfl) ?_ ?_<;>exact byc)|(refine rw_rn' rfl rfl ?_;simp;done))))
   all_goals
    rw [show parB ps=false from za9 hk' ep]
    repeat' (first|(apply f_wo;refine n_hd k kp (by omega) rfl ?_)|(apply f_wo;first|(apply f_gs;refine n_sk ?_)|(apply f_mv;first|(refine zx1 ?_ ?_<;>intro hG<;>(try cases hG))|refine zv (v:=.c _) ?_)|(apply f_as;refine zq (v:=.c _) ?_)|(apply f_fa;refine n_fa ?_)|(apply f_ld;first|refine zn1 ?_|refine zz3 ?_)|(apply f_ca;first|refine zk1 d1 ?_|refine zk1 d2 ?_)|(apply f_ia;refine n_ix ?_)|(apply f_no;refine zu2 ?_)|(apply f_pk;refine zw1 (v:=.c _) ?_))|(apply f_w;first|refine zj ?_|refine zb ?_)|refine za fun C=>?_|refine zd ?_|refine ze ?_|refine zg ?_|refine za1 rfl ?_)
    refine zh ?_;refine ret0 rfl zg1 ⟨?_,rfl⟩;rfl
  ·have hk':¬k<ps.length:=by simpa using h1
   rw [show parB ps=true from zb10 fun j hj=>hr j (by omega)]
   repeat' (first|(apply f_wo;(apply f_as;refine zq (v:=.c _) ?_))|(apply f_w;first|refine zj ?_|refine zb ?_)|refine za fun C=>?_|refine zd ?_|refine zu ?_)
   refine zh ?_;refine ret0 rfl zg1 ⟨?_,rfl⟩;rfl
 ·rw [show (b1&&(decide (ps.length≤4)&&(b2&&parB ps)))=false by
   cases b1<;>cases b2<;>simp_all
   intro h9
   omega]
  cases b1<;>cases b2
  all_goals
   refine ze1 Tryz.func37 rfl rfl ?_
   repeat' (first|(apply f_wo;first|(apply f_gs;refine n_sk ?_)|(apply f_mv;first|(refine zx1 ?_ ?_<;>intro hG<;>(try cases hG))|refine zv (v:=.c _) ?_)|(apply f_as;refine zq (v:=.c _) ?_)|(apply f_fa;refine n_fa ?_)|(apply f_ld;refine zn1 ?_)|(apply f_ca;first|refine zk1 c1 ?_|refine zk1 c2 ?_)|(apply f_bi;refine zy1 ?_)|(apply zn3;refine za2 ?_)|(apply f_no;refine zu2 ?_)|(apply f_pk;refine zw1 (v:=.c _) ?_)|refine n_bo ?_)|(apply f_w;first|refine zj ?_|refine zb ?_)|refine za fun C=>?_|refine zd ?_|refine ze ?_|refine zg ?_|(refine zi (by rfl) ?_ ?_<;>intro hC<;>(try cases hC)))
  all_goals first
   | (refine zh ?_;refine ret0 rfl zg1 ⟨?_,rfl⟩;rfl)
   | (exfalso;simp_all;done)
   | (exfalso;simp_all;omega)
theorem fnAt1_c {x:E}(hx:x.Ty Tryz.prog 41)(s:ByteArray):Ctr Tryz.prog 67 [.ag (acE x),.c (.pt 0 0)] [[.v (.string s)]] (.c (.v (.bool (isFn s x)))) [[.v (.string s)]]:=by
 obtain⟨n0,pA,pc,ps,bA,bc,bl,rfl,-⟩:=zx2 hx
 refine ze1 Tryz.func67 rfl rfl ?_
 repeat' (first|(apply f_wo;first|(apply f_as;refine zq (v:=.c _) ?_)|(apply f_fa;refine n_fa ?_)|(apply f_ld;refine zn1 ?_)|(apply zr1;refine zr2 ?_)|refine n_bo ?_)|(apply f_w;first|refine zj ?_|refine zb ?_)|refine za fun C=>?_|refine zd ?_)
 refine zh ?_
 refine ret1 rfl zg1 rfl (by rfl) rfl ⟨?_,?_⟩
 all_goals rfl
theorem fnAt_c {rs fs:List E}(hl:∀e∈fs,e.Ty Tryz.prog 41)(hk:∀e∈fs,e.enc.length=3)(hlen:fs.length≤1048576)(s:ByteArray):Ctr Tryz.prog 38 [.ag [.ro rs.length 6 (acL rs),.ro fs.length 3 (acL fs)],.c (.v (.string s))] [] (.c (.v (.int .i64 (idxF (isFn s) fs)))) []:=by
 have c1:=idx1Fn_c hl hk (by omega) (b:=[.v (.string s)]) rfl (isFn s) 67 fun x hx=>fnAt1_c (hl x hx) s
 refine ze1 Tryz.func38 rfl rfl ?_
 repeat' (first|(apply f_wo;first|(apply f_as;refine zq (v:=.c _) ?_)|(apply f_fa;refine n_fa ?_)|(apply f_ca;refine zh2 3 (c1) ?_)|refine n_bo ?_|refine zz1 ?_)|(apply f_w;first|refine zj ?_|refine zb ?_)|refine za fun C=>?_|refine zd ?_)
 refine zh ?_;refine ret0 rfl zg1 ⟨?_,rfl⟩;rfl
theorem ruleE_c {x:E}(hx:x.Ty Tryz.prog 47)(hsz:x.sz≤1048576):Ctr Tryz.prog 35 [.ag (acE x)] [] (.c (.v (.bool (!ruleE x)))) []:=by
 obtain⟨k0,p0,p1,p2,pA,pc,pl,bA,bc,bl,rfl,-,g1,g2,g3,⟨g4,g4'⟩,⟨g5,g5'⟩,-⟩:=zw2 hx
 simp only [E.sz,E.szL] at hsz
 have cx:=ruleOk_c (k:=k0) (p:=.agg [.int .i64 p0,.int .i64 p1,.str p2,.lst 4 45 pA pc pl]) (E.Ty.mk_agg Tryz.underlying45 (E.TyF.mk_cons (zj4 g1) (E.TyF.mk_cons (zj4 g2) (E.TyF.mk_cons (by simp only [E.Ty];exact⟨Tryz.underlying9,by unfold maxLen;omega⟩) (E.TyF.mk_cons (E.Ty.mk_lst Tryz.underlying43 (by kernel_rfl) g4 g4') E.TyF.mk_nil))))) (by simp only [E.sz,E.szL];omega) g5 g5' (by omega)
 rw [show ruleE (.agg [.int .i64 k0,.agg [.int .i64 p0,.int .i64 p1,.str p2,.lst 4 45 pA pc pl],.lst 6 71 bA bc bl])=ruleB k0 (.agg [.int .i64 p0,.int .i64 p1,.str p2,.lst 4 45 pA pc pl]) bl from rfl]
 generalize ruleB k0 _ bl=b at cx ⊢
 refine ze1 Tryz.func35 rfl rfl ?_
 repeat' (first|(apply f_wo;first|(apply f_as;refine zq (v:=.c _) ?_)|(apply f_ld;refine zs2 ?_)|(apply f_ca;refine zk1 cx ?_)|(apply f_no;refine zu2 ?_)|refine n_bo ?_)|(apply f_w;first|refine zj ?_|refine zb ?_)|refine za fun C=>?_|refine zd ?_)
 refine zh ?_;refine ret0 rfl zg1 ⟨?_,rfl⟩;rfl
set_option maxHeartbeats 2000000 in
theorem zr16 {e:E}(he:e.Ty Tryz.prog 31)(hsz:e.sz≤1048576):Ctr Tryz.prog 16 [.ag (acE e)] [] (.c (.v (.bool (progE e)))) []:=by
 obtain⟨rA,rc,rs,fA,fc,fs,rfl,⟨hr,kr⟩,⟨hf,kf⟩,-⟩:=zh3 he
 simp only [E.sz,E.szL] at hsz
 show Ctr _ _ _ _ (.c (.v (.bool (progB rs fs)))) _
 have cR:=zs22 hr kr (by omega) (fun e=>!ruleE e) 35 fun x hx=>ruleE_c (hr x hx) (by have:=E.szL_mem hx;omega)
 rw [any_not] at cR
 unfold progB
 generalize rs.all ruleE=bR at cR ⊢
 by_cases h:rs.length≤10∧fs.length≤6∧bR=true
 ·obtain⟨h1,h2,rfl⟩:=h
  rw [show decide (rs.length≤10)=true from decide_eq_true h1,show decide (fs.length≤6)=true from decide_eq_true h2,Bool.true_and,Bool.true_and]
  refine ze1 Tryz.func16 rfl rfl ?_
  repeat' (first|(apply f_wo;first|(apply f_gs;refine n_sk ?_)|(apply f_mv;first|(refine zx1 ?_ ?_<;>intro hG<;>(try cases hG))|refine zv (v:=.c _) ?_)|(apply f_as;refine zq (v:=.c _) ?_)|(apply f_fa;refine n_fa ?_)|(apply f_ld;refine zn1 ?_)|(apply f_ca;refine zk1 cR ?_)|(apply f_bi;refine zy1 ?_)|(apply zn3;refine za2 ?_)|(apply f_pk;refine zw1 (v:=.c _) ?_)|refine n_bo ?_)|(apply f_w;first|refine zj ?_|refine zb ?_)|refine za fun C=>?_|refine zd ?_|refine ze ?_|refine zg ?_|refine za1 rfl ?_|refine zf1 rfl ?_)
  all_goals try (exfalso;simp only [decide_eq_true_iff] at *;omega)
  refine zv1 (fun k:Nat=>⟨tmsF [(1,.c (.pt 1 0)),(21,.c (.ro fs.length 3 (acL fs))),(22,.c (.v (.int .i64 fs.length))),(23,.c (.v (.int .i64 (k:Int))))],hpsF [(1,1,⟨31,0,0,true,[.ro rs.length 6 (acL rs),.ro fs.length 3 (acL fs)]⟩)],0,[1],40⟩)
   (fun N k=>k+N=fs.length∧∀j,j<k→fnAtB fs j=true) fs.length 0 ⟨by omega,fun j hj=>absurd hj (Nat.not_lt_zero j)⟩ ?_ ?_
  ·(refine zl1 _ _ rfl rfl ?_ ?_<;>(repeat' (first|exact TmOk.nil|exact RwOk.nil|refine TmOk.cons ?_ ?_|refine RwOk.cons ?_ ?_|rfl|(refine rnV_id' rfl ?_;exact byc)|(refine zp1 ?_;first|rfl|omega|(rw [zw (by omega) (by omega)];omega))|(refine zb1 rfl ?_;exact byc)|exact zc2 rfl rfl|(refine zq1 (by rfl) (by rfl) ?_ ?_<;>exact byc)|(refine rw_rn' rfl rfl ?_;simp;done))))
  rintro N i ⟨hN,hno⟩
  try dsimp only
  repeat' (first|(apply f_wo;(apply zg3;refine zs1 ?_))|(apply f_w;first|refine zj ?_|refine zb ?_)|refine za fun C=>?_|refine zd ?_)
  refine zi (by rfl) (fun h1=>?_) fun h1=>?_
  ·have hi':i<fs.length:=by simpa using h1
   obtain⟨x,hx'⟩:∃x,fs[i]? = some x:=⟨_,List.getElem?_eq_getElem hi'⟩
   have hxz:=E.szL_mem (List.mem_of_getElem? hx')
   obtain⟨n0,pA,pc,ps,bA,bc,bl,rfl,g0,⟨g1,g1'⟩,⟨g2,g2'⟩,-⟩:=zx2 (hf x (List.mem_of_getElem? hx'))
   simp only [E.sz,E.szL] at hxz
   have c1:=fnOk_c (s:=n0) (by omega) g1 g1' (by omega) g2 g2' (by omega)
   have c2:=fnAt_c (rs:=rs) hf kf (by omega) n0
   have ef:fnAtB fs i=((nameK n0&&(decide (ps.length≤4)&&(bodyB bl&&parB ps)))&&(idxF (isFn n0) fs==(i:Int))):=by unfold fnAtB;rw [hx'];rfl
   generalize (nameK n0&&(decide (ps.length≤4)&&(bodyB bl&&parB ps)))=b1 at c1 ef
   by_cases hi2:idxF (isFn n0) fs=(i:Int)
   ·rw [hi2] at c2 ef
    rw [beq_self_eq_true,Bool.and_true] at ef
    cases b1
    ·rw [show allN fs.length (fnAtB fs)=false from za9 hi' ef]
     repeat' (first|(apply f_wo;first|(apply f_gs;refine n_sk ?_)|(apply f_mv;first|(refine zx1 ?_ ?_<;>intro hG<;>(try cases hG))|refine zv (v:=.c _) ?_)|(apply f_as;refine zq (v:=.c _) ?_)|(apply f_ld;first|refine zq2 ?_|refine zs2 ?_)|(apply f_ca;refine zk1 c1 ?_)|(apply f_st;refine n_st ?_)|(apply f_ia;refine n_ix ?_)|(apply f_no;refine zu2 ?_)|(apply f_pk;refine zw1 (v:=.c _) ?_)|refine n_al ?_)|(apply f_w;first|refine zj ?_|refine zb ?_)|refine za fun C=>?_|refine zd ?_|refine ze ?_|refine zg ?_|refine za1 rfl ?_)
     refine zh ?_;refine ret0 rfl zg1 ⟨?_,rfl⟩;rfl
    ·repeat' (first|(apply f_wo;first|(apply f_mv;first|(refine zx1 ?_ ?_<;>intro hG<;>(try cases hG))|refine zv (v:=.c _) ?_)|(apply f_as;refine zq (v:=.c _) ?_)|(apply f_fa;refine n_fa ?_)|(apply f_ld;first|refine zn1 ?_|refine zq2 ?_|refine zs2 ?_)|(apply f_ca;first|refine zk1 c1 ?_|refine zk1 c2 ?_)|(apply f_st;refine n_st ?_)|(apply f_ia;refine n_ix ?_)|(apply zn2;refine zm1 ?_)|(apply f_no;refine zu2 ?_)|(apply f_pk;refine zw1 (v:=.c _) ?_)|refine n_al ?_)|(apply f_w;first|refine zj ?_|refine zb ?_)|refine za fun C=>?_|refine zd ?_|refine ze ?_|refine zg ?_)
     refine zi (by rfl) (fun hC=>by exfalso;simp at hC) fun hC=>?_
     repeat' (first|(apply f_wo;first|(apply f_mv;refine zv (v:=.c _) ?_)|(apply zd2;refine zj1 ?_))|(apply f_w;first|refine zj ?_|refine zb ?_)|refine za fun C=>?_|refine zg ?_)
     refine⟨N-1,i+1,by omega,⟨by omega,fun j hj=>?_⟩,?_⟩
     ·by_cases e:j=i
      ·subst e;exact ef
      ·exact hno j (by omega)
     ·(refine zl1 _ _ rfl rfl ?_ ?_<;>(repeat' (first|exact TmOk.nil|exact RwOk.nil|refine TmOk.cons ?_ ?_|refine RwOk.cons ?_ ?_|rfl|(refine rnV_id' rfl ?_;exact byc)|(refine zp1 ?_;first|rfl|omega|(rw [zw (by omega) (by omega)];omega))|(refine zb1 rfl ?_;exact byc)|exact zc2 rfl rfl|(refine zq1 (by rfl) (by rfl) ?_ ?_<;>exact byc)|(refine rw_rn' rfl rfl ?_;simp;done))))
   ·rw [show (idxF (isFn n0) fs==(i:Int))=false from beq_eq_false_iff_ne.2 hi2,Bool.and_false] at ef
    rw [show allN fs.length (fnAtB fs)=false from za9 hi' ef]
    cases b1
    ·repeat' (first|(apply f_wo;first|(apply f_gs;refine n_sk ?_)|(apply f_mv;first|(refine zx1 ?_ ?_<;>intro hG<;>(try cases hG))|refine zv (v:=.c _) ?_)|(apply f_as;refine zq (v:=.c _) ?_)|(apply f_ld;first|refine zq2 ?_|refine zs2 ?_)|(apply f_ca;refine zk1 c1 ?_)|(apply f_st;refine n_st ?_)|(apply f_ia;refine n_ix ?_)|(apply f_no;refine zu2 ?_)|(apply f_pk;refine zw1 (v:=.c _) ?_)|refine n_al ?_)|(apply f_w;first|refine zj ?_|refine zb ?_)|refine za fun C=>?_|refine zd ?_|refine ze ?_|refine zg ?_|refine za1 rfl ?_)
     refine zh ?_;refine ret0 rfl zg1 ⟨?_,rfl⟩;rfl
    ·repeat' (first|(apply f_wo;first|(apply f_mv;first|(refine zx1 ?_ ?_<;>intro hG<;>(try cases hG))|refine zv (v:=.c _) ?_)|(apply f_as;refine zq (v:=.c _) ?_)|(apply f_fa;refine n_fa ?_)|(apply f_ld;first|refine zn1 ?_|refine zq2 ?_|refine zs2 ?_)|(apply f_ca;first|refine zk1 c1 ?_|refine zk1 c2 ?_)|(apply f_st;refine n_st ?_)|(apply f_ia;refine n_ix ?_)|(apply zn2;refine zm1 ?_)|(apply f_no;refine zu2 ?_)|(apply f_pk;refine zw1 (v:=.c _) ?_)|refine n_al ?_)|(apply f_w;first|refine zj ?_|refine zb ?_)|refine za fun C=>?_|refine zd ?_|refine ze ?_|refine zg ?_)
     refine zi (by rfl) (fun hC=>?_) fun hC=>by exfalso;simp at hC;exact hi2 hC
     repeat' (first|(apply f_wo;(apply f_as;refine zq (v:=.c _) ?_))|(apply f_w;first|refine zj ?_|refine zb ?_)|refine za fun C=>?_|refine zd ?_)
     refine zh ?_;refine ret0 rfl zg1 ⟨?_,rfl⟩;rfl
  ·have hi':¬i<fs.length:=by simpa using h1
   rw [show allN fs.length (fnAtB fs)=true from zb10 fun j hj=>hno j (by omega)]
   repeat' (first|(apply f_wo;(apply f_as;refine zq (v:=.c _) ?_))|(apply f_w;first|refine zj ?_|refine zb ?_)|refine za fun C=>?_|refine zd ?_|refine zu ?_)
   refine zh ?_;refine ret0 rfl zg1 ⟨?_,rfl⟩;rfl
 ·rw [show ((decide (rs.length≤10)&&decide (fs.length≤6))&&(bR&&allN fs.length (fnAtB fs)))=false by
   cases bR
   ·rw [Bool.false_and,Bool.and_false]
   ·by_cases a1:rs.length≤10
    ·have a2:¬fs.length≤6:=fun a2=>h ⟨a1,a2,rfl⟩
     rw [show decide (fs.length≤6)=false from decide_eq_false a2,Bool.and_false,Bool.false_and]
    ·rw [show decide (rs.length≤10)=false from decide_eq_false a1,Bool.false_and,Bool.false_and]]
  cases bR
  all_goals
   refine ze1 Tryz.func16 rfl rfl ?_
   repeat' (first|(apply f_wo;first|(apply f_gs;refine n_sk ?_)|(apply f_mv;(refine zx1 ?_ ?_<;>intro hG<;>(try cases hG)))|(apply f_as;refine zq (v:=.c _) ?_)|(apply f_fa;refine n_fa ?_)|(apply f_ld;refine zn1 ?_)|(apply f_ca;refine zk1 cR ?_)|(apply f_bi;refine zy1 ?_)|(apply zn3;refine za2 ?_)|(apply f_pk;refine zw1 (v:=.c _) ?_)|refine n_bo ?_)|(apply f_w;first|refine zj ?_|refine zb ?_)|refine za fun C=>?_|refine zd ?_)
  all_goals first
   | (refine za1 rfl ?_
      repeat' (first|(apply f_wo;(apply f_as;refine zq (v:=.c _) ?_))|(apply f_w;first|refine zj ?_|refine zb ?_)|refine za fun C=>?_|refine zd ?_)
      refine zh ?_;refine ret0 rfl zg1 ⟨?_,rfl⟩;rfl)
   | (exfalso;simp only [decide_eq_true_iff,decide_eq_false_iff_not] at *;first|omega|(exact h ⟨by omega,by omega,trivial⟩)|(exact h ⟨by omega,by omega,rfl⟩))
   | (refine zi (by rfl) (fun hC=>?_) fun hC=>by exfalso;simp only [decide_eq_true_iff,decide_eq_false_iff_not] at *;first|omega|(exact h ⟨by omega,by omega,trivial⟩)|(exact h ⟨by omega,by omega,rfl⟩)
      skip
      refine zh ?_;refine ret0 rfl zg1 ⟨?_,rfl⟩;rfl)
def paT (ps:List E):ByteArray:=joC (ps.map strB)
def fnT (e:E):ByteArray:=match e with
 | .agg [.str nm,.lst _ _ _ _ ps,.lst _ _ _ _ l]=>(((((⟨#[102,117,110,99,32]⟩++nm)++⟨#[40]⟩)++paT ps)++⟨#[41,32]⟩)++blT (l.map stE))++⟨#[10]⟩
 | _=>ByteArray.empty
def ruH (k:Int)(p:E):ByteArray:=if k=1 then ⟨#[98,101,103,105,110,32]⟩ else if k=2 then ⟨#[101,110,100,32]⟩ else if k=4 then txE p++⟨#[32]⟩ else ByteArray.empty
def ruT (e:E):ByteArray:=match e with
 | .agg [.int _ k,p,.lst _ _ _ _ l]=>ruH k p++(blT (l.map stE)++⟨#[10]⟩)
 | _=>ByteArray.empty
def catB (ts:List ByteArray):ByteArray:=ts.foldl (fun a t=>a++t) ByteArray.empty
theorem zg8 (ts:List ByteArray)(t:ByteArray):catB (ts++[t])=catB ts++t:=by
 unfold catB
 rw [List.foldl_append];rfl
theorem zh8 (ts:List ByteArray):(catB ts).size≤smB ts:=by
 have key:∀(r:List ByteArray) (a:ByteArray),(r.foldl (fun a t=>a++t) a).size≤a.size+smB r:=fun r=>by
  induction r with
  | nil=>intro a;exact Nat.le_refl _
  | cons t r ih =>
   intro a
   have h:=ih (a++t)
   rw [ByteArray.size_append'] at h
   simp only [List.foldl_cons,smB]
   omega
 have h:=key ts ByteArray.empty
 have h2:ByteArray.empty.size=0:=rfl
 unfold catB
 omega
def prT (rs fs:List E):ByteArray:=catB (fs.map fnT++rs.map ruT)
def prE (e:E):ByteArray:=if progE e=true then match e with | .agg [.lst _ _ _ _ rs,.lst _ _ _ _ fs]=>prT rs fs|_=>ByteArray.empty else ⟨#[]⟩
theorem zv18:∀(a b:List ByteArray),smB (a++b)=smB a+smB b
 | [],b=>by simp [smB]
 | x :: r,b=>by simp only [List.cons_append,smB,zv18 r b];omega
theorem zd10 {ps:List E}:joinB ps ⟨#[44,32]⟩=paT ps:=by
 unfold paT joC joinB
 simp only [List.map_map]
 rfl
theorem ze10:∀{ps:List E},(∀y∈ps,y.Ty Tryz.prog 9)→smB (ps.map strB)≤2*ps.length+E.szL ps
 | [],_=>Nat.zero_le _
 | x :: r,h=>by
  have h1:=ze10 (ps:=r) fun y hy=>h y (List.mem_cons_of_mem _ hy)
  obtain⟨s,rfl,-⟩:=(h x (List.mem_cons_self ..)).str_ Tryz.underlying9
  simp only [List.map_cons,smB,List.length_cons,E.szL,E.sz,strB]
  omega
theorem zr20 {e:E}(he:e.Ty Tryz.prog 41):(fnT e).size+2≤60*(1+e.sz):=by
 obtain⟨n0,pA,pc,ps,bA,bc,bl,rfl,g0,⟨g1,g1'⟩,⟨g2,g2'⟩,-⟩:=zx2 he
 have h1:=zc6 (ps.map strB)
 have h2:=ze10 g1
 have h3:=zi4 (bl.map stE)
 have h4:=zu5 g2
 have hm:∀a:Array UInt8,(ByteArray.mk a).size=a.size:=fun _=>rfl
 simp only [E.sz,E.szL]
 unfold fnT paT
 try simp only [ByteArray.size_append',ByteArray.size_mk',List.size_toArray,List.length_cons,List.length_nil]
 omega
theorem ruT_size {e:E}(he:e.Ty Tryz.prog 47):(ruT e).size+2≤60*(1+e.sz):=by
 obtain⟨k0,p0,p1,p2,pA,pc,pl,bA,bc,bl,rfl,-,g1,g2,g3,⟨g4,g4'⟩,⟨g5,g5'⟩,-⟩:=zw2 he
 have hp:E.Ty Tryz.prog (.agg [.int .i64 p0,.int .i64 p1,.str p2,.lst 4 45 pA pc pl]) 45:=E.Ty.mk_agg Tryz.underlying45 (E.TyF.mk_cons (zj4 g1) (E.TyF.mk_cons (zj4 g2) (E.TyF.mk_cons (by simp only [E.Ty];exact⟨Tryz.underlying9,by unfold maxLen;omega⟩) (E.TyF.mk_cons (E.Ty.mk_lst Tryz.underlying43 (by kernel_rfl) g4 g4') E.TyF.mk_nil))))
 have h1:=zl4 hp
 have h3:=zi4 (bl.map stE)
 have h4:=zu5 g5
 have hm:∀a:Array UInt8,(ByteArray.mk a).size=a.size:=fun _=>rfl
 simp only [E.sz,E.szL] at h1 ⊢
 have h5:(ruH k0 (.agg [.int .i64 p0,.int .i64 p1,.str p2,.lst 4 45 pA pc pl])).size≤10+(txE (.agg [.int .i64 p0,.int .i64 p1,.str p2,.lst 4 45 pA pc pl])).size:=by
  unfold ruH
  repeat' refine zg14 ?_ ?_
  all_goals
   try simp only [ByteArray.size_append',ByteArray.size_mk',List.size_toArray,List.length_cons,List.length_nil,show ByteArray.empty.size=0 from rfl]
   omega
 show (ruH k0 (.agg [.int .i64 p0,.int .i64 p1,.str p2,.lst 4 45 pA pc pl])++(blT (bl.map stE)++⟨#[10]⟩)).size+2≤_
 generalize txE (.agg [.int .i64 p0,.int .i64 p1,.str p2,.lst 4 45 pA pc pl])=X at h1 h5
 generalize ruH k0 (.agg [.int .i64 p0,.int .i64 p1,.str p2,.lst 4 45 pA pc pl])=H at h5 ⊢
 all_goals
  try simp only [ByteArray.size_append',ByteArray.size_mk',List.size_toArray,List.length_cons,List.length_nil,show ByteArray.empty.size=0 from rfl]
  omega
theorem sum_fn:∀{l:List E},(∀x∈l,x.Ty Tryz.prog 41)→smB (l.map fnT)≤60*(l.length+E.szL l)
 | [],_=>Nat.zero_le _
 | x :: r,h=>by
  have h1:=sum_fn (l:=r) fun y hy=>h y (List.mem_cons_of_mem _ hy)
  have h2:=zr20 (h x (List.mem_cons_self ..))
  simp only [List.map_cons,smB,List.length_cons,E.szL]
  omega
theorem sum_ru:∀{l:List E},(∀x∈l,x.Ty Tryz.prog 47)→smB (l.map ruT)≤60*(l.length+E.szL l)
 | [],_=>Nat.zero_le _
 | x :: r,h=>by
  have h1:=sum_ru (l:=r) fun y hy=>h y (List.mem_cons_of_mem _ hy)
  have h2:=ruT_size (h x (List.mem_cons_self ..))
  simp only [List.map_cons,smB,List.length_cons,E.szL]
  omega
theorem zc13 {rs fs:List E}(h:progB rs fs=true):(∀x∈rs,ruleE x=true)∧∀(i:Nat) (x:E),fs[i]? = some x→fnOkF x=true:=by
 unfold progB at h
 rw [Bool.and_eq_true,Bool.and_eq_true (rs.all ruleE),List.all_eq_true] at h
 refine⟨h.2.1,fun i x hx=>?_⟩
 have h1:=List.all_eq_true.1 h.2.2 i (List.mem_range.2 (List.getElem?_eq_some_iff.1 hx).1)
 unfold fnAtB at h1
 rw [hx,Option.getD_some,Bool.and_eq_true] at h1
 exact h1.1
theorem zs20 {l:List E}(h:bodyB l=true):∀x∈l,stmtB x=true:=by
 unfold bodyB at h
 rw [Bool.and_eq_true,List.all_eq_true] at h
 exact h.2
theorem zs11 {l:List E}(hl:∀e∈l,e.Ty Tryz.prog 71)(hk:∀e∈l,e.enc.length=6)(hlen:l.length+E.szL l≤1048576)(hb:bodyB l=true):Ctr Tryz.prog 18 [.c (.ro l.length 6 (acL l))] [] (.c (.v (.string (blT (l.map stE))))) [] :=
 zh5 hl hk hlen fun x hx=>by
  have h1:=E.szL_mem hx
  have h2:=zs20 hb x hx
  exact zm5 (hl x hx) (by omega) h2 (zb13 (x.sz+1) x (hl x hx) (by omega) (by omega) h2)
theorem zt11 {l:List E}(hl:∀e∈l,e.Ty Tryz.prog 71)(hk:∀e∈l,e.enc.length=6)(hlen:l.length+E.szL l≤1048576)(hb:bodyB l=true):Ctr Tryz.prog 12 [.c (.ro l.length 6 (acL l))] [] (.c (.v (.string (blT (l.map stE))))) [] :=
 zq11 hl hk hlen fun x hx=>by
  have h1:=E.szL_mem hx
  exact zn20 (x.sz+1) x (hl x hx) (by omega) (by omega) (zs20 hb x hx)
end Go.Proofs.YtnjfnhoipnbpeaaGreatDoor
