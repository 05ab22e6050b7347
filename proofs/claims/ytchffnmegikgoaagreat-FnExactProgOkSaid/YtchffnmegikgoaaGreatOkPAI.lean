/- ProgOk of the program. -/
import Derived.Test.YtchffnmegikgoaaGreatOkPAH
namespace Go.Proofs.YtchffnmegikgoaaGreat
open Go.RowKit
set_option maxRecDepth 100000
theorem any_not {l:List E}{p:E→Bool}:(l.any fun e=>!p e)=!l.all p:=by
 induction l with
 | nil=>rfl
 | cons x r ih=>rw [List.any_cons,List.all_cons,ih];cases p x<;>rfl
theorem zs19 {e:E}(he:e.Ty Tryz.prog 72)(hsz:e.sz≤1048576):Ctr Tryz.prog 60 [.ag (acE e)] [] (.c (.v (.bool (!stmtB e)))) []:=by
 have c1:=ze14 he hsz
 generalize stmtB e=b at c1 ⊢
 obtain⟨z0,z1,z2,zA,zc,zx,yA,yc,ya,wA,wc,yb,rfl,-⟩:=zs1 he
 refine zw Tryz.func60 rfl rfl ?_
 repeat' (first|(apply f_wo;first|(apply f_as;refine zn (v:=.c _) ?_)|(apply f_ld;refine zp2 ?_)|(apply f_ca;refine ze1 c1 ?_)|(apply f_no;refine zq2 ?_)|refine n_bo ?_)|(apply f_w;first|refine zj ?_|refine zb ?_)|refine za fun C=>?_|refine zd ?_)
 refine zg ?_;refine ret0 rfl za1 ⟨?_,rfl⟩;rfl
theorem zl14 {l:List E}(hl:∀e∈l,e.Ty Tryz.prog 72)(hk:∀e∈l,e.enc.length=6)(hlen:l.length+E.szL l≤1048576):Ctr Tryz.prog 37 [.c (.ro l.length 6 (acL l))] [] (.c (.v (.bool (bodyB l)))) []:=by
 have c1:=zp19 hl hk (by omega) (fun e=>!stmtB e) 60 fun x hx=>zs19 (hl x hx) (by have:=E.szL_mem hx;omega)
 rw [any_not] at c1
 unfold bodyB
 generalize l.all stmtB=b at c1 ⊢
 by_cases h:l.length≤20
 ·rw [show decide (l.length≤20)=true from decide_eq_true h,Bool.true_and]
  refine zw Tryz.func37 rfl rfl ?_
  repeat' (first|(apply f_wo;first|(apply f_gs;refine n_sk ?_)|(apply f_mv;first|(refine zo1 ?_ ?_<;>intro hG<;>(try cases hG))|refine zu (v:=.c _) ?_)|(apply f_as;refine zn (v:=.c _) ?_)|(apply f_ca;refine ze1 c1 ?_)|(apply f_bi;refine zw1 ?_)|(apply zd4;refine ze2 ?_)|(apply f_no;refine zq2 ?_)|(apply f_pk;refine zn1 (v:=.c _) ?_))|(apply f_w;first|refine zj ?_|refine zb ?_)|refine za fun C=>?_|refine zd ?_)
  all_goals first
   | (exfalso;simp only [decide_eq_true_iff,decide_eq_false_iff_not] at *;omega)
   | (refine zg ?_;refine ret0 rfl za1 ⟨?_,rfl⟩;cases b<;>rfl)
 ·rw [show decide (l.length≤20)=false from decide_eq_false h,Bool.false_and]
  refine zw Tryz.func37 rfl rfl ?_
  repeat' (first|(apply f_wo;first|(apply f_gs;refine n_sk ?_)|(apply f_mv;first|(refine zo1 ?_ ?_<;>intro hG<;>(try cases hG))|refine zu (v:=.c _) ?_)|(apply f_as;refine zn (v:=.c _) ?_)|(apply f_ca;refine ze1 c1 ?_)|(apply f_bi;refine zw1 ?_)|(apply zd4;refine ze2 ?_)|(apply f_no;refine zq2 ?_)|(apply f_pk;refine zn1 (v:=.c _) ?_))|(apply f_w;first|refine zj ?_|refine zb ?_)|refine za fun C=>?_|refine zd ?_)
  all_goals first
   | (exfalso;simp only [decide_eq_true_iff,decide_eq_false_iff_not] at *;omega)
   | (refine zg ?_;refine ret0 rfl za1 ⟨?_,rfl⟩;rfl)
def zX:E:=.agg [.int .i64 0,.int .i64 0,.str ByteArray.empty,.lst 4 40 none 0 []]
theorem zX_Ty:zX.Ty Tryz.prog 40:=E.Ty.mk_agg Tryz.underlying40 (E.TyF.mk_cons (zx5 (by decide)) (E.TyF.mk_cons (zx5 (by decide)) (E.TyF.mk_cons (by simp only [E.Ty];exact⟨Tryz.underlying9,by decide⟩) (E.TyF.mk_cons (E.Ty.mk_lst Tryz.underlying38 (by kernel_rfl) (by simp) (by simp)) E.TyF.mk_nil))))
theorem eqDL_em (l:List E):eqDL l []=decide (l.length=0):=by
 cases l with
 | nil=>exact zy8
 | cons x r=>rw [zt17 (by simp)];rfl
theorem eqD_zX {e:E}(he:e.Ty Tryz.prog 40):eqD e zX=zeroX e:=by
 obtain⟨k0,n0,s0,xA,xc,l,rfl,-⟩:=zi1 he
 unfold zX
 rw [eqD_agg,zg5,zg5,zg5,zg5,zy8,zj16,zj16,eqD_str,eqD_lst,eqDL_em,Bool.and_true]
 show ((k0==0)&&((n0==0)&&(emB s0&&decide (l.length=0))))=(decide (k0=0)&&(decide (n0=0)&&(emB s0&&decide (l.length=0))))
 rfl
theorem sameZ_c {e:E}(he:e.Ty Tryz.prog 40)(hsz:e.sz≤1048576):Ctr Tryz.prog 39 [.ag (acE e),.ag [.v (.int .i64 0),.v (.int .i64 0),.v (.string ByteArray.empty),.v (.slice none 0 0)]] [] (.c (.v (.bool (zeroX e)))) []:=by
 rw [←eqD_zX he]
 refine zi15 (zo10 he zX_Ty hsz (by decide)) fun w St φ K us h=>?_
 simp only [VRL] at h ⊢
 obtain⟨u,us1,rfl,h1,v,us2,rfl,h2,rfl⟩:=h
 refine⟨u,[v],rfl,h1,v,[],rfl,?_,rfl⟩
 simp only [VR] at h2 ⊢
 obtain⟨vs,rfl,h3⟩:=h2
 refine⟨vs,rfl,?_⟩
 simp only [zX,acE,acL,CRL,CR,List.append_nil,List.cons_append,List.nil_append,List.length_nil] at h3 ⊢
 obtain⟨u1,r1,f1,g1,rfl,e1,⟨rfl,s1,rfl⟩,u2,r2,f2,g2,rfl,e2,⟨rfl,s2,rfl⟩,u3,r3,f3,g3,rfl,e3,⟨rfl,s3,rfl⟩,u4,r4,f4,g4,rfl,e4,⟨rfl,s4,rfl⟩,rfl,rfl⟩:=h3
 refine⟨_,_,[],[],rfl,rfl,⟨rfl,rfl,rfl⟩,_,_,[],[],rfl,rfl,⟨rfl,rfl,rfl⟩,_,_,[],[],rfl,rfl,⟨rfl,rfl,rfl⟩,_,_,[],[],rfl,rfl,⟨rfl,none,0,rfl,⟨Nat.le_refl _,by unfold maxLen;omega,fun _=>rfl⟩,by simp,fun h=>absurd h (Nat.lt_irrefl 0)⟩,rfl,rfl⟩
theorem ruleOk_c {k:Int}{p:E}{l:List E}(hp:p.Ty Tryz.prog 40)(hpz:p.sz≤1048576)(hl:∀e∈l,e.Ty Tryz.prog 72)(hk:∀e∈l,e.enc.length=6)(hlen:l.length+E.szL l≤1048576):Ctr Tryz.prog 20 [.ag (.v (.int .i64 k) :: (acE p++[.ro l.length 6 (acL l)]))] [] (.c (.v (.bool (ruleB k p l)))) []:=by
 have c1:=zl14 hl hk hlen
 have c2:=sameZ_c hp hpz
 have c3:=zn8 hp hpz
 have cw:=zj5 k 1 4
 obtain⟨k0,n0,s0,xA,xc,pl,rfl,-⟩:=zi1 hp
 unfold ruleB
 generalize bodyB l=b1 at c1 ⊢
 generalize zeroX _=b2 at c2 ⊢
 generalize exprB _=b3 at c3 ⊢
 by_cases h4:k=4
 ·subst h4
  rw [if_pos rfl,show inR 4 1 4=true from rfl] at *
  cases b1
  all_goals
   refine zw Tryz.func20 rfl rfl ?_
   repeat' (first|(apply f_wo;first|(apply f_mv;(refine zo1 ?_ ?_<;>intro hG<;>(try cases hG)))|(apply f_as;refine zn (v:=.c _) ?_)|(apply f_fa;refine n_fa ?_)|(apply f_ld;refine zk1 ?_)|(apply f_ca;first|refine ze1 cw ?_|refine ze1 c1 ?_|refine ze1 c3 ?_)|(apply zm1;refine zm ?_)|(apply f_no;refine zq2 ?_)|(apply f_pk;refine zn1 (v:=.c _) ?_)|refine n_bo ?_|refine zu1 ?_)|(apply f_w;first|refine zj ?_|refine zb ?_)|refine za fun C=>?_|refine zd ?_|refine zf ?_|refine zc1 rfl ?_|refine zf1 rfl ?_)
   refine zg ?_;refine ret0 rfl za1 ⟨?_,rfl⟩;rfl
 ·rw [if_neg h4]
  generalize inR k 1 4=bw at cw ⊢
  cases bw<;>cases b1
  case true.true =>
   refine zw Tryz.func20 rfl rfl ?_
   repeat' (first|(apply f_wo;first|(apply f_mv;(refine zo1 ?_ ?_<;>intro hG<;>(try cases hG)))|(apply f_as;refine zn (v:=.c _) ?_)|(apply f_fa;refine n_fa ?_)|(apply f_ld;refine zk1 ?_)|(apply f_ca;first|refine ze1 cw ?_|refine ze1 c1 ?_)|(apply zm1;refine zm ?_)|(apply f_no;refine zq2 ?_)|(apply f_pk;refine zn1 (v:=.c _) ?_)|refine n_bo ?_)|(apply f_w;first|refine zj ?_|refine zb ?_)|refine za fun C=>?_|refine zd ?_|refine zf ?_|refine zf1 rfl ?_)
   refine zh (by rfl) (fun hC=>absurd (eq_of_beq hC) h4) fun hC=>?_
   repeat' (first|(apply f_wo;first|(apply f_as;refine zn (v:=.c _) ?_)|(apply f_fa;refine n_fa ?_)|(apply f_ca;refine ze1 c2 ?_)|refine zu1 ?_)|(apply f_w;first|refine zj ?_|refine zb ?_)|refine za fun C=>?_|refine zd ?_|refine zf ?_)
   refine zg ?_;refine ret0 rfl za1 ⟨?_,rfl⟩;rfl
  all_goals
   refine zw Tryz.func20 rfl rfl ?_
   repeat' (first|(apply f_wo;first|(apply f_gs;refine n_sk ?_)|(apply f_mv;(refine zo1 ?_ ?_<;>intro hG<;>(try cases hG)))|(apply f_as;refine zn (v:=.c _) ?_)|(apply f_fa;refine n_fa ?_)|(apply f_ld;refine zk1 ?_)|(apply f_ca;first|refine ze1 cw ?_|refine ze1 c1 ?_)|(apply f_no;refine zq2 ?_)|(apply f_pk;refine zn1 (v:=.c _) ?_)|refine n_bo ?_)|(apply f_w;first|refine zj ?_|refine zb ?_)|refine za fun C=>?_|refine zd ?_|refine zc1 rfl ?_)
   refine zg ?_;refine ret0 rfl za1 ⟨?_,rfl⟩;rfl
set_option maxHeartbeats 2000000 in
theorem fnOk_c {s:ByteArray}{ps l:List E}(hs:s.size≤1048576)(hp:∀e∈ps,e.Ty Tryz.prog 9)(kp:∀e∈ps,e.enc.length=1)(zp:ps.length+E.szL ps≤1048576)(hl:∀e∈l,e.Ty Tryz.prog 72)(hk:∀e∈l,e.enc.length=6)(hlen:l.length+E.szL l≤1048576):Ctr Tryz.prog 21 [.ag [.v (.string s),.ro ps.length 1 (acL ps),.ro l.length 6 (acL l)]] [] (.c (.v (.bool (nameK s&&(decide (ps.length≤4)&&(bodyB l&&parB ps)))))) []:=by
 have c1:=zk3 hs
 have c2:=zl14 hl hk hlen
 generalize nameK s=b1 at c1 ⊢
 generalize bodyB l=b2 at c2 ⊢
 by_cases h:b1=true∧ps.length≤4∧b2=true
 ·obtain⟨rfl,h4,rfl⟩:=h
  rw [show decide (ps.length≤4)=true from decide_eq_true h4,Bool.true_and,Bool.true_and,Bool.true_and]
  refine zw Tryz.func21 rfl rfl ?_
  repeat' (first|(apply f_wo;first|(apply f_gs;refine n_sk ?_)|(apply f_mv;first|(refine zo1 ?_ ?_<;>intro hG<;>(try cases hG))|refine zu (v:=.c _) ?_)|(apply f_as;refine zn (v:=.c _) ?_)|(apply f_fa;refine n_fa ?_)|(apply f_ld;refine zk1 ?_)|(apply f_ca;first|refine ze1 c1 ?_|refine ze1 c2 ?_)|(apply f_bi;refine zw1 ?_)|(apply zl3;refine zx1 ?_)|(apply f_no;refine zq2 ?_)|(apply f_pk;refine zn1 (v:=.c _) ?_)|refine n_bo ?_)|(apply f_w;first|refine zj ?_|refine zb ?_)|refine za fun C=>?_|refine zd ?_|refine ze ?_|refine zf ?_|refine zc1 rfl ?_|refine zf1 rfl ?_)
  all_goals try (exfalso;simp only [decide_eq_true_iff] at hG;omega)
  refine zt1 (fun k:Nat=>⟨tmsF [(1,.c (.pt 1 0)),(22,.c (.ro ps.length 1 (acL ps))),(23,.c (.v (.int .i64 ps.length))),(24,.c (.v (.int .i64 (k:Int))))],hpsF [(1,1,⟨46,0,0,true,[.v (.string s),.ro ps.length 1 (acL ps),.ro l.length 6 (acL l)]⟩)],0,[1],41⟩)
   (fun N k=>k+N=ps.length∧∀j,j<k→parAt ps j=true) ps.length 0 ⟨by omega,fun j hj=>absurd hj (Nat.not_lt_zero j)⟩ ?_ ?_
  ·(refine zj1 _ _ rfl rfl ?_ ?_<;>(repeat' (first|exact TmOk.nil|exact RwOk.nil|refine TmOk.cons ?_ ?_|refine RwOk.cons ?_ ?_|rfl|(refine rnV_id' rfl ?_;exact byc)|(refine zp1 ?_;first|rfl|omega|(rw [zy (by omega) (by omega)];omega))|(refine zb1 rfl ?_;exact byc)|exact za2 rfl rfl|(refine zq1 (by rfl) (by rfl) ?_ ?_<;>exact byc)|(refine rw_rn' rfl rfl ?_;simp;done))))
  rintro N k ⟨hN,hr⟩
  try dsimp only
  repeat' (first|(apply f_wo;(apply zg3;refine zr1 ?_))|(apply f_w;first|refine zj ?_|refine zb ?_)|refine za fun C=>?_|refine zd ?_)
  refine zh (by rfl) (fun h1=>?_) fun h1=>?_
  ·have hk':k<ps.length:=by simpa using h1
   obtain⟨x,hx'⟩:∃x,ps[k]? = some x:=⟨_,List.getElem?_eq_getElem hk'⟩
   have hxz:=E.szL_mem (List.mem_of_getElem? hx')
   obtain⟨z,rfl,-⟩:=(hp x (List.mem_of_getElem? hx')).str_ Tryz.underlying9
   simp only [E.sz] at hxz
   have d1:=zk3 (s:=z) (by omega)
   have hll:(ps.take k).length≤1073741824:=by rw [List.length_take];omega
   have d2:Ctr Tryz.prog 41 [.c (.ro (ps.take k).length 1 (acL (ps.take k))),.c (.v (.string z))] [] (.c (.v (.bool (hasB (ps.take k) z)))) []:=zi6 (fun e he=>hp e (List.mem_of_mem_take he)) (fun e he=>kp e (List.mem_of_mem_take he)) hll z
   have ep:parAt ps k=(nameK z&&!hasB (ps.take k) z):=by unfold parAt;rw [hx'];rfl
   generalize nameK z=e1 at d1 ep
   generalize hasB (ps.take k) z=e2 at d2 ep
   cases e1<;>cases e2
   case true.false =>
    repeat' (first|(apply f_wo;refine n_hd k kp (by omega) rfl ?_)|(apply f_wo;first|(apply f_mv;first|(refine zo1 ?_ ?_<;>intro hG<;>(try cases hG))|refine zu (v:=.c _) ?_)|(apply f_as;refine zn (v:=.c _) ?_)|(apply f_fa;refine n_fa ?_)|(apply f_ld;first|refine zk1 ?_|refine zu4 ?_)|(apply f_ca;first|refine ze1 d1 ?_|refine ze1 d2 ?_)|(apply f_ia;refine n_ix ?_)|(apply zh2;refine zg1 ?_)|(apply f_no;refine zq2 ?_)|(apply f_pk;refine zn1 (v:=.c _) ?_))|(apply f_w;first|refine zj ?_|refine zb ?_)|refine za fun C=>?_|refine zd ?_|refine ze ?_|refine zf ?_|refine zf1 rfl ?_)
    refine⟨N-1,k+1,by omega,⟨by omega,fun j hj=>?_⟩,?_⟩
    ·by_cases e:j=k
     ·subst e;exact ep
     ·exact hr j (by omega)
    ·(refine zj1 _ _ rfl rfl ?_ ?_<;>(repeat' (first|exact TmOk.nil|exact RwOk.nil|refine TmOk.cons ?_ ?_|refine RwOk.cons ?_ ?_|rfl|(refine rnV_id' rfl ?_;exact byc)|(refine zp1 ?_;first|rfl|omega|(rw [zy (by omega) (by omega)];omega))|(refine zb1 rfl ?_;exact byc)|exact za2 rfl rfl|(refine zq1 (by rfl) (by rfl) ?_ ?_<;>exact byc)|(refine rw_rn' rfl rfl ?_;simp;done))))
   all_goals
    rw [show parB ps=false from za8 hk' ep]
    repeat' (first|(apply f_wo;refine n_hd k kp (by omega) rfl ?_)|(apply f_wo;first|(apply f_gs;refine n_sk ?_)|(apply f_mv;first|(refine zo1 ?_ ?_<;>intro hG<;>(try cases hG))|refine zu (v:=.c _) ?_)|(apply f_as;refine zn (v:=.c _) ?_)|(apply f_fa;refine n_fa ?_)|(apply f_ld;first|refine zk1 ?_|refine zu4 ?_)|(apply f_ca;first|refine ze1 d1 ?_|refine ze1 d2 ?_)|(apply f_ia;refine n_ix ?_)|(apply f_no;refine zq2 ?_)|(apply f_pk;refine zn1 (v:=.c _) ?_))|(apply f_w;first|refine zj ?_|refine zb ?_)|refine za fun C=>?_|refine zd ?_|refine ze ?_|refine zf ?_|refine zc1 rfl ?_)
    refine zg ?_;refine ret0 rfl za1 ⟨?_,rfl⟩;rfl
  ·have hk':¬k<ps.length:=by simpa using h1
   rw [show parB ps=true from zx8 fun j hj=>hr j (by omega)]
   repeat' (first|(apply f_wo;(apply f_as;refine zn (v:=.c _) ?_))|(apply f_w;first|refine zj ?_|refine zb ?_)|refine za fun C=>?_|refine zd ?_|refine zt ?_)
   refine zg ?_;refine ret0 rfl za1 ⟨?_,rfl⟩;rfl
 ·rw [show (b1&&(decide (ps.length≤4)&&(b2&&parB ps)))=false by
   cases b1<;>cases b2<;>simp_all
   intro h9
   omega]
  cases b1<;>cases b2
  all_goals
   refine zw Tryz.func21 rfl rfl ?_
   repeat' (first|(apply f_wo;first|(apply f_gs;refine n_sk ?_)|(apply f_mv;first|(refine zo1 ?_ ?_<;>intro hG<;>(try cases hG))|refine zu (v:=.c _) ?_)|(apply f_as;refine zn (v:=.c _) ?_)|(apply f_fa;refine n_fa ?_)|(apply f_ld;refine zk1 ?_)|(apply f_ca;first|refine ze1 c1 ?_|refine ze1 c2 ?_)|(apply f_bi;refine zw1 ?_)|(apply zl3;refine zx1 ?_)|(apply f_no;refine zq2 ?_)|(apply f_pk;refine zn1 (v:=.c _) ?_)|refine n_bo ?_)|(apply f_w;first|refine zj ?_|refine zb ?_)|refine za fun C=>?_|refine zd ?_|refine ze ?_|refine zf ?_|(refine zh (by rfl) ?_ ?_<;>intro hC<;>(try cases hC)))
  all_goals first
   | (refine zg ?_;refine ret0 rfl za1 ⟨?_,rfl⟩;rfl)
   | (exfalso;simp_all;done)
   | (exfalso;simp_all;omega)
theorem fnAt1_c {x:E}(hx:x.Ty Tryz.prog 46)(s:ByteArray):Ctr Tryz.prog 43 [.ag (acE x),.c (.pt 0 0)] [[.v (.string s)]] (.c (.v (.bool (isFn s x)))) [[.v (.string s)]]:=by
 obtain⟨n0,pA,pc,ps,bA,bc,bl,rfl,-⟩:=zc3 hx
 refine zw Tryz.func43 rfl rfl ?_
 repeat' (first|(apply f_wo;first|(apply f_as;refine zn (v:=.c _) ?_)|(apply f_fa;refine n_fa ?_)|(apply f_ld;refine zk1 ?_)|(apply zm1;refine zm2 ?_)|refine n_bo ?_)|(apply f_w;first|refine zj ?_|refine zb ?_)|refine za fun C=>?_|refine zd ?_)
 refine zg ?_
 refine ret1 rfl za1 rfl (by rfl) rfl ⟨?_,?_⟩
 all_goals rfl
theorem fnAt_c {rs fs:List E}(hl:∀e∈fs,e.Ty Tryz.prog 46)(hk:∀e∈fs,e.enc.length=3)(hlen:fs.length≤1048576)(s:ByteArray):Ctr Tryz.prog 22 [.ag [.ro rs.length 6 (acL rs),.ro fs.length 3 (acL fs)],.c (.v (.string s))] [] (.c (.v (.int .i64 (idxF (isFn s) fs)))) []:=by
 have c1:=idx1Fn_c hl hk (by omega) (b:=[.v (.string s)]) rfl (isFn s) 43 fun x hx=>fnAt1_c (hl x hx) s
 refine zw Tryz.func22 rfl rfl ?_
 repeat' (first|(apply f_wo;first|(apply f_as;refine zn (v:=.c _) ?_)|(apply f_fa;refine n_fa ?_)|(apply f_ca;refine zb2 3 (c1) ?_)|refine n_bo ?_|refine zu1 ?_)|(apply f_w;first|refine zj ?_|refine zb ?_)|refine za fun C=>?_|refine zd ?_)
 refine zg ?_;refine ret0 rfl za1 ⟨?_,rfl⟩;rfl
theorem ruleE_c {x:E}(hx:x.Ty Tryz.prog 43)(hsz:x.sz≤1048576):Ctr Tryz.prog 19 [.ag (acE x)] [] (.c (.v (.bool (!ruleE x)))) []:=by
 obtain⟨k0,p0,p1,p2,pA,pc,pl,bA,bc,bl,rfl,-,g1,g2,g3,⟨g4,g4'⟩,⟨g5,g5'⟩,-⟩:=ze3 hx
 simp only [E.sz,E.szL] at hsz
 have cx:=ruleOk_c (k:=k0) (p:=.agg [.int .i64 p0,.int .i64 p1,.str p2,.lst 4 40 pA pc pl]) (E.Ty.mk_agg Tryz.underlying40 (E.TyF.mk_cons (zx5 g1) (E.TyF.mk_cons (zx5 g2) (E.TyF.mk_cons (by simp only [E.Ty];exact⟨Tryz.underlying9,by unfold maxLen;omega⟩) (E.TyF.mk_cons (E.Ty.mk_lst Tryz.underlying38 (by kernel_rfl) g4 g4') E.TyF.mk_nil))))) (by simp only [E.sz,E.szL];omega) g5 g5' (by omega)
 rw [show ruleE (.agg [.int .i64 k0,.agg [.int .i64 p0,.int .i64 p1,.str p2,.lst 4 40 pA pc pl],.lst 6 72 bA bc bl])=ruleB k0 (.agg [.int .i64 p0,.int .i64 p1,.str p2,.lst 4 40 pA pc pl]) bl from rfl]
 generalize ruleB k0 _ bl=b at cx ⊢
 refine zw Tryz.func19 rfl rfl ?_
 repeat' (first|(apply f_wo;first|(apply f_as;refine zn (v:=.c _) ?_)|(apply f_ld;refine zp2 ?_)|(apply f_ca;refine ze1 cx ?_)|(apply f_no;refine zq2 ?_)|refine n_bo ?_)|(apply f_w;first|refine zj ?_|refine zb ?_)|refine za fun C=>?_|refine zd ?_)
 refine zg ?_;refine ret0 rfl za1 ⟨?_,rfl⟩;rfl
set_option maxHeartbeats 2000000 in
theorem zm14 {e:E}(he:e.Ty Tryz.prog 31)(hsz:e.sz≤1048576):Ctr Tryz.prog 7 [.ag (acE e)] [] (.c (.v (.bool (progE e)))) []:=by
 obtain⟨rA,rc,rs,fA,fc,fs,rfl,⟨hr,kr⟩,⟨hf,kf⟩,-⟩:=zh3 he
 simp only [E.sz,E.szL] at hsz
 show Ctr _ _ _ _ (.c (.v (.bool (progB rs fs)))) _
 have cR:=zr19 hr kr (by omega) (fun e=>!ruleE e) 19 fun x hx=>ruleE_c (hr x hx) (by have:=E.szL_mem hx;omega)
 rw [any_not] at cR
 unfold progB
 generalize rs.all ruleE=bR at cR ⊢
 by_cases h:rs.length≤10∧fs.length≤6∧bR=true
 ·obtain⟨h1,h2,rfl⟩:=h
  rw [show decide (rs.length≤10)=true from decide_eq_true h1,show decide (fs.length≤6)=true from decide_eq_true h2,Bool.true_and,Bool.true_and]
  refine zw Tryz.func7 rfl rfl ?_
  repeat' (first|(apply f_wo;first|(apply f_gs;refine n_sk ?_)|(apply f_mv;first|(refine zo1 ?_ ?_<;>intro hG<;>(try cases hG))|refine zu (v:=.c _) ?_)|(apply f_as;refine zn (v:=.c _) ?_)|(apply f_fa;refine n_fa ?_)|(apply f_ld;refine zk1 ?_)|(apply f_ca;refine ze1 cR ?_)|(apply f_bi;refine zw1 ?_)|(apply zl3;refine zx1 ?_)|(apply f_pk;refine zn1 (v:=.c _) ?_)|refine n_bo ?_)|(apply f_w;first|refine zj ?_|refine zb ?_)|refine za fun C=>?_|refine zd ?_|refine ze ?_|refine zf ?_|refine zc1 rfl ?_|refine zf1 rfl ?_)
  all_goals try (exfalso;simp only [decide_eq_true_iff] at *;omega)
  refine zt1 (fun k:Nat=>⟨tmsF [(1,.c (.pt 1 0)),(21,.c (.ro fs.length 3 (acL fs))),(22,.c (.v (.int .i64 fs.length))),(23,.c (.v (.int .i64 (k:Int))))],hpsF [(1,1,⟨31,0,0,true,[.ro rs.length 6 (acL rs),.ro fs.length 3 (acL fs)]⟩)],0,[1],40⟩)
   (fun N k=>k+N=fs.length∧∀j,j<k→fnAtB fs j=true) fs.length 0 ⟨by omega,fun j hj=>absurd hj (Nat.not_lt_zero j)⟩ ?_ ?_
  ·(refine zj1 _ _ rfl rfl ?_ ?_<;>(repeat' (first|exact TmOk.nil|exact RwOk.nil|refine TmOk.cons ?_ ?_|refine RwOk.cons ?_ ?_|rfl|(refine rnV_id' rfl ?_;exact byc)|(refine zp1 ?_;first|rfl|omega|(rw [zy (by omega) (by omega)];omega))|(refine zb1 rfl ?_;exact byc)|exact za2 rfl rfl|(refine zq1 (by rfl) (by rfl) ?_ ?_<;>exact byc)|(refine rw_rn' rfl rfl ?_;simp;done))))
  rintro N i ⟨hN,hno⟩
  try dsimp only
  repeat' (first|(apply f_wo;(apply zg3;refine zr1 ?_))|(apply f_w;first|refine zj ?_|refine zb ?_)|refine za fun C=>?_|refine zd ?_)
  refine zh (by rfl) (fun h1=>?_) fun h1=>?_
  ·have hi':i<fs.length:=by simpa using h1
   obtain⟨x,hx'⟩:∃x,fs[i]? = some x:=⟨_,List.getElem?_eq_getElem hi'⟩
   have hxz:=E.szL_mem (List.mem_of_getElem? hx')
   obtain⟨n0,pA,pc,ps,bA,bc,bl,rfl,g0,⟨g1,g1'⟩,⟨g2,g2'⟩,-⟩:=zc3 (hf x (List.mem_of_getElem? hx'))
   simp only [E.sz,E.szL] at hxz
   have c1:=fnOk_c (s:=n0) (by omega) g1 g1' (by omega) g2 g2' (by omega)
   have c2:=fnAt_c (rs:=rs) hf kf (by omega) n0
   have ef:fnAtB fs i=((nameK n0&&(decide (ps.length≤4)&&(bodyB bl&&parB ps)))&&(idxF (isFn n0) fs==(i:Int))):=by unfold fnAtB;rw [hx'];rfl
   generalize (nameK n0&&(decide (ps.length≤4)&&(bodyB bl&&parB ps)))=b1 at c1 ef
   by_cases hi2:idxF (isFn n0) fs=(i:Int)
   ·rw [hi2] at c2 ef
    rw [beq_self_eq_true,Bool.and_true] at ef
    cases b1
    ·rw [show allN fs.length (fnAtB fs)=false from za8 hi' ef]
     repeat' (first|(apply f_wo;first|(apply f_gs;refine n_sk ?_)|(apply f_mv;first|(refine zo1 ?_ ?_<;>intro hG<;>(try cases hG))|refine zu (v:=.c _) ?_)|(apply f_as;refine zn (v:=.c _) ?_)|(apply f_ld;first|refine zy2 ?_|refine zp2 ?_)|(apply f_ca;refine ze1 c1 ?_)|(apply f_st;refine n_st ?_)|(apply f_ia;refine n_ix ?_)|(apply f_no;refine zq2 ?_)|(apply f_pk;refine zn1 (v:=.c _) ?_)|refine n_al ?_)|(apply f_w;first|refine zj ?_|refine zb ?_)|refine za fun C=>?_|refine zd ?_|refine ze ?_|refine zf ?_|refine zc1 rfl ?_)
     refine zg ?_;refine ret0 rfl za1 ⟨?_,rfl⟩;rfl
    ·repeat' (first|(apply f_wo;first|(apply f_mv;first|(refine zo1 ?_ ?_<;>intro hG<;>(try cases hG))|refine zu (v:=.c _) ?_)|(apply f_as;refine zn (v:=.c _) ?_)|(apply f_fa;refine n_fa ?_)|(apply f_ld;first|refine zk1 ?_|refine zy2 ?_|refine zp2 ?_)|(apply f_ca;first|refine ze1 c1 ?_|refine ze1 c2 ?_)|(apply f_st;refine n_st ?_)|(apply f_ia;refine n_ix ?_)|(apply zg2;refine zd1 ?_)|(apply f_no;refine zq2 ?_)|(apply f_pk;refine zn1 (v:=.c _) ?_)|refine n_al ?_)|(apply f_w;first|refine zj ?_|refine zb ?_)|refine za fun C=>?_|refine zd ?_|refine ze ?_|refine zf ?_)
     refine zh (by rfl) (fun hC=>by exfalso;simp at hC) fun hC=>?_
     repeat' (first|(apply f_wo;first|(apply f_mv;refine zu (v:=.c _) ?_)|(apply zh2;refine zg1 ?_))|(apply f_w;first|refine zj ?_|refine zb ?_)|refine za fun C=>?_|refine zf ?_)
     refine⟨N-1,i+1,by omega,⟨by omega,fun j hj=>?_⟩,?_⟩
     ·by_cases e:j=i
      ·subst e;exact ef
      ·exact hno j (by omega)
     ·(refine zj1 _ _ rfl rfl ?_ ?_<;>(repeat' (first|exact TmOk.nil|exact RwOk.nil|refine TmOk.cons ?_ ?_|refine RwOk.cons ?_ ?_|rfl|(refine rnV_id' rfl ?_;exact byc)|(refine zp1 ?_;first|rfl|omega|(rw [zy (by omega) (by omega)];omega))|(refine zb1 rfl ?_;exact byc)|exact za2 rfl rfl|(refine zq1 (by rfl) (by rfl) ?_ ?_<;>exact byc)|(refine rw_rn' rfl rfl ?_;simp;done))))
   ·rw [show (idxF (isFn n0) fs==(i:Int))=false from beq_eq_false_iff_ne.2 hi2,Bool.and_false] at ef
    rw [show allN fs.length (fnAtB fs)=false from za8 hi' ef]
    cases b1
    ·repeat' (first|(apply f_wo;first|(apply f_gs;refine n_sk ?_)|(apply f_mv;first|(refine zo1 ?_ ?_<;>intro hG<;>(try cases hG))|refine zu (v:=.c _) ?_)|(apply f_as;refine zn (v:=.c _) ?_)|(apply f_ld;first|refine zy2 ?_|refine zp2 ?_)|(apply f_ca;refine ze1 c1 ?_)|(apply f_st;refine n_st ?_)|(apply f_ia;refine n_ix ?_)|(apply f_no;refine zq2 ?_)|(apply f_pk;refine zn1 (v:=.c _) ?_)|refine n_al ?_)|(apply f_w;first|refine zj ?_|refine zb ?_)|refine za fun C=>?_|refine zd ?_|refine ze ?_|refine zf ?_|refine zc1 rfl ?_)
     refine zg ?_;refine ret0 rfl za1 ⟨?_,rfl⟩;rfl
    ·repeat' (first|(apply f_wo;first|(apply f_mv;first|(refine zo1 ?_ ?_<;>intro hG<;>(try cases hG))|refine zu (v:=.c _) ?_)|(apply f_as;refine zn (v:=.c _) ?_)|(apply f_fa;refine n_fa ?_)|(apply f_ld;first|refine zk1 ?_|refine zy2 ?_|refine zp2 ?_)|(apply f_ca;first|refine ze1 c1 ?_|refine ze1 c2 ?_)|(apply f_st;refine n_st ?_)|(apply f_ia;refine n_ix ?_)|(apply zg2;refine zd1 ?_)|(apply f_no;refine zq2 ?_)|(apply f_pk;refine zn1 (v:=.c _) ?_)|refine n_al ?_)|(apply f_w;first|refine zj ?_|refine zb ?_)|refine za fun C=>?_|refine zd ?_|refine ze ?_|refine zf ?_)
     refine zh (by rfl) (fun hC=>?_) fun hC=>by exfalso;simp at hC;exact hi2 hC
     repeat' (first|(apply f_wo;(apply f_as;refine zn (v:=.c _) ?_))|(apply f_w;first|refine zj ?_|refine zb ?_)|refine za fun C=>?_|refine zd ?_)
     refine zg ?_;refine ret0 rfl za1 ⟨?_,rfl⟩;rfl
  ·have hi':¬i<fs.length:=by simpa using h1
   rw [show allN fs.length (fnAtB fs)=true from zx8 fun j hj=>hno j (by omega)]
   repeat' (first|(apply f_wo;(apply f_as;refine zn (v:=.c _) ?_))|(apply f_w;first|refine zj ?_|refine zb ?_)|refine za fun C=>?_|refine zd ?_|refine zt ?_)
   refine zg ?_;refine ret0 rfl za1 ⟨?_,rfl⟩;rfl
 ·rw [show ((decide (rs.length≤10)&&decide (fs.length≤6))&&(bR&&allN fs.length (fnAtB fs)))=false by
   cases bR
   ·rw [Bool.false_and,Bool.and_false]
   ·by_cases a1:rs.length≤10
    ·have a2:¬fs.length≤6:=fun a2=>h ⟨a1,a2,rfl⟩
     rw [show decide (fs.length≤6)=false from decide_eq_false a2,Bool.and_false,Bool.false_and]
    ·rw [show decide (rs.length≤10)=false from decide_eq_false a1,Bool.false_and,Bool.false_and]]
  cases bR
  all_goals
   refine zw Tryz.func7 rfl rfl ?_
   repeat' (first|(apply f_wo;first|(apply f_gs;refine n_sk ?_)|(apply f_mv;(refine zo1 ?_ ?_<;>intro hG<;>(try cases hG)))|(apply f_as;refine zn (v:=.c _) ?_)|(apply f_fa;refine n_fa ?_)|(apply f_ld;refine zk1 ?_)|(apply f_ca;refine ze1 cR ?_)|(apply f_bi;refine zw1 ?_)|(apply zl3;refine zx1 ?_)|(apply f_pk;refine zn1 (v:=.c _) ?_)|refine n_bo ?_)|(apply f_w;first|refine zj ?_|refine zb ?_)|refine za fun C=>?_|refine zd ?_)
  all_goals first
   | (refine zc1 rfl ?_
      repeat' (first|(apply f_wo;(apply f_as;refine zn (v:=.c _) ?_))|(apply f_w;first|refine zj ?_|refine zb ?_)|refine za fun C=>?_|refine zd ?_)
      refine zg ?_;refine ret0 rfl za1 ⟨?_,rfl⟩;rfl)
   | (exfalso;simp only [decide_eq_true_iff,decide_eq_false_iff_not] at *;first|omega|(exact h ⟨by omega,by omega,trivial⟩)|(exact h ⟨by omega,by omega,rfl⟩))
   | (refine zh (by rfl) (fun hC=>?_) fun hC=>by exfalso;simp only [decide_eq_true_iff,decide_eq_false_iff_not] at *;first|omega|(exact h ⟨by omega,by omega,trivial⟩)|(exact h ⟨by omega,by omega,rfl⟩)
      skip
      refine zg ?_;refine ret0 rfl za1 ⟨?_,rfl⟩;rfl)
noncomputable def progOkP (p:E):Bool:=liftS (fun q:E=>(q.Ty Tryz.prog 31∧q.d=p)) (fun q=>(progE q)) false
noncomputable def progOkD (p:E):Bool:=(progOkP p)
theorem zd11 {f:FuncId}(hf:∀{p:E} (_:p.Ty Tryz.prog 31) (_:p.sz≤1048576),Ctr Tryz.prog f [avI p] [] (.c (.v (.bool (progE p)))) []){p:E}(hp:p.Ty Tryz.prog 31)(w:World)(ip:p.In w)(zp:p.sz≤1048576) :
 Calls Tryz.prog f #[p.val] w fun r w'=>r=.returned (.bool (progOkD p.d))∧Below w.heap.size w w':=by
 obtain⟨q,hq,hl⟩:=liftS_to (R:=fun q:E=>(q.Ty Tryz.prog 31∧q.d=p.d)) (f:=fun q=>(progE q)) (z:=false) (a:=p) ⟨hp,rfl⟩
 obtain⟨tp,dp⟩:=hq
 try dsimp only at hl tp dp
 have hc:=hf tp (by rw [←E.sz_d,dp,E.sz_d];exact zp)
 rw [avI_of_d tp hp dp] at hc
 have hP:progOkP p.d=(progE q):=hl
 have hr0:progOkD p.d=(progE q):=by unfold progOkD;rw [hP]
 rw [hr0]
 exact ctr_val hc (us:=[p.val]) (VRL_cons (avI_VR hp ip) VRL_nil)
theorem zn14 {p:E}(hp:p.Ty Tryz.prog 31)(w:World)(ip:p.In w)(zp:p.sz≤1048576) :
 Calls Tryz.prog 5 #[p.val] w fun r w'=>r=.returned (.bool (progOkD p.d))∧Below w.heap.size w w' :=
 (zd11 (f:=5) (fun hp zp=>by have hcc:=zj14 hp zp;obtain⟨pF,rfl,-⟩:=hp.agg_ Tryz.underlying31;exact hcc) hp w ip zp).mono fun _ _ h=>h
theorem zo14 {p:E}(hp:p.Ty Tryz.prog 31)(w:World)(ip:p.In w)(zp:p.sz≤1048576) :
 Calls Tryz.prog 7 #[p.val] w fun r w'=>r=.returned (.bool (progOkD p.d))∧Below w.heap.size w w' :=
 (zd11 (f:=7) (fun hp zp=>by have hcc:=zm14 hp zp;obtain⟨pF,rfl,-⟩:=hp.agg_ Tryz.underlying31;exact hcc) hp w ip zp).mono fun _ _ h=>h
end Go.Proofs.YtchffnmegikgoaaGreat
