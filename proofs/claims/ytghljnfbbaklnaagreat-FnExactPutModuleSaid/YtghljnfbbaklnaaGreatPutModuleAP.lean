/- ModuleOk of the reference: by the abstract machine. -/
import Derived.Test.YtghljnfbbaklnaaGreatPutModuleAO
namespace Go.Proofs.YtghljnfbbaklnaaGreat
open Go.RowKit
set_option maxRecDepth 100000
def fnS:E→Bool
 | .agg [.int _ pp,.lst _ _ _ _ code]=>code.all insE&&(inR pp 0 4&&inR code.length 1 3000)
 | _=>false
theorem l18Fn_c {f:E}(hf:f.Ty Tryz.prog 79)(hsz:f.sz≤1048576):Ctr Tryz.prog 96 [.ag (acE f)] [] (.c (.v (.bool (fnS f)))) []:=by
 obtain⟨pp,pA,pc,code,rfl,-,⟨hc,hck⟩,-⟩:=zb4 hf
 simp only [E.sz,E.szL] at hsz
 have hlen:code.length≤1048576:=by omega
 show Ctr _ _ _ _ (.c (.v (.bool (code.all insE&&(inR pp 0 4&&inR code.length 1 3000))))) _
 refine zo2 Tryz.func96 rfl rfl ?_
 repeat' (first|(apply f_wo;first|(apply f_gs;refine n_sk ?_)|(apply f_mv;first|(refine zb2 ?_ ?_<;>intro hG<;>(try cases hG))|refine zj1 (v:=.c _) ?_|refine za ?_)|(apply f_as;first|refine zi1 (v:=.c _) ?_|refine za ?_)|(apply f_fa;first|refine n_fa ?_|refine zm1 ?_)|(apply f_ld;first|refine zq1 ?_|refine zx ?_|refine zw ?_|refine zo1 ?_|refine n_ld ?_)|(apply f_bi;first|refine zb1 ?_|refine za1 ?_|refine zc1 ?_|refine za ?_)|(apply f_ia;first|refine n_ix ?_|refine zz1 ?_|refine za ?_)|(apply zw1;first|refine zl ?_|refine za ?_)|(apply zu1;first|refine zk ?_|refine zt1 ?_|refine za ?_)|(apply f_no;first|refine zh2 ?_|refine za ?_)|(apply f_pk;first|refine za2 (v:=.c _) ?_|refine za ?_)|refine n_bo ?_|refine za ?_)|(apply f_w;first|refine zv ?_|refine zc ?_)|refine zb fun C=>?_|refine zh ?_|refine zd ?_|refine zf ?_|refine zg ?_)
 refine ze3 (fun k:Nat=>⟨tmsF [(1,.c (.pt 1 0)),(3,.c (.v (.int .i64 k)))],hpsF [(1,1,⟨79,0,0,true,[.v (.int .i64 pp),.ro code.length 2 (acL code)]⟩)],0,[1],27⟩)
  (fun N k=>k+N=code.length∧∀j y,j<k→code[j]? = some y→insE y=true) code.length 0 ⟨by omega,by omega⟩ ?_ ?_
 ·(refine zr2 _ _ rfl rfl ?_ ?_<;>(repeat' (first|exact TmOk.nil|exact RwOk.nil|refine TmOk.cons ?_ ?_|refine RwOk.cons ?_ ?_|rfl|(refine rnV_id' rfl ?_;exact byc)|(refine zv2 ?_;first|rfl|omega|(rw [zv1 (by omega) (by omega)];omega))|(refine zl1 rfl ?_;exact byc)|exact zz3 rfl rfl|(refine zw2 (by rfl) (by rfl) ?_ ?_<;>exact byc)|(refine rw_rn' rfl rfl ?_;simp;done))))
 rintro N k ⟨hN,hno⟩
 repeat' (first|(apply f_wo;first|(apply f_gs;refine n_sk ?_)|(apply f_mv;first|(refine zb2 ?_ ?_<;>intro hG<;>(try cases hG))|refine zj1 (v:=.c _) ?_|refine za ?_)|(apply f_as;first|refine zi1 (v:=.c _) ?_|refine za ?_)|(apply f_fa;first|refine n_fa ?_|refine zm1 ?_)|(apply f_ld;first|refine zq1 ?_|refine zx ?_|refine zw ?_|refine zo1 ?_|refine n_ld ?_)|(apply f_bi;first|refine zb1 ?_|refine za1 ?_|refine zc1 ?_|refine za ?_)|(apply f_ia;first|refine n_ix ?_|refine zz1 ?_|refine za ?_)|(apply zw1;first|refine zl ?_|refine za ?_)|(apply zu1;first|refine zk ?_|refine zt1 ?_|refine za ?_)|(apply f_no;first|refine zh2 ?_|refine za ?_)|(apply f_pk;first|refine za2 (v:=.c _) ?_|refine za ?_)|refine n_bo ?_|refine za ?_)|(apply f_w;first|refine zv ?_|refine zc ?_)|refine zb fun C=>?_|refine zh ?_|refine zd ?_|refine zf ?_|refine zg ?_)
 refine zn (by rfl) (fun h1=>?_) fun h1=>?_
 ·have hk':k<code.length:=by simpa using h1
  obtain⟨x,hx⟩:∃x,code[k]? = some x:=⟨_,List.getElem?_eq_getElem hk'⟩
  obtain⟨y0,y1,rfl,-⟩:=zh4 (hc x (List.mem_of_getElem? hx))
  have hie:insE (E.agg [E.int .i64 y0,E.int .i64 y1])=insOkS y0 y1:=rfl
  have hgk:=hck
  cases hb:insE (E.agg [E.int .i64 y0,E.int .i64 y1]) with
  | false =>
   rw [hie] at hb
   have ci:=zp12 y0 y1
   rw [hb] at ci
   repeat' (first|(apply f_wo;first|(apply f_gs;refine n_sk ?_)|(apply f_mv;first|(refine zb2 ?_ ?_<;>intro hG<;>(try cases hG))|refine zj1 (v:=.c _) ?_|refine za ?_)|(apply f_as;first|refine zi1 (v:=.c _) ?_|refine za ?_)|(apply f_fa;first|refine n_fa ?_|refine zm1 ?_)|(apply f_ld;first|refine zq1 ?_|refine zx ?_|refine zw ?_|refine zo1 ?_|refine n_ld ?_)|(apply f_ca;first|refine zz2 ci ?_|refine zx2 ci ?_)|(apply f_bi;first|refine zb1 ?_|refine za1 ?_|refine zc1 ?_|refine za ?_)|(apply f_ia;first|refine n_ix ?_|refine zz1 ?_|refine za ?_)|(apply zw1;first|refine zl ?_|refine za ?_)|(apply zu1;first|refine zk ?_|refine zt1 ?_|refine za ?_)|(apply f_no;first|refine zh2 ?_|refine za ?_)|(apply f_pk;first|refine za2 (v:=.c _) ?_|refine za ?_)|refine n_bo ?_|refine za ?_)|(apply f_w;first|refine zv ?_|refine zc ?_)|refine zb fun C=>?_|refine zh ?_|refine zd ?_|refine zf ?_|refine zg ?_|refine zt rfl ?_|refine zp rfl ?_)
   refine zu ?_;refine ret0 rfl zf3 ⟨?_,rfl⟩
   rw [ze20 hx (by rw [←hb];rfl)];rfl
  | true =>
   rw [hie] at hb
   have ci:=zp12 y0 y1
   rw [hb] at ci
   repeat' (first|(apply f_wo;first|(apply f_gs;refine n_sk ?_)|(apply f_mv;first|(refine zb2 ?_ ?_<;>intro hG<;>(try cases hG))|refine zj1 (v:=.c _) ?_|refine za ?_)|(apply f_as;first|refine zi1 (v:=.c _) ?_|refine za ?_)|(apply f_fa;first|refine n_fa ?_|refine zm1 ?_)|(apply f_ld;first|refine zq1 ?_|refine zx ?_|refine zw ?_|refine zo1 ?_|refine n_ld ?_)|(apply f_ca;first|refine zz2 ci ?_|refine zx2 ci ?_)|(apply f_bi;first|refine zb1 ?_|refine za1 ?_|refine zc1 ?_|refine za ?_)|(apply f_ia;first|refine n_ix ?_|refine zz1 ?_|refine za ?_)|(apply zw1;first|refine zl ?_|refine za ?_)|(apply zu1;first|refine zk ?_|refine zt1 ?_|refine za ?_)|(apply f_no;first|refine zh2 ?_|refine za ?_)|(apply f_pk;first|refine za2 (v:=.c _) ?_|refine za ?_)|refine n_bo ?_|refine za ?_)|(apply f_w;first|refine zv ?_|refine zc ?_)|refine zb fun C=>?_|refine zh ?_|refine zd ?_|refine zf ?_|refine zg ?_|refine zt rfl ?_|refine zp rfl ?_)
   refine⟨N-1,k+1,by omega,⟨by omega,fun j z hj hz=>?_⟩,?_⟩
   ·by_cases e:j=k
    ·rw [e,hx] at hz;injection hz with hz;subst hz;exact hb
    ·exact hno j z (by omega) hz
   ·(refine zr2 _ _ rfl rfl ?_ ?_<;>(repeat' (first|exact TmOk.nil|exact RwOk.nil|refine TmOk.cons ?_ ?_|refine RwOk.cons ?_ ?_|rfl|(refine rnV_id' rfl ?_;exact byc)|(refine zv2 ?_;first|rfl|omega|(rw [zv1 (by omega) (by omega)];omega))|(refine zl1 rfl ?_;exact byc)|exact zz3 rfl rfl|(refine zw2 (by rfl) (by rfl) ?_ ?_<;>exact byc)|(refine rw_rn' rfl rfl ?_;simp;done))))
 ·have hk':¬k<code.length:=by simpa using h1
  rw [zc15 (p:=insE) fun j y hj hy=>hno j y (by omega) hy,Bool.true_and]
  repeat' (first|(apply f_wo;first|(apply f_gs;refine n_sk ?_)|(apply f_mv;first|(refine zb2 ?_ ?_<;>intro hG<;>(try cases hG))|refine zj1 (v:=.c _) ?_|refine za ?_)|(apply f_as;first|refine zi1 (v:=.c _) ?_|refine za ?_)|(apply f_fa;first|refine n_fa ?_|refine zm1 ?_)|(apply f_ld;first|refine zq1 ?_|refine zx ?_|refine zw ?_|refine zo1 ?_|refine n_ld ?_)|(apply f_ca;first|refine zz2 ((za7 _ _ _)) ?_|refine zx2 ((za7 _ _ _)) ?_)|(apply f_bi;first|refine zb1 ?_|refine za1 ?_|refine zc1 ?_|refine za ?_)|(apply f_ia;first|refine n_ix ?_|refine zz1 ?_|refine za ?_)|(apply zw1;first|refine zl ?_|refine za ?_)|(apply zu1;first|refine zk ?_|refine zt1 ?_|refine za ?_)|(apply f_no;first|refine zh2 ?_|refine za ?_)|(apply f_pk;first|refine za2 (v:=.c _) ?_|refine za ?_)|refine n_bo ?_|refine za ?_)|(apply f_w;first|refine zv ?_|refine zc ?_)|refine zb fun C=>?_|refine zh ?_|refine zd ?_|refine zf ?_|refine zg ?_|(refine zn (by rfl) ?_ ?_<;>intro hC<;>(try cases hC)))
  all_goals
   (first|refine zu ?_|skip);refine ret0 rfl zf3 ⟨?_,rfl⟩;refine congrArg (fun s=>AV.c (AC.v (Value.bool s))) ?_
   first|rfl|simp_all
theorem fnOk_S {n i:Nat}{pp:Int}{A:Option Addr}{c:Nat}{code:List E}:fnOkE n i (E.agg [E.int .i64 pp,E.lst 2 82 A c code])=(fnS (E.agg [E.int .i64 pp,E.lst 2 82 A c code])&&!(decide (n≤i+3)&&!(pp==0))):=by
 show (inR pp 0 4&&!(decide (n≤i+3)&&!(pp==0))&&inR code.length 1 3000&&code.all insE)=(code.all insE&&(inR pp 0 4&&inR code.length 1 3000)&&!(decide (n≤i+3)&&!(pp==0)))
 cases inR pp 0 4<;>cases inR code.length 1 3000<;>cases code.all insE<;>simp
set_option maxHeartbeats 8000000 in
theorem zk8 {e:E}(he:e.Ty Tryz.prog 33)(hsz:e.sz≤1048576):Ctr Tryz.prog 29 [.ag (acE e)] [] (.c (.v (.bool (modOkE e)))) []:=by
 obtain⟨x0A,x0c,l0,x1A,x1c,l1,x2,x3,x4A,x4c,l4,rfl,⟨a0,ka0⟩,⟨a1,ka1⟩,-,-,⟨a4,ka4⟩,-⟩:=zg3 he
 simp only [E.sz,E.szL] at hsz
 have hl0:l0.length≤1048576:=by omega
 have hl1:l1.length≤1048576:=by omega
 have hl4:l4.length≤1048576:=by omega
 have hs1:=strsz a1 (by omega)
 show Ctr _ _ _ _ (.c (.v (.bool (modOkL l0 l1 x2 x3 l4)))) _
 unfold modOkL
 refine zo2 Tryz.func29 rfl rfl ?_
 repeat' (first|(apply f_wo;first|(apply f_gs;refine n_sk ?_)|(apply f_mv;first|(refine zb2 ?_ ?_<;>intro hG<;>(try cases hG))|refine zj1 (v:=.c _) ?_|refine za ?_)|(apply f_as;first|refine zi1 (v:=.c _) ?_|refine za ?_)|(apply f_fa;first|refine n_fa ?_|refine zm1 ?_)|(apply f_ld;first|refine zq1 ?_|refine zx ?_|refine zw ?_|refine zo1 ?_|refine n_ld ?_)|(apply f_bi;first|refine zb1 ?_|refine za1 ?_|refine zc1 ?_|refine za ?_)|(apply f_ia;first|refine n_ix ?_|refine zz1 ?_|refine za ?_)|(apply zm3;first|refine zy2 ?_|refine za ?_)|(apply zw1;first|refine zl ?_|refine za ?_)|(apply zl6;first|refine zw3 ?_|refine za ?_)|(apply za4;first|refine zs1 ?_|refine za ?_)|(apply zu1;first|refine zk ?_|refine zt1 ?_|refine za ?_)|(apply f_no;first|refine zh2 ?_|refine za ?_)|(apply f_pk;first|refine za2 (v:=.c _) ?_|refine za ?_)|(apply f_bb;first|refine zf2 ?_|refine zg2 ?_|refine za ?_)|refine n_bo ?_|refine za ?_)|(apply f_w;first|refine zv ?_|refine zc ?_)|refine zb fun C=>?_|refine zh ?_|refine zd ?_|refine zf ?_|refine zg ?_)
 refine ze3 (fun k:Nat=>⟨tmsF [(1,.c (.pt 1 0)),(3,.c (.v (.int .i64 k)))],hpsF [(1,1,⟨33,0,0,true,[.ro l0.length 3 (acL l0),.ro l1.length 1 (acL l1),.v (.int .i64 x2),.v (.int .i64 x3),.ro l4.length 2 (acL l4)]⟩)],0,[1],91⟩)
  (fun N k=>k+N=l0.length∧∀j y,j<k→l0[j]? = some y→valE y=true) l0.length 0 ⟨by omega,by omega⟩ ?_ ?_
 ·(refine zr2 _ _ rfl rfl ?_ ?_<;>(repeat' (first|exact TmOk.nil|exact RwOk.nil|refine TmOk.cons ?_ ?_|refine RwOk.cons ?_ ?_|rfl|(refine rnV_id' rfl ?_;exact byc)|(refine zv2 ?_;first|rfl|omega|(rw [zv1 (by omega) (by omega)];omega))|(refine zl1 rfl ?_;exact byc)|exact zz3 rfl rfl|(refine zw2 (by rfl) (by rfl) ?_ ?_<;>exact byc)|(refine rw_rn' rfl rfl ?_;simp;done))))
 rintro N k ⟨hN,hno⟩
 repeat' (first|(apply f_wo;first|(apply f_gs;refine n_sk ?_)|(apply f_mv;first|(refine zb2 ?_ ?_<;>intro hG<;>(try cases hG))|refine zj1 (v:=.c _) ?_|refine za ?_)|(apply f_as;first|refine zi1 (v:=.c _) ?_|refine za ?_)|(apply f_fa;first|refine n_fa ?_|refine zm1 ?_)|(apply f_ld;first|refine zq1 ?_|refine zx ?_|refine zw ?_|refine zo1 ?_|refine n_ld ?_)|(apply f_bi;first|refine zb1 ?_|refine za1 ?_|refine zc1 ?_|refine za ?_)|(apply f_ia;first|refine n_ix ?_|refine zz1 ?_|refine za ?_)|(apply zm3;first|refine zy2 ?_|refine za ?_)|(apply zw1;first|refine zl ?_|refine za ?_)|(apply zl6;first|refine zw3 ?_|refine za ?_)|(apply za4;first|refine zs1 ?_|refine za ?_)|(apply zu1;first|refine zk ?_|refine zt1 ?_|refine za ?_)|(apply f_no;first|refine zh2 ?_|refine za ?_)|(apply f_pk;first|refine za2 (v:=.c _) ?_|refine za ?_)|(apply f_bb;first|refine zf2 ?_|refine zg2 ?_|refine za ?_)|refine n_bo ?_|refine za ?_)|(apply f_w;first|refine zv ?_|refine zc ?_)|refine zb fun C=>?_|refine zh ?_|refine zd ?_|refine zf ?_|refine zg ?_)
 refine zn (by rfl) (fun h1=>?_) fun h1=>?_
 ·have hk':k<l0.length:=by simpa using h1
  obtain⟨x,hx⟩:∃x,l0[k]? = some x:=⟨_,List.getElem?_eq_getElem hk'⟩
  have hxt:=a0 x (List.mem_of_getElem? hx)
  have ci:=ze18 hxt
  have hgk:=ka0
  cases hb:valE x with
  | false =>
   rw [hb] at ci
   have hf:=ze20 hx hb
   rw [hf,Bool.false_and,Bool.false_and,Bool.and_false]
   clear hf hno
   obtain⟨v0,v1,v2,rfl,-⟩:=zu3 hxt
   repeat' (first|(apply f_wo;first|(apply f_gs;refine n_sk ?_)|(apply f_mv;first|(refine zb2 ?_ ?_<;>intro hG<;>(try cases hG))|refine zj1 (v:=.c _) ?_|refine za ?_)|(apply f_as;first|refine zi1 (v:=.c _) ?_|refine za ?_)|(apply f_fa;first|refine n_fa ?_|refine zm1 ?_)|(apply f_ld;first|refine zq1 ?_|refine zx ?_|refine zw ?_|refine zo1 ?_|refine n_ld ?_)|(apply f_ca;first|refine zz2 ci ?_|refine zx2 ci ?_)|(apply f_bi;first|refine zb1 ?_|refine za1 ?_|refine zc1 ?_|refine za ?_)|(apply f_ia;first|refine n_ix ?_|refine zz1 ?_|refine za ?_)|(apply zm3;first|refine zy2 ?_|refine za ?_)|(apply zw1;first|refine zl ?_|refine za ?_)|(apply zl6;first|refine zw3 ?_|refine za ?_)|(apply za4;first|refine zs1 ?_|refine za ?_)|(apply zu1;first|refine zk ?_|refine zt1 ?_|refine za ?_)|(apply f_no;first|refine zh2 ?_|refine za ?_)|(apply f_pk;first|refine za2 (v:=.c _) ?_|refine za ?_)|(apply f_bb;first|refine zf2 ?_|refine zg2 ?_|refine za ?_)|refine n_bo ?_|refine za ?_)|(apply f_w;first|refine zv ?_|refine zc ?_)|refine zb fun C=>?_|refine zh ?_|refine zd ?_|refine zf ?_|refine zg ?_|refine zt rfl ?_|refine zp rfl ?_)
   refine zu ?_;refine ret0 rfl zf3 ⟨?_,rfl⟩
   rfl
  | true =>
   rw [hb] at ci
   have hno2:∀j z,j<k+1→l0[j]? = some z→valE z=true:=fun j z hj hz=>by
    by_cases e:j=k
    ·rw [e,hx] at hz;injection hz with hz;subst hz;exact hb
    ·exact hno j z (by omega) hz
   clear hno hb
   obtain⟨v0,v1,v2,rfl,-⟩:=zu3 hxt
   repeat' (first|(apply f_wo;first|(apply f_gs;refine n_sk ?_)|(apply f_mv;first|(refine zb2 ?_ ?_<;>intro hG<;>(try cases hG))|refine zj1 (v:=.c _) ?_|refine za ?_)|(apply f_as;first|refine zi1 (v:=.c _) ?_|refine za ?_)|(apply f_fa;first|refine n_fa ?_|refine zm1 ?_)|(apply f_ld;first|refine zq1 ?_|refine zx ?_|refine zw ?_|refine zo1 ?_|refine n_ld ?_)|(apply f_ca;first|refine zz2 ci ?_|refine zx2 ci ?_)|(apply f_bi;first|refine zb1 ?_|refine za1 ?_|refine zc1 ?_|refine za ?_)|(apply f_ia;first|refine n_ix ?_|refine zz1 ?_|refine za ?_)|(apply zm3;first|refine zy2 ?_|refine za ?_)|(apply zw1;first|refine zl ?_|refine za ?_)|(apply zl6;first|refine zw3 ?_|refine za ?_)|(apply za4;first|refine zs1 ?_|refine za ?_)|(apply zu1;first|refine zk ?_|refine zt1 ?_|refine za ?_)|(apply f_no;first|refine zh2 ?_|refine za ?_)|(apply f_pk;first|refine za2 (v:=.c _) ?_|refine za ?_)|(apply f_bb;first|refine zf2 ?_|refine zg2 ?_|refine za ?_)|refine n_bo ?_|refine za ?_)|(apply f_w;first|refine zv ?_|refine zc ?_)|refine zb fun C=>?_|refine zh ?_|refine zd ?_|refine zf ?_|refine zg ?_|refine zt rfl ?_|refine zp rfl ?_)
   refine⟨N-1,k+1,by omega,⟨by omega,hno2⟩,?_⟩
   (refine zr2 _ _ rfl rfl ?_ ?_<;>(repeat' (first|exact TmOk.nil|exact RwOk.nil|refine TmOk.cons ?_ ?_|refine RwOk.cons ?_ ?_|rfl|(refine rnV_id' rfl ?_;exact byc)|(refine zv2 ?_;first|rfl|omega|(rw [zv1 (by omega) (by omega)];omega))|(refine zl1 rfl ?_;exact byc)|exact zz3 rfl rfl|(refine zw2 (by rfl) (by rfl) ?_ ?_<;>exact byc)|(refine rw_rn' rfl rfl ?_;simp;done))))
 have hk':¬k<l0.length:=by simpa using h1
 rw [zc15 (p:=valE) fun j y hj hy=>hno j y (by omega) hy,Bool.true_and]
 clear hno hN h1
 repeat' (first|(apply f_wo;first|(apply f_gs;refine n_sk ?_)|(apply f_mv;first|(refine zb2 ?_ ?_<;>intro hG<;>(try cases hG))|refine zj1 (v:=.c _) ?_|refine za ?_)|(apply f_as;first|refine zi1 (v:=.c _) ?_|refine za ?_)|(apply f_fa;first|refine n_fa ?_|refine zm1 ?_)|(apply f_ld;first|refine zq1 ?_|refine zx ?_|refine zw ?_|refine zo1 ?_|refine n_ld ?_)|(apply f_bi;first|refine zb1 ?_|refine za1 ?_|refine zc1 ?_|refine za ?_)|(apply f_ia;first|refine n_ix ?_|refine zz1 ?_|refine za ?_)|(apply zm3;first|refine zy2 ?_|refine za ?_)|(apply zw1;first|refine zl ?_|refine za ?_)|(apply zl6;first|refine zw3 ?_|refine za ?_)|(apply za4;first|refine zs1 ?_|refine za ?_)|(apply zu1;first|refine zk ?_|refine zt1 ?_|refine za ?_)|(apply f_no;first|refine zh2 ?_|refine za ?_)|(apply f_pk;first|refine za2 (v:=.c _) ?_|refine za ?_)|(apply f_bb;first|refine zf2 ?_|refine zg2 ?_|refine za ?_)|refine n_bo ?_|refine za ?_)|(apply f_w;first|refine zv ?_|refine zc ?_)|refine zb fun C=>?_|refine zh ?_|refine zd ?_|refine zf ?_|refine zg ?_)
 refine ze3 (fun k:Nat=>⟨tmsF [(1,.c (.pt 1 0)),(4,.c (.v (.int .i64 k)))],hpsF [(1,1,⟨33,0,0,true,[.ro l0.length 3 (acL l0),.ro l1.length 1 (acL l1),.v (.int .i64 x2),.v (.int .i64 x3),.ro l4.length 2 (acL l4)]⟩)],0,[1],91⟩)
  (fun N k=>k+N=l1.length∧∀j y,j<k→l1[j]? = some y→rexNE y=true) l1.length 0 ⟨by omega,by omega⟩ ?_ ?_
 ·(refine zr2 _ _ rfl rfl ?_ ?_<;>(repeat' (first|exact TmOk.nil|exact RwOk.nil|refine TmOk.cons ?_ ?_|refine RwOk.cons ?_ ?_|rfl|(refine rnV_id' rfl ?_;exact byc)|(refine zv2 ?_;first|rfl|omega|(rw [zv1 (by omega) (by omega)];omega))|(refine zl1 rfl ?_;exact byc)|exact zz3 rfl rfl|(refine zw2 (by rfl) (by rfl) ?_ ?_<;>exact byc)|(refine rw_rn' rfl rfl ?_;simp;done))))
 rintro N k ⟨hN,hno⟩
 repeat' (first|(apply f_wo;first|(apply f_gs;refine n_sk ?_)|(apply f_mv;first|(refine zb2 ?_ ?_<;>intro hG<;>(try cases hG))|refine zj1 (v:=.c _) ?_|refine za ?_)|(apply f_as;first|refine zi1 (v:=.c _) ?_|refine za ?_)|(apply f_fa;first|refine n_fa ?_|refine zm1 ?_)|(apply f_ld;first|refine zq1 ?_|refine zx ?_|refine zw ?_|refine zo1 ?_|refine n_ld ?_)|(apply f_bi;first|refine zb1 ?_|refine za1 ?_|refine zc1 ?_|refine za ?_)|(apply f_ia;first|refine n_ix ?_|refine zz1 ?_|refine za ?_)|(apply zm3;first|refine zy2 ?_|refine za ?_)|(apply zw1;first|refine zl ?_|refine za ?_)|(apply zl6;first|refine zw3 ?_|refine za ?_)|(apply za4;first|refine zs1 ?_|refine za ?_)|(apply zu1;first|refine zk ?_|refine zt1 ?_|refine za ?_)|(apply f_no;first|refine zh2 ?_|refine za ?_)|(apply f_pk;first|refine za2 (v:=.c _) ?_|refine za ?_)|(apply f_bb;first|refine zf2 ?_|refine zg2 ?_|refine za ?_)|refine n_bo ?_|refine za ?_)|(apply f_w;first|refine zv ?_|refine zc ?_)|refine zb fun C=>?_|refine zh ?_|refine zd ?_|refine zf ?_|refine zg ?_)
 refine zn (by rfl) (fun h1=>?_) fun h1=>?_
 ·have hk':k<l1.length:=by simpa using h1
  obtain⟨x,hx⟩:∃x,l1[k]? = some x:=⟨_,List.getElem?_eq_getElem hk'⟩
  have hxm:=List.mem_of_getElem? hx
  have hgk:=ka1
  have hxz:=hs1 x hxm
  cases hb:rexNE x with
  | false =>
   have hf:=ze20 hx hb
   rw [hf,Bool.false_and,Bool.and_false]
   obtain⟨s,rfl,-⟩:=(a1 x hxm).str_ Tryz.underlying9
   have ci:=l8Rex_c hxz
   have hb:rexN s=false:=hb
   rw [show rexN (strB (E.str s))=false from hb] at ci
   repeat' (first|(apply f_wo;first|(apply f_gs;refine n_sk ?_)|(apply f_mv;first|(refine zb2 ?_ ?_<;>intro hG<;>(try cases hG))|refine zj1 (v:=.c _) ?_|refine za ?_)|(apply f_as;first|refine zi1 (v:=.c _) ?_|refine za ?_)|(apply f_fa;first|refine n_fa ?_|refine zm1 ?_)|(apply f_ld;first|refine zq1 ?_|refine zx ?_|refine zw ?_|refine zo1 ?_|refine n_ld ?_)|(apply f_ca;first|refine zz2 ci ?_|refine zx2 ci ?_)|(apply f_bi;first|refine zb1 ?_|refine za1 ?_|refine zc1 ?_|refine za ?_)|(apply f_ia;first|refine n_ix ?_|refine zz1 ?_|refine za ?_)|(apply zm3;first|refine zy2 ?_|refine za ?_)|(apply zw1;first|refine zl ?_|refine za ?_)|(apply zl6;first|refine zw3 ?_|refine za ?_)|(apply za4;first|refine zs1 ?_|refine za ?_)|(apply zu1;first|refine zk ?_|refine zt1 ?_|refine za ?_)|(apply f_no;first|refine zh2 ?_|refine za ?_)|(apply f_pk;first|refine za2 (v:=.c _) ?_|refine za ?_)|(apply f_bb;first|refine zf2 ?_|refine zg2 ?_|refine za ?_)|refine n_bo ?_|refine za ?_)|(apply f_w;first|refine zv ?_|refine zc ?_)|refine zb fun C=>?_|refine zh ?_|refine zd ?_|refine zf ?_|refine zg ?_|refine zt rfl ?_|refine zp rfl ?_)
   refine zu ?_;refine ret0 rfl zf3 ⟨?_,rfl⟩
   rfl
  | true =>
   have hno2:∀j z,j<k+1→l1[j]? = some z→rexNE z=true:=fun j z hj hz=>by
    by_cases e:j=k
    ·rw [e,hx] at hz;injection hz with hz;subst hz;exact hb
    ·exact hno j z (by omega) hz
   obtain⟨s,rfl,-⟩:=(a1 x hxm).str_ Tryz.underlying9
   have ci:=l8Rex_c hxz
   have hb:rexN s=true:=hb
   rw [show rexN (strB (E.str s))=true from hb] at ci
   repeat' (first|(apply f_wo;first|(apply f_gs;refine n_sk ?_)|(apply f_mv;first|(refine zb2 ?_ ?_<;>intro hG<;>(try cases hG))|refine zj1 (v:=.c _) ?_|refine za ?_)|(apply f_as;first|refine zi1 (v:=.c _) ?_|refine za ?_)|(apply f_fa;first|refine n_fa ?_|refine zm1 ?_)|(apply f_ld;first|refine zq1 ?_|refine zx ?_|refine zw ?_|refine zo1 ?_|refine n_ld ?_)|(apply f_ca;first|refine zz2 ci ?_|refine zx2 ci ?_)|(apply f_bi;first|refine zb1 ?_|refine za1 ?_|refine zc1 ?_|refine za ?_)|(apply f_ia;first|refine n_ix ?_|refine zz1 ?_|refine za ?_)|(apply zm3;first|refine zy2 ?_|refine za ?_)|(apply zw1;first|refine zl ?_|refine za ?_)|(apply zl6;first|refine zw3 ?_|refine za ?_)|(apply za4;first|refine zs1 ?_|refine za ?_)|(apply zu1;first|refine zk ?_|refine zt1 ?_|refine za ?_)|(apply f_no;first|refine zh2 ?_|refine za ?_)|(apply f_pk;first|refine za2 (v:=.c _) ?_|refine za ?_)|(apply f_bb;first|refine zf2 ?_|refine zg2 ?_|refine za ?_)|refine n_bo ?_|refine za ?_)|(apply f_w;first|refine zv ?_|refine zc ?_)|refine zb fun C=>?_|refine zh ?_|refine zd ?_|refine zf ?_|refine zg ?_|refine zt rfl ?_|refine zp rfl ?_)
   refine⟨N-1,k+1,by omega,⟨by omega,hno2⟩,?_⟩
   (refine zr2 _ _ rfl rfl ?_ ?_<;>(repeat' (first|exact TmOk.nil|exact RwOk.nil|refine TmOk.cons ?_ ?_|refine RwOk.cons ?_ ?_|rfl|(refine rnV_id' rfl ?_;exact byc)|(refine zv2 ?_;first|rfl|omega|(rw [zv1 (by omega) (by omega)];omega))|(refine zl1 rfl ?_;exact byc)|exact zz3 rfl rfl|(refine zw2 (by rfl) (by rfl) ?_ ?_<;>exact byc)|(refine rw_rn' rfl rfl ?_;simp;done))))
 have hk':¬k<l1.length:=by simpa using h1
 rw [zc15 (p:=rexNE) fun j y hj hy=>hno j y (by omega) hy,Bool.true_and]
 clear hno hN h1 hs1
 repeat' (first|(apply f_wo;first|(apply f_gs;refine n_sk ?_)|(apply f_mv;first|(refine zb2 ?_ ?_<;>intro hG<;>(try cases hG))|refine zj1 (v:=.c _) ?_|refine za ?_)|(apply f_as;first|refine zi1 (v:=.c _) ?_|refine za ?_)|(apply f_fa;first|refine n_fa ?_|refine zm1 ?_)|(apply f_ld;first|refine zq1 ?_|refine zx ?_|refine zw ?_|refine zo1 ?_|refine n_ld ?_)|(apply f_bi;first|refine zb1 ?_|refine za1 ?_|refine zc1 ?_|refine za ?_)|(apply f_ia;first|refine n_ix ?_|refine zz1 ?_|refine za ?_)|(apply zm3;first|refine zy2 ?_|refine za ?_)|(apply zw1;first|refine zl ?_|refine za ?_)|(apply zl6;first|refine zw3 ?_|refine za ?_)|(apply za4;first|refine zs1 ?_|refine za ?_)|(apply zu1;first|refine zk ?_|refine zt1 ?_|refine za ?_)|(apply f_no;first|refine zh2 ?_|refine za ?_)|(apply f_pk;first|refine za2 (v:=.c _) ?_|refine za ?_)|(apply f_bb;first|refine zf2 ?_|refine zg2 ?_|refine za ?_)|refine n_bo ?_|refine za ?_)|(apply f_w;first|refine zv ?_|refine zc ?_)|refine zb fun C=>?_|refine zh ?_|refine zd ?_|refine zf ?_|refine zg ?_)
 generalize htot:fnsOk l4.length 0 l4=tot
 refine ze3 (fun k:Nat=>⟨tmsF [(1,.c (.pt 1 0)),(5,.c (.v (.int .i64 k)))],hpsF [(1,1,⟨33,0,0,true,[.ro l0.length 3 (acL l0),.ro l1.length 1 (acL l1),.v (.int .i64 x2),.v (.int .i64 x3),.ro l4.length 2 (acL l4)]⟩)],0,[1],91⟩)
  (fun N k=>k+N=l4.length∧fnsOk l4.length k (l4.drop k)=tot) l4.length 0 ⟨by omega,htot⟩ ?_ ?_
 ·(refine zr2 _ _ rfl rfl ?_ ?_<;>(repeat' (first|exact TmOk.nil|exact RwOk.nil|refine TmOk.cons ?_ ?_|refine RwOk.cons ?_ ?_|rfl|(refine rnV_id' rfl ?_;exact byc)|(refine zv2 ?_;first|rfl|omega|(rw [zv1 (by omega) (by omega)];omega))|(refine zl1 rfl ?_;exact byc)|exact zz3 rfl rfl|(refine zw2 (by rfl) (by rfl) ?_ ?_<;>exact byc)|(refine rw_rn' rfl rfl ?_;simp;done))))
 rintro N k ⟨hN,ht⟩
 repeat' (first|(apply f_wo;first|(apply f_gs;refine n_sk ?_)|(apply f_mv;first|(refine zb2 ?_ ?_<;>intro hG<;>(try cases hG))|refine zj1 (v:=.c _) ?_|refine za ?_)|(apply f_as;first|refine zi1 (v:=.c _) ?_|refine za ?_)|(apply f_fa;first|refine n_fa ?_|refine zm1 ?_)|(apply f_ld;first|refine zq1 ?_|refine zx ?_|refine zw ?_|refine zo1 ?_|refine n_ld ?_)|(apply f_bi;first|refine zb1 ?_|refine za1 ?_|refine zc1 ?_|refine za ?_)|(apply f_ia;first|refine n_ix ?_|refine zz1 ?_|refine za ?_)|(apply zm3;first|refine zy2 ?_|refine za ?_)|(apply zw1;first|refine zl ?_|refine za ?_)|(apply zl6;first|refine zw3 ?_|refine za ?_)|(apply za4;first|refine zs1 ?_|refine za ?_)|(apply zu1;first|refine zk ?_|refine zt1 ?_|refine za ?_)|(apply f_no;first|refine zh2 ?_|refine za ?_)|(apply f_pk;first|refine za2 (v:=.c _) ?_|refine za ?_)|(apply f_bb;first|refine zf2 ?_|refine zg2 ?_|refine za ?_)|refine n_bo ?_|refine za ?_)|(apply f_w;first|refine zv ?_|refine zc ?_)|refine zb fun C=>?_|refine zh ?_|refine zd ?_|refine zf ?_|refine zg ?_)
 refine zn (by rfl) (fun hk1=>?_) fun hk1=>?_
 ·have hk':k<l4.length:=by simpa using hk1
  obtain⟨x,hx⟩:∃x,l4[k]? = some x:=⟨_,List.getElem?_eq_getElem hk'⟩
  have hd1:l4.drop k=x :: l4.drop (k+1):=by rw [List.drop_eq_getElem_cons hk'];congr 1;rw [List.getElem?_eq_getElem hk'] at hx;exact Option.some.inj hx
  rw [hd1] at ht
  have hxm:=List.mem_of_getElem? hx
  have hxz:=E.szL_mem hxm
  have hgk:=ka4
  have ci:=l18Fn_c (a4 x hxm) (by omega)
  obtain⟨pp,pA,pc,code,rfl,-,⟨hc,hck⟩,-⟩:=zb4 (a4 x hxm)
  unfold fnsOk at ht
  rw [fnOk_S] at ht
  generalize fnS (E.agg [E.int IntKind.i64 pp,E.lst 2 82 pA pc code])=fb at ci ht
  repeat' (first|(apply f_wo;first|(apply f_gs;refine n_sk ?_)|(apply f_mv;first|(refine zb2 ?_ ?_<;>intro hG<;>(try cases hG))|refine zj1 (v:=.c _) ?_|refine za ?_)|(apply f_as;first|refine zi1 (v:=.c _) ?_|refine za ?_)|(apply f_fa;first|refine n_fa ?_|refine zm1 ?_)|(apply f_ld;first|refine zq1 ?_|refine zx ?_|refine zw ?_|refine zo1 ?_|refine n_ld ?_)|(apply f_ca;first|refine zz2 ci ?_|refine zx2 ci ?_)|(apply f_bi;first|refine zb1 ?_|refine za1 ?_|refine zc1 ?_|refine za ?_)|(apply f_ia;first|refine n_ix ?_|refine zz1 ?_|refine za ?_)|(apply zm3;first|refine zy2 ?_|refine za ?_)|(apply zw1;first|refine zl ?_|refine za ?_)|(apply zl6;first|refine zw3 ?_|refine za ?_)|(apply za4;first|refine zs1 ?_|refine za ?_)|(apply zu1;first|refine zk ?_|refine zt1 ?_|refine za ?_)|(apply f_no;first|refine zh2 ?_|refine za ?_)|(apply f_pk;first|refine za2 (v:=.c _) ?_|refine za ?_)|(apply f_bb;first|refine zf2 ?_|refine zg2 ?_|refine za ?_)|refine n_bo ?_|refine za ?_)|(apply f_w;first|refine zv ?_|refine zc ?_)|refine zb fun C=>?_|refine zh ?_|refine zd ?_|refine zf ?_|refine zg ?_|(refine zn (by rfl) ?_ ?_<;>intro hC<;>(try cases hC)))
  all_goals first
   | (refine zu ?_;refine ret0 rfl zf3 ⟨?_,rfl⟩
      rw [←ht]
      clear ci a0 a1 a4 ka0 ka1 ka4 he hc hck hgk ht
      simp only [Bool.not_eq_true',Bool.not_eq_false',bne_iff_ne,ne_eq,bne_eq_false_iff_eq,decide_eq_true_iff,decide_eq_false_iff_not] at *
      simp [*]
      try omega)
   | (refine⟨N-1,k+1,by omega,⟨by omega,?_⟩,?_⟩
      ·have hA:(fb&&!(decide (l4.length≤k+3)&&!(pp==0)))=true:=by
        clear ci a0 a1 a4 ka0 ka1 ka4 he hc hck hgk ht
        simp only [Bool.not_eq_true',Bool.not_eq_false',bne_iff_ne,ne_eq,bne_eq_false_iff_eq,decide_eq_true_iff,decide_eq_false_iff_not] at *
        simp [*]
        try omega
       rw [←ht,hA];rfl
      ·(refine zr2 _ _ rfl rfl ?_ ?_<;>(repeat' (first|exact TmOk.nil|exact RwOk.nil|refine TmOk.cons ?_ ?_|refine RwOk.cons ?_ ?_|rfl|(refine rnV_id' rfl ?_;exact byc)|(refine zv2 ?_;first|rfl|omega|(rw [zv1 (by omega) (by omega)];omega))|(refine zl1 rfl ?_;exact byc)|exact zz3 rfl rfl|(refine zw2 (by rfl) (by rfl) ?_ ?_<;>exact byc)|(refine rw_rn' rfl rfl ?_;simp;done)))))
 ·have hk':¬k<l4.length:=by simpa using hk1
  obtain rfl:k=l4.length:=by omega
  rw [List.drop_length] at ht
  rw [←ht]
  show AWp _ _ _ _
  repeat' (first|(apply f_wo;first|(apply f_gs;refine n_sk ?_)|(apply f_mv;first|(refine zb2 ?_ ?_<;>intro hG<;>(try cases hG))|refine zj1 (v:=.c _) ?_|refine za ?_)|(apply f_as;first|refine zi1 (v:=.c _) ?_|refine za ?_)|(apply f_fa;first|refine n_fa ?_|refine zm1 ?_)|(apply f_ld;first|refine zq1 ?_|refine zx ?_|refine zw ?_|refine zo1 ?_|refine n_ld ?_)|(apply f_ca;first|refine zz2 ((za7 _ _ _)) ?_|refine zx2 ((za7 _ _ _)) ?_)|(apply f_bi;first|refine zb1 ?_|refine za1 ?_|refine zc1 ?_|refine za ?_)|(apply f_ia;first|refine n_ix ?_|refine zz1 ?_|refine za ?_)|(apply zm3;first|refine zy2 ?_|refine za ?_)|(apply zw1;first|refine zl ?_|refine za ?_)|(apply zl6;first|refine zw3 ?_|refine za ?_)|(apply za4;first|refine zs1 ?_|refine za ?_)|(apply zu1;first|refine zk ?_|refine zt1 ?_|refine za ?_)|(apply f_no;first|refine zh2 ?_|refine za ?_)|(apply f_pk;first|refine za2 (v:=.c _) ?_|refine za ?_)|(apply f_bb;first|refine zf2 ?_|refine zg2 ?_|refine za ?_)|refine n_bo ?_|refine za ?_)|(apply f_w;first|refine zv ?_|refine zc ?_)|refine zb fun C=>?_|refine zh ?_|refine zd ?_|refine zf ?_|refine zg ?_|(refine zn (by rfl) ?_ ?_<;>intro hC<;>(try cases hC)))
  all_goals
   (first|refine zu ?_|skip);refine ret0 rfl zf3 ⟨?_,rfl⟩;refine congrArg (fun s=>AV.c (AC.v (Value.bool s))) ?_
   show _=(modHead l0 l1 x2 x3 l4&&true)
   rw [Bool.and_true]
   clear a0 a1 a4 ka0 ka1 ka4 he ht htot
   unfold modHead
   simp only [inR] at *
   (rw [Bool.eq_iff_iff];(try simp only [Bool.and_eq_true,Bool.or_eq_true,Bool.not_eq_true',decide_eq_true_iff,decide_eq_false_iff_not,beq_iff_eq,Bool.and_eq_false_iff,Bool.or_eq_false_iff,bne_iff_ne,ne_eq,Bool.true_eq_false,Bool.false_eq_true,true_iff,false_iff,iff_true,iff_false] at *);first|omega|(simp at *;omega))
end Go.Proofs.YtghljnfbbaklnaaGreat
