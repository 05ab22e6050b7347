/- The reference's RexText: by the abstract machine. -/
import Derived.Test.YtghljnfbbaklnaaGreatPutModuleAB
namespace Go.Proofs.YtghljnfbbaklnaaGreat
open Go.RowKit
set_option maxRecDepth 100000
set_option maxHeartbeats 4000000 in
theorem zf20 {g:E→ByteArray}{b:ByteArray}(hb:b.size≤1){l:List E}(hl:∀x∈l,x.Ty Tryz.prog 208)(hk3:∀x∈l,x.enc.length=3)(hlen:l.length≤8)(hsz:∀x∈l,(g x).size≤960)
 (hg:∀x∈l,Ctr Tryz.prog 205 [.ag (acE x)] [] (.c (.v (.string (g x)))) []) :
 Ctr Tryz.prog 213 [.c (.ro l.length 3 (acL l)),.c (.v (.string b)),.c (.v (.int .i64 5))] [] (.c (.v (.string (joinT g b l)))) []:=by
 refine zo2 Tryz.func213 rfl rfl ?_
 repeat' (first|(apply f_wo;first|(apply f_mv;first|refine zj1 (v:=.c _) ?_|refine za ?_)|(apply f_as;first|refine zi1 (v:=.c _) ?_|refine za ?_)|(apply f_fa;first|refine n_fa ?_|refine zm1 ?_)|(apply f_ld;first|refine zq1 ?_|refine zx ?_|refine zw ?_|refine zo1 ?_|refine n_ld ?_)|(apply f_bi;first|refine zb1 ?_|refine za1 ?_|refine zc1 ?_|refine za ?_)|(apply f_ia;first|refine n_ix ?_|refine zz1 ?_|refine za ?_)|(apply ze2;first|refine zy ?_|refine za ?_)|(apply zw1;first|refine zl ?_|refine za ?_)|(apply zx3;first|refine zr1 ?_|refine za ?_)|(apply zu1;first|refine zk ?_|refine zt1 ?_|refine za ?_)|refine za ?_)|(apply f_w;first|refine zv ?_|refine zc ?_)|refine zb fun C=>?_|refine zh ?_|refine zd ?_|refine zf ?_|refine zg ?_)
 refine ze3 (fun k:Nat=>⟨tmsF [(0,.c (.ro l.length 3 (acL l))),(1,.c (.v (.string b))),(2,.c (.v (.int .i64 5))),(7,.c (.v (.string (joinT g b (l.take k))))),(8,.c (.v (.int .i64 k)))],hpsF [],0,[],44⟩)
  (fun N k=>k+N=l.length) l.length 0 (by omega) ?_ ?_
 ·(refine zr2 _ _ rfl rfl ?_ ?_<;>(repeat' (first|exact TmOk.nil|exact RwOk.nil|refine TmOk.cons ?_ ?_|refine RwOk.cons ?_ ?_|rfl|(refine rnV_id' rfl ?_;exact byc)|(refine zv2 ?_;first|rfl|omega|(rw [zv1 (by omega) (by omega)];omega))|(refine zl1 rfl ?_;exact byc)|exact zz3 rfl rfl|(refine zw2 (by rfl) (by rfl) ?_ ?_<;>exact byc)|(refine rw_rn' rfl rfl ?_;simp;done))))
 rintro N k hN
 repeat' (first|(apply f_wo;first|(apply f_mv;first|refine zj1 (v:=.c _) ?_|refine za ?_)|(apply f_as;first|refine zi1 (v:=.c _) ?_|refine za ?_)|(apply f_fa;first|refine n_fa ?_|refine zm1 ?_)|(apply f_ld;first|refine zq1 ?_|refine zx ?_|refine zw ?_|refine zo1 ?_|refine n_ld ?_)|(apply f_bi;first|refine zb1 ?_|refine za1 ?_|refine zc1 ?_|refine za ?_)|(apply f_ia;first|refine n_ix ?_|refine zz1 ?_|refine za ?_)|(apply ze2;first|refine zy ?_|refine za ?_)|(apply zw1;first|refine zl ?_|refine za ?_)|(apply zx3;first|refine zr1 ?_|refine za ?_)|(apply zu1;first|refine zk ?_|refine zt1 ?_|refine za ?_)|refine za ?_)|(apply f_w;first|refine zv ?_|refine zc ?_)|refine zb fun C=>?_|refine zh ?_|refine zd ?_|refine zf ?_|refine zg ?_)
 refine zn (by rfl) (fun hk1=>?_) fun hk1=>?_
 ·have hk':k<l.length:=by simpa using hk1
  obtain⟨x,hx⟩:∃x,l[k]? = some x:=⟨_,List.getElem?_eq_getElem hk'⟩
  have hxm:=List.mem_of_getElem? hx
  have hxt:=hl x hxm
  have hc:=hg x hxm
  have hz1:=ze8 (b:=b) hsz k (by omega)
  have hz2:=hsz x hxm
  have hz3:k*(960+2+b.size)≤8*963:=Nat.mul_le_mul (by omega) (by omega)
  have e:=zd8 g b hx
  have o1:(ByteArray.mk #[40]).size=1:=rfl
  have o2:(ByteArray.mk #[41]).size=1:=rfl
  have hgk:=hk3
  have hkk:∀y0 y1 A c l',x=E.agg [.int .i64 y0,.str y1,.lst 3 208 A c l']→brk g x=if y0=5 then ⟨#[40]⟩++g x++⟨#[41]⟩ else g x:=fun y0 y1 A c l' h=>by subst h;rfl
  obtain⟨y0,y1,y2A,y2c,y2l,rfl,gy0,gy1,gy2,-⟩:=zy1 hxt
  have hkk:=hkk _ _ _ _ _ rfl
  rw [hkk] at e
  generalize hgx:g (E.agg [E.int IntKind.i64 y0,E.str y1,E.lst 3 208 y2A y2c y2l])=t at hc hz2 e
  generalize hJ:joinT g b (l.take k)=J at hz1 e ⊢
  have s1:(J++b).size=J.size+b.size:=ByteArray.size_append' ..
  have s2:(J++b++⟨#[40]⟩).size=J.size+b.size+1:=by rw [ByteArray.size_append',s1];rfl
  have s3:(J++⟨#[40]⟩).size=J.size+1:=by rw [ByteArray.size_append'];rfl
  have s4:(J++b++⟨#[40]⟩++t).size=J.size+b.size+1+t.size:=by rw [ByteArray.size_append',s2]
  have s5:(J++⟨#[40]⟩++t).size=J.size+1+t.size:=by rw [ByteArray.size_append',s3]
  repeat' (first|(apply f_wo;first|(apply f_mv;first|refine zj1 (v:=.c _) ?_|refine za ?_)|(apply f_as;first|refine zi1 (v:=.c _) ?_|refine za ?_)|(apply f_fa;first|refine n_fa ?_|refine zm1 ?_)|(apply f_ld;first|refine zq1 ?_|refine zx ?_|refine zw ?_|refine zo1 ?_|refine n_ld ?_)|(apply f_bi;first|refine zb1 ?_|refine za1 ?_|refine zc1 ?_|refine za ?_)|(apply f_ia;first|refine n_ix ?_|refine zz1 ?_|refine za ?_)|(apply ze2;first|refine zy ?_|refine za ?_)|(apply zw1;first|refine zl ?_|refine za ?_)|(apply zx3;first|refine zr1 ?_|refine za ?_)|(apply zu1;first|refine zk ?_|refine zt1 ?_|refine za ?_)|refine za ?_)|(apply f_w;first|refine zv ?_|refine zc ?_)|refine zb fun C=>?_|refine zh ?_|refine zd ?_|refine zf ?_|refine zg ?_)
  by_cases hk0:k=0
  ·subst hk0
   refine zp rfl ?_
   repeat' (first|(apply f_wo;first|(apply f_mv;first|refine zj1 (v:=.c _) ?_|refine za ?_)|(apply f_as;first|refine zi1 (v:=.c _) ?_|refine za ?_)|(apply f_fa;first|refine n_fa ?_|refine zm1 ?_)|(apply f_ld;first|refine zq1 ?_|refine zx ?_|refine zw ?_|refine zo1 ?_|refine n_ld ?_)|(apply f_bi;first|refine zb1 ?_|refine za1 ?_|refine zc1 ?_|refine za ?_)|(apply f_ia;first|refine n_ix ?_|refine zz1 ?_|refine za ?_)|(apply ze2;first|refine zy ?_|refine za ?_)|(apply zw1;first|refine zl ?_|refine za ?_)|(apply zx3;first|refine zr1 ?_|refine za ?_)|(apply zu1;first|refine zk ?_|refine zt1 ?_|refine za ?_)|refine za ?_)|(apply f_w;first|refine zv ?_|refine zc ?_)|refine zb fun C=>?_|refine zh ?_|refine zd ?_|refine zf ?_|refine zg ?_)
   obtain rfl:J=ByteArray.empty:=hJ.symm
   refine zn (by rfl) (fun h5=>?_) fun h5=>?_
   ·repeat' (first|(apply f_wo;first|(apply f_mv;first|refine zj1 (v:=.c _) ?_|refine za ?_)|(apply f_as;first|refine zi1 (v:=.c _) ?_|refine za ?_)|(apply f_fa;first|refine n_fa ?_|refine zm1 ?_)|(apply f_ld;first|refine zq1 ?_|refine zx ?_|refine zw ?_|refine zo1 ?_|refine n_ld ?_)|(apply f_ca;first|refine zz2 hc ?_|refine zx2 hc ?_)|(apply f_bi;first|refine zb1 ?_|refine za1 ?_|refine zc1 ?_|refine za ?_)|(apply f_ia;first|refine n_ix ?_|refine zz1 ?_|refine za ?_)|(apply ze2;first|refine zy ?_|refine za ?_)|(apply zw1;first|refine zl ?_|refine za ?_)|(apply zx3;first|refine zr1 ?_|refine za ?_)|(apply zu1;first|refine zk ?_|refine zt1 ?_|refine za ?_)|refine za ?_)|(apply f_w;first|refine zv ?_|refine zc ?_)|refine zb fun C=>?_|refine zh ?_|refine zd ?_|refine zf ?_|refine zg ?_|(refine zn (by rfl) ?_ ?_<;>intro hC<;>(try cases hC)))
    refine⟨N-1,1,by omega,by omega,?_⟩
    rw [e,if_pos rfl,if_pos (eq_of_beq h5)]
    simp only [zd10,zw7]
    (refine zr2 _ _ rfl rfl ?_ ?_<;>(repeat' (first|exact TmOk.nil|exact RwOk.nil|refine TmOk.cons ?_ ?_|refine RwOk.cons ?_ ?_|rfl|(refine rnV_id' rfl ?_;exact byc)|(refine zv2 ?_;first|rfl|omega|(rw [zv1 (by omega) (by omega)];omega))|(refine zl1 rfl ?_;exact byc)|exact zz3 rfl rfl|(refine zw2 (by rfl) (by rfl) ?_ ?_<;>exact byc)|(refine rw_rn' rfl rfl ?_;simp;done))))
   ·repeat' (first|(apply f_wo;first|(apply f_mv;first|refine zj1 (v:=.c _) ?_|refine za ?_)|(apply f_as;first|refine zi1 (v:=.c _) ?_|refine za ?_)|(apply f_fa;first|refine n_fa ?_|refine zm1 ?_)|(apply f_ld;first|refine zq1 ?_|refine zx ?_|refine zw ?_|refine zo1 ?_|refine n_ld ?_)|(apply f_ca;first|refine zz2 hc ?_|refine zx2 hc ?_)|(apply f_bi;first|refine zb1 ?_|refine za1 ?_|refine zc1 ?_|refine za ?_)|(apply f_ia;first|refine n_ix ?_|refine zz1 ?_|refine za ?_)|(apply ze2;first|refine zy ?_|refine za ?_)|(apply zw1;first|refine zl ?_|refine za ?_)|(apply zx3;first|refine zr1 ?_|refine za ?_)|(apply zu1;first|refine zk ?_|refine zt1 ?_|refine za ?_)|refine za ?_)|(apply f_w;first|refine zv ?_|refine zc ?_)|refine zb fun C=>?_|refine zh ?_|refine zd ?_|refine zf ?_|refine zg ?_|(refine zn (by rfl) ?_ ?_<;>intro hC<;>(try cases hC)))
    refine⟨N-1,1,by omega,by omega,?_⟩
    rw [e,if_pos rfl,if_neg (fun h=>by rw [h] at h5;cases h5)]
    (refine zr2 _ _ rfl rfl ?_ ?_<;>(repeat' (first|exact TmOk.nil|exact RwOk.nil|refine TmOk.cons ?_ ?_|refine RwOk.cons ?_ ?_|rfl|(refine rnV_id' rfl ?_;exact byc)|(refine zv2 ?_;first|rfl|omega|(rw [zv1 (by omega) (by omega)];omega))|(refine zl1 rfl ?_;exact byc)|exact zz3 rfl rfl|(refine zw2 (by rfl) (by rfl) ?_ ?_<;>exact byc)|(refine rw_rn' rfl rfl ?_;simp;done))))
  ·refine zn (by rfl) (fun _=>?_) fun hC=>by exfalso;simp only [decide_eq_false_iff_not] at hC;omega
   repeat' (first|(apply f_wo;first|(apply f_mv;first|refine zj1 (v:=.c _) ?_|refine za ?_)|(apply f_as;first|refine zi1 (v:=.c _) ?_|refine za ?_)|(apply f_fa;first|refine n_fa ?_|refine zm1 ?_)|(apply f_ld;first|refine zq1 ?_|refine zx ?_|refine zw ?_|refine zo1 ?_|refine n_ld ?_)|(apply f_bi;first|refine zb1 ?_|refine za1 ?_|refine zc1 ?_|refine za ?_)|(apply f_ia;first|refine n_ix ?_|refine zz1 ?_|refine za ?_)|(apply ze2;first|refine zy ?_|refine za ?_)|(apply zw1;first|refine zl ?_|refine za ?_)|(apply zx3;first|refine zr1 ?_|refine za ?_)|(apply zu1;first|refine zk ?_|refine zt1 ?_|refine za ?_)|refine za ?_)|(apply f_w;first|refine zv ?_|refine zc ?_)|refine zb fun C=>?_|refine zh ?_|refine zd ?_|refine zf ?_|refine zg ?_)
   refine zn (by rfl) (fun h5=>?_) fun h5=>?_
   ·repeat' (first|(apply f_wo;first|(apply f_mv;first|refine zj1 (v:=.c _) ?_|refine za ?_)|(apply f_as;first|refine zi1 (v:=.c _) ?_|refine za ?_)|(apply f_fa;first|refine n_fa ?_|refine zm1 ?_)|(apply f_ld;first|refine zq1 ?_|refine zx ?_|refine zw ?_|refine zo1 ?_|refine n_ld ?_)|(apply f_ca;first|refine zz2 hc ?_|refine zx2 hc ?_)|(apply f_bi;first|refine zb1 ?_|refine za1 ?_|refine zc1 ?_|refine za ?_)|(apply f_ia;first|refine n_ix ?_|refine zz1 ?_|refine za ?_)|(apply ze2;first|refine zy ?_|refine za ?_)|(apply zw1;first|refine zl ?_|refine za ?_)|(apply zx3;first|refine zr1 ?_|refine za ?_)|(apply zu1;first|refine zk ?_|refine zt1 ?_|refine za ?_)|refine za ?_)|(apply f_w;first|refine zv ?_|refine zc ?_)|refine zb fun C=>?_|refine zh ?_|refine zd ?_|refine zf ?_|refine zg ?_|(refine zn (by rfl) ?_ ?_<;>intro hC<;>(try cases hC)))
    refine⟨N-1,k+1,by omega,by omega,?_⟩
    rw [e,if_neg hk0,if_pos (eq_of_beq h5)]
    simp only [zw7]
    (refine zr2 _ _ rfl rfl ?_ ?_<;>(repeat' (first|exact TmOk.nil|exact RwOk.nil|refine TmOk.cons ?_ ?_|refine RwOk.cons ?_ ?_|rfl|(refine rnV_id' rfl ?_;exact byc)|(refine zv2 ?_;first|rfl|omega|(rw [zv1 (by omega) (by omega)];omega))|(refine zl1 rfl ?_;exact byc)|exact zz3 rfl rfl|(refine zw2 (by rfl) (by rfl) ?_ ?_<;>exact byc)|(refine rw_rn' rfl rfl ?_;simp;done))))
   ·repeat' (first|(apply f_wo;first|(apply f_mv;first|refine zj1 (v:=.c _) ?_|refine za ?_)|(apply f_as;first|refine zi1 (v:=.c _) ?_|refine za ?_)|(apply f_fa;first|refine n_fa ?_|refine zm1 ?_)|(apply f_ld;first|refine zq1 ?_|refine zx ?_|refine zw ?_|refine zo1 ?_|refine n_ld ?_)|(apply f_ca;first|refine zz2 hc ?_|refine zx2 hc ?_)|(apply f_bi;first|refine zb1 ?_|refine za1 ?_|refine zc1 ?_|refine za ?_)|(apply f_ia;first|refine n_ix ?_|refine zz1 ?_|refine za ?_)|(apply ze2;first|refine zy ?_|refine za ?_)|(apply zw1;first|refine zl ?_|refine za ?_)|(apply zx3;first|refine zr1 ?_|refine za ?_)|(apply zu1;first|refine zk ?_|refine zt1 ?_|refine za ?_)|refine za ?_)|(apply f_w;first|refine zv ?_|refine zc ?_)|refine zb fun C=>?_|refine zh ?_|refine zd ?_|refine zf ?_|refine zg ?_|(refine zn (by rfl) ?_ ?_<;>intro hC<;>(try cases hC)))
    refine⟨N-1,k+1,by omega,by omega,?_⟩
    rw [e,if_neg hk0,if_neg (fun h=>by rw [h] at h5;cases h5)]
    (refine zr2 _ _ rfl rfl ?_ ?_<;>(repeat' (first|exact TmOk.nil|exact RwOk.nil|refine TmOk.cons ?_ ?_|refine RwOk.cons ?_ ?_|rfl|(refine rnV_id' rfl ?_;exact byc)|(refine zv2 ?_;first|rfl|omega|(rw [zv1 (by omega) (by omega)];omega))|(refine zl1 rfl ?_;exact byc)|exact zz3 rfl rfl|(refine zw2 (by rfl) (by rfl) ?_ ?_<;>exact byc)|(refine rw_rn' rfl rfl ?_;simp;done))))
 ·have hk':¬k<l.length:=by simpa using hk1
  repeat' (first|(apply f_wo;first|(apply f_mv;first|refine zj1 (v:=.c _) ?_|refine za ?_)|(apply f_as;first|refine zi1 (v:=.c _) ?_|refine za ?_)|(apply f_fa;first|refine n_fa ?_|refine zm1 ?_)|(apply f_ld;first|refine zq1 ?_|refine zx ?_|refine zw ?_|refine zo1 ?_|refine n_ld ?_)|(apply f_bi;first|refine zb1 ?_|refine za1 ?_|refine zc1 ?_|refine za ?_)|(apply f_ia;first|refine n_ix ?_|refine zz1 ?_|refine za ?_)|(apply ze2;first|refine zy ?_|refine za ?_)|(apply zw1;first|refine zl ?_|refine za ?_)|(apply zx3;first|refine zr1 ?_|refine za ?_)|(apply zu1;first|refine zk ?_|refine zt1 ?_|refine za ?_)|refine za ?_)|(apply f_w;first|refine zv ?_|refine zc ?_)|refine zb fun C=>?_|refine zh ?_|refine zd ?_|refine zf ?_|refine zg ?_|(refine zn (by rfl) ?_ ?_<;>intro hC<;>(try cases hC)))
  refine zu ?_
  refine ret0 (x:=.c (.v (.string (joinT g b (l.take k))))) rfl zf3 ⟨?_,rfl⟩
  rw [List.take_of_length_le (by omega)]
theorem l3One_c {g:E→ByteArray}{x:E}(hx:x.Ty Tryz.prog 208)(hsz:(g x).size≤960)(hg:Ctr Tryz.prog 205 [.ag (acE x)] [] (.c (.v (.string (g x)))) []) :
 Ctr Tryz.prog 214 [.ag (acE x)] [] (.c (.v (.string (oneT g x)))) []:=by
 have hkk:∀y0 y1 A c l',x=E.agg [.int .i64 y0,.str y1,.lst 3 208 A c l']→oneT g x=if y0=4∨y0=5 then ⟨#[40]⟩++g x++⟨#[41]⟩ else g x:=fun y0 y1 A c l' h=>by subst h;rfl
 obtain⟨y0,y1,y2A,y2c,y2l,rfl,gy0,gy1,gy2,-⟩:=zy1 hx
 rw [hkk _ _ _ _ _ rfl]
 clear hkk
 generalize g (E.agg [E.int IntKind.i64 y0,E.str y1,E.lst 3 208 y2A y2c y2l])=t at *
 refine zo2 Tryz.func214 rfl rfl ?_
 have s3:(ByteArray.mk #[40]++t).size=1+t.size:=by rw [ByteArray.size_append'];rfl
 repeat' (first|(apply f_wo;first|(apply f_gs;refine n_sk ?_)|(apply f_mv;first|(refine zb2 ?_ ?_<;>intro hG<;>(try cases hG))|refine zj1 (v:=.c _) ?_|refine za ?_)|(apply f_as;first|refine zi1 (v:=.c _) ?_|refine za ?_)|(apply f_fa;first|refine n_fa ?_|refine zm1 ?_)|(apply f_ld;first|refine zq1 ?_|refine zx ?_|refine zw ?_|refine zo1 ?_|refine n_ld ?_)|(apply f_ca;first|refine zz2 hg ?_|refine zx2 hg ?_)|(apply ze2;first|refine zy ?_|refine za ?_)|(apply zu1;first|refine zk ?_|refine zt1 ?_|refine za ?_)|(apply f_pk;first|refine za2 (v:=.c _) ?_|refine za ?_)|refine n_bo ?_|refine za ?_)|(apply f_w;first|refine zv ?_|refine zc ?_)|refine zb fun C=>?_|refine zh ?_|refine zd ?_|refine zf ?_|refine zg ?_|(refine zn (by rfl) ?_ ?_<;>intro hC<;>(try cases hC)))
 all_goals
  refine zu ?_
  refine ret0 rfl zf3 ⟨?_,rfl⟩
  clear hg
  first
   | (rw [if_pos (by simp only [beq_iff_eq] at *;omega)];done)
   | (rw [if_neg (by simp only [beq_eq_false_iff_ne,ne_eq] at *;omega)];done)
set_option maxHeartbeats 8000000 in
theorem l3Text_n (f:Nat):∀(e:E),e.Ty Tryz.prog 208→e.sz≤4194304→partsI f e≤60→Ctr Tryz.prog 205 [.ag (acE e)] [] (.c (.v (.string (textS f e)))) []:=by
 induction f with
 | zero=>intro e _ _ h;exact absurd h (by unfold partsI;omega)
 | succ f ih =>
  intro e he hsz hp
  obtain⟨hhd,hkid⟩:=zv16 hp
  have hts:=zi11 hp
  obtain⟨x0,x1,x2A,x2c,l,rfl,gx0,gx1,gx2,-⟩:=zy1 he
  simp only [E.sz,E.szL] at hsz
  have hkid:∀x∈l,partsI f x≤60:=hkid
  have hxs:∀x∈l,(textS f x).size≤960:=fun x hx=>zi11 (hkid x hx)
  have hcs:∀x∈l,Ctr Tryz.prog 205 [.ag (acE x)] [] (.c (.v (.string (textS f x)))) []:=fun x hx=>ih x (gx2.1 x hx) (by have:=E.szL_mem hx;omega) (hkid x hx)
  have hh2:=hhd
  rw [zz14] at hh2
  simp only [Bool.and_eq_true,Bool.not_eq_true'] at hh2
  obtain⟨hh,hno⟩:=hh2
  clear hhd ih hp
  refine zo2 Tryz.func205 rfl rfl ?_
  rcases zj5 hh with ⟨rfl,h1,h2,h3⟩|⟨rfl,h1,h3⟩|⟨rfl|rfl|rfl|rfl,h1,h3⟩|⟨rfl|rfl,h1,h2,h3⟩|⟨rfl|rfl|rfl,h1,y,h3,h4⟩
  case inl =>
   repeat' (first|(apply f_wo;first|(apply f_as;first|refine zi1 (v:=.c _) ?_|refine za ?_)|(apply f_fa;first|refine n_fa ?_|refine zm1 ?_)|(apply f_ld;first|refine zq1 ?_|refine zx ?_|refine zw ?_|refine zo1 ?_|refine n_ld ?_)|(apply f_ia;first|refine n_ix ?_|refine zz1 ?_|refine za ?_)|(apply ze2;first|refine zy ?_|refine za ?_)|(apply zu1;first|refine zk ?_|refine zt1 ?_|refine za ?_)|refine n_bo ?_|refine za ?_)|(apply f_w;first|refine zv ?_|refine zc ?_)|refine zb fun C=>?_|refine zh ?_|refine zd ?_|refine zf ?_|refine zg ?_|(refine zn (by rfl) ?_ ?_<;>intro hC<;>(try cases hC)))
   refine zu ?_;refine ret0 rfl zf3 ⟨?_,rfl⟩
   rfl
  case inr.inl =>
   repeat' (first|(apply f_wo;first|(apply f_as;first|refine zi1 (v:=.c _) ?_|refine za ?_)|(apply f_fa;first|refine n_fa ?_|refine zm1 ?_)|(apply f_ld;first|refine zq1 ?_|refine zx ?_|refine zw ?_|refine zo1 ?_|refine n_ld ?_)|(apply f_ia;first|refine n_ix ?_|refine zz1 ?_|refine za ?_)|(apply ze2;first|refine zy ?_|refine za ?_)|(apply zu1;first|refine zk ?_|refine zt1 ?_|refine za ?_)|refine n_bo ?_|refine za ?_)|(apply f_w;first|refine zv ?_|refine zc ?_)|refine zb fun C=>?_|refine zh ?_|refine zd ?_|refine zf ?_|refine zg ?_|(refine zn (by rfl) ?_ ?_<;>intro hC<;>(try cases hC)))
   refine zu ?_;refine ret0 rfl zf3 ⟨?_,rfl⟩
   rfl
  case inr.inr.inl.inl =>
   repeat' (first|(apply f_wo;first|(apply f_as;first|refine zi1 (v:=.c _) ?_|refine za ?_)|(apply f_fa;first|refine n_fa ?_|refine zm1 ?_)|(apply f_ld;first|refine zq1 ?_|refine zx ?_|refine zw ?_|refine zo1 ?_|refine n_ld ?_)|(apply f_ia;first|refine n_ix ?_|refine zz1 ?_|refine za ?_)|(apply ze2;first|refine zy ?_|refine za ?_)|(apply zu1;first|refine zk ?_|refine zt1 ?_|refine za ?_)|refine n_bo ?_|refine za ?_)|(apply f_w;first|refine zv ?_|refine zc ?_)|refine zb fun C=>?_|refine zh ?_|refine zd ?_|refine zf ?_|refine zg ?_|(refine zn (by rfl) ?_ ?_<;>intro hC<;>(try cases hC)))
   refine zu ?_;refine ret0 rfl zf3 ⟨?_,rfl⟩
   rfl
  case inr.inr.inl.inr.inl =>
   repeat' (first|(apply f_wo;first|(apply f_as;first|refine zi1 (v:=.c _) ?_|refine za ?_)|(apply f_fa;first|refine n_fa ?_|refine zm1 ?_)|(apply f_ld;first|refine zq1 ?_|refine zx ?_|refine zw ?_|refine zo1 ?_|refine n_ld ?_)|(apply f_ia;first|refine n_ix ?_|refine zz1 ?_|refine za ?_)|(apply ze2;first|refine zy ?_|refine za ?_)|(apply zu1;first|refine zk ?_|refine zt1 ?_|refine za ?_)|refine n_bo ?_|refine za ?_)|(apply f_w;first|refine zv ?_|refine zc ?_)|refine zb fun C=>?_|refine zh ?_|refine zd ?_|refine zf ?_|refine zg ?_|(refine zn (by rfl) ?_ ?_<;>intro hC<;>(try cases hC)))
   refine zu ?_;refine ret0 rfl zf3 ⟨?_,rfl⟩
   rfl
  case inr.inr.inl.inr.inr.inl =>
   repeat' (first|(apply f_wo;first|(apply f_as;first|refine zi1 (v:=.c _) ?_|refine za ?_)|(apply f_fa;first|refine n_fa ?_|refine zm1 ?_)|(apply f_ld;first|refine zq1 ?_|refine zx ?_|refine zw ?_|refine zo1 ?_|refine n_ld ?_)|(apply f_ia;first|refine n_ix ?_|refine zz1 ?_|refine za ?_)|(apply ze2;first|refine zy ?_|refine za ?_)|(apply zu1;first|refine zk ?_|refine zt1 ?_|refine za ?_)|refine n_bo ?_|refine za ?_)|(apply f_w;first|refine zv ?_|refine zc ?_)|refine zb fun C=>?_|refine zh ?_|refine zd ?_|refine zf ?_|refine zg ?_|(refine zn (by rfl) ?_ ?_<;>intro hC<;>(try cases hC)))
   refine zu ?_;refine ret0 rfl zf3 ⟨?_,rfl⟩
   rfl
  case inr.inr.inl.inr.inr.inr =>
   repeat' (first|(apply f_wo;first|(apply f_as;first|refine zi1 (v:=.c _) ?_|refine za ?_)|(apply f_fa;first|refine n_fa ?_|refine zm1 ?_)|(apply f_ld;first|refine zq1 ?_|refine zx ?_|refine zw ?_|refine zo1 ?_|refine n_ld ?_)|(apply f_ia;first|refine n_ix ?_|refine zz1 ?_|refine za ?_)|(apply ze2;first|refine zy ?_|refine za ?_)|(apply zu1;first|refine zk ?_|refine zt1 ?_|refine za ?_)|refine n_bo ?_|refine za ?_)|(apply f_w;first|refine zv ?_|refine zc ?_)|refine zb fun C=>?_|refine zh ?_|refine zd ?_|refine zf ?_|refine zg ?_|(refine zn (by rfl) ?_ ?_<;>intro hC<;>(try cases hC)))
   refine zu ?_;refine ret0 rfl zf3 ⟨?_,rfl⟩
   rfl
  case inr.inr.inr.inl.inl =>
   have c2:=zf20 (b:=⟨#[]⟩) (by decide) gx2.1 gx2.2 h3 hxs hcs
   repeat' (first|(apply f_wo;first|(apply f_as;first|refine zi1 (v:=.c _) ?_|refine za ?_)|(apply f_fa;first|refine n_fa ?_|refine zm1 ?_)|(apply f_ld;first|refine zq1 ?_|refine zx ?_|refine zw ?_|refine zo1 ?_|refine n_ld ?_)|(apply f_ca;first|refine zz2 c2 ?_|refine zx2 c2 ?_)|(apply f_ia;first|refine n_ix ?_|refine zz1 ?_|refine za ?_)|(apply ze2;first|refine zy ?_|refine za ?_)|(apply zu1;first|refine zk ?_|refine zt1 ?_|refine za ?_)|refine n_bo ?_|refine za ?_)|(apply f_w;first|refine zv ?_|refine zc ?_)|refine zb fun C=>?_|refine zh ?_|refine zd ?_|refine zf ?_|refine zg ?_|(refine zn (by rfl) ?_ ?_<;>intro hC<;>(try cases hC)))
   refine zu ?_;refine ret0 rfl zf3 ⟨?_,rfl⟩
   rfl
  case inr.inr.inr.inl.inr =>
   have c2:=zf20 (b:=⟨#[124]⟩) (by decide) gx2.1 gx2.2 h3 hxs hcs
   repeat' (first|(apply f_wo;first|(apply f_as;first|refine zi1 (v:=.c _) ?_|refine za ?_)|(apply f_fa;first|refine n_fa ?_|refine zm1 ?_)|(apply f_ld;first|refine zq1 ?_|refine zx ?_|refine zw ?_|refine zo1 ?_|refine n_ld ?_)|(apply f_ca;first|refine zz2 c2 ?_|refine zx2 c2 ?_)|(apply f_ia;first|refine n_ix ?_|refine zz1 ?_|refine za ?_)|(apply ze2;first|refine zy ?_|refine za ?_)|(apply zu1;first|refine zk ?_|refine zt1 ?_|refine za ?_)|refine n_bo ?_|refine za ?_)|(apply f_w;first|refine zv ?_|refine zc ?_)|refine zb fun C=>?_|refine zh ?_|refine zd ?_|refine zf ?_|refine zg ?_|(refine zn (by rfl) ?_ ?_<;>intro hC<;>(try cases hC)))
   refine zu ?_;refine ret0 rfl zf3 ⟨?_,rfl⟩
   rfl
  all_goals
   subst h3
   have hym:y∈[y]:=List.mem_singleton.2 rfl
   have hyt:=gx2.1 y hym
   have c2:=l3One_c hyt (hxs y hym) (hcs y hym)
   have hgk:=gx2.2
   have hz2:=zo9 (hxs y hym)
   have hy0:[y][0]? = some y:=rfl
   obtain⟨y0,y1,y2A,y2c,y2l,rfl,gy0,gy1,gy2,-⟩:=zy1 hyt
   repeat' (first|(apply f_wo;first|(apply f_as;first|refine zi1 (v:=.c _) ?_|refine za ?_)|(apply f_fa;first|refine n_fa ?_|refine zm1 ?_)|(apply f_ld;first|refine zq1 ?_|refine zx ?_|refine zw ?_|refine zo1 ?_|refine n_ld ?_)|(apply f_ca;first|refine zz2 c2 ?_|refine zx2 c2 ?_)|(apply f_ia;first|refine n_ix ?_|refine zz1 ?_|refine za ?_)|(apply ze2;first|refine zy ?_|refine za ?_)|(apply zu1;first|refine zk ?_|refine zt1 ?_|refine za ?_)|refine n_bo ?_|refine za ?_)|(apply f_w;first|refine zv ?_|refine zc ?_)|refine zb fun C=>?_|refine zh ?_|refine zd ?_|refine zf ?_|refine zg ?_|(refine zn (by rfl) ?_ ?_<;>intro hC<;>(try cases hC)))
   refine zu ?_;refine ret0 rfl zf3 ⟨?_,rfl⟩
   rfl
theorem zd15 {e:E}(he:e.Ty Tryz.prog 208)(hsz:e.sz≤4194304):Ctr Tryz.prog 186 [.ag (acE e)] [] (.c (.v (.string (rexT e)))) []:=by
 have c1:=zl18 he hsz
 rw [←zb21] at c1
 cases hr:rexOkI e with
 | false =>
  have hres:rexT e=ByteArray.empty:=by unfold rexT;rw [hr];rfl
  rw [hres]
  rw [hr] at c1
  clear hres hr
  obtain⟨x0,x1,x2A,x2c,l,rfl,gx0,gx1,gx2,-⟩:=zy1 he
  refine zo2 Tryz.func186 rfl rfl ?_
  repeat' (first|(apply f_wo;first|(apply f_as;first|refine zi1 (v:=.c _) ?_|refine za ?_)|(apply f_ld;first|refine zw ?_|refine zo1 ?_|refine n_ld ?_)|(apply f_ca;first|refine zz2 c1 ?_|refine zx2 c1 ?_)|(apply f_no;first|refine zh2 ?_|refine za ?_)|refine n_bo ?_|refine za ?_)|(apply f_w;first|refine zv ?_|refine zc ?_)|refine zb fun C=>?_|refine zh ?_|refine zd ?_|refine zf ?_|refine zg ?_|refine zt rfl ?_|refine zp rfl ?_)
  refine zu ?_;refine ret0 rfl zf3 ⟨?_,rfl⟩
  rfl
 | true =>
  have hres:rexT e=textS 6 e:=by unfold rexT;rw [hr];rfl
  rw [hres]
  have hp:partsI 6 e≤60:=by unfold rexOkI at hr;simpa using hr
  have c2:=l3Text_n 6 e he hsz hp
  rw [hr] at c1
  clear hres hr hp
  obtain⟨x0,x1,x2A,x2c,l,rfl,gx0,gx1,gx2,-⟩:=zy1 he
  refine zo2 Tryz.func186 rfl rfl ?_
  repeat' (first|(apply f_wo;first|(apply f_as;first|refine zi1 (v:=.c _) ?_|refine za ?_)|(apply f_ld;first|refine zw ?_|refine zo1 ?_|refine n_ld ?_)|(apply f_ca;first|refine zz2 c1 ?_|refine zx2 c1 ?_|refine zz2 c2 ?_|refine zx2 c2 ?_)|(apply f_no;first|refine zh2 ?_|refine za ?_)|refine n_bo ?_|refine za ?_)|(apply f_w;first|refine zv ?_|refine zc ?_)|refine zb fun C=>?_|refine zh ?_|refine zd ?_|refine zf ?_|refine zg ?_|refine zt rfl ?_|refine zp rfl ?_)
  refine zu ?_;refine ret0 rfl zf3 ⟨?_,rfl⟩
  rfl
end Go.Proofs.YtghljnfbbaklnaaGreat
