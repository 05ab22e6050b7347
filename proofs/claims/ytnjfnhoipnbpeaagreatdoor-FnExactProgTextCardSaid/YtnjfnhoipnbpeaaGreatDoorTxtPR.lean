/- The reference's RexText: by the abstract machine. -/
import Derived.Test.YtnjfnhoipnbpeaaGreatDoorTxtPQ
namespace Go.Proofs.YtnjfnhoipnbpeaaGreatDoor
open Go.RowKit
set_option maxRecDepth 100000
set_option maxHeartbeats 4000000 in
theorem zc20 {g:E→ByteArray}{b:ByteArray}(hb:b.size≤1){l:List E}(hl:∀x∈l,x.Ty Tryz.prog 140)(hk3:∀x∈l,x.enc.length=3)(hlen:l.length≤8)(hsz:∀x∈l,(g x).size≤960)
 (hg:∀x∈l,Ctr Tryz.prog 140 [.ag (acE x)] [] (.c (.v (.string (g x)))) []) :
 Ctr Tryz.prog 148 [.c (.ro l.length 3 (acL l)),.c (.v (.string b)),.c (.v (.int .i64 5))] [] (.c (.v (.string (joinT g b l)))) []:=by
 refine ze1 Tryz.func148 rfl rfl ?_
 repeat' (first|(apply f_wo;(apply f_as;refine zq (v:=.c _) ?_))|(apply f_w;first|refine zj ?_|refine zb ?_)|refine za fun C=>?_|refine zd ?_|refine ze ?_)
 refine zv1 (fun k:Nat=>⟨tmsF [(0,.c (.ro l.length 3 (acL l))),(1,.c (.v (.string b))),(2,.c (.v (.int .i64 5))),(7,.c (.v (.string (joinT g b (l.take k))))),(8,.c (.v (.int .i64 k)))],hpsF [],0,[],44⟩)
  (fun N k=>k+N=l.length) l.length 0 (by omega) ?_ ?_
 ·(refine zl1 _ _ rfl rfl ?_ ?_<;>(repeat' (first|exact TmOk.nil|exact RwOk.nil|refine TmOk.cons ?_ ?_|refine RwOk.cons ?_ ?_|rfl|(refine rnV_id' rfl ?_;exact byc)|(refine zp1 ?_;first|rfl|omega|(rw [zw (by omega) (by omega)];omega))|(refine zb1 rfl ?_;exact byc)|exact zc2 rfl rfl|(refine zq1 (by rfl) (by rfl) ?_ ?_<;>exact byc)|(refine rw_rn' rfl rfl ?_;simp;done))))
 rintro N k hN
 repeat' (first|(apply f_wo;first|(apply f_mv;refine zv (v:=.c _) ?_)|(apply f_bi;refine zy1 ?_)|(apply zg3;refine zs1 ?_))|(apply f_w;first|refine zj ?_|refine zb ?_)|refine za fun C=>?_|refine zd ?_)
 refine zi (by rfl) (fun hk1=>?_) fun hk1=>?_
 ·have hk':k<l.length:=by simpa using hk1
  obtain⟨x,hx⟩:∃x,l[k]? = some x:=⟨_,List.getElem?_eq_getElem hk'⟩
  have hxm:=List.mem_of_getElem? hx
  have hxt:=hl x hxm
  have hc:=hg x hxm
  have hz1:=zq6 (b:=b) hsz k (by omega)
  have hz2:=hsz x hxm
  have hz3:k*(960+2+b.size)≤8*963:=Nat.mul_le_mul (by omega) (by omega)
  have e:=zp6 g b hx
  have o1:(ByteArray.mk #[40]).size=1:=rfl
  have o2:(ByteArray.mk #[41]).size=1:=rfl
  have hgk:=hk3
  have hkk:∀y0 y1 A c l',x=E.agg [.int .i64 y0,.str y1,.lst 3 140 A c l']→brk g x=if y0=5 then ⟨#[40]⟩++g x++⟨#[41]⟩ else g x:=fun y0 y1 A c l' h=>by subst h;rfl
  obtain⟨y0,y1,y2A,y2c,y2l,rfl,gy0,gy1,gy2,-⟩:=zu1 hxt
  have hkk:=hkk _ _ _ _ _ rfl
  rw [hkk] at e
  generalize hgx:g (E.agg [E.int IntKind.i64 y0,E.str y1,E.lst 3 140 y2A y2c y2l])=t at hc hz2 e
  generalize hJ:joinT g b (l.take k)=J at hz1 e ⊢
  have s1:(J++b).size=J.size+b.size:=ByteArray.size_append' ..
  have s2:(J++b++⟨#[40]⟩).size=J.size+b.size+1:=by rw [ByteArray.size_append',s1];rfl
  have s3:(J++⟨#[40]⟩).size=J.size+1:=by rw [ByteArray.size_append'];rfl
  have s4:(J++b++⟨#[40]⟩++t).size=J.size+b.size+1+t.size:=by rw [ByteArray.size_append',s2]
  have s5:(J++⟨#[40]⟩++t).size=J.size+1+t.size:=by rw [ByteArray.size_append',s3]
  repeat' (first|(apply f_wo;first|(apply f_mv;refine zv (v:=.c _) ?_)|(apply zn3;refine za2 ?_))|(apply f_w;first|refine zj ?_|refine zb ?_)|refine za fun C=>?_|refine zd ?_|refine ze ?_|refine zg ?_)
  by_cases hk0:k=0
  ·subst hk0
   refine zf1 rfl ?_
   repeat' (first|(apply f_wo;first|(apply f_mv;refine zv (v:=.c _) ?_)|(apply f_fa;refine zc7 ?_)|(apply f_ld;refine zz3 ?_)|(apply f_ia;refine n_ix ?_)|(apply zr1;refine zm ?_))|(apply f_w;first|refine zj ?_|refine zb ?_)|refine za fun C=>?_|refine zd ?_|refine zg ?_)
   obtain rfl:J=ByteArray.empty:=hJ.symm
   refine zi (by rfl) (fun h5=>?_) fun h5=>?_
   ·repeat' (first|(apply f_wo;first|(apply f_mv;refine zv (v:=.c _) ?_)|(apply f_as;refine zq (v:=.c _) ?_)|(apply f_ld;refine zq2 ?_)|(apply f_ca;refine zk1 hc ?_)|(apply f_ia;refine n_ix ?_)|(apply zd2;first|refine zj1 ?_|refine zl3 ?_))|(apply f_w;first|refine zj ?_|refine zb ?_)|refine za fun C=>?_)
    refine⟨N-1,1,by omega,by omega,?_⟩
    rw [e,if_pos rfl,if_pos (eq_of_beq h5)]
    simp only [zr8,zk6]
    (refine zl1 _ _ rfl rfl ?_ ?_<;>(repeat' (first|exact TmOk.nil|exact RwOk.nil|refine TmOk.cons ?_ ?_|refine RwOk.cons ?_ ?_|rfl|(refine rnV_id' rfl ?_;exact byc)|(refine zp1 ?_;first|rfl|omega|(rw [zw (by omega) (by omega)];omega))|(refine zb1 rfl ?_;exact byc)|exact zc2 rfl rfl|(refine zq1 (by rfl) (by rfl) ?_ ?_<;>exact byc)|(refine rw_rn' rfl rfl ?_;simp;done))))
   ·repeat' (first|(apply f_wo;first|(apply f_mv;refine zv (v:=.c _) ?_)|(apply f_as;refine zq (v:=.c _) ?_)|(apply f_ld;refine zq2 ?_)|(apply f_ca;refine zk1 hc ?_)|(apply f_ia;refine n_ix ?_)|(apply zd2;first|refine zj1 ?_|refine zl3 ?_))|(apply f_w;first|refine zj ?_|refine zb ?_)|refine za fun C=>?_)
    refine⟨N-1,1,by omega,by omega,?_⟩
    rw [e,if_pos rfl,if_neg (fun h=>by rw [h] at h5;cases h5)]
    (refine zl1 _ _ rfl rfl ?_ ?_<;>(repeat' (first|exact TmOk.nil|exact RwOk.nil|refine TmOk.cons ?_ ?_|refine RwOk.cons ?_ ?_|rfl|(refine rnV_id' rfl ?_;exact byc)|(refine zp1 ?_;first|rfl|omega|(rw [zw (by omega) (by omega)];omega))|(refine zb1 rfl ?_;exact byc)|exact zc2 rfl rfl|(refine zq1 (by rfl) (by rfl) ?_ ?_<;>exact byc)|(refine rw_rn' rfl rfl ?_;simp;done))))
  ·refine zi (by rfl) (fun _=>?_) fun hC=>by exfalso;simp only [decide_eq_false_iff_not] at hC;omega
   repeat' (first|(apply f_wo;first|(apply f_mv;refine zv (v:=.c _) ?_)|(apply f_as;refine zq (v:=.c _) ?_)|(apply f_fa;refine zc7 ?_)|(apply f_ld;refine zz3 ?_)|(apply f_ia;refine n_ix ?_)|(apply zr1;refine zm ?_)|(apply zd2;refine zl3 ?_))|(apply f_w;first|refine zj ?_|refine zb ?_)|refine za fun C=>?_|refine zd ?_)
   refine zi (by rfl) (fun h5=>?_) fun h5=>?_
   ·repeat' (first|(apply f_wo;first|(apply f_mv;refine zv (v:=.c _) ?_)|(apply f_as;refine zq (v:=.c _) ?_)|(apply f_ld;refine zq2 ?_)|(apply f_ca;refine zk1 hc ?_)|(apply f_ia;refine n_ix ?_)|(apply zd2;first|refine zj1 ?_|refine zl3 ?_))|(apply f_w;first|refine zj ?_|refine zb ?_)|refine za fun C=>?_)
    refine⟨N-1,k+1,by omega,by omega,?_⟩
    rw [e,if_neg hk0,if_pos (eq_of_beq h5)]
    simp only [zk6]
    (refine zl1 _ _ rfl rfl ?_ ?_<;>(repeat' (first|exact TmOk.nil|exact RwOk.nil|refine TmOk.cons ?_ ?_|refine RwOk.cons ?_ ?_|rfl|(refine rnV_id' rfl ?_;exact byc)|(refine zp1 ?_;first|rfl|omega|(rw [zw (by omega) (by omega)];omega))|(refine zb1 rfl ?_;exact byc)|exact zc2 rfl rfl|(refine zq1 (by rfl) (by rfl) ?_ ?_<;>exact byc)|(refine rw_rn' rfl rfl ?_;simp;done))))
   ·repeat' (first|(apply f_wo;first|(apply f_mv;refine zv (v:=.c _) ?_)|(apply f_as;refine zq (v:=.c _) ?_)|(apply f_ld;refine zq2 ?_)|(apply f_ca;refine zk1 hc ?_)|(apply f_ia;refine n_ix ?_)|(apply zd2;first|refine zj1 ?_|refine zl3 ?_))|(apply f_w;first|refine zj ?_|refine zb ?_)|refine za fun C=>?_)
    refine⟨N-1,k+1,by omega,by omega,?_⟩
    rw [e,if_neg hk0,if_neg (fun h=>by rw [h] at h5;cases h5)]
    (refine zl1 _ _ rfl rfl ?_ ?_<;>(repeat' (first|exact TmOk.nil|exact RwOk.nil|refine TmOk.cons ?_ ?_|refine RwOk.cons ?_ ?_|rfl|(refine rnV_id' rfl ?_;exact byc)|(refine zp1 ?_;first|rfl|omega|(rw [zw (by omega) (by omega)];omega))|(refine zb1 rfl ?_;exact byc)|exact zc2 rfl rfl|(refine zq1 (by rfl) (by rfl) ?_ ?_<;>exact byc)|(refine rw_rn' rfl rfl ?_;simp;done))))
 ·have hk':¬k<l.length:=by simpa using hk1
  repeat' (first|(apply f_wo;first|(apply f_mv;refine zv (v:=.c _) ?_)|(apply f_as;refine zq (v:=.c _) ?_))|(apply f_w;first|refine zj ?_|refine zb ?_)|refine za fun C=>?_|refine zd ?_|refine zu ?_)
  refine zh ?_
  refine ret0 (x:=.c (.v (.string (joinT g b (l.take k))))) rfl zg1 ⟨?_,rfl⟩
  rw [List.take_of_length_le (by omega)]
theorem l3One_c {g:E→ByteArray}{x:E}(hx:x.Ty Tryz.prog 140)(hsz:(g x).size≤960)(hg:Ctr Tryz.prog 140 [.ag (acE x)] [] (.c (.v (.string (g x)))) []) :
 Ctr Tryz.prog 149 [.ag (acE x)] [] (.c (.v (.string (oneT g x)))) []:=by
 have hkk:∀y0 y1 A c l',x=E.agg [.int .i64 y0,.str y1,.lst 3 140 A c l']→oneT g x=if y0=4∨y0=5 then ⟨#[40]⟩++g x++⟨#[41]⟩ else g x:=fun y0 y1 A c l' h=>by subst h;rfl
 obtain⟨y0,y1,y2A,y2c,y2l,rfl,gy0,gy1,gy2,-⟩:=zu1 hx
 rw [hkk _ _ _ _ _ rfl]
 clear hkk
 generalize g (E.agg [E.int IntKind.i64 y0,E.str y1,E.lst 3 140 y2A y2c y2l])=t at *
 refine ze1 Tryz.func149 rfl rfl ?_
 have s3:(ByteArray.mk #[40]++t).size=1+t.size:=by rw [ByteArray.size_append'];rfl
 repeat' (first|(apply f_wo;first|(apply f_gs;refine n_sk ?_)|(apply f_mv;(refine zx1 ?_ ?_<;>intro hG<;>(try cases hG)))|(apply f_as;refine zq (v:=.c _) ?_)|(apply f_fa;refine n_fa ?_)|(apply f_ld;first|refine zn1 ?_|refine zs2 ?_)|(apply f_ca;refine zk1 hg ?_)|(apply zr1;refine zm ?_)|(apply zd2;refine zl3 ?_)|(apply f_pk;refine zw1 (v:=.c _) ?_)|refine n_bo ?_)|(apply f_w;first|refine zj ?_|refine zb ?_)|refine za fun C=>?_|refine zd ?_|refine zg ?_|(refine zi (by rfl) ?_ ?_<;>intro hC<;>(try cases hC)))
 all_goals
  refine zh ?_
  refine ret0 rfl zg1 ⟨?_,rfl⟩
  clear hg
  first
   | (rw [if_pos (by simp only [beq_iff_eq] at *;omega)];done)
   | (rw [if_neg (by simp only [beq_eq_false_iff_ne,ne_eq] at *;omega)];done)
set_option maxHeartbeats 8000000 in
theorem l3Text_n (f:Nat):∀(e:E),e.Ty Tryz.prog 140→e.sz≤4194304→partsI f e≤60→Ctr Tryz.prog 140 [.ag (acE e)] [] (.c (.v (.string (textS f e)))) []:=by
 induction f with
 | zero=>intro e _ _ h;exact absurd h (by unfold partsI;omega)
 | succ f ih =>
  intro e he hsz hp
  obtain⟨hhd,hkid⟩:=zt15 hp
  have hts:=zy9 hp
  obtain⟨x0,x1,x2A,x2c,l,rfl,gx0,gx1,gx2,-⟩:=zu1 he
  simp only [E.sz,E.szL] at hsz
  have hkid:∀x∈l,partsI f x≤60:=hkid
  have hxs:∀x∈l,(textS f x).size≤960:=fun x hx=>zy9 (hkid x hx)
  have hcs:∀x∈l,Ctr Tryz.prog 140 [.ag (acE x)] [] (.c (.v (.string (textS f x)))) []:=fun x hx=>ih x (gx2.1 x hx) (by have:=E.szL_mem hx;omega) (hkid x hx)
  have hh2:=hhd
  rw [zb14] at hh2
  simp only [Bool.and_eq_true,Bool.not_eq_true'] at hh2
  obtain⟨hh,hno⟩:=hh2
  clear hhd ih hp
  refine ze1 Tryz.func140 rfl rfl ?_
  rcases zb4 hh with ⟨rfl,h1,h2,h3⟩|⟨rfl,h1,h3⟩|⟨rfl|rfl|rfl|rfl,h1,h3⟩|⟨rfl|rfl,h1,h2,h3⟩|⟨rfl|rfl|rfl,h1,y,h3,h4⟩
  case inl =>
   repeat' (first|(apply f_wo;first|(apply f_as;refine zq (v:=.c _) ?_)|(apply f_fa;refine n_fa ?_)|(apply f_ld;refine zn1 ?_)|(apply zr1;refine zm ?_)|refine n_bo ?_)|(apply f_w;first|refine zj ?_|refine zb ?_)|refine za fun C=>?_|refine zd ?_|refine ze ?_|(refine zi (by rfl) ?_ ?_<;>intro hC<;>(try cases hC)))
   refine zh ?_;refine ret0 rfl zg1 ⟨?_,rfl⟩
   rfl
  case inr.inl =>
   repeat' (first|(apply f_wo;first|(apply f_as;refine zq (v:=.c _) ?_)|(apply f_fa;refine n_fa ?_)|(apply f_ld;refine zn1 ?_)|(apply zr1;refine zm ?_)|(apply zd2;refine zl3 ?_)|refine n_bo ?_)|(apply f_w;first|refine zj ?_|refine zb ?_)|refine za fun C=>?_|refine zd ?_|refine ze ?_|(refine zi (by rfl) ?_ ?_<;>intro hC<;>(try cases hC)))
   refine zh ?_;refine ret0 rfl zg1 ⟨?_,rfl⟩
   rfl
  case inr.inr.inl.inl =>
   repeat' (first|(apply f_wo;first|(apply f_as;refine zq (v:=.c _) ?_)|(apply f_fa;refine n_fa ?_)|(apply f_ld;refine zn1 ?_)|(apply zr1;refine zm ?_)|refine n_bo ?_)|(apply f_w;first|refine zj ?_|refine zb ?_)|refine za fun C=>?_|refine zd ?_|refine ze ?_|(refine zi (by rfl) ?_ ?_<;>intro hC<;>(try cases hC)))
   refine zh ?_;refine ret0 rfl zg1 ⟨?_,rfl⟩
   rfl
  case inr.inr.inl.inr.inl =>
   repeat' (first|(apply f_wo;first|(apply f_as;refine zq (v:=.c _) ?_)|(apply f_fa;refine n_fa ?_)|(apply f_ld;refine zn1 ?_)|(apply zr1;refine zm ?_)|refine n_bo ?_)|(apply f_w;first|refine zj ?_|refine zb ?_)|refine za fun C=>?_|refine zd ?_|refine ze ?_|refine zg ?_|(refine zi (by rfl) ?_ ?_<;>intro hC<;>(try cases hC)))
   refine zh ?_;refine ret0 rfl zg1 ⟨?_,rfl⟩
   rfl
  case inr.inr.inl.inr.inr.inl =>
   repeat' (first|(apply f_wo;first|(apply f_as;refine zq (v:=.c _) ?_)|(apply f_fa;refine n_fa ?_)|(apply f_ld;refine zn1 ?_)|(apply zr1;refine zm ?_)|refine n_bo ?_)|(apply f_w;first|refine zj ?_|refine zb ?_)|refine za fun C=>?_|refine zd ?_|refine ze ?_|(refine zi (by rfl) ?_ ?_<;>intro hC<;>(try cases hC)))
   refine zh ?_;refine ret0 rfl zg1 ⟨?_,rfl⟩
   rfl
  case inr.inr.inl.inr.inr.inr =>
   repeat' (first|(apply f_wo;first|(apply f_as;refine zq (v:=.c _) ?_)|(apply f_fa;refine n_fa ?_)|(apply f_ld;refine zn1 ?_)|(apply zr1;refine zm ?_)|refine n_bo ?_)|(apply f_w;first|refine zj ?_|refine zb ?_)|refine za fun C=>?_|refine zd ?_|refine ze ?_|(refine zi (by rfl) ?_ ?_<;>intro hC<;>(try cases hC)))
   refine zh ?_;refine ret0 rfl zg1 ⟨?_,rfl⟩
   rfl
  case inr.inr.inr.inl.inl =>
   have c2:=zc20 (b:=⟨#[]⟩) (by decide) gx2.1 gx2.2 h3 hxs hcs
   repeat' (first|(apply f_wo;first|(apply f_as;refine zq (v:=.c _) ?_)|(apply f_fa;refine n_fa ?_)|(apply f_ld;refine zn1 ?_)|(apply f_ca;refine zk1 c2 ?_)|(apply zr1;refine zm ?_)|refine n_bo ?_)|(apply f_w;first|refine zj ?_|refine zb ?_)|refine za fun C=>?_|refine zd ?_|refine ze ?_|(refine zi (by rfl) ?_ ?_<;>intro hC<;>(try cases hC)))
   refine zh ?_;refine ret0 rfl zg1 ⟨?_,rfl⟩
   rfl
  case inr.inr.inr.inl.inr =>
   have c2:=zc20 (b:=⟨#[124]⟩) (by decide) gx2.1 gx2.2 h3 hxs hcs
   repeat' (first|(apply f_wo;first|(apply f_as;refine zq (v:=.c _) ?_)|(apply f_fa;refine n_fa ?_)|(apply f_ld;refine zn1 ?_)|(apply f_ca;refine zk1 c2 ?_)|(apply zr1;refine zm ?_)|refine n_bo ?_)|(apply f_w;first|refine zj ?_|refine zb ?_)|refine za fun C=>?_|refine zd ?_|refine ze ?_|(refine zi (by rfl) ?_ ?_<;>intro hC<;>(try cases hC)))
   refine zh ?_;refine ret0 rfl zg1 ⟨?_,rfl⟩
   rfl
  all_goals
   subst h3
   have hym:y∈[y]:=List.mem_singleton.2 rfl
   have hyt:=gx2.1 y hym
   have c2:=l3One_c hyt (hxs y hym) (hcs y hym)
   have hgk:=gx2.2
   have hz2:=za8 (hxs y hym)
   have hy0:[y][0]? = some y:=rfl
   obtain⟨y0,y1,y2A,y2c,y2l,rfl,gy0,gy1,gy2,-⟩:=zu1 hyt
   repeat' (first|(apply f_wo;first|(apply f_as;refine zq (v:=.c _) ?_)|(apply f_fa;refine n_fa ?_)|(apply f_ld;first|refine zn1 ?_|refine zq2 ?_)|(apply f_ca;refine zk1 c2 ?_)|(apply f_ia;refine n_ix ?_)|(apply zr1;refine zm ?_)|(apply zd2;refine zl3 ?_)|refine n_bo ?_)|(apply f_w;first|refine zj ?_|refine zb ?_)|refine za fun C=>?_|refine zd ?_|refine ze ?_|(refine zi (by rfl) ?_ ?_<;>intro hC<;>(try cases hC)))
   refine zh ?_;refine ret0 rfl zg1 ⟨?_,rfl⟩
   rfl
theorem ze14 {e:E}(he:e.Ty Tryz.prog 140)(hsz:e.sz≤4194304):Ctr Tryz.prog 131 [.ag (acE e)] [] (.c (.v (.string (rexT e)))) []:=by
 have c1:=zu17 he hsz
 rw [←zi21] at c1
 cases hr:rexOkI e with
 | false =>
  have hres:rexT e=ByteArray.empty:=by unfold rexT;rw [hr];rfl
  rw [hres]
  rw [hr] at c1
  clear hres hr
  obtain⟨x0,x1,x2A,x2c,l,rfl,gx0,gx1,gx2,-⟩:=zu1 he
  refine ze1 Tryz.func131 rfl rfl ?_
  repeat' (first|(apply f_wo;first|(apply f_as;refine zq (v:=.c _) ?_)|(apply f_ld;refine zs2 ?_)|(apply f_ca;refine zk1 c1 ?_)|(apply f_no;refine zu2 ?_)|refine n_bo ?_)|(apply f_w;first|refine zj ?_|refine zb ?_)|refine za fun C=>?_|refine zd ?_|refine za1 rfl ?_)
  refine zh ?_;refine ret0 rfl zg1 ⟨?_,rfl⟩
  rfl
 | true =>
  have hres:rexT e=textS 6 e:=by unfold rexT;rw [hr];rfl
  rw [hres]
  have hp:partsI 6 e≤60:=by unfold rexOkI at hr;simpa using hr
  have c2:=l3Text_n 6 e he hsz hp
  rw [hr] at c1
  clear hres hr hp
  obtain⟨x0,x1,x2A,x2c,l,rfl,gx0,gx1,gx2,-⟩:=zu1 he
  refine ze1 Tryz.func131 rfl rfl ?_
  repeat' (first|(apply f_wo;first|(apply f_as;refine zq (v:=.c _) ?_)|(apply f_ld;refine zs2 ?_)|(apply f_ca;first|refine zk1 c1 ?_|refine zk1 c2 ?_)|(apply f_no;refine zu2 ?_)|refine n_bo ?_)|(apply f_w;first|refine zj ?_|refine zb ?_)|refine za fun C=>?_|refine zd ?_|refine zg ?_|refine zf1 rfl ?_)
  refine zh ?_;refine ret0 rfl zg1 ⟨?_,rfl⟩
  rfl
def rdrS (s:ByteArray)(p:PS):List AC:=[.v (.string s),.v (.int .i64 (p.a:Int)),.v (.bool p.b),.v (.int .i64 (p.d:Int))]
def isP (s:ByteArray)(c:Nat)(p:PS):PS:=if isB s c p then p.go 1 else p
set_option maxHeartbeats 4000000 in
theorem ze11 {s:ByteArray}(hs:s.size≤1048576){c:Nat}(hc:c<256){p:PS}:Ctr Tryz.prog 138 [.c (.pt 0 0),.c (.v (.int .u8 (c:Int)))] [rdrS s p] (.c (.v (.bool (isB s c p)))) [rdrS s (isP s c p)]:=by
 obtain⟨a,d,b⟩:=p
 refine ze1 Tryz.func138 rfl rfl ?_
 unfold rdrS
 dsimp only
 cases b with
 | true =>
  have hr:isB s c ⟨a,d,true⟩=false:=rfl
  unfold isP
  rw [hr]
  repeat' (first|(apply f_wo;(apply f_as;refine zq (v:=.c _) ?_))|(apply f_w;first|refine zj ?_|refine zb ?_)|(apply d_wo;first|(apply d_gs;refine o_sk ?_)|(apply d_bo;(refine o_gm ?_ ?_<;>intro hG<;>(try cases hG)))|(apply d_mv;refine ze2 ?_)|(apply d_fa;refine o_fa ?_)|(apply d_ld;refine zp3 ?_)|refine ze2 ?_)|(apply d_w;first|refine zj ?_|refine zb ?_)|refine za fun C=>?_|refine zn (by kernel_rfl) (by kernel_rfl) fun C=>?_|refine zd ?_|refine za1 rfl ?_)
  refine zh ?_;refine ret1 rfl zg1 rfl (by first|rfl|(simp [cloL,clo,zo,zk,zd1,zc1,zt];done)) rfl ⟨?_,?_⟩<;>rfl
 | false =>
  by_cases hlt:a<s.size
  ·by_cases he:bAt s a=c
   ·have hr:isB s c ⟨a,d,false⟩=true:=by unfold isB;rw [decide_eq_true hlt,he];simp
    unfold isP
    rw [hr]
    subst he
    repeat' (first|(apply f_wo;(apply f_as;refine zq (v:=.c _) ?_))|(apply f_w;first|refine zj ?_|refine zb ?_)|(apply d_wo;first|(apply d_gs;refine o_sk ?_)|(apply d_bo;(refine o_gm ?_ ?_<;>intro hG<;>(try cases hG)))|(apply d_mv;refine ze2 ?_)|(apply d_fa;refine o_fa ?_)|(apply d_ld;refine zp3 ?_)|(apply d_bi;refine zr5 ?_)|(apply d_bb;refine ze2 ?_)|refine zl8 ?_|refine ze2 ?_)|(apply d_w;first|refine zj ?_|refine zb ?_)|refine za fun C=>?_|refine zn (by kernel_rfl) (by kernel_rfl) fun C=>?_|refine zd ?_)
    ·exfalso;simp only [decide_eq_true_iff] at hG;omega
    ·refine zi (by rfl) (fun hC=>absurd hC (by simp)) fun hC=>?_
     repeat' (first|(apply f_wo;first|(apply f_mv;refine zv (v:=.c _) ?_)|(apply f_as;refine zq (v:=.c _) ?_)|(apply f_fa;refine n_fa ?_)|(apply f_ld;refine zn1 ?_)|(apply f_st;refine n_st ?_)|(apply zd2;refine zj1 ?_)|refine zz1 ?_)|(apply f_w;first|refine zj ?_|refine zb ?_)|refine za fun C=>?_|refine zd ?_|refine zg ?_)
     refine zh ?_;refine ret1 rfl zg1 rfl (by first|rfl|(simp [cloL,clo,zo,zk,zd1,zc1,zt];done)) rfl ⟨?_,?_⟩<;>rfl
   ·have hr:isB s c ⟨a,d,false⟩=false:=by unfold isB;simp [he]
    unfold isP
    rw [hr]
    repeat' (first|(apply f_wo;(apply f_as;refine zq (v:=.c _) ?_))|(apply f_w;first|refine zj ?_|refine zb ?_)|(apply d_wo;first|(apply d_gs;refine o_sk ?_)|(apply d_bo;(refine o_gm ?_ ?_<;>intro hG<;>(try cases hG)))|(apply d_mv;refine ze2 ?_)|(apply d_fa;refine o_fa ?_)|(apply d_ld;refine zp3 ?_)|(apply d_bi;refine zr5 ?_)|(apply d_bb;refine ze2 ?_)|refine zl8 ?_|refine ze2 ?_)|(apply d_w;first|refine zj ?_|refine zb ?_)|refine za fun C=>?_|refine zn (by kernel_rfl) (by kernel_rfl) fun C=>?_|refine zd ?_)
    ·exfalso;simp only [decide_eq_true_iff] at hG;omega
    ·refine zi (by rfl) (fun hC=>?_) fun hC=>absurd (bne_eq_false_iff_eq.1 hC) (by omega)
     repeat' (first|(apply f_wo;(apply f_as;refine zq (v:=.c _) ?_))|(apply f_w;first|refine zj ?_|refine zb ?_)|refine za fun C=>?_|refine zd ?_)
     refine zh ?_;refine ret1 rfl zg1 rfl (by first|rfl|(simp [cloL,clo,zo,zk,zd1,zc1,zt];done)) rfl ⟨?_,?_⟩<;>rfl
  ·have hr:isB s c ⟨a,d,false⟩=false:=by unfold isB;simp [hlt]
   unfold isP
   rw [hr]
   repeat' (first|(apply f_wo;(apply f_as;refine zq (v:=.c _) ?_))|(apply f_w;first|refine zj ?_|refine zb ?_)|(apply d_wo;first|(apply d_gs;refine o_sk ?_)|(apply d_bo;(refine o_gm ?_ ?_<;>intro hG<;>(try cases hG)))|(apply d_mv;refine ze2 ?_)|(apply d_fa;refine o_fa ?_)|(apply d_ld;refine zp3 ?_)|(apply d_bi;refine zr5 ?_)|(apply d_bb;refine ze2 ?_)|refine ze2 ?_)|(apply d_w;first|refine zj ?_|refine zb ?_)|refine za fun C=>?_|refine zn (by kernel_rfl) (by kernel_rfl) fun C=>?_|refine zd ?_)
   ·refine za1 rfl ?_
    repeat' (first|(apply f_wo;(apply f_as;refine zq (v:=.c _) ?_))|(apply f_w;first|refine zj ?_|refine zb ?_)|refine za fun C=>?_|refine zd ?_)
    refine zh ?_;refine ret1 rfl zg1 rfl (by first|rfl|(simp [cloL,clo,zo,zk,zd1,zc1,zt];done)) rfl ⟨?_,?_⟩<;>rfl
   ·exfalso;simp only [decide_eq_false_iff_not] at hG;omega
theorem zf11 {s:ByteArray}{p:PS}:Ctr Tryz.prog 165 [.c (.pt 0 0)] [rdrS s p] (.ag (owE zeroR)) [rdrS s p.bad]:=by
 obtain⟨a,d,b⟩:=p
 refine ze1 Tryz.func165 rfl rfl ?_
 unfold rdrS
 dsimp only
 repeat' (first|(apply f_wo;first|(apply f_mv;refine zv (v:=.c _) ?_)|(apply f_fa;refine n_fa ?_)|(apply f_st;refine n_st ?_)|refine n_al ?_|refine zz1 ?_)|(apply f_w;first|refine zj ?_|refine zb ?_)|refine za fun C=>?_|refine zd ?_)
 refine zk3 (zf5 900 (i:=2) 140 3 rfl rfl (pre:=[_,_]) (post:=[]) rfl) ?_;refine zh ?_;refine ret1 rfl (zt2 (zg2 rfl (zg2 rfl (zp2 rfl rfl rfl (by first|exact zo _|exact zk _|exact bytC_clo _|(simp [cloL,clo,zo,zk,zd1,zc1,zt];done)|(simp [cloL,clo,opC,opL,zo,zk,zd1,zc1,zt];done)) zf2)))) rfl (by first|rfl|(simp [cloL,clo,zo,zk,zd1,zc1,zt];done)) rfl ⟨?_,?_⟩<;>rfl
theorem zf7 {s:ByteArray}{c:Nat}{p:PS}(h:isB s c p=true):isP s c p=p.go 1:=if_pos h
theorem zg11 {s:ByteArray}{c:Nat}{p:PS}(h:isB s c p=false):isP s c p=p:=by unfold isP;rw [h];rfl
set_option maxHeartbeats 4000000 in
theorem l3Group_c {s:ByteArray}(hs:s.size≤1048576){alt:PS→E×PS}{p:PS}(hp:Pre s p)(hb:p.b=false)(hg:p.d≤7→GoodS s ⟨p.a,p.d+1,p.b⟩ (alt ⟨p.a,p.d+1,p.b⟩))
 (ha:p.d≤7→Ctr Tryz.prog 130 [.c (.pt 0 0)] [rdrS s ⟨p.a,p.d+1,p.b⟩] (.ag (owE (alt ⟨p.a,p.d+1,p.b⟩).1)) [rdrS s (alt ⟨p.a,p.d+1,p.b⟩).2]) :
 Ctr Tryz.prog 166 [.c (.pt 0 0)] [rdrS s p] (.ag (owE (groupS s alt p).1)) [rdrS s (groupS s alt p).2]:=by
 obtain⟨a,d,b⟩:=p
 have hb:b=false:=hb
 subst hb
 dsimp only at ha hg
 have hpd:d≤8:=hp.2.2 rfl
 have h41:=ze11 hs (c:=41) (by omega) (p:=⟨a,d,false⟩)
 cases h1:isB s 41 ⟨a,d,false⟩ with
 | true =>
  have hr:groupS s alt ⟨a,d,false⟩=(rexE 9 ByteArray.empty [],⟨a+1,d,false⟩):=by unfold groupS;rw [if_pos h1];rfl
  rw [hr]
  rw [zf7 h1,h1] at h41
  refine ze1 Tryz.func166 rfl rfl ?_
  unfold rdrS at h41 ⊢
  dsimp only [PS.go] at h41 ⊢
  repeat' (first|(apply f_wo;first|(apply f_mv;refine zv (v:=.c _) ?_)|(apply f_ca;refine zh2 0 (h41) ?_)|(apply f_st;refine n_st ?_)|refine n_al ?_|refine zz1 ?_)|(apply f_w;first|refine zj ?_|refine zb ?_)|refine za fun C=>?_|refine zd ?_|refine za1 rfl ?_)
  refine zk3 (zf5 900 (i:=2) 140 3 rfl rfl (pre:=[_,_]) (post:=[]) rfl) ?_;refine zh ?_;refine ret1 rfl (zt2 (zg2 rfl (zg2 rfl (zp2 rfl rfl rfl (by first|exact zo _|exact zk _|exact bytC_clo _|(simp [cloL,clo,zo,zk,zd1,zc1,zt];done)|(simp [cloL,clo,opC,opL,zo,zk,zd1,zc1,zt];done)) zf2)))) rfl (by first|rfl|(simp [cloL,clo,zo,zk,zd1,zc1,zt];done)) rfl ⟨?_,?_⟩<;>rfl
 | false =>
  rw [zg11 h1,h1] at h41
  by_cases h8:8<d+1
  ·have hr:groupS s alt ⟨a,d,false⟩=(zeroR,⟨a,d+1,true⟩):=by unfold groupS;rw [if_neg (by rw [h1];simp),if_pos h8]
   rw [hr]
   have hbad:=zf11 (s:=s) (p:=⟨a,d+1,false⟩)
   refine ze1 Tryz.func166 rfl rfl ?_
   unfold rdrS at h41 hbad ⊢
   dsimp only [PS.bad] at h41 hbad ⊢
   repeat' (first|(apply f_wo;first|(apply f_mv;refine zv (v:=.c _) ?_)|(apply f_fa;refine n_fa ?_)|(apply f_ld;refine zn1 ?_)|(apply f_ca;refine zh2 0 (h41) ?_)|(apply f_st;refine n_st ?_)|(apply zn3;refine za2 ?_)|(apply zd2;refine zj1 ?_)|refine n_al ?_|refine zz1 ?_)|(apply f_w;first|refine zj ?_|refine zb ?_)|refine za fun C=>?_|refine zd ?_|refine zg ?_|refine zf1 rfl ?_)
   refine zi (by rfl) (fun hC=>?_) fun hC=>by exfalso;simp only [decide_eq_false_iff_not] at hC;omega
   repeat' (first|(apply f_wo;first|(apply f_mv;refine zv (v:=.c _) ?_)|(apply f_ca;refine zh2 0 (hbad) ?_)|(apply f_st;refine n_st ?_))|(apply f_w;first|refine zj ?_|refine zb ?_)|refine za fun C=>?_|refine zd ?_)
   refine zh ?_;refine ret1 rfl (zt2 (zg2 rfl (zg2 rfl (zp2 rfl rfl rfl (by first|exact zo _|exact zk _|exact bytC_clo _|(simp [cloL,clo,zo,zk,zd1,zc1,zt];done)|(simp [cloL,clo,opC,opL,zo,zk,zd1,zc1,zt];done)) zf2)))) rfl (by first|rfl|(simp [cloL,clo,zo,zk,zd1,zc1,zt];done)) rfl ⟨?_,?_⟩<;>rfl
  ·have hic:=ha (by omega)
   obtain⟨g1,g2,g3,g4,g5,g6⟩:=hg (by omega)
   clear ha hg
   have hr:groupS s alt ⟨a,d,false⟩=if isB s 41 ⟨(alt ⟨a,d+1,false⟩).2.a,(alt ⟨a,d+1,false⟩).2.d-1,(alt ⟨a,d+1,false⟩).2.b⟩ then ((alt ⟨a,d+1,false⟩).1,⟨(alt ⟨a,d+1,false⟩).2.a+1,(alt ⟨a,d+1,false⟩).2.d-1,(alt ⟨a,d+1,false⟩).2.b⟩) else (zeroR,⟨(alt ⟨a,d+1,false⟩).2.a,(alt ⟨a,d+1,false⟩).2.d-1,true⟩):=by unfold groupS;rw [if_neg (by rw [h1];simp),if_neg h8];rfl
   rw [hr]
   clear hr
   obtain⟨⟨e,q⟩,hq⟩:∃r,alt ⟨a,d+1,false⟩=r:=⟨_,rfl⟩
   rw [hq] at hic g1 g2 g3 g4 g5 g6 ⊢
   dsimp only at hic g1 g2 g3 g4 g5 g6 ⊢
   cases g1 with
   | mk k t l hk ht hl2 =>
   obtain⟨qa,qd,qb⟩:=q
   dsimp only at hic g2 g3 g4 g5 g6 ⊢
   have hqd:((qd:Nat):Int)-1=((qd-1:Nat):Int):=by omega
   have hbad:=zf11 (s:=s) (p:=⟨qa,qd-1,qb⟩)
   have h41b:=ze11 hs (c:=41) (by omega) (p:=⟨qa,qd-1,qb⟩)
   cases h2:isB s 41 ⟨qa,qd-1,qb⟩ with
   | true =>
    rw [zf7 h2,h2] at h41b
    rw [if_pos rfl]
    refine ze1 Tryz.func166 rfl rfl ?_
    unfold rdrS at h41 hic h41b ⊢
    dsimp only [PS.go] at h41 hic h41b ⊢
    rw [←hqd] at h41b ⊢
    repeat' (first|(apply f_wo;first|(apply f_mv;refine zv (v:=.c _) ?_)|(apply f_fa;refine n_fa ?_)|(apply f_ld;refine zn1 ?_)|(apply f_ca;refine zh2 0 (h41) ?_)|(apply f_st;refine n_st ?_)|(apply zn3;refine za2 ?_)|(apply zd2;refine zj1 ?_)|refine n_al ?_|refine zz1 ?_)|(apply f_w;first|refine zj ?_|refine zb ?_)|refine za fun C=>?_|refine zd ?_|refine zg ?_|refine zf1 rfl ?_)
    refine zi (by rfl) (fun hC=>by exfalso;simp only [decide_eq_true_iff] at hC;omega) fun hC=>?_
    repeat' (first|(apply f_wo;first|(apply f_mv;refine zv (v:=.c _) ?_)|(apply f_fa;refine n_fa ?_)|(apply f_ld;first|refine zn1 ?_|refine zs2 ?_)|(apply f_ca;first|refine zh2 0 (hic) ?_|refine zh2 0 (h41b) ?_)|(apply f_st;refine n_st ?_)|(apply f_no;refine zu2 ?_)|(apply f_bb;refine zq7 ?_)|refine n_al ?_|refine zz1 ?_)|(apply f_w;first|refine zj ?_|refine zb ?_)|refine za fun C=>?_|refine zd ?_|refine zg ?_|refine zf1 rfl ?_)
    refine zh ?_;refine ret1 rfl (zt2 (zg2 rfl (zg2 rfl (zp2 rfl rfl rfl (by first|exact zo _|exact zk _|exact bytC_clo _|(simp [cloL,clo,zo,zk,zd1,zc1,zt];done)|(simp [cloL,clo,opC,opL,zo,zk,zd1,zc1,zt];done)) zf2)))) rfl (by first|rfl|(simp [cloL,clo,zo,zk,zd1,zc1,zt];done)) rfl ⟨?_,?_⟩<;>rfl
   | false =>
    rw [zg11 h2,h2] at h41b
    rw [if_neg (by simp)]
    refine ze1 Tryz.func166 rfl rfl ?_
    unfold rdrS at h41 hic h41b hbad ⊢
    dsimp only [PS.bad] at h41 hic h41b hbad ⊢
    rw [←hqd] at h41b hbad ⊢
    repeat' (first|(apply f_wo;first|(apply f_mv;refine zv (v:=.c _) ?_)|(apply f_fa;refine n_fa ?_)|(apply f_ld;refine zn1 ?_)|(apply f_ca;refine zh2 0 (h41) ?_)|(apply f_st;refine n_st ?_)|(apply zn3;refine za2 ?_)|(apply zd2;refine zj1 ?_)|refine n_al ?_|refine zz1 ?_)|(apply f_w;first|refine zj ?_|refine zb ?_)|refine za fun C=>?_|refine zd ?_|refine zg ?_|refine zf1 rfl ?_)
    refine zi (by rfl) (fun hC=>by exfalso;simp only [decide_eq_true_iff] at hC;omega) fun hC=>?_
    repeat' (first|(apply f_wo;first|(apply f_mv;refine zv (v:=.c _) ?_)|(apply f_fa;refine n_fa ?_)|(apply f_ld;refine zn1 ?_)|(apply f_ca;first|refine zh2 0 (hic) ?_|refine zh2 0 (h41b) ?_|refine zh2 0 (hbad) ?_)|(apply f_st;refine n_st ?_)|(apply f_no;refine zu2 ?_)|(apply f_bb;refine zq7 ?_)|refine n_al ?_|refine zz1 ?_)|(apply f_w;first|refine zj ?_|refine zb ?_)|refine za fun C=>?_|refine zd ?_|refine zg ?_|refine za1 rfl ?_)
    refine zh ?_;refine ret1 rfl (zt2 (zg2 rfl (zg2 rfl (zp2 rfl rfl rfl (by first|exact zo _|exact zk _|exact bytC_clo _|(simp [cloL,clo,zo,zk,zd1,zc1,zt];done)|(simp [cloL,clo,opC,opL,zo,zk,zd1,zc1,zt];done)) zf2)))) rfl (by first|rfl|(simp [cloL,clo,zo,zk,zd1,zc1,zt];done)) rfl ⟨?_,?_⟩<;>rfl
end Go.Proofs.YtnjfnhoipnbpeaaGreatDoor
