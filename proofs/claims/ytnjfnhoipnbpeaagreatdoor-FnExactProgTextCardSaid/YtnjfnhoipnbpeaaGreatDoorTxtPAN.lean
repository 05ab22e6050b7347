/- ProgText of the program. -/
import Derived.Test.YtnjfnhoipnbpeaaGreatDoorTxtPAM
namespace Go.Proofs.YtnjfnhoipnbpeaaGreatDoor
open Go.RowKit
set_option maxRecDepth 100000
set_option maxHeartbeats 8000000 in
theorem zf12 {e:E}(he:e.Ty Tryz.prog 31)(hsz:e.sz≤1048576):Ctr Tryz.prog 7 [.ag (acE e)] [] (.c (.v (.string (prE e)))) []:=by
 have c0:=zr16 he hsz
 unfold prE
 obtain⟨rA,rc,rs,fA,fc,fs,rfl,⟨hr,kr⟩,⟨hf,kf⟩,-⟩:=zh3 he
 simp only [E.sz,E.szL] at hsz
 cases hp:progE (.agg [.lst 6 47 rA rc rs,.lst 3 41 fA fc fs]) with
 | false =>
  rw [hp] at c0
  rw [if_neg (by simp)]
  refine ze1 Tryz.func7 rfl rfl ?_
  repeat' (first|(apply f_wo;first|(apply f_as;refine zq (v:=.c _) ?_)|(apply f_ld;refine zs2 ?_)|(apply f_ca;refine zk1 c0 ?_)|(apply f_no;refine zu2 ?_)|refine n_bo ?_)|(apply f_w;first|refine zj ?_|refine zb ?_)|refine za fun C=>?_|refine zd ?_|refine za1 rfl ?_)
  refine zh ?_;refine ret0 rfl zg1 ⟨?_,rfl⟩;rfl
 | true =>
  rw [hp] at c0
  rw [if_pos rfl]
  obtain⟨hR,hF⟩:=zc13 (rs:=rs) (fs:=fs) hp
  have zf:=sum_fn hf
  have zr:=sum_ru hr
  show Ctr _ _ _ _ (.c (.v (.string (prT rs fs)))) _
  unfold prT
  refine ze1 Tryz.func7 rfl rfl ?_
  repeat' (first|(apply f_wo;first|(apply f_mv;refine zv (v:=.c _) ?_)|(apply f_as;refine zq (v:=.c _) ?_)|(apply f_fa;refine n_fa ?_)|(apply f_ld;first|refine zn1 ?_|refine zs2 ?_)|(apply f_ca;refine zk1 c0 ?_)|(apply f_bi;refine zy1 ?_)|(apply f_no;refine zu2 ?_)|refine n_bo ?_)|(apply f_w;first|refine zj ?_|refine zb ?_)|refine za fun C=>?_|refine zd ?_|refine ze ?_|refine zg ?_|refine zf1 rfl ?_)
  refine zv1 (fun k:Nat=>⟨tmsF [(1,.c (.pt 1 0)),(3,.c (.v (.string (catB ((fs.map fnT).take k))))),(12,.c (.ro fs.length 3 (acL fs))),(13,.c (.v (.int .i64 fs.length))),(14,.c (.v (.int .i64 (k:Int))))],hpsF [(1,1,⟨31,0,0,true,[.ro rs.length 6 (acL rs),.ro fs.length 3 (acL fs)]⟩)],0,[1],68⟩)
   (fun N k=>k+N=fs.length) fs.length 0 (by omega) ?_ ?_
  ·(refine zl1 _ _ rfl rfl ?_ ?_<;>(repeat' (first|exact TmOk.nil|exact RwOk.nil|refine TmOk.cons ?_ ?_|refine RwOk.cons ?_ ?_|rfl|(refine rnV_id' rfl ?_;exact byc)|(refine zp1 ?_;first|rfl|omega|(rw [zw (by omega) (by omega)];omega))|(refine zb1 rfl ?_;exact byc)|exact zc2 rfl rfl|(refine zq1 (by rfl) (by rfl) ?_ ?_<;>exact byc)|(refine rw_rn' rfl rfl ?_;simp;done))))
  rintro N k hN
  try dsimp only
  have hq:=zh8 ((fs.map fnT).take k)
  have hq2:=zd6 (fs.map fnT) k
  repeat' (first|(apply f_wo;(apply zg3;refine zs1 ?_))|(apply f_w;first|refine zj ?_|refine zb ?_)|refine za fun C=>?_|refine zd ?_)
  refine zi (by rfl) (fun h1=>?_) fun h1=>?_
  ·have hk':k<fs.length:=by simpa using h1
   obtain⟨x,hx⟩:∃x,fs[k]? = some x:=⟨_,List.getElem?_eq_getElem hk'⟩
   have hxm:=List.mem_of_getElem? hx
   have hxz:=E.szL_mem hxm
   have hts:=zr20 (hf x hxm)
   have hok:=hF k x hx
   have e:(fs.map fnT).take (k+1)=(fs.map fnT).take k++[fnT x]:=by rw [List.take_add_one,List.getElem?_map,hx];rfl
   obtain⟨n0,pA,pc,ps,bA,bc,bl,rfl,g0,⟨g1,g1'⟩,⟨g2,g2'⟩,-⟩:=zx2 (hf x hxm)
   simp only [E.sz,E.szL] at hxz hts
   have hb:bodyB bl=true:=by
    have:(nameK n0&&(decide (ps.length≤4)&&(bodyB bl&&parB ps)))=true:=hok
    simp only [Bool.and_eq_true] at this
    exact this.2.2.1
   have c1:=zs11 g2 g2' (by omega) hb
   have z1:=zc6 (ps.map strB)
   have z2:=ze10 g1
   have c2:=join_c (l:=ps) (fun e he=>by obtain⟨s,rfl,-⟩:=(g1 e he).str_ Tryz.underlying9;exact⟨s,rfl⟩) ⟨#[44,32]⟩ (by omega) (by rw [zd10];unfold paT;omega)
   rw [zd10] at c2
   have z3:=zi4 (bl.map stE)
   have z4:=zu5 g2
   have ef:fnT (.agg [.str n0,.lst 1 9 pA pc ps,.lst 6 71 bA bc bl])=(((((⟨#[102,117,110,99,32]⟩++n0)++⟨#[40]⟩)++paT ps)++⟨#[41,32]⟩)++blT (bl.map stE))++⟨#[10]⟩:=rfl
   rw [ef] at e hts
   have z5:(paT ps).size≤2*ps.length+E.szL ps:=Nat.le_trans z1 z2
   generalize paT ps=PT at c2 z5 e hts ef
   generalize blT (bl.map stE)=BT at c1 z3 e hts ef
   repeat' (first|(apply f_wo;first|(apply f_mv;refine zv (v:=.c _) ?_)|(apply f_ld;refine zq2 ?_)|(apply f_st;refine n_st ?_)|(apply f_ia;refine n_ix ?_)|(apply zd2;refine zj1 ?_)|refine n_al ?_)|(apply f_w;first|refine zj ?_|refine zb ?_)|(apply d_wo;first|(apply d_mv;refine ze2 ?_)|(apply d_as;refine ze2 ?_)|(apply d_fa;refine o_fa ?_)|(apply d_ld;refine zp3 ?_)|(apply d_ca;first|refine zu3 c1 ?_|refine zu3 c2 ?_)|(apply d_bb;refine zx5 ?_))|(apply d_w;first|refine zj ?_|refine zb ?_)|refine za fun C=>?_|refine zn (by kernel_rfl) (by kernel_rfl) fun C=>?_|refine zd ?_|refine ze ?_|refine zg ?_)
   refine⟨N-1,k+1,by omega,by omega,?_⟩
   rw [e,zg8]
   (refine zl1 _ _ rfl rfl ?_ ?_<;>(repeat' (first|exact TmOk.nil|exact RwOk.nil|refine TmOk.cons ?_ ?_|refine RwOk.cons ?_ ?_|rfl|(refine rnV_id' rfl ?_;exact byc)|(refine zp1 ?_;first|rfl|omega|(rw [zw (by omega) (by omega)];omega))|(refine zb1 rfl ?_;exact byc)|exact zc2 rfl rfl|(refine zq1 (by rfl) (by rfl) ?_ ?_<;>exact byc)|(refine rw_rn' rfl rfl ?_;simp;done))))
  ·have hk':¬k<fs.length:=by simpa using h1
   rw [List.take_of_length_le (by rw [List.length_map];omega)] at hq ⊢
   clear h1 hN
   repeat' (first|(apply f_wo;first|(apply f_mv;refine zv (v:=.c _) ?_)|(apply f_fa;refine n_fa ?_)|(apply f_ld;refine zn1 ?_)|(apply f_bi;refine zy1 ?_))|(apply f_w;first|refine zj ?_|refine zb ?_)|refine za fun C=>?_|refine zd ?_|refine ze ?_|refine zu ?_)
   refine zv1 (fun k:Nat=>⟨tmsF [(3,.c (.v (.string (catB (fs.map fnT++(rs.map ruT).take k))))),(36,.c (.ro rs.length 6 (acL rs))),(37,.c (.v (.int .i64 rs.length))),(38,.c (.v (.int .i64 (k:Int))))],hpsF [],0,[],68⟩)
    (fun N k=>k+N=rs.length) rs.length 0 (by omega) ?_ ?_
   ·rw [List.take_zero,List.append_nil]
    (refine zl1 _ _ rfl rfl ?_ ?_<;>(repeat' (first|exact TmOk.nil|exact RwOk.nil|refine TmOk.cons ?_ ?_|refine RwOk.cons ?_ ?_|rfl|(refine rnV_id' rfl ?_;exact byc)|(refine zp1 ?_;first|rfl|omega|(rw [zw (by omega) (by omega)];omega))|(refine zb1 rfl ?_;exact byc)|exact zc2 rfl rfl|(refine zq1 (by rfl) (by rfl) ?_ ?_<;>exact byc)|(refine rw_rn' rfl rfl ?_;simp;done))))
   rintro N k hN
   try dsimp only
   have hq:=zh8 (fs.map fnT++(rs.map ruT).take k)
   have hq2:=zd6 (rs.map ruT) k
   rw [zv18] at hq
   repeat' (first|(apply f_wo;(apply zg3;refine zs1 ?_))|(apply f_w;first|refine zj ?_|refine zb ?_)|refine za fun C=>?_|refine zd ?_)
   refine zi (by rfl) (fun h1=>?_) fun h1=>?_
   ·have hk':k<rs.length:=by simpa using h1
    obtain⟨x,hx⟩:∃x,rs[k]? = some x:=⟨_,List.getElem?_eq_getElem hk'⟩
    have hxm:=List.mem_of_getElem? hx
    have hxz:=E.szL_mem hxm
    have hok:=hR x hxm
    have e:fs.map fnT++(rs.map ruT).take (k+1)=(fs.map fnT++(rs.map ruT).take k)++[ruT x]:=by rw [List.take_add_one,List.getElem?_map,hx,List.append_assoc];rfl
    obtain⟨k0,p0,p1,p2,pA,pc,pl,bA,bc,bl,rfl,-,g1,g2,g3,⟨g4,g4'⟩,⟨g5,g5'⟩,-⟩:=zw2 (hr x hxm)
    simp only [E.sz,E.szL] at hxz
    have hpt:E.Ty Tryz.prog (.agg [.int .i64 p0,.int .i64 p1,.str p2,.lst 4 45 pA pc pl]) 45:=E.Ty.mk_agg Tryz.underlying45 (E.TyF.mk_cons (zj4 g1) (E.TyF.mk_cons (zj4 g2) (E.TyF.mk_cons (by simp only [E.Ty];exact⟨Tryz.underlying9,by unfold maxLen;omega⟩) (E.TyF.mk_cons (E.Ty.mk_lst Tryz.underlying43 (by kernel_rfl) g4 g4') E.TyF.mk_nil))))
    have hok':ruleB k0 (.agg [.int .i64 p0,.int .i64 p1,.str p2,.lst 4 45 pA pc pl]) bl=true:=hok
    unfold ruleB at hok'
    simp only [Bool.and_eq_true,inR,decide_eq_true_iff] at hok'
    obtain⟨hk14,hb,hk4⟩:=hok'
    have c1:=zs11 g5 g5' (by omega) hb
    have z3:=zi4 (bl.map stE)
    have z4:=zu5 g5
    have ef:ruT (.agg [.int .i64 k0,.agg [.int .i64 p0,.int .i64 p1,.str p2,.lst 4 45 pA pc pl],.lst 6 71 bA bc bl])=ruH k0 (.agg [.int .i64 p0,.int .i64 p1,.str p2,.lst 4 45 pA pc pl])++(blT (bl.map stE)++⟨#[10]⟩):=rfl
    rw [ef] at e
    have z6:=zl4 hpt
    simp only [E.sz,E.szL] at z6
    generalize blT (bl.map stE)=BT at c1 z3 e
    have eB:(BT++⟨#[10]⟩).size=BT.size+1:=ByteArray.size_append' _ _
    have eO:catB (fs.map fnT++(rs.map ruT).take (k+1))=catB (fs.map fnT++(rs.map ruT).take k)++(ruH k0 (.agg [.int .i64 p0,.int .i64 p1,.str p2,.lst 4 45 pA pc pl])++(BT++⟨#[10]⟩)):=by rw [e,zg8]
    clear e
    generalize catB (fs.map fnT++(rs.map ruT).take k)=OUT at hq eO ⊢
    rcases (show k0=1∨k0=2∨k0=3∨k0=4 by omega) with rfl|rfl|rfl|rfl
    ·rw [show ruH 1 (.agg [.int .i64 p0,.int .i64 p1,.str p2,.lst 4 45 pA pc pl])=⟨#[98,101,103,105,110,32]⟩ from rfl,←ByteArray.append_assoc] at eO
     repeat' (first|(apply f_wo;first|(apply f_mv;refine zv (v:=.c _) ?_)|(apply f_as;refine zq (v:=.c _) ?_)|(apply f_fa;refine n_fa ?_)|(apply f_ld;first|refine zn1 ?_|refine zq2 ?_)|(apply f_ca;refine zk1 c1 ?_)|(apply f_st;refine n_st ?_)|(apply f_ia;refine n_ix ?_)|(apply zr1;refine zm ?_)|(apply zd2;first|refine zj1 ?_|refine zl3 ?_)|refine n_al ?_)|(apply f_w;first|refine zj ?_|refine zb ?_)|refine za fun C=>?_|refine zd ?_|refine ze ?_|refine zg ?_|refine za1 rfl ?_)
     refine⟨N-1,k+1,by omega,by omega,?_⟩
     rw [eO]
     (refine zl1 _ _ rfl rfl ?_ ?_<;>(repeat' (first|exact TmOk.nil|exact RwOk.nil|refine TmOk.cons ?_ ?_|refine RwOk.cons ?_ ?_|rfl|(refine rnV_id' rfl ?_;exact byc)|(refine zp1 ?_;first|rfl|omega|(rw [zw (by omega) (by omega)];omega))|(refine zb1 rfl ?_;exact byc)|exact zc2 rfl rfl|(refine zq1 (by rfl) (by rfl) ?_ ?_<;>exact byc)|(refine rw_rn' rfl rfl ?_;simp;done))))
    ·rw [show ruH 2 (.agg [.int .i64 p0,.int .i64 p1,.str p2,.lst 4 45 pA pc pl])=⟨#[101,110,100,32]⟩ from rfl,←ByteArray.append_assoc] at eO
     repeat' (first|(apply f_wo;first|(apply f_mv;refine zv (v:=.c _) ?_)|(apply f_as;refine zq (v:=.c _) ?_)|(apply f_fa;refine n_fa ?_)|(apply f_ld;first|refine zn1 ?_|refine zq2 ?_)|(apply f_ca;refine zk1 c1 ?_)|(apply f_st;refine n_st ?_)|(apply f_ia;refine n_ix ?_)|(apply zr1;refine zm ?_)|(apply zd2;first|refine zj1 ?_|refine zl3 ?_)|refine n_al ?_)|(apply f_w;first|refine zj ?_|refine zb ?_)|refine za fun C=>?_|refine zd ?_|refine ze ?_|refine zg ?_|refine za1 rfl ?_|refine zf1 rfl ?_)
     refine⟨N-1,k+1,by omega,by omega,?_⟩
     rw [eO]
     (refine zl1 _ _ rfl rfl ?_ ?_<;>(repeat' (first|exact TmOk.nil|exact RwOk.nil|refine TmOk.cons ?_ ?_|refine RwOk.cons ?_ ?_|rfl|(refine rnV_id' rfl ?_;exact byc)|(refine zp1 ?_;first|rfl|omega|(rw [zw (by omega) (by omega)];omega))|(refine zb1 rfl ?_;exact byc)|exact zc2 rfl rfl|(refine zq1 (by rfl) (by rfl) ?_ ?_<;>exact byc)|(refine rw_rn' rfl rfl ?_;simp;done))))
    ·rw [show ruH 3 (.agg [.int .i64 p0,.int .i64 p1,.str p2,.lst 4 45 pA pc pl])=ByteArray.empty from rfl,ByteArray.empty_append] at eO
     repeat' (first|(apply f_wo;first|(apply f_mv;refine zv (v:=.c _) ?_)|(apply f_as;refine zq (v:=.c _) ?_)|(apply f_fa;refine n_fa ?_)|(apply f_ld;first|refine zn1 ?_|refine zq2 ?_)|(apply f_ca;refine zk1 c1 ?_)|(apply f_st;refine n_st ?_)|(apply f_ia;refine n_ix ?_)|(apply zr1;refine zm ?_)|(apply zd2;first|refine zj1 ?_|refine zl3 ?_)|refine n_al ?_)|(apply f_w;first|refine zj ?_|refine zb ?_)|refine za fun C=>?_|refine zd ?_|refine ze ?_|refine zg ?_|refine zf1 rfl ?_)
     refine⟨N-1,k+1,by omega,by omega,?_⟩
     rw [eO]
     (refine zl1 _ _ rfl rfl ?_ ?_<;>(repeat' (first|exact TmOk.nil|exact RwOk.nil|refine TmOk.cons ?_ ?_|refine RwOk.cons ?_ ?_|rfl|(refine rnV_id' rfl ?_;exact byc)|(refine zp1 ?_;first|rfl|omega|(rw [zw (by omega) (by omega)];omega))|(refine zb1 rfl ?_;exact byc)|exact zc2 rfl rfl|(refine zq1 (by rfl) (by rfl) ?_ ?_<;>exact byc)|(refine rw_rn' rfl rfl ?_;simp;done))))
    ·have cx:=za13 hpt (by simp only [E.sz,E.szL];omega) (zm14 (by simpa using hk4))
     rw [show ruH 4 (.agg [.int .i64 p0,.int .i64 p1,.str p2,.lst 4 45 pA pc pl])=txE (.agg [.int .i64 p0,.int .i64 p1,.str p2,.lst 4 45 pA pc pl])++⟨#[32]⟩ from rfl,←ByteArray.append_assoc] at eO
     generalize txE (.agg [.int .i64 p0,.int .i64 p1,.str p2,.lst 4 45 pA pc pl])=X at cx eO z6
     have eX:(X++⟨#[32]⟩).size=X.size+1:=ByteArray.size_append' _ _
     repeat' (first|(apply f_wo;first|(apply f_mv;refine zv (v:=.c _) ?_)|(apply f_as;refine zq (v:=.c _) ?_)|(apply f_fa;refine n_fa ?_)|(apply f_ld;first|refine zn1 ?_|refine zq2 ?_)|(apply f_ca;first|refine zk1 cx ?_|refine zk1 c1 ?_)|(apply f_st;refine n_st ?_)|(apply f_ia;refine n_ix ?_)|(apply zr1;refine zm ?_)|(apply zd2;first|refine zj1 ?_|refine zl3 ?_)|refine n_al ?_|refine zz1 ?_)|(apply f_w;first|refine zj ?_|refine zb ?_)|refine za fun C=>?_|refine zd ?_|refine ze ?_|refine zg ?_|refine za1 rfl ?_|refine zf1 rfl ?_)
     refine⟨N-1,k+1,by omega,by omega,?_⟩
     rw [eO]
     (refine zl1 _ _ rfl rfl ?_ ?_<;>(repeat' (first|exact TmOk.nil|exact RwOk.nil|refine TmOk.cons ?_ ?_|refine RwOk.cons ?_ ?_|rfl|(refine rnV_id' rfl ?_;exact byc)|(refine zp1 ?_;first|rfl|omega|(rw [zw (by omega) (by omega)];omega))|(refine zb1 rfl ?_;exact byc)|exact zc2 rfl rfl|(refine zq1 (by rfl) (by rfl) ?_ ?_<;>exact byc)|(refine rw_rn' rfl rfl ?_;simp;done))))
   ·have hk':¬k<rs.length:=by simpa using h1
    rw [List.take_of_length_le (by rw [List.length_map];omega)]
    repeat' (first|(apply f_wo;first|(apply f_mv;refine zv (v:=.c _) ?_)|(apply f_as;refine zq (v:=.c _) ?_))|(apply f_w;first|refine zj ?_|refine zb ?_)|refine za fun C=>?_|refine zd ?_|refine zu ?_)
    refine zh ?_;refine ret0 rfl zg1 ⟨?_,rfl⟩;rfl
theorem par_take {ps:List E}(hp:∀y∈ps,y.Ty Tryz.prog 9)(j:Nat):(joinB (ps.take j) ⟨#[44,32]⟩).size≤2*ps.length+E.szL ps:=by
 rw [zd10]
 unfold paT
 have h1:=zc6 ((ps.take j).map strB)
 have h2:=ze10 (ps:=ps.take j) fun y hy=>hp y (List.mem_of_mem_take hy)
 have h3:=szL_take ps j
 have h4:(ps.take j).length≤ps.length:=by rw [List.length_take];omega
 omega
set_option maxHeartbeats 8000000 in
theorem zg12 {e:E}(he:e.Ty Tryz.prog 31)(hsz:e.sz≤1048576):Ctr Tryz.prog 5 [.ag (acE e)] [] (.c (.v (.string (prE e)))) []:=by
 have c0:=zo16 he hsz
 unfold prE
 obtain⟨rA,rc,rs,fA,fc,fs,rfl,⟨hr,kr⟩,⟨hf,kf⟩,-⟩:=zh3 he
 simp only [E.sz,E.szL] at hsz
 cases hp:progE (.agg [.lst 6 47 rA rc rs,.lst 3 41 fA fc fs]) with
 | false =>
  rw [hp] at c0
  rw [if_neg (by simp)]
  refine ze1 Tryz.func5 rfl rfl ?_
  repeat' (first|(apply f_wo;first|(apply f_as;refine zq (v:=.c _) ?_)|(apply f_ld;refine zs2 ?_)|(apply f_ca;refine zk1 c0 ?_)|(apply f_no;refine zu2 ?_)|refine n_bo ?_)|(apply f_w;first|refine zj ?_|refine zb ?_)|refine za fun C=>?_|refine zd ?_|refine za1 rfl ?_)
  refine zh ?_;refine ret0 rfl zg1 ⟨?_,rfl⟩;rfl
 | true =>
  rw [hp] at c0
  rw [if_pos rfl]
  obtain⟨hR,hF⟩:=zc13 (rs:=rs) (fs:=fs) hp
  have zf:=sum_fn hf
  have zr:=sum_ru hr
  show Ctr _ _ _ _ (.c (.v (.string (prT rs fs)))) _
  unfold prT
  refine ze1 Tryz.func5 rfl rfl ?_
  repeat' (first|(apply f_wo;first|(apply f_as;refine zq (v:=.c _) ?_)|(apply f_ld;refine zs2 ?_)|(apply f_ca;refine zk1 c0 ?_)|(apply f_no;refine zu2 ?_)|refine n_bo ?_)|(apply f_w;first|refine zj ?_|refine zb ?_)|refine za fun C=>?_|refine zd ?_|refine ze ?_|refine zg ?_|refine zf1 rfl ?_)
  refine zv1 (fun k:Nat=>⟨tmsF [(1,.c (.pt 1 0)),(3,.c (.v (.string (catB ((fs.map fnT).take k))))),(4,.c (.v (.int .i64 (k:Int))))],hpsF [(1,1,⟨31,0,0,true,[.ro rs.length 6 (acL rs),.ro fs.length 3 (acL fs)]⟩)],0,[1],108⟩)
   (fun N k=>k+N=fs.length) fs.length 0 (by omega) ?_ ?_
  ·(refine zl1 _ _ rfl rfl ?_ ?_<;>(repeat' (first|exact TmOk.nil|exact RwOk.nil|refine TmOk.cons ?_ ?_|refine RwOk.cons ?_ ?_|rfl|(refine rnV_id' rfl ?_;exact byc)|(refine zp1 ?_;first|rfl|omega|(rw [zw (by omega) (by omega)];omega))|(refine zb1 rfl ?_;exact byc)|exact zc2 rfl rfl|(refine zq1 (by rfl) (by rfl) ?_ ?_<;>exact byc)|(refine rw_rn' rfl rfl ?_;simp;done))))
  rintro N k hN
  try dsimp only
  have hq:=zh8 ((fs.map fnT).take k)
  have hq2:=zd6 (fs.map fnT) k
  repeat' (first|(apply f_wo;first|(apply f_mv;refine zv (v:=.c _) ?_)|(apply f_fa;refine n_fa ?_)|(apply f_ld;refine zn1 ?_)|(apply f_bi;refine zy1 ?_)|(apply zg3;refine zs1 ?_))|(apply f_w;first|refine zj ?_|refine zb ?_)|refine za fun C=>?_|refine zd ?_)
  refine zi (by rfl) (fun h1=>?_) fun h1=>?_
  ·have hk':k<fs.length:=by simpa using h1
   obtain⟨x,hx⟩:∃x,fs[k]? = some x:=⟨_,List.getElem?_eq_getElem hk'⟩
   have hxm:=List.mem_of_getElem? hx
   have hxz:=E.szL_mem hxm
   have hok:=hF k x hx
   have e:(fs.map fnT).take (k+1)=(fs.map fnT).take k++[fnT x]:=by rw [List.take_add_one,List.getElem?_map,hx];rfl
   obtain⟨n0,pA,pc,ps,bA,bc,bl,rfl,g0,⟨g1,g1'⟩,⟨g2,g2'⟩,-⟩:=zx2 (hf x hxm)
   simp only [E.sz,E.szL] at hxz
   have hb:bodyB bl=true:=by
    have:(nameK n0&&(decide (ps.length≤4)&&(bodyB bl&&parB ps)))=true:=hok
    simp only [Bool.and_eq_true] at this
    exact this.2.2.1
   have c1:=zt11 g2 g2' (by omega) hb
   have z3:=zi4 (bl.map stE)
   have z4:=zu5 g2
   have eO:catB ((fs.map fnT).take (k+1))=((((((catB ((fs.map fnT).take k)++⟨#[102,117,110,99,32]⟩)++n0)++⟨#[40]⟩)++joinB ps ⟨#[44,32]⟩)++⟨#[41,32]⟩)++blT (bl.map stE))++⟨#[10]⟩:=by
    rw [e,zg8,zd10]
    show _++((((((⟨#[102,117,110,99,32]⟩++n0)++⟨#[40]⟩)++paT ps)++⟨#[41,32]⟩)++blT (bl.map stE))++⟨#[10]⟩)=_
    simp only [ByteArray.append_assoc]
   clear e
   generalize catB ((fs.map fnT).take k)=OUT at hq eO ⊢
   generalize blT (bl.map stE)=BT at c1 z3 eO
   have hO:(((OUT++⟨#[102,117,110,99,32]⟩)++n0)++⟨#[40]⟩).size=OUT.size+5+n0.size+1:=by
    simp only [ByteArray.size_append'];rfl
   repeat' (first|(apply f_wo;first|(apply f_mv;refine zv (v:=.c _) ?_)|(apply f_as;refine zq (v:=.c _) ?_)|(apply f_fa;first|refine n_fa ?_|refine zc7 ?_)|(apply f_ld;first|refine zn1 ?_|refine zz3 ?_)|(apply f_ia;refine n_ix ?_)|(apply zd2;refine zl3 ?_))|(apply f_w;first|refine zj ?_|refine zb ?_)|refine za fun C=>?_|refine zd ?_|refine ze ?_|refine zg ?_)
   refine zv1 (fun j:Nat=>⟨tmsF [(1,.c (.pt 1 0)),(3,.c (.v (.string ((((OUT++⟨#[102,117,110,99,32]⟩)++n0)++⟨#[40]⟩)++joinB (ps.take j) ⟨#[44,32]⟩)))),(4,.c (.v (.int .i64 (k:Int)))),(5,.c (.v (.int .i64 (j:Int))))],hpsF [(1,1,⟨31,0,0,true,[.ro rs.length 6 (acL rs),.ro fs.length 3 (acL fs)]⟩)],0,[1],108⟩)
    (fun M j=>j+M=ps.length) ps.length 0 (by omega) ?_ ?_
   ·rw [List.take_zero,zt5,ByteArray.append_empty]
    (refine zl1 _ _ rfl rfl ?_ ?_<;>(repeat' (first|exact TmOk.nil|exact RwOk.nil|refine TmOk.cons ?_ ?_|refine RwOk.cons ?_ ?_|rfl|(refine rnV_id' rfl ?_;exact byc)|(refine zp1 ?_;first|rfl|omega|(rw [zw (by omega) (by omega)];omega))|(refine zb1 rfl ?_;exact byc)|exact zc2 rfl rfl|(refine zq1 (by rfl) (by rfl) ?_ ?_<;>exact byc)|(refine rw_rn' rfl rfl ?_;simp;done))))
   rintro M j hM
   try dsimp only
   generalize ((OUT++⟨#[102,117,110,99,32]⟩)++n0)++⟨#[40]⟩=B at hO eO ⊢
   have hj:=par_take g1 j
   repeat' (first|(apply f_wo;first|(apply f_mv;refine zv (v:=.c _) ?_)|(apply f_fa;first|refine n_fa ?_|refine zc7 ?_)|(apply f_ld;first|refine zn1 ?_|refine zz3 ?_)|(apply f_bi;refine zy1 ?_)|(apply f_ia;refine n_ix ?_)|(apply zg3;refine zs1 ?_))|(apply f_w;first|refine zj ?_|refine zb ?_)|refine za fun C=>?_|refine zd ?_)
   refine zi (by rfl) (fun h2=>?_) fun h2=>?_
   ·have hj':j<ps.length:=by simpa using h2
    obtain⟨y,hy⟩:∃y,ps[j]? = some y:=⟨_,List.getElem?_eq_getElem hj'⟩
    have hyz:=E.szL_mem (List.mem_of_getElem? hy)
    obtain⟨w,rfl,-⟩:=(g1 y (List.mem_of_getElem? hy)).str_ Tryz.underlying9
    simp only [E.sz] at hyz
    have ey:=zv8 hy ⟨#[44,32]⟩
    have hst:strB (.str w)=w:=rfl
    rw [hst] at ey
    have h22:(⟨#[44,32]⟩:ByteArray).size=2:=rfl
    by_cases hk0:j=0
    ·subst hk0
     rw [if_pos rfl] at ey
     rw [List.take_zero,zt5,ByteArray.append_empty]
     repeat' (first|(apply f_wo;first|(apply f_mv;refine zv (v:=.c _) ?_)|(apply f_as;refine zq (v:=.c _) ?_)|(apply f_fa;first|refine n_fa ?_|refine zc7 ?_)|(apply f_ld;first|refine zn1 ?_|refine zz3 ?_)|(apply f_ia;refine n_ix ?_)|(apply zn3;refine za2 ?_)|(apply zd2;first|refine zj1 ?_|refine zl3 ?_))|(apply f_w;first|refine zj ?_|refine zb ?_)|refine za fun C=>?_|refine zd ?_|refine ze ?_|refine zg ?_|(refine zi (by rfl) ?_ ?_<;>intro hC<;>(try cases hC)))
     all_goals first
      | (exfalso;simp at hC;done)
      | (refine⟨M-1,1,by omega,by omega,?_⟩
         rw [show (1:Nat)=0+1 from rfl,ey,ByteArray.empty_append]
         (refine zl1 _ _ rfl rfl ?_ ?_<;>(repeat' (first|exact TmOk.nil|exact RwOk.nil|refine TmOk.cons ?_ ?_|refine RwOk.cons ?_ ?_|rfl|(refine rnV_id' rfl ?_;exact byc)|(refine zp1 ?_;first|rfl|omega|(rw [zw (by omega) (by omega)];omega))|(refine zb1 rfl ?_;exact byc)|exact zc2 rfl rfl|(refine zq1 (by rfl) (by rfl) ?_ ?_<;>exact byc)|(refine rw_rn' rfl rfl ?_;simp;done)))))
    ·rw [if_neg hk0] at ey
     generalize joinB (ps.take j) ⟨#[44,32]⟩=J at ey hj ⊢
     have hMJ:(B++J).size=B.size+J.size:=ByteArray.size_append' _ _
     have e3:B++((J++⟨#[44,32]⟩)++w)=((B++J)++⟨#[44,32]⟩)++w:=by simp only [ByteArray.append_assoc]
     repeat' (first|(apply f_wo;first|(apply f_mv;refine zv (v:=.c _) ?_)|(apply f_as;refine zq (v:=.c _) ?_)|(apply f_fa;first|refine n_fa ?_|refine zc7 ?_)|(apply f_ld;first|refine zn1 ?_|refine zz3 ?_)|(apply f_ia;refine n_ix ?_)|(apply zn3;refine za2 ?_)|(apply zd2;first|refine zj1 ?_|refine zl3 ?_))|(apply f_w;first|refine zj ?_|refine zb ?_)|refine za fun C=>?_|refine zd ?_|refine ze ?_|refine zg ?_|(refine zi (by rfl) ?_ ?_<;>intro hC<;>(try cases hC)))
     all_goals first
      | (exfalso;simp only [decide_eq_false_iff_not] at hC;omega)
      | (refine⟨M-1,j+1,by omega,by omega,?_⟩
         rw [ey,e3]
         (refine zl1 _ _ rfl rfl ?_ ?_<;>(repeat' (first|exact TmOk.nil|exact RwOk.nil|refine TmOk.cons ?_ ?_|refine RwOk.cons ?_ ?_|rfl|(refine rnV_id' rfl ?_;exact byc)|(refine zp1 ?_;first|rfl|omega|(rw [zw (by omega) (by omega)];omega))|(refine zb1 rfl ?_;exact byc)|exact zc2 rfl rfl|(refine zq1 (by rfl) (by rfl) ?_ ?_<;>exact byc)|(refine rw_rn' rfl rfl ?_;simp;done)))))
   ·have hj':¬j<ps.length:=by simpa using h2
    rw [List.take_of_length_le (by omega)] at hj ⊢
    generalize joinB ps ⟨#[44,32]⟩=J at eO hj ⊢
    have hMJ:(B++J).size=B.size+J.size:=ByteArray.size_append' _ _
    repeat' (first|(apply f_wo;first|(apply f_mv;refine zv (v:=.c _) ?_)|(apply f_as;refine zq (v:=.c _) ?_)|(apply f_fa;first|refine n_fa ?_|refine zc7 ?_)|(apply f_ld;first|refine zn1 ?_|refine zz3 ?_)|(apply f_ca;refine zk1 c1 ?_)|(apply f_ia;refine n_ix ?_)|(apply zd2;first|refine zj1 ?_|refine zl3 ?_))|(apply f_w;first|refine zj ?_|refine zb ?_)|refine za fun C=>?_|refine zu ?_)
    refine⟨N-1,k+1,by omega,by omega,?_⟩
    rw [eO]
    (refine zl1 _ _ rfl rfl ?_ ?_<;>(repeat' (first|exact TmOk.nil|exact RwOk.nil|refine TmOk.cons ?_ ?_|refine RwOk.cons ?_ ?_|rfl|(refine rnV_id' rfl ?_;exact byc)|(refine zp1 ?_;first|rfl|omega|(rw [zw (by omega) (by omega)];omega))|(refine zb1 rfl ?_;exact byc)|exact zc2 rfl rfl|(refine zq1 (by rfl) (by rfl) ?_ ?_<;>exact byc)|(refine rw_rn' rfl rfl ?_;simp;done))))
  ·have hk':¬k<fs.length:=by simpa using h1
   rw [List.take_of_length_le (by rw [List.length_map];omega)] at hq ⊢
   clear h1 hN
   repeat' (first|(apply f_wo;(apply f_as;refine zq (v:=.c _) ?_))|(apply f_w;first|refine zj ?_|refine zb ?_)|refine za fun C=>?_|refine zd ?_|refine ze ?_|refine zu ?_)
   refine zv1 (fun k:Nat=>⟨tmsF [(1,.c (.pt 1 0)),(3,.c (.v (.string (catB (fs.map fnT++(rs.map ruT).take k))))),(6,.c (.v (.int .i64 (k:Int))))],hpsF [(1,1,⟨31,0,0,true,[.ro rs.length 6 (acL rs),.ro fs.length 3 (acL fs)]⟩)],0,[1],108⟩)
    (fun N k=>k+N=rs.length) rs.length 0 (by omega) ?_ ?_
   ·rw [List.take_zero,List.append_nil]
    (refine zl1 _ _ rfl rfl ?_ ?_<;>(repeat' (first|exact TmOk.nil|exact RwOk.nil|refine TmOk.cons ?_ ?_|refine RwOk.cons ?_ ?_|rfl|(refine rnV_id' rfl ?_;exact byc)|(refine zp1 ?_;first|rfl|omega|(rw [zw (by omega) (by omega)];omega))|(refine zb1 rfl ?_;exact byc)|exact zc2 rfl rfl|(refine zq1 (by rfl) (by rfl) ?_ ?_<;>exact byc)|(refine rw_rn' rfl rfl ?_;simp;done))))
   rintro N k hN
   try dsimp only
   have hq:=zh8 (fs.map fnT++(rs.map ruT).take k)
   have hq2:=zd6 (rs.map ruT) k
   rw [zv18] at hq
   repeat' (first|(apply f_wo;first|(apply f_mv;refine zv (v:=.c _) ?_)|(apply f_fa;refine n_fa ?_)|(apply f_ld;refine zn1 ?_)|(apply f_bi;refine zy1 ?_)|(apply zg3;refine zs1 ?_))|(apply f_w;first|refine zj ?_|refine zb ?_)|refine za fun C=>?_|refine zd ?_)
   refine zi (by rfl) (fun h1=>?_) fun h1=>?_
   ·have hk':k<rs.length:=by simpa using h1
    obtain⟨x,hx⟩:∃x,rs[k]? = some x:=⟨_,List.getElem?_eq_getElem hk'⟩
    have hxm:=List.mem_of_getElem? hx
    have hxz:=E.szL_mem hxm
    have hok:=hR x hxm
    have e:fs.map fnT++(rs.map ruT).take (k+1)=(fs.map fnT++(rs.map ruT).take k)++[ruT x]:=by rw [List.take_add_one,List.getElem?_map,hx,List.append_assoc];rfl
    obtain⟨k0,p0,p1,p2,pA,pc,pl,bA,bc,bl,rfl,-,g1,g2,g3,⟨g4,g4'⟩,⟨g5,g5'⟩,-⟩:=zw2 (hr x hxm)
    simp only [E.sz,E.szL] at hxz
    have hpt:E.Ty Tryz.prog (.agg [.int .i64 p0,.int .i64 p1,.str p2,.lst 4 45 pA pc pl]) 45:=E.Ty.mk_agg Tryz.underlying45 (E.TyF.mk_cons (zj4 g1) (E.TyF.mk_cons (zj4 g2) (E.TyF.mk_cons (by simp only [E.Ty];exact⟨Tryz.underlying9,by unfold maxLen;omega⟩) (E.TyF.mk_cons (E.Ty.mk_lst Tryz.underlying43 (by kernel_rfl) g4 g4') E.TyF.mk_nil))))
    have hok':ruleB k0 (.agg [.int .i64 p0,.int .i64 p1,.str p2,.lst 4 45 pA pc pl]) bl=true:=hok
    unfold ruleB at hok'
    simp only [Bool.and_eq_true,inR,decide_eq_true_iff] at hok'
    obtain⟨hk14,hb,hk4⟩:=hok'
    have c1:=zt11 g5 g5' (by omega) hb
    have z3:=zi4 (bl.map stE)
    have z4:=zu5 g5
    have ef:ruT (.agg [.int .i64 k0,.agg [.int .i64 p0,.int .i64 p1,.str p2,.lst 4 45 pA pc pl],.lst 6 71 bA bc bl])=ruH k0 (.agg [.int .i64 p0,.int .i64 p1,.str p2,.lst 4 45 pA pc pl])++(blT (bl.map stE)++⟨#[10]⟩):=rfl
    rw [ef] at e
    have z6:=zl4 hpt
    simp only [E.sz,E.szL] at z6
    generalize blT (bl.map stE)=BT at c1 z3 e
    have eO:catB (fs.map fnT++(rs.map ruT).take (k+1))=catB (fs.map fnT++(rs.map ruT).take k)++(ruH k0 (.agg [.int .i64 p0,.int .i64 p1,.str p2,.lst 4 45 pA pc pl])++(BT++⟨#[10]⟩)):=by rw [e,zg8]
    clear e
    generalize catB (fs.map fnT++(rs.map ruT).take k)=OUT at hq eO ⊢
    rcases (show k0=1∨k0=2∨k0=3∨k0=4 by omega) with rfl|rfl|rfl|rfl
    ·rw [show ruH 1 (.agg [.int .i64 p0,.int .i64 p1,.str p2,.lst 4 45 pA pc pl])=⟨#[98,101,103,105,110,32]⟩ from rfl,←ByteArray.append_assoc,←ByteArray.append_assoc] at eO
     repeat' (first|(apply f_wo;first|(apply f_mv;refine zv (v:=.c _) ?_)|(apply f_as;refine zq (v:=.c _) ?_)|(apply f_fa;first|refine n_fa ?_|refine zc7 ?_)|(apply f_ld;first|refine zn1 ?_|refine zz3 ?_)|(apply f_ca;refine zk1 c1 ?_)|(apply f_ia;refine n_ix ?_)|(apply zr1;refine zm ?_)|(apply zd2;first|refine zj1 ?_|refine zl3 ?_))|(apply f_w;first|refine zj ?_|refine zb ?_)|refine za fun C=>?_|refine zd ?_|refine ze ?_|refine zg ?_|refine za1 rfl ?_)
     refine⟨N-1,k+1,by omega,by omega,?_⟩
     rw [eO]
     (refine zl1 _ _ rfl rfl ?_ ?_<;>(repeat' (first|exact TmOk.nil|exact RwOk.nil|refine TmOk.cons ?_ ?_|refine RwOk.cons ?_ ?_|rfl|(refine rnV_id' rfl ?_;exact byc)|(refine zp1 ?_;first|rfl|omega|(rw [zw (by omega) (by omega)];omega))|(refine zb1 rfl ?_;exact byc)|exact zc2 rfl rfl|(refine zq1 (by rfl) (by rfl) ?_ ?_<;>exact byc)|(refine rw_rn' rfl rfl ?_;simp;done))))
    ·rw [show ruH 2 (.agg [.int .i64 p0,.int .i64 p1,.str p2,.lst 4 45 pA pc pl])=⟨#[101,110,100,32]⟩ from rfl,←ByteArray.append_assoc,←ByteArray.append_assoc] at eO
     repeat' (first|(apply f_wo;first|(apply f_mv;refine zv (v:=.c _) ?_)|(apply f_as;refine zq (v:=.c _) ?_)|(apply f_fa;first|refine n_fa ?_|refine zc7 ?_)|(apply f_ld;first|refine zn1 ?_|refine zz3 ?_)|(apply f_ca;refine zk1 c1 ?_)|(apply f_ia;refine n_ix ?_)|(apply zr1;refine zm ?_)|(apply zd2;first|refine zj1 ?_|refine zl3 ?_))|(apply f_w;first|refine zj ?_|refine zb ?_)|refine za fun C=>?_|refine zd ?_|refine ze ?_|refine zg ?_|refine za1 rfl ?_|refine zf1 rfl ?_)
     refine⟨N-1,k+1,by omega,by omega,?_⟩
     rw [eO]
     (refine zl1 _ _ rfl rfl ?_ ?_<;>(repeat' (first|exact TmOk.nil|exact RwOk.nil|refine TmOk.cons ?_ ?_|refine RwOk.cons ?_ ?_|rfl|(refine rnV_id' rfl ?_;exact byc)|(refine zp1 ?_;first|rfl|omega|(rw [zw (by omega) (by omega)];omega))|(refine zb1 rfl ?_;exact byc)|exact zc2 rfl rfl|(refine zq1 (by rfl) (by rfl) ?_ ?_<;>exact byc)|(refine rw_rn' rfl rfl ?_;simp;done))))
    ·rw [show ruH 3 (.agg [.int .i64 p0,.int .i64 p1,.str p2,.lst 4 45 pA pc pl])=ByteArray.empty from rfl,ByteArray.empty_append,←ByteArray.append_assoc] at eO
     repeat' (first|(apply f_wo;first|(apply f_mv;refine zv (v:=.c _) ?_)|(apply f_as;refine zq (v:=.c _) ?_)|(apply f_fa;first|refine n_fa ?_|refine zc7 ?_)|(apply f_ld;first|refine zn1 ?_|refine zz3 ?_)|(apply f_ca;refine zk1 c1 ?_)|(apply f_ia;refine n_ix ?_)|(apply zr1;refine zm ?_)|(apply zd2;first|refine zj1 ?_|refine zl3 ?_))|(apply f_w;first|refine zj ?_|refine zb ?_)|refine za fun C=>?_|refine zd ?_|refine ze ?_|refine zg ?_|refine zf1 rfl ?_)
     refine⟨N-1,k+1,by omega,by omega,?_⟩
     rw [eO]
     (refine zl1 _ _ rfl rfl ?_ ?_<;>(repeat' (first|exact TmOk.nil|exact RwOk.nil|refine TmOk.cons ?_ ?_|refine RwOk.cons ?_ ?_|rfl|(refine rnV_id' rfl ?_;exact byc)|(refine zp1 ?_;first|rfl|omega|(rw [zw (by omega) (by omega)];omega))|(refine zb1 rfl ?_;exact byc)|exact zc2 rfl rfl|(refine zq1 (by rfl) (by rfl) ?_ ?_<;>exact byc)|(refine rw_rn' rfl rfl ?_;simp;done))))
    ·have cx:=zm20 hpt (by simp only [E.sz,E.szL];omega) (zm14 (by simpa using hk4))
     rw [show ruH 4 (.agg [.int .i64 p0,.int .i64 p1,.str p2,.lst 4 45 pA pc pl])=txE (.agg [.int .i64 p0,.int .i64 p1,.str p2,.lst 4 45 pA pc pl])++⟨#[32]⟩ from rfl] at eO
     generalize txE (.agg [.int .i64 p0,.int .i64 p1,.str p2,.lst 4 45 pA pc pl])=X at cx eO z6
     have eO2:OUT++((X++⟨#[32]⟩)++(BT++⟨#[10]⟩))=(((OUT++X)++⟨#[32]⟩)++BT)++⟨#[10]⟩:=by simp only [ByteArray.append_assoc]
     rw [eO2] at eO
     repeat' (first|(apply f_wo;first|(apply f_mv;refine zv (v:=.c _) ?_)|(apply f_as;refine zq (v:=.c _) ?_)|(apply f_fa;first|refine n_fa ?_|refine zc7 ?_)|(apply f_ld;first|refine zn1 ?_|refine zz3 ?_)|(apply f_ca;first|refine zk1 cx ?_|refine zk1 c1 ?_)|(apply f_ia;refine n_ix ?_)|(apply zr1;refine zm ?_)|(apply zd2;first|refine zj1 ?_|refine zl3 ?_)|refine zz1 ?_)|(apply f_w;first|refine zj ?_|refine zb ?_)|refine za fun C=>?_|refine zd ?_|refine ze ?_|refine zg ?_|refine za1 rfl ?_|refine zf1 rfl ?_)
     refine⟨N-1,k+1,by omega,by omega,?_⟩
     rw [eO]
     (refine zl1 _ _ rfl rfl ?_ ?_<;>(repeat' (first|exact TmOk.nil|exact RwOk.nil|refine TmOk.cons ?_ ?_|refine RwOk.cons ?_ ?_|rfl|(refine rnV_id' rfl ?_;exact byc)|(refine zp1 ?_;first|rfl|omega|(rw [zw (by omega) (by omega)];omega))|(refine zb1 rfl ?_;exact byc)|exact zc2 rfl rfl|(refine zq1 (by rfl) (by rfl) ?_ ?_<;>exact byc)|(refine rw_rn' rfl rfl ?_;simp;done))))
   ·have hk':¬k<rs.length:=by simpa using h1
    rw [List.take_of_length_le (by rw [List.length_map];omega)]
    repeat' (first|(apply f_wo;first|(apply f_mv;refine zv (v:=.c _) ?_)|(apply f_as;refine zq (v:=.c _) ?_))|(apply f_w;first|refine zj ?_|refine zb ?_)|refine za fun C=>?_|refine zd ?_|refine zu ?_)
    refine zh ?_;refine ret0 rfl zg1 ⟨?_,rfl⟩;rfl
noncomputable def prTxP (p:E):ByteArray:=liftS (fun q:E=>(q.Ty Tryz.prog 31∧q.d=p)) (fun q=>(prE q)) ByteArray.empty
noncomputable def prTxD (p:E):ByteArray:=(prTxP p)
theorem zt20 {f:FuncId}(hf:∀{p:E} (_:p.Ty Tryz.prog 31) (_:p.sz≤1048576),Ctr Tryz.prog f [avI p] [] (.c (.v (.string (prE p)))) []){p:E}(hp:p.Ty Tryz.prog 31)(w:World)(ip:p.In w)(zp:p.sz≤1048576)(gw:Gl w:=by (first|assumption|exact gl_any _|exact Gl.below_ gl0 by3)) :
 Calls Tryz.prog f #[p.val] w fun r w'=>r=.returned (.string (prTxD p.d))∧Below w.heap.size w w':=by
 obtain⟨q,hq,hl⟩:=liftS_to (R:=fun q:E=>(q.Ty Tryz.prog 31∧q.d=p.d)) (f:=fun q=>(prE q)) (z:=ByteArray.empty) (a:=p) ⟨hp,rfl⟩
 obtain⟨tp,dp⟩:=hq
 try dsimp only at hl tp dp
 have hc:=hf tp (by rw [←E.sz_d,dp,E.sz_d];exact zp)
 rw [avI_of_d tp hp dp] at hc
 have hP:prTxP p.d=(prE q):=hl
 have hr0:prTxD p.d=(prE q):=by unfold prTxD;rw [hP]
 rw [hr0]
 exact ctr_val hc (us:=[p.val]) (VRL_cons (avI_VR hp ip) VRL_nil)
theorem zh12 {p:E}(hp:p.Ty Tryz.prog 31)(w:World)(ip:p.In w)(zp:p.sz≤1048576)(gw:Gl w:=by (first|assumption|exact gl_any _|exact Gl.below_ gl0 by3)) :
 Calls Tryz.prog 5 #[p.val] w fun r w'=>r=.returned (.string (prTxD p.d))∧Below w.heap.size w w' :=
 (zt20 (f:=5) (fun hp zp=>by have hcc:=zg12 hp zp;obtain⟨pF,rfl,-⟩:=hp.agg_ Tryz.underlying31;exact hcc) hp w ip zp gw).mono fun _ _ h=>h
theorem zi12 {p:E}(hp:p.Ty Tryz.prog 31)(w:World)(ip:p.In w)(zp:p.sz≤1048576)(gw:Gl w:=by (first|assumption|exact gl_any _|exact Gl.below_ gl0 by3)) :
 Calls Tryz.prog 7 #[p.val] w fun r w'=>r=.returned (.string (prTxD p.d))∧Below w.heap.size w w' :=
 (zt20 (f:=7) (fun hp zp=>by have hcc:=zf12 hp zp;obtain⟨pF,rfl,-⟩:=hp.agg_ Tryz.underlying31;exact hcc) hp w ip zp gw).mono fun _ _ h=>h
end Go.Proofs.YtnjfnhoipnbpeaaGreatDoor
