/- ModuleOk of both sides: by the abstract machine. -/
import Derived.Test.YtghljnfbbaklnaaGreatPutModuleAN
namespace Go.Proofs.YtghljnfbbaklnaaGreat
open Go.RowKit
set_option maxRecDepth 100000
def rexN (s:ByteArray):Bool:=parI s&&decide (s.size≤200)
theorem zg17 {s:ByteArray}(hs:s.size≤1048576):Fine (rexR s):=by
 unfold rexR
 split
 ·exact (zi10 hs).1
 ·exact Fine.zero
theorem zt21 {s:ByteArray}(hs:s.size≤1048576):Ctr Tryz.prog 108 [.c (.v (.string s))] [] (.c (.v (.bool (rexN s)))) []:=by
 have hc:=zf13 hs
 have hf:=zg17 hs
 generalize rexR s=e at hc hf
 cases hf with
 | mk k t l hk ht hl2 =>
 refine zo2 Tryz.func108 rfl rfl ?_
 unfold rexN
 generalize parI s=b at *
 repeat' (first|(apply f_wo;first|(apply f_gs;refine n_sk ?_)|(apply f_mv;first|(refine zb2 ?_ ?_<;>intro hG<;>(try cases hG))|refine zj1 (v:=.c _) ?_|refine zj1 (v:=.tu _) ?_|refine za ?_)|(apply f_as;first|refine zi1 (v:=.c _) ?_|refine zi1 (v:=.tu _) ?_|refine za ?_)|(apply f_ca;first|refine zz2 hc ?_|refine zx2 hc ?_)|(apply f_bi;first|refine zb1 ?_|refine za1 ?_|refine zc1 ?_|refine za ?_)|(apply f_st;first|refine n_st ?_|refine zx1 ?_)|(apply zl6;first|refine zw3 ?_|refine za ?_)|(apply f_pk;first|refine za2 (v:=.c _) ?_|refine za2 (v:=.tu _) ?_|refine za ?_)|(apply f_ex;first|refine n_exv (v:=.c _) ?_|refine n_exv (v:=.tu _) ?_|refine za ?_)|refine n_al ?_|refine za ?_)|(apply f_w;first|refine zv ?_|refine zc ?_)|refine zb fun C=>?_|refine zh ?_|refine zd ?_|refine zf ?_|refine zg ?_|(refine zn (by rfl) ?_ ?_<;>intro hC<;>(try cases hC)))
 all_goals
  (first|refine zu ?_|skip);refine ret0 rfl zf3 ⟨?_,rfl⟩;refine congrArg (fun s=>AV.c (AC.v (Value.bool s))) ?_
  first
   | rfl
   | (simp only [Bool.true_and];(rw [Bool.eq_iff_iff];(try simp only [Bool.and_eq_true,Bool.or_eq_true,Bool.not_eq_true',decide_eq_true_iff,decide_eq_false_iff_not,beq_iff_eq,Bool.and_eq_false_iff,Bool.or_eq_false_iff,bne_iff_ne,ne_eq,Bool.true_eq_false,Bool.false_eq_true,true_iff,false_iff,iff_true,iff_false] at *);first|omega|(simp at *;omega)))
theorem l8Rex_c {s:ByteArray}(hs:s.size≤1048576):Ctr Tryz.prog 95 [.c (.v (.string s))] [] (.c (.v (.bool (rexN s)))) []:=by
 have hc:=zg13 hs
 have hf:=zg17 hs
 generalize rexR s=e at hc hf
 cases hf with
 | mk k t l hk ht hl2 =>
 refine zo2 Tryz.func95 rfl rfl ?_
 unfold rexN
 generalize parI s=b at *
 repeat' (first|(apply f_wo;first|(apply f_gs;refine n_sk ?_)|(apply f_mv;first|(refine zb2 ?_ ?_<;>intro hG<;>(try cases hG))|refine zj1 (v:=.c _) ?_|refine zj1 (v:=.tu _) ?_|refine za ?_)|(apply f_as;first|refine zi1 (v:=.c _) ?_|refine zi1 (v:=.tu _) ?_|refine za ?_)|(apply f_ca;first|refine zz2 hc ?_|refine zx2 hc ?_)|(apply f_bi;first|refine zb1 ?_|refine za1 ?_|refine zc1 ?_|refine za ?_)|(apply f_st;first|refine n_st ?_|refine zx1 ?_)|(apply zl6;first|refine zw3 ?_|refine za ?_)|(apply f_pk;first|refine za2 (v:=.c _) ?_|refine za2 (v:=.tu _) ?_|refine za ?_)|(apply f_ex;first|refine n_exv (v:=.c _) ?_|refine n_exv (v:=.tu _) ?_|refine za ?_)|refine n_al ?_|refine za ?_)|(apply f_w;first|refine zv ?_|refine zc ?_)|refine zb fun C=>?_|refine zh ?_|refine zd ?_|refine zf ?_|refine zg ?_|(refine zn (by rfl) ?_ ?_<;>intro hC<;>(try cases hC)))
 all_goals
  (first|refine zu ?_|skip);refine ret0 rfl zf3 ⟨?_,rfl⟩;refine congrArg (fun s=>AV.c (AC.v (Value.bool s))) ?_
  first
   | rfl
   | (simp only [Bool.true_and];(rw [Bool.eq_iff_iff];(try simp only [Bool.and_eq_true,Bool.or_eq_true,Bool.not_eq_true',decide_eq_true_iff,decide_eq_false_iff_not,beq_iff_eq,Bool.and_eq_false_iff,Bool.or_eq_false_iff,bne_iff_ne,ne_eq,Bool.true_eq_false,Bool.false_eq_true,true_iff,false_iff,iff_true,iff_false] at *);first|omega|(simp at *;omega)))
def rexNE (e:E):Bool:=rexN (strB e)
def insE:E→Bool
 | .agg [.int _ x,.int _ n]=>insOkS x n
 | _=>false
def fnOkE (n i:Nat):E→Bool
 | .agg [.int _ pp,.lst _ _ _ _ code]=>inR pp 0 4&&!(decide (n≤i+3)&&!(pp==0))&&inR code.length 1 3000&&code.all insE
 | _=>false
def fnsOk (n:Nat):Nat→List E→Bool
 | _,[]=>true
 | i,f :: r=>fnOkE n i f&&fnsOk n (i+1) r
def modHead (l0 l1:List E)(x2 x3:Int)(l4:List E):Bool:=decide (l0.length≤400)&&decide (l1.length≤100)&&inR x2 0 400&&inR x3 0 400&&inR l4.length 3 9
def modOkL (l0 l1:List E)(x2 x3:Int)(l4:List E):Bool:=modHead l0 l1 x2 x3 l4&&(l0.all valE&&l1.all rexNE&&fnsOk l4.length 0 l4)
def modOkE:E→Bool
 | .agg [.lst _ _ _ _ l0,.lst _ _ _ _ l1,.int _ x2,.int _ x3,.lst _ _ _ _ l4]=>modOkL l0 l1 x2 x3 l4
 | _=>false
theorem clo1_c {x:E}(hx:x.Ty Tryz.prog 75):Ctr Tryz.prog 104 [.ag (acE x)] [] (.c (.v (.bool (!(valE x))))) []:=by
 have hc:=zd18 hx
 obtain⟨x0,x1,x2,rfl,-⟩:=zu3 hx
 refine zo2 Tryz.func104 rfl rfl ?_
 repeat' (first|(apply f_wo;first|(apply f_as;first|refine zi1 (v:=.c _) ?_|refine za ?_)|(apply f_ld;first|refine zw ?_|refine zo1 ?_|refine n_ld ?_)|(apply f_ca;first|refine zz2 hc ?_|refine zx2 hc ?_)|(apply f_no;first|refine zh2 ?_|refine za ?_)|refine n_bo ?_|refine za ?_)|(apply f_w;first|refine zv ?_|refine zc ?_)|refine zb fun C=>?_|refine zh ?_|refine zd ?_|refine zf ?_|refine zg ?_|(refine zn (by rfl) ?_ ?_<;>intro hC<;>(try cases hC)))
 refine zu ?_;refine ret0 rfl zf3 ⟨?_,rfl⟩
 rfl
theorem clo2_c {s:ByteArray}(hs:s.size≤1048576):Ctr Tryz.prog 107 [.c (.v (.string s))] [] (.c (.v (.bool (!(rexN s))))) []:=by
 have hc:=zt21 hs
 refine zo2 Tryz.func107 rfl rfl ?_
 repeat' (first|(apply f_wo;first|(apply f_mv;first|refine zj1 (v:=.c _) ?_|refine za ?_)|(apply f_as;first|refine zi1 (v:=.c _) ?_|refine za ?_)|(apply f_ca;first|refine zz2 hc ?_|refine zx2 hc ?_)|(apply f_no;first|refine zh2 ?_|refine za ?_)|refine za ?_)|(apply f_w;first|refine zv ?_|refine zc ?_)|refine zb fun C=>?_|refine zh ?_|refine zd ?_|refine zf ?_|refine zg ?_|(refine zn (by rfl) ?_ ?_<;>intro hC<;>(try cases hC)))
 refine zu ?_;refine ret0 rfl zf3 ⟨?_,rfl⟩
 rfl
theorem clo3_c {x:E}(hx:x.Ty Tryz.prog 82):Ctr Tryz.prog 110 [.ag (acE x)] [] (.c (.v (.bool (!(insE x))))) []:=by
 obtain⟨x0,x1,rfl,-⟩:=zh4 hx
 refine zo2 Tryz.func110 rfl rfl ?_
 repeat' (first|(apply f_wo;first|(apply f_as;first|refine zi1 (v:=.c _) ?_|refine za ?_)|(apply f_ld;first|refine zw ?_|refine zo1 ?_|refine n_ld ?_)|(apply f_ca;first|refine zz2 ((zo12 _ _)) ?_|refine zx2 ((zo12 _ _)) ?_)|(apply f_no;first|refine zh2 ?_|refine za ?_)|refine n_bo ?_|refine za ?_)|(apply f_w;first|refine zv ?_|refine zc ?_)|refine zb fun C=>?_|refine zh ?_|refine zd ?_|refine zf ?_|refine zg ?_|(refine zn (by rfl) ?_ ?_<;>intro hC<;>(try cases hC)))
 refine zu ?_;refine ret0 rfl zf3 ⟨?_,rfl⟩
 rfl
theorem any_not {p:E→Bool}(l:List E):(l.any fun x=>!(p x))=!(l.all p):=by
 rw [List.not_all_eq_any_not]
theorem strsz {l:List E}(hl:∀x∈l,x.Ty Tryz.prog 9)(hz:E.szL l≤1048576):∀x∈l,(strB x).size≤1048576:=fun x hx=>by
 have:=E.szL_mem hx
 obtain⟨s,rfl,-⟩:=(hl x hx).str_ Tryz.underlying9
 simp only [E.sz] at this
 show s.size≤_;omega
set_option maxHeartbeats 8000000 in
theorem zj8 {e:E}(he:e.Ty Tryz.prog 33)(hsz:e.sz≤1048576):Ctr Tryz.prog 37 [.ag (acE e)] [] (.c (.v (.bool (modOkE e)))) []:=by
 obtain⟨x0A,x0c,l0,x1A,x1c,l1,x2,x3,x4A,x4c,l4,rfl,⟨a0,ka0⟩,⟨a1,ka1⟩,-,-,⟨a4,ka4⟩,-⟩:=zg3 he
 simp only [E.sz,E.szL] at hsz
 have hl0:l0.length≤1048576:=by omega
 have hl1:l1.length≤1048576:=by omega
 have hl4:l4.length≤1048576:=by omega
 have hs1:=strsz a1 (by omega)
 show Ctr _ _ _ _ (.c (.v (.bool (modOkL l0 l1 x2 x3 l4)))) _
 have c1:=con0Val_c a0 ka0 (by omega) (fun x=>!(valE x)) 104 fun x hx=>clo1_c (a0 x hx)
 have c2:=zc17 a1 ka1 (by omega) (fun x=>!(rexNE x)) 107 fun x hx=>clo2_c (hs1 x hx)
 rw [any_not] at c1 c2
 refine zo2 Tryz.func37 rfl rfl ?_
 unfold modOkL
 cases hh:modHead l0 l1 x2 x3 l4 with
 | false =>
  unfold modHead at hh
  repeat' (first|(apply f_wo;first|(apply f_gs;refine n_sk ?_)|(apply f_mv;first|(refine zb2 ?_ ?_<;>intro hG<;>(try cases hG))|refine zj1 (v:=.c _) ?_|refine za ?_)|(apply f_as;first|refine zi1 (v:=.c _) ?_|refine za ?_)|(apply f_fa;first|refine n_fa ?_|refine zm1 ?_)|(apply f_ld;first|refine zq1 ?_|refine zx ?_|refine zw ?_|refine zo1 ?_|refine n_ld ?_)|(apply f_ca;first|refine zz2 ((zd6 _ _ _)) ?_|refine zx2 ((zd6 _ _ _)) ?_)|(apply f_bi;first|refine zb1 ?_|refine za1 ?_|refine zc1 ?_|refine za ?_)|(apply f_st;first|refine n_st ?_|refine zx1 ?_)|(apply f_ia;first|refine n_ix ?_|refine zz1 ?_|refine za ?_)|(apply zm3;first|refine zy2 ?_|refine za ?_)|(apply zw1;first|refine zl ?_|refine za ?_)|(apply zx3;first|refine zr1 ?_|refine za ?_)|(apply za4;first|refine zs1 ?_|refine za ?_)|(apply zu1;first|refine zk ?_|refine zt1 ?_|refine za ?_)|(apply f_no;first|refine zh2 ?_|refine za ?_)|(apply f_pk;first|refine za2 (v:=.c _) ?_|refine za ?_)|(apply f_bb;first|refine zf2 ?_|refine zg2 ?_|refine za ?_)|refine n_al ?_|refine n_bo ?_|refine za ?_)|(apply f_w;first|refine zv ?_|refine zc ?_)|refine zb fun C=>?_|refine zh ?_|refine zd ?_|refine zf ?_|refine zg ?_)
  all_goals first
   | refine zt rfl ?_
   | refine zn (by rfl) (fun hC=>?_) fun hC=>by exfalso;clear c1 c2 a0 a1 a4 ka0 ka1 ka4 hs1 he;simp only [inR,Bool.and_eq_true,Bool.and_eq_false_iff,Bool.not_eq_true',Bool.not_eq_false',decide_eq_true_iff,decide_eq_false_iff_not] at *;omega
  all_goals
   repeat' (first|(apply f_wo;first|(apply f_gs;refine n_sk ?_)|(apply f_mv;first|(refine zb2 ?_ ?_<;>intro hG<;>(try cases hG))|refine zj1 (v:=.c _) ?_|refine za ?_)|(apply f_as;first|refine zi1 (v:=.c _) ?_|refine za ?_)|(apply f_fa;first|refine n_fa ?_|refine zm1 ?_)|(apply f_ld;first|refine zq1 ?_|refine zx ?_|refine zw ?_|refine zo1 ?_|refine n_ld ?_)|(apply f_bi;first|refine zb1 ?_|refine za1 ?_|refine zc1 ?_|refine za ?_)|(apply f_st;first|refine n_st ?_|refine zx1 ?_)|(apply f_ia;first|refine n_ix ?_|refine zz1 ?_|refine za ?_)|(apply zm3;first|refine zy2 ?_|refine za ?_)|(apply zw1;first|refine zl ?_|refine za ?_)|(apply zx3;first|refine zr1 ?_|refine za ?_)|(apply za4;first|refine zs1 ?_|refine za ?_)|(apply zu1;first|refine zk ?_|refine zt1 ?_|refine za ?_)|(apply f_no;first|refine zh2 ?_|refine za ?_)|(apply f_pk;first|refine za2 (v:=.c _) ?_|refine za ?_)|(apply f_bb;first|refine zf2 ?_|refine zg2 ?_|refine za ?_)|refine n_al ?_|refine n_bo ?_|refine za ?_)|(apply f_w;first|refine zv ?_|refine zc ?_)|refine zb fun C=>?_|refine zh ?_|refine zd ?_|refine zf ?_|refine zg ?_|refine zt rfl ?_|refine zp rfl ?_)
   refine zu ?_;refine ret0 rfl zf3 ⟨?_,rfl⟩
   rfl
 | true =>
  simp only [Bool.true_and]
  have hh2:=hh
  unfold modHead at hh2
  simp only [Bool.and_eq_true,decide_eq_true_iff] at hh2
  obtain⟨⟨⟨⟨q0,q1⟩,q2⟩,q3⟩,q4⟩:=hh2
  have w2:=zd6 x2 0 400
  have w3:=zd6 x3 0 400
  have w4:=zd6 (l4.length:Int) 3 9
  rw [q2] at w2
  rw [q3] at w3
  rw [q4] at w4
  clear hh
  repeat' (first|(apply f_wo;first|(apply f_gs;refine n_sk ?_)|(apply f_mv;first|(refine zb2 ?_ ?_<;>intro hG<;>(try cases hG))|refine zj1 (v:=.c _) ?_|refine za ?_)|(apply f_as;first|refine zi1 (v:=.c _) ?_|refine za ?_)|(apply f_fa;first|refine n_fa ?_|refine zm1 ?_)|(apply f_ld;first|refine zq1 ?_|refine zx ?_|refine zw ?_|refine zo1 ?_|refine n_ld ?_)|(apply f_ca;first|refine zz2 w2 ?_|refine zx2 w2 ?_|refine zz2 w3 ?_|refine zx2 w3 ?_|refine zz2 w4 ?_|refine zx2 w4 ?_)|(apply f_bi;first|refine zb1 ?_|refine za1 ?_|refine zc1 ?_|refine za ?_)|(apply f_st;first|refine n_st ?_|refine zx1 ?_)|(apply f_ia;first|refine n_ix ?_|refine zz1 ?_|refine za ?_)|(apply zm3;first|refine zy2 ?_|refine za ?_)|(apply zw1;first|refine zl ?_|refine za ?_)|(apply zx3;first|refine zr1 ?_|refine za ?_)|(apply za4;first|refine zs1 ?_|refine za ?_)|(apply zu1;first|refine zk ?_|refine zt1 ?_|refine za ?_)|(apply f_no;first|refine zh2 ?_|refine za ?_)|(apply f_pk;first|refine za2 (v:=.c _) ?_|refine za ?_)|(apply f_bb;first|refine zf2 ?_|refine zg2 ?_|refine za ?_)|refine n_al ?_|refine n_bo ?_|refine za ?_)|(apply f_w;first|refine zv ?_|refine zc ?_)|refine zb fun C=>?_|refine zh ?_|refine zd ?_|refine zf ?_|refine zg ?_)
  all_goals first
   | (exfalso;simp only [decide_eq_true_iff] at hG;omega)
   | skip
  refine zp rfl ?_
  cases hv:l0.all valE with
  | false =>
   rw [hv] at c1
   repeat' (first|(apply f_wo;first|(apply f_gs;refine n_sk ?_)|(apply f_mv;first|(refine zb2 ?_ ?_<;>intro hG<;>(try cases hG))|refine zj1 (v:=.c _) ?_|refine za ?_)|(apply f_as;first|refine zi1 (v:=.c _) ?_|refine za ?_)|(apply f_fa;first|refine n_fa ?_|refine zm1 ?_)|(apply f_ld;first|refine zq1 ?_|refine zx ?_|refine zw ?_|refine zo1 ?_|refine n_ld ?_)|(apply f_ca;first|refine zz2 c1 ?_|refine zx2 c1 ?_|refine zz2 c2 ?_|refine zx2 c2 ?_)|(apply f_bi;first|refine zb1 ?_|refine za1 ?_|refine zc1 ?_|refine za ?_)|(apply f_st;first|refine n_st ?_|refine zx1 ?_)|(apply f_ia;first|refine n_ix ?_|refine zz1 ?_|refine za ?_)|(apply zm3;first|refine zy2 ?_|refine za ?_)|(apply zw1;first|refine zl ?_|refine za ?_)|(apply zx3;first|refine zr1 ?_|refine za ?_)|(apply za4;first|refine zs1 ?_|refine za ?_)|(apply zu1;first|refine zk ?_|refine zt1 ?_|refine za ?_)|(apply f_no;first|refine zh2 ?_|refine za ?_)|(apply f_pk;first|refine za2 (v:=.c _) ?_|refine za ?_)|(apply f_bb;first|refine zf2 ?_|refine zg2 ?_|refine za ?_)|refine n_al ?_|refine n_bo ?_|refine za ?_)|(apply f_w;first|refine zv ?_|refine zc ?_)|refine zb fun C=>?_|refine zh ?_|refine zd ?_|refine zf ?_|refine zg ?_|refine zt rfl ?_|refine zp rfl ?_)
   refine zu ?_;refine ret0 rfl zf3 ⟨?_,rfl⟩
   rfl
  | true =>
  rw [hv] at c1
  cases hv2:l1.all rexNE with
  | false =>
   rw [hv2] at c2
   repeat' (first|(apply f_wo;first|(apply f_gs;refine n_sk ?_)|(apply f_mv;first|(refine zb2 ?_ ?_<;>intro hG<;>(try cases hG))|refine zj1 (v:=.c _) ?_|refine za ?_)|(apply f_as;first|refine zi1 (v:=.c _) ?_|refine za ?_)|(apply f_fa;first|refine n_fa ?_|refine zm1 ?_)|(apply f_ld;first|refine zq1 ?_|refine zx ?_|refine zw ?_|refine zo1 ?_|refine n_ld ?_)|(apply f_ca;first|refine zz2 c1 ?_|refine zx2 c1 ?_|refine zz2 c2 ?_|refine zx2 c2 ?_)|(apply f_bi;first|refine zb1 ?_|refine za1 ?_|refine zc1 ?_|refine za ?_)|(apply f_st;first|refine n_st ?_|refine zx1 ?_)|(apply f_ia;first|refine n_ix ?_|refine zz1 ?_|refine za ?_)|(apply zm3;first|refine zy2 ?_|refine za ?_)|(apply zw1;first|refine zl ?_|refine za ?_)|(apply zx3;first|refine zr1 ?_|refine za ?_)|(apply za4;first|refine zs1 ?_|refine za ?_)|(apply zu1;first|refine zk ?_|refine zt1 ?_|refine za ?_)|(apply f_no;first|refine zh2 ?_|refine za ?_)|(apply f_pk;first|refine za2 (v:=.c _) ?_|refine za ?_)|(apply f_bb;first|refine zf2 ?_|refine zg2 ?_|refine za ?_)|refine n_al ?_|refine n_bo ?_|refine za ?_)|(apply f_w;first|refine zv ?_|refine zc ?_)|refine zb fun C=>?_|refine zh ?_|refine zd ?_|refine zf ?_|refine zg ?_|refine zt rfl ?_|refine zp rfl ?_)
   refine zu ?_;refine ret0 rfl zf3 ⟨?_,rfl⟩
   rfl
  | true =>
  rw [hv2] at c2
  simp only [Bool.true_and]
  repeat' (first|(apply f_wo;first|(apply f_gs;refine n_sk ?_)|(apply f_mv;first|(refine zb2 ?_ ?_<;>intro hG<;>(try cases hG))|refine zj1 (v:=.c _) ?_|refine za ?_)|(apply f_as;first|refine zi1 (v:=.c _) ?_|refine za ?_)|(apply f_fa;first|refine n_fa ?_|refine zm1 ?_)|(apply f_ld;first|refine zq1 ?_|refine zx ?_|refine zw ?_|refine zo1 ?_|refine n_ld ?_)|(apply f_ca;first|refine zz2 c1 ?_|refine zx2 c1 ?_|refine zz2 c2 ?_|refine zx2 c2 ?_)|(apply f_bi;first|refine zb1 ?_|refine za1 ?_|refine zc1 ?_|refine za ?_)|(apply f_st;first|refine n_st ?_|refine zx1 ?_)|(apply f_ia;first|refine n_ix ?_|refine zz1 ?_|refine za ?_)|(apply zm3;first|refine zy2 ?_|refine za ?_)|(apply zw1;first|refine zl ?_|refine za ?_)|(apply zx3;first|refine zr1 ?_|refine za ?_)|(apply za4;first|refine zs1 ?_|refine za ?_)|(apply zu1;first|refine zk ?_|refine zt1 ?_|refine za ?_)|(apply f_no;first|refine zh2 ?_|refine za ?_)|(apply f_pk;first|refine za2 (v:=.c _) ?_|refine za ?_)|(apply f_bb;first|refine zf2 ?_|refine zg2 ?_|refine za ?_)|refine n_al ?_|refine n_bo ?_|refine za ?_)|(apply f_w;first|refine zv ?_|refine zc ?_)|refine zb fun C=>?_|refine zh ?_|refine zd ?_|refine zf ?_|refine zg ?_|refine zt rfl ?_|refine zp rfl ?_)
  clear c1 c2 w2 w3 w4 hs1
  generalize htot:fnsOk l4.length 0 l4=tot
  refine ze3 (fun k:Nat=>⟨tmsF [(1,.c (.pt 1 0)),(43,.c (.ro l4.length 2 (acL l4))),(44,.c (.v (.int .i64 l4.length))),(45,.c (.v (.int .i64 k)))],hpsF [(1,1,⟨33,0,0,true,[.ro l0.length 3 (acL l0),.ro l1.length 1 (acL l1),.v (.int .i64 x2),.v (.int .i64 x3),.ro l4.length 2 (acL l4)]⟩)],0,[1],78⟩)
   (fun N k=>k+N=l4.length∧fnsOk l4.length k (l4.drop k)=tot) l4.length 0 ⟨by omega,htot⟩ ?_ ?_
  ·(refine zr2 _ _ rfl rfl ?_ ?_<;>(repeat' (first|exact TmOk.nil|exact RwOk.nil|refine TmOk.cons ?_ ?_|refine RwOk.cons ?_ ?_|rfl|(refine rnV_id' rfl ?_;exact byc)|(refine zv2 ?_;first|rfl|omega|(rw [zv1 (by omega) (by omega)];omega))|(refine zl1 rfl ?_;exact byc)|exact zz3 rfl rfl|(refine zw2 (by rfl) (by rfl) ?_ ?_<;>exact byc)|(refine rw_rn' rfl rfl ?_;simp;done))))
  rintro N k ⟨hN,ht⟩
  repeat' (first|(apply f_wo;first|(apply f_gs;refine n_sk ?_)|(apply f_mv;first|(refine zb2 ?_ ?_<;>intro hG<;>(try cases hG))|refine zj1 (v:=.c _) ?_|refine za ?_)|(apply f_as;first|refine zi1 (v:=.c _) ?_|refine za ?_)|(apply f_fa;first|refine n_fa ?_|refine zm1 ?_)|(apply f_ld;first|refine zq1 ?_|refine zx ?_|refine zw ?_|refine zo1 ?_|refine n_ld ?_)|(apply f_bi;first|refine zb1 ?_|refine za1 ?_|refine zc1 ?_|refine za ?_)|(apply f_st;first|refine n_st ?_|refine zx1 ?_)|(apply f_ia;first|refine n_ix ?_|refine zz1 ?_|refine za ?_)|(apply zm3;first|refine zy2 ?_|refine za ?_)|(apply zw1;first|refine zl ?_|refine za ?_)|(apply zx3;first|refine zr1 ?_|refine za ?_)|(apply za4;first|refine zs1 ?_|refine za ?_)|(apply zu1;first|refine zk ?_|refine zt1 ?_|refine za ?_)|(apply f_no;first|refine zh2 ?_|refine za ?_)|(apply f_pk;first|refine za2 (v:=.c _) ?_|refine za ?_)|(apply f_bb;first|refine zf2 ?_|refine zg2 ?_|refine za ?_)|refine n_al ?_|refine n_bo ?_|refine za ?_)|(apply f_w;first|refine zv ?_|refine zc ?_)|refine zb fun C=>?_|refine zh ?_|refine zd ?_|refine zf ?_|refine zg ?_)
  refine zn (by rfl) (fun hk1=>?_) fun hk1=>?_
  ·have hk':k<l4.length:=by simpa using hk1
   obtain⟨x,hx⟩:∃x,l4[k]? = some x:=⟨_,List.getElem?_eq_getElem hk'⟩
   have hd1:l4.drop k=x :: l4.drop (k+1):=by rw [List.drop_eq_getElem_cons hk'];congr 1;rw [List.getElem?_eq_getElem hk'] at hx;exact Option.some.inj hx
   rw [hd1] at ht
   have hxm:=List.mem_of_getElem? hx
   have hxz:=E.szL_mem hxm
   have hgk:=ka4
   obtain⟨pp,pA,pc,code,rfl,-,⟨hc,hck⟩,-⟩:=zb4 (a4 x hxm)
   simp only [E.sz,E.szL] at hxz
   have c3:=con0Ins_c hc hck (by omega) (fun x=>!(insE x)) 110 fun x hx=>clo3_c (hc x hx)
   rw [any_not] at c3
   have hst:fnOkE l4.length k (E.agg [E.int .i64 pp,E.lst 2 82 pA pc code])=(inR pp 0 4&&!(decide (l4.length≤k+3)&&!(pp==0))&&inR code.length 1 3000&&code.all insE):=rfl
   unfold fnsOk at ht
   rw [hst] at ht
   repeat' (first|(apply f_wo;first|(apply f_gs;refine n_sk ?_)|(apply f_mv;first|(refine zb2 ?_ ?_<;>intro hG<;>(try cases hG))|refine zj1 (v:=.c _) ?_|refine za ?_)|(apply f_as;first|refine zi1 (v:=.c _) ?_|refine za ?_)|(apply f_fa;first|refine n_fa ?_|refine zm1 ?_)|(apply f_ld;first|refine zq1 ?_|refine zx ?_|refine zw ?_|refine zo1 ?_|refine n_ld ?_)|(apply f_ca;first|refine zz2 ((zd6 _ _ _)) ?_|refine zx2 ((zd6 _ _ _)) ?_|refine zz2 c3 ?_|refine zx2 c3 ?_)|(apply f_bi;first|refine zb1 ?_|refine za1 ?_|refine zc1 ?_|refine za ?_)|(apply f_st;first|refine n_st ?_|refine zx1 ?_)|(apply f_ia;first|refine n_ix ?_|refine zz1 ?_|refine za ?_)|(apply zm3;first|refine zy2 ?_|refine za ?_)|(apply zw1;first|refine zl ?_|refine za ?_)|(apply zx3;first|refine zr1 ?_|refine za ?_)|(apply za4;first|refine zs1 ?_|refine za ?_)|(apply zu1;first|refine zk ?_|refine zt1 ?_|refine za ?_)|(apply f_no;first|refine zh2 ?_|refine za ?_)|(apply f_pk;first|refine za2 (v:=.c _) ?_|refine za ?_)|(apply f_bb;first|refine zf2 ?_|refine zg2 ?_|refine za ?_)|refine n_al ?_|refine n_bo ?_|refine za ?_)|(apply f_w;first|refine zv ?_|refine zc ?_)|refine zb fun C=>?_|refine zh ?_|refine zd ?_|refine zf ?_|refine zg ?_|(refine zn (by rfl) ?_ ?_<;>intro hC<;>(try cases hC)))
   all_goals first
    | (refine zu ?_;refine ret0 rfl zf3 ⟨?_,rfl⟩
       rw [←ht]
       clear c3 a0 a1 a4 ka0 ka1 ka4 he hc hck hgk hst ht
       simp only [inR,Bool.not_eq_true',Bool.not_eq_false',bne_iff_ne,ne_eq,bne_eq_false_iff_eq,decide_eq_true_iff,decide_eq_false_iff_not,Bool.and_eq_true,Bool.and_eq_false_iff] at *
       first
        | (simp_all;done)
        | (rw [show (decide ((0:Int)≤pp)&&decide (pp≤4))=false by simp;omega];rfl)
        | (simp [*];omega))
    | skip
   all_goals first
    | (refine zu ?_;refine ret0 rfl zf3 ⟨?_,rfl⟩
       have hD:code.all insE=false:=by simpa using hC
       rw [←ht,hD,Bool.and_false,Bool.false_and];done)
    | (refine⟨N-1,k+1,by omega,⟨by omega,?_⟩,?_⟩
       ·have hD:code.all insE=true:=by simpa using hC
        have hA:(inR pp 0 4&&!(decide (l4.length≤k+3)&&!(pp==0))&&inR code.length 1 3000)=true:=by
         clear c3 a0 a1 a4 ka0 ka1 ka4 he hc hck hgk hst ht hD
         simp only [inR,Bool.not_eq_true',Bool.not_eq_false',bne_iff_ne,ne_eq,bne_eq_false_iff_eq,decide_eq_true_iff,decide_eq_false_iff_not,Bool.and_eq_true,Bool.and_eq_false_iff,beq_iff_eq,beq_eq_false_iff_ne] at *
         omega
        rw [←ht,hD,hA];rfl
       ·(refine zr2 _ _ rfl rfl ?_ ?_<;>(repeat' (first|exact TmOk.nil|exact RwOk.nil|refine TmOk.cons ?_ ?_|refine RwOk.cons ?_ ?_|rfl|(refine rnV_id' rfl ?_;exact byc)|(refine zv2 ?_;first|rfl|omega|(rw [zv1 (by omega) (by omega)];omega))|(refine zl1 rfl ?_;exact byc)|exact zz3 rfl rfl|(refine zw2 (by rfl) (by rfl) ?_ ?_<;>exact byc)|(refine rw_rn' rfl rfl ?_;simp;done)))))
  ·have hk':¬k<l4.length:=by simpa using hk1
   obtain rfl:k=l4.length:=by omega
   rw [List.drop_length] at ht
   repeat' (first|(apply f_wo;first|(apply f_gs;refine n_sk ?_)|(apply f_mv;first|(refine zb2 ?_ ?_<;>intro hG<;>(try cases hG))|refine zj1 (v:=.c _) ?_|refine za ?_)|(apply f_as;first|refine zi1 (v:=.c _) ?_|refine za ?_)|(apply f_fa;first|refine n_fa ?_|refine zm1 ?_)|(apply f_ld;first|refine zq1 ?_|refine zx ?_|refine zw ?_|refine zo1 ?_|refine n_ld ?_)|(apply f_bi;first|refine zb1 ?_|refine za1 ?_|refine zc1 ?_|refine za ?_)|(apply f_st;first|refine n_st ?_|refine zx1 ?_)|(apply f_ia;first|refine n_ix ?_|refine zz1 ?_|refine za ?_)|(apply zm3;first|refine zy2 ?_|refine za ?_)|(apply zw1;first|refine zl ?_|refine za ?_)|(apply zx3;first|refine zr1 ?_|refine za ?_)|(apply za4;first|refine zs1 ?_|refine za ?_)|(apply zu1;first|refine zk ?_|refine zt1 ?_|refine za ?_)|(apply f_no;first|refine zh2 ?_|refine za ?_)|(apply f_pk;first|refine za2 (v:=.c _) ?_|refine za ?_)|(apply f_bb;first|refine zf2 ?_|refine zg2 ?_|refine za ?_)|refine n_al ?_|refine n_bo ?_|refine za ?_)|(apply f_w;first|refine zv ?_|refine zc ?_)|refine zb fun C=>?_|refine zh ?_|refine zd ?_|refine zf ?_|refine zg ?_|refine zt rfl ?_|refine zp rfl ?_)
   refine zu ?_;refine ret0 rfl zf3 ⟨?_,rfl⟩
   rw [←ht];rfl
end Go.Proofs.YtghljnfbbaklnaaGreat
